/- The statement's proof, part 3: what its walks and its plain laws need. -/
import Derived.Test.YteedclmcgifmpaaRows
import Derived.Tactics
import Derived.Deep.Quiet
import Derived.StillTail
import Derived.Laws.World
import Derived.Laws.Sem
import Derived.Laws.Entries
import Derived.Below
import Derived.Deep.LoopGhost
import Derived.Laws.BytesString
import Derived.Laws.IdiomStrings
import Derived.KernelRfl
import Derived.Carry
import Derived.OpenShut
import Derived.ProofKit
import Derived.ChangeSame
import Derived.HandedShaped
import Derived.SizedLaws
import Derived.Test.YteedclmcgifmpaaProg
import Derived.Test.YteedclmcgifmpaaXb2
namespace Go.Proofs.Yteedclmcgifmpaa
open Go Go.RowKit Fw
open Sha
open Ots
open Mk
set_option linter.unusedVariables false
set_option linter.unusedSimpArgs false
set_option maxRecDepth 20000 in
set_option maxHeartbeats 1000000 in
theorem clone_nil (w : World) : Calls Try.prog 92 #[.slice none 0 0] w (Post (ι := Value) w [] (fun _ => True) (fun v => v) (fun v => [(0, .own (v) 5 1 (ints .u8 ([])))])) := by
  refine calls_at (vs := [.slice none 0 0]) (X := []) (H := []) (F := []) 8 Try.func92 rfl rfl rfl (Sat.start0 w) ?_
  refine cd_seq ?_
  refine cd_region ?_
  refine st (ev_assign rfl) rfl rfl rfl ?_
  refine at_own_nil 2 5 1 ?_
  refine at_heq (i := 2) (v' := .own (.slice none 0 0) 5 1 (ints .u8 [])) rfl rfl ?_
  refine op_nil ?_
  refine ax_then ?_
  refine At.regs (L' := [(0, _), (2, _)]) (.cons rfl (.cons rfl (.nil _))) ?_
  refine cd_seq ?_
  refine cd_seq ?_
  refine cd_region ?_
  refine st (ev_move rfl) rfl rfl rfl ?_
  refine st (ev_eql_slice_nil Try.underlying22 rfl rfl) rfl rfl rfl ?_
  refine op_nil ?_
  refine ax_then ?_
  refine At.regs (L' := [(0, _), (2, _), (4, _)]) (.cons rfl (.cons rfl (.cons rfl (.nil _)))) ?_
  refine cd_true rfl ?_
  refine cd_seq ?_
  refine cd_region ?_
  refine st (ev_assign rfl) rfl rfl rfl ?_
  refine at_own_nil 2 5 1 ?_
  refine at_heq (i := 2) (v' := .own (.slice none 0 0) 5 1 (ints .u8 [])) rfl rfl ?_
  refine op_nil ?_
  refine ax_then ?_
  refine At.regs (L' := [(0, _), (2, _)]) (.cons rfl (.cons rfl (.nil _))) ?_
  refine cd_ret ?_
  refine ax_then_ret ?_
  refine rt_tmp (.inl rfl) Try.results92 rfl ?_
  exact fun w1 sw => ⟨_, trivial, rfl, (sw.gives (N := [(2, _)]) (.cons rfl (.nil _))).rn 0⟩
set_option maxRecDepth 20000 in
set_option maxHeartbeats 1000000 in
theorem clone_some (x : Addr) (n c : Nat) (l : List Int) (w : World) (hl : l.length ≤ 140737488352000) (h : Rd w (.slice (some x) n c) 1 (ints .u8 l)) : Calls Try.prog 92 #[.slice (some x) n c] w (Post (ι := Value) w [] (fun _ => True) (fun v => v) (fun v => [(0, .own (v) 5 1 (ints .u8 (l)))])) := by
  refine calls_at (vs := [.slice (some x) n c]) (X := []) (H := []) (F := [(0, .sl (.slice (some x) n c) 1 (ints .u8 (l)))]) 8 Try.func92 rfl rfl rfl (Sat.rd0 0 h) ?_
  refine cd_seq ?_
  refine cd_region ?_
  refine st (ev_assign rfl) rfl rfl rfl ?_
  refine at_own_nil 2 5 1 ?_
  refine at_heq (i := 2) (v' := .own (.slice none 0 0) 5 1 (ints .u8 [])) rfl rfl ?_
  refine op_nil ?_
  refine ax_then ?_
  refine At.regs (L' := [(0, _), (2, _)]) (.cons rfl (.cons rfl (.nil _))) ?_
  refine cd_seq ?_
  refine cd_seq ?_
  refine cd_region ?_
  refine st (ev_move rfl) rfl rfl rfl ?_
  refine st (ev_eql_slice_nil Try.underlying22 rfl rfl) rfl rfl rfl ?_
  refine op_nil ?_
  refine ax_then ?_
  refine At.regs (L' := [(0, _), (2, _), (4, _)]) (.cons rfl (.cons rfl (.cons rfl (.nil _)))) ?_
  refine cd_false rfl ?_
  refine cd_skip ?_
  refine ax_then ?_
  refine At.regs (L' := [(0, _), (2, _)]) (.cons rfl (.cons rfl (.nil _))) ?_
  refine cd_seq ?_
  refine cd_region ?_
  refine st_bsi (h := 5) (xs := []) Try.underlying22 ty5 (by decide) rfl rfl (by decide) rfl rfl (fun b5 => ?_)
  refine st (ev_move rfl) rfl rfl rfl ?_
  refine st_appendi (h := 5) Try.underlying22 Try.underlying22 ty5 rfl rfl rfl rfl (fun w1 sw => sw.sl_rd (h := 0) rfl) (by first | omega | (simp only [List.length_append, List.length_cons, List.length_nil, List.length_set, List.length_replicate, List.length_take, List.length_drop, ints_length, wr_length, sha_len, node_len, recov_len, Ky.named_len, Ky.keyPub_len] <;> omega)) (by decide) rfl rfl (fun v7 => ?_)
  refine at_heq (i := 5) (v' := .own (v7) 5 1 (ints .u8 (l))) rfl (by rw [List.nil_append]) ?_
  refine st (ev_assign rfl) rfl rfl rfl ?_
  refine op_nil ?_
  refine ax_then ?_
  refine At.regs (L' := [(2, _)]) (.cons rfl (.nil _)) ?_
  refine cd_ret ?_
  refine rt_tmp (.inl rfl) Try.results92 rfl ?_
  exact fun w1 sw => ⟨_, trivial, rfl, (sw.gives (N := [(5, _)]) (.cons rfl (.nil _))).rn 0⟩
theorem clone_any (p : Value) (l : List Int) (w : World) (hl : l.length ≤ 140737488352000) (h : Rd w p 1 (ints .u8 l)) : Calls Try.prog 92 #[p] w (Post (ι := Value) w [] (fun _ => True) (fun v => v) (fun v => [(0, .own (v) 5 1 (ints .u8 (l)))])) := by
  have h' := h
  obtain ⟨a, len, cap, rfl, h1, h2, h3, h4⟩ := h
  cases a with
  | some x => exact clone_some x len cap l w hl h'
  | none =>
    have hc := h3 rfl
    have hn : len = 0 := by omega
    subst hc; subst hn
    have : l = [] := List.length_eq_zero_iff.1 (by rw [ints_length] at h1; omega)
    subst this
    exact clone_nil w
set_option maxRecDepth 20000 in
set_option maxHeartbeats 1000000 in
theorem wraw_any (b : Nat) (v q : Value) (l m : List Int) (w : World) (hb : w.heap[b]? = some (.cells (List.toArray [v]) 91)) (hv : Own w v 5 1 (ints .u8 l)) (hbv : b ∉ blkOf v) (h : Rd w q 1 (ints .u8 m)) (ho : FE.off b (.sl (q) 1 (ints .u8 (m)))) (ho2 : ∀ x, x ∈ blkOf v → FE.off x (.sl (q) 1 (ints .u8 (m)))) (hs : l.length + m.length ≤ 140737488352000) : Calls Try.prog 63 #[.pointer (some ⟨b, 0, none⟩), q] w (Post (ι := Value) w (b :: blkOf v) (fun _ => True) (fun _ => .tuple #[]) (fun x => [(0, .blk (b) (.cells ([x]).toArray 91)), (1, .own (x) 5 1 (ints .u8 (l ++ m)))])) := by
  refine calls_at (vs := [.pointer (some ⟨b, 0, none⟩), q]) (X := b :: blkOf v) (H := [(0, .blk (b) (.cells ([v]).toArray 91)), (1, .own (v) 5 1 (ints .u8 (l)))]) (F := [(2, .sl (q) 1 (ints .u8 (m)))]) 15 Try.func63 rfl rfl rfl ((Sat.two 0 1 (by decide) hb hv hbv).read2 (f := .sl (q) 1 (ints .u8 (m))) 2 h ho ho2) ?_
  refine cd_seq ?_
  refine cd_region ?_
  refine st (ev_move rfl) rfl rfl rfl ?_
  refine st (ev_neq_ptr_nil Try.underlying119 rfl rfl) rfl rfl rfl ?_
  refine op_nil ?_
  refine ax_then ?_
  refine At.regs (L' := [(0, _), (1, _), (5, _)]) (.cons rfl (.cons rfl (.cons rfl (.nil _)))) ?_
  refine cd_true rfl ?_
  refine cd_region ?_
  refine st (ev_move rfl) rfl rfl rfl ?_
  refine st (ev_move rfl) rfl rfl rfl ?_
  refine st (ev_nilCheck rfl) rfl rfl rfl ?_
  refine st (ev_fieldAddr (b := _) Try.underlying91 (f := _) rfl ty22 (by decide) rfl) rfl rfl rfl ?_
  refine st (ld_blk1 (h := 0) ty22 rfl rfl rfl rfl) rfl rfl rfl ?_
  refine st (ev_move rfl) rfl rfl rfl ?_
  refine st_appendi (h := 1) Try.underlying22 Try.underlying22 ty5 rfl rfl rfl rfl (fun w1 sw => sw.sl_rd (h := 2) rfl) (by first | omega | (simp only [List.length_append, List.length_cons, List.length_nil, List.length_set, List.length_replicate, List.length_take, List.length_drop, ints_length, wr_length, sha_len, node_len, recov_len, Ky.named_len, Ky.keyPub_len] <;> omega)) (by decide) rfl rfl (fun v12 => ?_)
  refine at_own_shape (h := 1) rfl (fun hs12 => ?_)
  refine st (ev_nilCheck rfl) rfl rfl rfl ?_
  refine st (ev_fieldAddr (b := _) Try.underlying91 (f := _) rfl ty22 (by decide) rfl) rfl rfl rfl ?_
  refine st_store1 0 ty22 rfl rfl rfl hs12.2 (show 0 < 1 from by decide) rfl ?_
  refine at_heq (i := 0) (v' := .blk (b) (.cells ([v12]).toArray 91)) rfl rfl ?_
  refine op_nil ?_
  refine rt_none (.inr rfl) Try.results63 ?_
  exact fun w1 sw => ⟨v12, trivial, rfl, sw.gives (N := [(0, _), (1, _)]) (.cons rfl (.cons rfl (.nil _)))⟩
set_option maxRecDepth 20000 in
set_option maxHeartbeats 2000000 in
theorem wnum_any (b : Nat) (v q : Value) (l : List Int) (n : Int) (w : World) (hb : w.heap[b]? = some (.cells (List.toArray [v]) 91)) (hv : Own w v 5 1 (ints .u8 l)) (hbv : b ∉ blkOf v) (h : Rd w q 1 (ints .i64 [n])) (ho : FE.off b (.sl q 1 (ints .i64 [n]))) (ho2 : ∀ x, x ∈ blkOf v → FE.off x (.sl q 1 (ints .i64 [n]))) (hs : l.length ≤ 1000000) (hn : 0 ≤ n ∧ n < 128) : Calls Try.prog 61 #[.pointer (some ⟨b, 0, none⟩), q] w (Post (ι := Value) w (b :: blkOf v) (fun _ => True) (fun _ => .tuple #[]) (fun x => [(0, .blk (b) (.cells ([x]).toArray 91)), (1, .own (x) 5 1 (ints .u8 (l ++ [n])))])) := by
  refine calls_at (vs := [.pointer (some ⟨b, 0, none⟩), q]) (X := b :: blkOf v) (H := [(0, .blk (b) (.cells ([v]).toArray 91)), (1, .own (v) 5 1 (ints .u8 (l)))]) (F := [(2, .sl q 1 (ints .i64 [n]))]) 47 Try.func61 rfl rfl rfl ((Sat.two 0 1 (by decide) hb hv hbv).read2 (f := .sl q 1 (ints .i64 [n])) 2 h ho ho2) ?_
  refine cd_seq ?_
  refine cd_seq ?_
  refine cd_region ?_
  refine st (ev_move rfl) rfl rfl rfl ?_
  refine st (ev_eql_ptr_nil Try.underlying119 rfl rfl) rfl rfl rfl ?_
  refine op_nil ?_
  refine ax_then ?_
  refine At.regs (L' := [(0, _), (1, _), (8, _)]) (.cons rfl (.cons rfl (.cons rfl (.nil _)))) ?_
  refine cd_false rfl ?_
  refine cd_skip ?_
  refine ax_then ?_
  refine At.regs (L' := [(0, _), (1, _)]) (.cons rfl (.cons rfl (.nil _))) ?_
  refine cd_seq ?_
  refine cd_region ?_
  refine st (ev_move rfl) rfl rfl rfl ?_
  refine st (ev_len_rdi (h := 2) Try.underlying120 rfl rfl) rfl rfl rfl ?_
  refine st (ev_move rfl) rfl rfl rfl ?_
  refine op_nil ?_
  refine ax_then ?_
  refine At.regs (L' := [(0, _), (9, _), (10, _), (11, _)]) (.cons rfl (.cons rfl (.cons rfl (.cons rfl (.nil _))))) ?_
  refine cd_block ?_
  refine at_heq (i := 1) (v' := .own (v) 5 1 (ints .u8 (l ++ [n].take 0))) rfl (by simp) ?_
  refine cd_loop (ι := Nat × Value) (fun x => x.1 ≤ 1) (fun x => 1 - x.1)
      (fun x => [(0, .pointer (some ⟨b, 0, none⟩)), (9, q), (10, .int .i64 (([n] : List Int).length : Nat)), (11, .int .i64 (x.1 : Int))])
      (fun x => [(0, .blk (b) (.cells ([x.2]).toArray 91)), (1, .own (x.2) 5 1 (ints .u8 (l ++ [n].take x.1)))])
      (fun x => [(2, .sl q 1 (ints .i64 [n]))])
      (0, v) (by omega) (.cons rfl (.cons rfl (.cons rfl (.cons rfl (.nil _))))) (.cons rfl (.cons rfl (.nil _))) (.cons rfl (.nil _)) (fun x hi => ?_)
  have hln : ([n] : List Int).length = 1 := rfl
  have htk : (([n] : List Int).take x.1).length ≤ 1 := by rw [List.length_take]; omega
  refine cd_seq ?_
  refine cd_region ?_
  refine st (ev_lss rfl rfl) rfl rfl rfl ?_
  refine op_nil ?_
  refine ax_then ?_
  refine At.regs (L' := [(0, _), (9, _), (10, _), (11, _), (12, _)]) (.cons rfl (.cons rfl (.cons rfl (.cons rfl (.cons rfl (.nil _)))))) ?_
  refine cd_seq ?_
  refine cd_if rfl (fun hc12 => ?_) (fun hc12 => ?_)
  ·
    have hx0 : x.1 = 0 := by have : ([n] : List Int).length = 1 := rfl; omega
    refine cd_skip ?_
    refine ax_then ?_
    refine At.regs (L' := [(0, _), (9, _), (10, _), (11, _), (12, _)]) (.cons rfl (.cons rfl (.cons rfl (.cons rfl (.cons rfl (.nil _)))))) ?_
    refine cd_seq ?_
    refine cd_block ?_
    refine cd_seq ?_
    refine cd_region ?_
    refine st (ev_indexAddr_rdi (h := 2) Try.underlying120 ty3 rfl rfl rfl (by omega) (by first | omega | (simp only [List.length_append, List.length_cons, List.length_nil, List.length_set, List.length_replicate, List.length_take, List.length_drop, ints_length, wr_length, sha_len, node_len, recov_len, Ky.named_len, Ky.keyPub_len] <;> omega))) rfl rfl rfl ?_
    refine st (ld_rd1 (h := 2) ty3 rfl rfl rfl (ints_get _ _ _ (by first | omega | (simp only [List.length_append, List.length_cons, List.length_nil, List.length_set, List.length_replicate, List.length_take, List.length_drop, ints_length, wr_length, sha_len, node_len, recov_len, Ky.named_len, Ky.keyPub_len] <;> omega) | rfl))) rfl rfl rfl ?_
    refine at_eq (i := 14) (v' := .int .i64 n) rfl (by rw [show (x.1 : Int).toNat = 0 by omega]; rfl) ?_
    refine st (ev_assign rfl) rfl rfl rfl ?_
    refine op_nil ?_
    refine ax_then ?_
    refine At.regs (L' := [(0, _), (5, _), (9, _), (10, _), (11, _), (12, _), (13, _), (14, _)]) (.cons rfl (.cons rfl (.cons rfl (.cons rfl (.cons rfl (.cons rfl (.cons rfl (.cons rfl (.nil _))))))))) ?_
    refine cd_seq ?_
    refine cd_region ?_
    refine st (ev_move rfl) rfl rfl rfl ?_
    refine st (ev_min2 rfl rfl) rfl rfl rfl ?_
    refine st (ev_max2 rfl rfl) rfl rfl rfl ?_
    refine at_eq (i := 17) (v' := .int .i64 n) rfl (by congr 1; omega) ?_
    refine st (ev_convu64 Try.underlying3 Try.underlying121 rfl (by omega) (by omega)) rfl rfl rfl ?_
    refine st (ev_assign rfl) rfl rfl rfl ?_
    refine op_nil ?_
    refine ax_then ?_
    refine At.regs (L' := [(0, _), (5, _), (6, _), (9, _), (10, _), (11, _), (12, _), (13, _), (14, _), (15, _), (16, _), (17, _), (18, _)]) (.cons rfl (.cons rfl (.cons rfl (.cons rfl (.cons rfl (.cons rfl (.cons rfl (.cons rfl (.cons rfl (.cons rfl (.cons rfl (.cons rfl (.cons rfl (.nil _)))))))))))))) ?_
    refine cd_seq ?_
    refine cd_block ?_
    refine cd_loop (ι := Nat) (fun u => True) (fun u => 0)
        (fun u => [(0, .pointer (some ⟨b, 0, none⟩)), (6, .int .u64 n), (9, q), (10, .int .i64 (([n] : List Int).length : Nat)), (11, .int .i64 (x.1 : Int))])
        (fun u => [(0, .blk (b) (.cells ([x.2]).toArray 91)), (1, .own (x.2) 5 1 (ints .u8 (l ++ [n].take x.1)))])
        (fun u => [(2, .sl q 1 (ints .i64 [n]))])
        0 (trivial) (.cons rfl (.cons rfl (.cons rfl (.cons rfl (.cons rfl (.nil _)))))) (.cons rfl (.cons rfl (.nil _))) (.cons rfl (.nil _)) (fun u hi => ?_)
    refine cd_seq ?_
    refine cd_seq ?_
    refine cd_region ?_
    refine st (ev_move rfl) rfl rfl rfl ?_
    refine st (ev_geq rfl rfl) rfl rfl rfl ?_
    refine op_nil ?_
    refine ax_then ?_
    refine At.regs (L' := [(0, _), (6, _), (9, _), (10, _), (11, _), (19, _), (20, _)]) (.cons rfl (.cons rfl (.cons rfl (.cons rfl (.cons rfl (.cons rfl (.cons rfl (.nil _)))))))) ?_
    refine cd_if_f rfl (by omega) ?_
    refine cd_exit ?_
    refine ax_then_exit ?_
    refine ax_then_exit ?_
    refine ax_block_hit ?_
    refine ax_then ?_
    refine At.regs (L' := [(0, _), (6, _), (9, _), (10, _), (11, _), (19, _), (20, _)]) (.cons rfl (.cons rfl (.cons rfl (.cons rfl (.cons rfl (.cons rfl (.cons rfl (.nil _)))))))) ?_
    refine cd_region ?_
    refine st (ev_move rfl) rfl rfl rfl ?_
    refine st (ev_move rfl) rfl rfl rfl ?_
    refine st (ev_nilCheck rfl) rfl rfl rfl ?_
    refine st (ev_fieldAddr (b := _) Try.underlying91 (f := _) rfl ty22 (by decide) rfl) rfl rfl rfl ?_
    refine st (ld_blk1 (h := 0) ty22 rfl rfl rfl rfl) rfl rfl rfl ?_
    refine st (ev_move rfl) rfl rfl rfl ?_
    refine st (ev_conv Try.underlying121 Try.underlying5 rfl) rfl rfl rfl ?_
    refine at_eq (i := 41) (v' := .int .u8 n) rfl (by rw [show IntKind.u8.wrap n = n by simp [IntKind.wrap, IntKind.bits, IntKind.signed]; omega]) ?_
    refine st_bsi (h := 42) (xs := [_]) Try.underlying22 ty5 (by decide) rfl rfl (by decide) rfl rfl (fun b42 => ?_)
    refine st_appendi (h := 1) Try.underlying22 Try.underlying22 ty5 rfl rfl rfl rfl (fun w1 sw => sw.own_rd (h := 42) rfl) (by first | omega | (simp only [List.length_append, List.length_cons, List.length_nil, List.length_set, List.length_replicate, List.length_take, List.length_drop, ints_length, wr_length, sha_len, node_len, recov_len, Ky.named_len, Ky.keyPub_len] <;> omega)) (by decide) rfl rfl (fun v43 => ?_)
    refine at_own_shape (h := 1) rfl (fun hs43 => ?_)
    refine st (ev_nilCheck rfl) rfl rfl rfl ?_
    refine st (ev_fieldAddr (b := _) Try.underlying91 (f := _) rfl ty22 (by decide) rfl) rfl rfl rfl ?_
    refine st_store1 0 ty22 rfl rfl rfl hs43.2 (show 0 < 1 from by decide) rfl ?_
    refine at_heq (i := 0) (v' := .blk (b) (.cells ([v43]).toArray 91)) rfl rfl ?_
    refine op_nil ?_
    refine ax_block ?_
    refine ax_then ?_
    refine At.regs (L' := [(0, _), (6, _), (9, _), (10, _), (11, _), (19, _), (20, _), (35, _), (36, _), (37, _), (38, _), (39, _), (40, _), (41, _), (42, _), (43, _), (44, _), (45, _)]) (.cons rfl (.cons rfl (.cons rfl (.cons rfl (.cons rfl (.cons rfl (.cons rfl (.cons rfl (.cons rfl (.cons rfl (.cons rfl (.cons rfl (.cons rfl (.cons rfl (.cons rfl (.cons rfl (.cons rfl (.cons rfl (.nil _))))))))))))))))))) ?_
    refine cd_region ?_
    refine st (ev_add64 rfl rfl (by omega) (by omega)) rfl rfl rfl ?_
    refine st (ev_move rfl) rfl rfl rfl ?_
    refine op_nil ?_
    refine ax_heq (i := 1) (v' := .own (v43) 5 1 (ints .u8 (l ++ [n].take (x.1 + 1)))) rfl (by rw [hx0]; simp) ?_
    exact at_again ((x.1 + 1, v43)) (by show x.1 + 1 ≤ 1; omega) (by omega) (.cons rfl (.cons rfl (.cons rfl (.cons rfl (.nil _))))) (.cons rfl (.cons rfl (.nil _))) (.cons rfl (.nil _))
  ·
    obtain ⟨j, u⟩ := x
    dsimp only at hi hc12 ⊢
    obtain rfl : j = 1 := by have : ([n] : List Int).length = 1 := rfl; omega
    refine cd_exit ?_
    refine ax_then_exit ?_
    refine ax_then_exit ?_
    refine ax_block_hit ?_
    refine rt_none (.inr rfl) Try.results61 ?_
    exact fun w1 sw => ⟨u, trivial, rfl, sw.gives (N := [(0, _), (1, _)]) (.cons rfl (.cons rfl (.nil _)))⟩
set_option maxRecDepth 20000 in
set_option maxHeartbeats 1000000 in
theorem wout_any (b : Nat) (v : Value) (l : List Int) (w : World) (hl : l.length ≤ 140737488352000) (h : Lies w b 0 [v]) (h' : Rd w v 1 (ints .u8 l)) : Calls Try.prog 64 #[.pointer (some ⟨b, 0, none⟩)] w (Post (ι := Value) w [] (fun _ => True) (fun v => v) (fun v => [(0, .own (v) 5 1 (ints .u8 (l)))])) := by
  refine calls_at (vs := [.pointer (some ⟨b, 0, none⟩)]) (X := []) (H := []) (F := [(21, .mem b 0 [v]), (20, .sl (v) 1 (ints .u8 (l)))]) 10 Try.func64 rfl rfl rfl ((Sat.rd0 20 h').read 21 h off_nil) ?_
  refine cd_seq ?_
  refine cd_region ?_
  refine st (ev_assign rfl) rfl rfl rfl ?_
  refine at_own_nil 2 5 1 ?_
  refine at_heq (i := 2) (v' := .own (.slice none 0 0) 5 1 (ints .u8 [])) rfl rfl ?_
  refine op_nil ?_
  refine ax_then ?_
  refine At.regs (L' := [(0, _), (2, _)]) (.cons rfl (.cons rfl (.nil _))) ?_
  refine cd_seq ?_
  refine cd_seq ?_
  refine cd_region ?_
  refine st (ev_move rfl) rfl rfl rfl ?_
  refine st (ev_eql_ptr_nil Try.underlying119 rfl rfl) rfl rfl rfl ?_
  refine op_nil ?_
  refine ax_then ?_
  refine At.regs (L' := [(0, _), (2, _), (4, _)]) (.cons rfl (.cons rfl (.cons rfl (.nil _)))) ?_
  refine cd_false rfl ?_
  refine cd_skip ?_
  refine ax_then ?_
  refine At.regs (L' := [(0, _), (2, _)]) (.cons rfl (.cons rfl (.nil _))) ?_
  refine cd_seq ?_
  refine cd_region ?_
  refine st (ev_move rfl) rfl rfl rfl ?_
  refine st (ev_nilCheck rfl) rfl rfl rfl ?_
  refine st (ev_fieldAddr (b := _) Try.underlying91 (f := _) rfl ty22 (by decide) rfl) rfl rfl rfl ?_
  refine st (ld_mem1 (h := 21) ty22 rfl rfl rfl (Nat.zero_add _).symm rfl) rfl rfl rfl ?_
  refine st_call has92 rfl (fun w1 sw => rn 9 (clone_any v l w1 hl (sw.sl_rd (h := 20) rfl))) nil_all rfl rfl (fun v9 _ => ?_)
  refine st (ev_assign rfl) rfl rfl rfl ?_
  refine op_nil ?_
  refine ax_then ?_
  refine At.regs (L' := [(2, _)]) (.cons rfl (.nil _)) ?_
  refine cd_ret ?_
  refine rt_tmp (.inl rfl) Try.results64 rfl ?_
  exact fun w1 sw => ⟨_, trivial, rfl, (sw.gives (N := [(9, _)]) (.cons rfl (.nil _))).rn 0⟩
set_option maxRecDepth 20000 in
set_option maxHeartbeats 1000000 in
theorem grow_any (n : Nat) (w : World) (hn0 : 0 < n) (hn : n ≤ 1000000) : Calls Try.prog 91 #[.slice none 0 0, .int .i64 (n : Int)] w (Post (ι := Value) w [] (fun _ => True) (fun v => v) (fun v => [(0, .own (v) 39 32 (flat ([])))])) := by
  refine calls_at (vs := [.slice none 0 0, .int .i64 (n : Int)]) (X := []) (H := []) (F := []) 27 Try.func91 rfl rfl rfl (Sat.start0 w) ?_
  refine cd_seq ?_
  refine cd_region ?_
  refine st (ev_assign rfl) rfl rfl rfl ?_
  refine at_own_nil 4 39 32 ?_
  refine at_heq (i := 4) (v' := .own (.slice none 0 0) 39 32 (flat [])) rfl rfl ?_
  have hu4 := H32.nil
  refine op_nil ?_
  refine ax_then ?_
  refine At.regs (L' := [(0, _), (1, _), (4, _)]) (.cons rfl (.cons rfl (.cons rfl (.nil _)))) ?_
  refine cd_seq ?_
  refine cd_seq ?_
  refine cd_region ?_
  refine st (ev_move rfl) rfl rfl rfl ?_
  refine st (ev_lss rfl rfl) rfl rfl rfl ?_
  refine op_nil ?_
  refine ax_then ?_
  refine At.regs (L' := [(0, _), (1, _), (4, _), (6, _)]) (.cons rfl (.cons rfl (.cons rfl (.cons rfl (.nil _))))) ?_
  refine cd_if_f rfl (by omega) ?_
  refine cd_skip ?_
  refine ax_then ?_
  refine At.regs (L' := [(0, _), (1, _), (4, _)]) (.cons rfl (.cons rfl (.cons rfl (.nil _)))) ?_
  refine cd_seq ?_
  refine cd_seq ?_
  refine cd_region ?_
  refine st (ev_move rfl) rfl rfl rfl ?_
  refine st (ev_move rfl) rfl rfl rfl ?_
  refine st (ev_cap Try.underlying26 rfl) rfl rfl rfl ?_
  refine st (ev_move rfl) rfl rfl rfl ?_
  refine st (ev_len Try.underlying26 rfl) rfl rfl rfl ?_
  refine st (ev_sub64 rfl rfl (by omega) (by omega)) rfl rfl rfl ?_
  refine st (ev_sub64 rfl rfl (by omega) (by omega)) rfl rfl rfl ?_
  refine at_eq (i := 14) (v' := .int .i64 (n : Int)) rfl (by congr 1 <;> omega) ?_
  refine st (ev_assign rfl) rfl rfl rfl ?_
  refine op_nil ?_
  refine ax_then ?_
  refine At.regs (L' := [(0, _), (1, _), (4, _)]) (.cons rfl (.cons rfl (.cons rfl (.nil _)))) ?_
  refine cd_seq ?_
  refine cd_region ?_
  refine st (ev_move rfl) rfl rfl rfl ?_
  refine st (ev_gtr rfl rfl) rfl rfl rfl ?_
  refine op_nil ?_
  refine ax_then ?_
  refine At.regs (L' := [(0, _), (1, _), (4, _), (16, _)]) (.cons rfl (.cons rfl (.cons rfl (.cons rfl (.nil _))))) ?_
  refine cd_if_t rfl (by omega) ?_
  refine cd_region ?_
  refine st (ev_move rfl) rfl rfl rfl ?_
  refine st (ev_move rfl) rfl rfl rfl ?_
  refine st (ev_cap Try.underlying26 rfl) rfl rfl rfl ?_
  refine st (ev_sliceh_hi Try.underlying26 ty39 rfl rfl (fun w1 sw => rd_nil 32) H32.nil (by decide) (by decide)) rfl rfl rfl ?_
  refine at_eq (i := 20) (v' := .slice none 0 0) rfl rfl ?_
  refine st (ev_move rfl) rfl rfl rfl ?_
  refine st_appendz_nil (h := 22) (m := n) Try.underlying26 Try.underlying3 ty39 rfl (by decide) rfl rfl hn0 (by omega) (by decide) rfl rfl (fun v22 l22 hl22 => ?_)
  refine st (ev_move rfl) rfl rfl rfl ?_
  refine st (ev_len Try.underlying26 rfl) rfl rfl rfl ?_
  refine st (ev_slice_rd_hi (n := n) Try.underlying26 ty39 rfl rfl (fun w1 sw => sw.own_rd (h := 22) rfl) (by decide) hl22 (by decide) (by omega)) rfl rfl rfl ?_
  refine at_own_take (h := 22) (n := n) (hi := 0) rfl (by decide) hl22 (Nat.zero_le _) ?_
  refine at_heq (i := 22) (v' := .own (cutAt 32 v22 0 0) 39 32 (flat ([]))) rfl (by rw [Nat.zero_mul, List.take_zero]; rfl) ?_
  refine st (ev_assign rfl) rfl rfl rfl ?_
  refine op_nil ?_
  refine ax_then ?_
  refine At.regs (L' := [(0, _), (4, _)]) (.cons rfl (.cons rfl (.nil _))) ?_
  refine cd_seq ?_
  refine cd_region ?_
  refine st (ev_move rfl) rfl rfl rfl ?_
  refine st (ev_assign rfl) rfl rfl rfl ?_
  refine op_nil ?_
  refine ax_then ?_
  refine At.regs (L' := [(4, _)]) (.cons rfl (.nil _)) ?_
  refine cd_ret ?_
  refine rt_tmp (.inl rfl) Try.results91 rfl ?_
  exact fun w1 sw => ⟨_, trivial, rfl, (sw.gives (N := [(22, _)]) (.cons rfl (.nil _))).rn 0⟩
/-- one of two -/
def tv (a b : Value) (i : Nat) : Value := if i = 0 then a else b
def tl (a b : List (List Int)) (i : Nat) : List (List Int) := if i = 0 then a else b
def tsum (a b : List (List Int)) : Nat → List (List Int)
  | 0 => []
  | n + 1 => tsum a b n ++ tl a b n
theorem tl_h32 {a b : List (List Int)} (ha : H32 a) (hb : H32 b) (i : Nat) : H32 (tl a b i) := by unfold tl; split <;> assumption
theorem tsum_h32 {a b : List (List Int)} (ha : H32 a) (hb : H32 b) : ∀ n, H32 (tsum a b n)
  | 0 => H32.nil
  | n + 1 => (tsum_h32 ha hb n).append (tl_h32 ha hb n)
theorem tl_le (a b : List (List Int)) (i : Nat) : (tl a b i).length ≤ a.length + b.length := by unfold tl; split <;> omega
theorem tsum_le (a b : List (List Int)) : ∀ n, n ≤ 2 → (tsum a b n).length ≤ n * (a.length + b.length)
  | 0, _ => by simp [tsum]
  | n + 1, h => by
    have := tsum_le a b n (by omega)
    have := tl_le a b n
    rw [tsum, List.length_append, Nat.succ_mul]
    omega
theorem tsum_le2 (a b : List (List Int)) {n : Nat} (h : n ≤ 2) : (tsum a b n).length ≤ 2 * (a.length + b.length) := Nat.le_trans (tsum_le a b n h) (Nat.mul_le_mul_right _ h)
theorem tsum_two (a b : List (List Int)) : tsum a b 2 = a ++ b := by simp [tsum, tl]
theorem trd {w : World} {va vb : Value} {a b : List (List Int)} (ha : Rd w va 32 (flat a)) (hb : Rd w vb 32 (flat b)) (i : Nat) : Rd w (tv va vb i) 32 (flat (tl a b i)) := by
  unfold tv tl; split <;> assumption
theorem two_get (va vb : Value) {i : Nat} (hi : i < 2) : [va, vb][i]? = some (tv va vb i) := by
  match i, hi with
  | 0, _ => rfl
  | 1, _ => rfl
set_option maxRecDepth 20000 in
set_option maxHeartbeats 2000000 in
theorem concat_any (p va vb : Value) (a b : List (List Int)) (w : World) (ha : H32 a) (hb : H32 b) (n1 : a.length ≤ 1000) (n2 : b.length ≤ 1000) (h0 : 0 < a.length) (h : Rd w p 1 [va, vb]) (h1 : Rd w va 32 (flat a)) (h2 : Rd w vb 32 (flat b)) : Calls Try.prog 62 #[p] w (Post (ι := Value) w [] (fun _ => True) (fun v => v) (fun v => [(0, .own (v) 39 32 (flat (a ++ b)))])) := by
  refine calls_at (vs := [p]) (X := []) (H := []) (F := [(0, .sl p 1 [va, vb]), (21, .sl (vb) 32 (flat (b))), (20, .sl (va) 32 (flat (a)))]) 36 Try.func62 rfl rfl rfl (((Sat.rd0 20 h1).more 21 h2).more 0 h) ?_
  refine cd_seq ?_
  refine cd_region ?_
  refine st (ev_assign rfl) rfl rfl rfl ?_
  refine at_own_nil 2 39 32 ?_
  refine at_heq (i := 2) (v' := .own (.slice none 0 0) 39 32 (flat [])) rfl rfl ?_
  have hu2 := H32.nil
  refine op_nil ?_
  refine ax_then ?_
  refine At.regs (L' := [(0, _), (2, _)]) (.cons rfl (.cons rfl (.nil _))) ?_
  refine cd_seq ?_
  refine cd_region ?_
  refine st (ev_assign rfl) rfl rfl rfl ?_
  refine op_nil ?_
  refine ax_then ?_
  refine At.regs (L' := [(0, _), (2, _), (3, _)]) (.cons rfl (.cons rfl (.cons rfl (.nil _)))) ?_
  refine cd_seq ?_
  refine cd_seq ?_
  refine cd_region ?_
  refine st (ev_move rfl) rfl rfl rfl ?_
  refine st (ev_len_rd (h := 0) (n := 2) Try.underlying122 rfl rfl rfl (by decide)) rfl rfl rfl ?_
  refine st (ev_move rfl) rfl rfl rfl ?_
  refine op_nil ?_
  refine ax_then ?_
  refine At.regs (L' := [(0, _), (2, _), (3, _), (9, _), (10, _), (11, _)]) (.cons rfl (.cons rfl (.cons rfl (.cons rfl (.cons rfl (.cons rfl (.nil _))))))) ?_
  refine cd_block ?_
  refine at_eq (i := 10) (v' := .int .i64 ((2 : Nat) : Int)) rfl rfl ?_
  refine cd_loop (ι := Nat) (fun i => i ≤ 2) (fun i => 2 - i)
      (fun i => [(0, p), (3, .int .i64 ((tsum a b i).length : Nat)), (9, p), (10, .int .i64 ((2 : Nat) : Int)), (11, .int .i64 (i : Int))])
      (fun i => [])
      (fun i => [(0, .sl p 1 [va, vb]), (20, .sl (va) 32 (flat (a))), (21, .sl (vb) 32 (flat (b)))])
      0 (by omega) (.cons rfl (.cons rfl (.cons rfl (.cons rfl (.cons rfl (.nil _)))))) (.nil _) (.cons rfl (.cons rfl (.cons rfl (.nil _)))) (fun i hi => ?_)
  have hts := tsum_le2 a b hi
  have htl := tl_le a b i
  refine cd_seq ?_
  refine cd_region ?_
  refine st (ev_lss rfl rfl) rfl rfl rfl ?_
  refine op_nil ?_
  refine ax_then ?_
  refine At.regs (L' := [(0, _), (3, _), (9, _), (10, _), (11, _), (12, _)]) (.cons rfl (.cons rfl (.cons rfl (.cons rfl (.cons rfl (.cons rfl (.nil _))))))) ?_
  refine cd_seq ?_
  refine cd_if rfl (fun hc12 => ?_) (fun hc12 => ?_)
  ·
    have hi2 : i < 2 := by omega
    refine cd_skip ?_
    refine ax_then ?_
    refine At.regs (L' := [(0, _), (3, _), (9, _), (10, _), (11, _), (12, _)]) (.cons rfl (.cons rfl (.cons rfl (.cons rfl (.cons rfl (.cons rfl (.nil _))))))) ?_
    refine cd_seq ?_
    refine cd_block ?_
    refine cd_seq ?_
    refine cd_region ?_
    refine st (ev_indexAddr_rd (h := 0) (n := 2) Try.underlying122 ty26 rfl rfl rfl rfl (by decide) (by omega) (by omega)) rfl rfl rfl ?_
    refine st (ld_rd1 (h := 0) ty26 rfl rfl rfl (by rw [Nat.mul_one, Int.toNat_natCast]; exact two_get va vb (by omega))) rfl rfl rfl ?_
    refine st (ev_assign rfl) rfl rfl rfl ?_
    refine op_nil ?_
    refine ax_then ?_
    refine At.regs (L' := [(0, _), (3, _), (5, _), (9, _), (10, _), (11, _), (12, _), (13, _), (14, _)]) (.cons rfl (.cons rfl (.cons rfl (.cons rfl (.cons rfl (.cons rfl (.cons rfl (.cons rfl (.cons rfl (.nil _)))))))))) ?_
    refine cd_seq ?_
    refine cd_region ?_
    refine st (ev_move rfl) rfl rfl rfl ?_
    refine st (ev_move rfl) rfl rfl rfl ?_
    refine st (ev_len_of (sz := 32) Try.underlying26 rfl (fun w1 sw => trd (sw.sl_rd (h := 20) rfl) (sw.sl_rd (h := 21) rfl) i) (flat_len (tl_h32 ha hb i)) (by decide)) rfl rfl rfl ?_
    refine st (ev_add64 rfl rfl (by omega) (by omega)) rfl rfl rfl ?_
    refine st (ev_assign rfl) rfl rfl rfl ?_
    refine op_nil ?_
    refine ax_then ?_
    refine At.regs (L' := [(0, _), (3, _), (5, _), (9, _), (10, _), (11, _), (12, _), (13, _), (14, _), (15, _), (16, _), (17, _), (18, _)]) (.cons rfl (.cons rfl (.cons rfl (.cons rfl (.cons rfl (.cons rfl (.cons rfl (.cons rfl (.cons rfl (.cons rfl (.cons rfl (.cons rfl (.cons rfl (.nil _)))))))))))))) ?_
    refine cd_seq ?_
    refine cd_region ?_
    refine st (ev_move rfl) rfl rfl rfl ?_
    refine st (ev_lss rfl rfl) rfl rfl rfl ?_
    refine op_nil ?_
    refine ax_then ?_
    refine At.regs (L' := [(0, _), (3, _), (5, _), (9, _), (10, _), (11, _), (12, _), (13, _), (14, _), (15, _), (16, _), (17, _), (18, _), (19, _), (20, _)]) (.cons rfl (.cons rfl (.cons rfl (.cons rfl (.cons rfl (.cons rfl (.cons rfl (.cons rfl (.cons rfl (.cons rfl (.cons rfl (.cons rfl (.cons rfl (.cons rfl (.cons rfl (.nil _)))))))))))))))) ?_
    refine cd_if_f rfl (by omega) ?_
    refine cd_skip ?_
    refine ax_block ?_
    refine ax_then ?_
    refine At.regs (L' := [(0, _), (3, _), (5, _), (9, _), (10, _), (11, _), (12, _), (13, _), (14, _), (15, _), (16, _), (17, _), (18, _), (19, _), (20, _)]) (.cons rfl (.cons rfl (.cons rfl (.cons rfl (.cons rfl (.cons rfl (.cons rfl (.cons rfl (.cons rfl (.cons rfl (.cons rfl (.cons rfl (.cons rfl (.cons rfl (.cons rfl (.nil _)))))))))))))))) ?_
    refine cd_region ?_
    refine st (ev_add64 rfl rfl (by omega) (by omega)) rfl rfl rfl ?_
    refine st (ev_move rfl) rfl rfl rfl ?_
    refine op_nil ?_
    refine ax_eq (i := 3) (v' := .int .i64 ((tsum a b (i + 1)).length : Nat)) rfl (by rw [tsum, List.length_append]; rfl) ?_
    exact at_again (i + 1) (by omega) (by omega) (.cons rfl (.cons rfl (.cons rfl (.cons rfl (.cons rfl (.nil _)))))) (.nil _) (.cons rfl (.cons rfl (.cons rfl (.nil _))))
  ·
    obtain rfl : i = 2 := by omega
    have hs2 : (tsum a b 2).length = a.length + b.length := by rw [tsum_two, List.length_append]
    refine cd_exit ?_
    refine ax_then_exit ?_
    refine ax_then_exit ?_
    refine ax_block_hit ?_
    refine ax_then ?_
    refine At.regs (L' := [(0, _), (3, _)]) (.cons rfl (.cons rfl (.nil _))) ?_
    refine cd_seq ?_
    refine cd_region ?_
    refine st (ev_move rfl) rfl rfl rfl ?_
    refine st_call has91 rfl (fun w1 sw => rn 24 (grow_any (tsum a b 2).length w1 (by omega) (by omega))) nil_all rfl rfl (fun v24 _ => ?_)
    refine st (ev_assign rfl) rfl rfl rfl ?_
    refine op_nil ?_
    refine ax_then ?_
    refine At.regs (L' := [(0, _), (6, _)]) (.cons rfl (.cons rfl (.nil _))) ?_
    refine cd_seq ?_
    refine cd_seq ?_
    refine cd_region ?_
    refine st (ev_move rfl) rfl rfl rfl ?_
    refine st (ev_len_rd (h := 0) (n := 2) Try.underlying122 rfl rfl rfl (by decide)) rfl rfl rfl ?_
    refine st (ev_move rfl) rfl rfl rfl ?_
    refine op_nil ?_
    refine ax_then ?_
    refine At.regs (L' := [(6, _), (25, _), (26, _), (27, _)]) (.cons rfl (.cons rfl (.cons rfl (.cons rfl (.nil _))))) ?_
    refine cd_block ?_
    refine at_eq (i := 26) (v' := .int .i64 ((2 : Nat) : Int)) rfl rfl ?_
    refine cd_loop (ι := Nat × Value) (fun x => x.1 ≤ 2) (fun x => 2 - x.1)
        (fun x => [(6, x.2), (25, p), (26, .int .i64 ((2 : Nat) : Int)), (27, .int .i64 (x.1 : Int))])
        (fun x => [(24, .own (x.2) 39 32 (flat (tsum a b x.1)))])
        (fun x => [(0, .sl p 1 [va, vb]), (20, .sl (va) 32 (flat (a))), (21, .sl (vb) 32 (flat (b)))])
        (0, v24) (by omega) (.cons rfl (.cons rfl (.cons rfl (.cons rfl (.nil _))))) (.cons rfl (.nil _)) (.cons rfl (.cons rfl (.cons rfl (.nil _)))) (fun x hi => ?_)
    have hts := tsum_le2 a b hi
    have htl := tl_le a b x.1
    have hu1 := tsum_h32 ha hb x.1
    have hu2 := tl_h32 ha hb x.1
    refine cd_seq ?_
    refine cd_region ?_
    refine st (ev_lss rfl rfl) rfl rfl rfl ?_
    refine op_nil ?_
    refine ax_then ?_
    refine At.regs (L' := [(6, _), (25, _), (26, _), (27, _), (28, _)]) (.cons rfl (.cons rfl (.cons rfl (.cons rfl (.cons rfl (.nil _)))))) ?_
    refine cd_seq ?_
    refine cd_if rfl (fun hc28 => ?_) (fun hc28 => ?_)
    ·
      have hx2 : x.1 < 2 := by omega
      refine cd_skip ?_
      refine ax_then ?_
      refine At.regs (L' := [(6, _), (25, _), (26, _), (27, _), (28, _)]) (.cons rfl (.cons rfl (.cons rfl (.cons rfl (.cons rfl (.nil _)))))) ?_
      refine cd_seq ?_
      refine cd_block ?_
      refine cd_seq ?_
      refine cd_region ?_
      refine st (ev_indexAddr_rd (h := 0) (n := 2) Try.underlying122 ty26 rfl rfl rfl rfl (by decide) (by omega) (by omega)) rfl rfl rfl ?_
      refine st (ld_rd1 (h := 0) ty26 rfl rfl rfl (by rw [Nat.mul_one, Int.toNat_natCast]; exact two_get va vb (by omega))) rfl rfl rfl ?_
      refine st (ev_assign rfl) rfl rfl rfl ?_
      refine op_nil ?_
      refine ax_then ?_
      refine At.regs (L' := [(6, _), (8, _), (25, _), (26, _), (27, _), (28, _), (29, _), (30, _)]) (.cons rfl (.cons rfl (.cons rfl (.cons rfl (.cons rfl (.cons rfl (.cons rfl (.cons rfl (.nil _))))))))) ?_
      refine cd_region ?_
      refine st (ev_move rfl) rfl rfl rfl ?_
      refine st (ev_move rfl) rfl rfl rfl ?_
      refine st_appendh (h := 24) Try.underlying26 Try.underlying26 ty39 rfl rfl rfl rfl (fun w1 sw => trd (sw.sl_rd (h := 20) rfl) (sw.sl_rd (h := 21) rfl) x.1) hu1 hu2 (by omega) (by decide) rfl rfl (fun v33 hu33 => ?_)
      refine st (ev_assign rfl) rfl rfl rfl ?_
      refine op_nil ?_
      refine ax_block ?_
      refine ax_then ?_
      refine At.regs (L' := [(6, _), (8, _), (25, _), (26, _), (27, _), (28, _), (29, _), (30, _), (31, _), (32, _), (33, _)]) (.cons rfl (.cons rfl (.cons rfl (.cons rfl (.cons rfl (.cons rfl (.cons rfl (.cons rfl (.cons rfl (.cons rfl (.cons rfl (.nil _)))))))))))) ?_
      refine cd_region ?_
      refine st (ev_add64 rfl rfl (by omega) (by omega)) rfl rfl rfl ?_
      refine st (ev_move rfl) rfl rfl rfl ?_
      refine op_nil ?_
      refine ax_heq (i := 24) (v' := .own (v33) 39 32 (flat (tsum a b (x.1 + 1)))) rfl rfl ?_
      exact at_again ((x.1 + 1, v33)) (by show x.1 + 1 ≤ 2; omega) (by omega) (.cons rfl (.cons rfl (.cons rfl (.cons rfl (.nil _))))) (.cons rfl (.nil _)) (.cons rfl (.cons rfl (.cons rfl (.nil _))))
    ·
      obtain ⟨j, u⟩ := x
      dsimp only at hi hc28 ⊢
      obtain rfl : j = 2 := by omega
      refine at_heq (i := 24) (v' := .own (u) 39 32 (flat (a ++ b))) rfl (by rw [tsum_two]) ?_
      refine cd_exit ?_
      refine ax_then_exit ?_
      refine ax_then_exit ?_
      refine ax_block_hit ?_
      refine ax_then ?_
      refine At.regs (L' := [(6, _)]) (.cons rfl (.nil _)) ?_
      refine cd_seq ?_
      refine cd_region ?_
      refine st (ev_move rfl) rfl rfl rfl ?_
      refine st (ev_assign rfl) rfl rfl rfl ?_
      refine op_nil ?_
      refine ax_then ?_
      refine At.regs (L' := [(2, _)]) (.cons rfl (.nil _)) ?_
      refine cd_ret ?_
      refine rt_tmp (.inl rfl) Try.results62 rfl ?_
      exact fun w1 sw => ⟨_, trivial, rfl, (sw.gives (N := [(24, _)]) (.cons rfl (.nil _))).rn 0⟩
end Go.Proofs.Yteedclmcgifmpaa

namespace Go.Proofs.Yteedclmcgifmpaa
open Go Go.RowKit Fw
open Sha
open Ots
open Mk
set_option linter.unusedVariables false
set_option linter.unusedSimpArgs false
set_option maxRecDepth 20000 in
set_option maxHeartbeats 1000000 in
theorem rbad_any (b : Nat) (rv : Value) (bad : Bool) (w : World) (hb : w.heap[b]? = some (.cells (List.toArray [rv, .bool bad]) 125)) : Calls Try.prog 93 #[.pointer (some ⟨b, 0, none⟩)] w (Post (ι := Unit) w [b] (fun _ => True) (fun _ => .tuple #[]) (fun _ => [(0, .blk (b) (.cells ([Ky.nil0, .bool (true)]).toArray 125))])) := by
  refine calls_at (vs := [.pointer (some ⟨b, 0, none⟩)]) (X := [b]) (H := [(0, .blk (b) (.cells ([rv, .bool (bad)]).toArray 125))]) (F := []) 10 Try.func93 rfl rfl rfl (Sat.blkX 0 hb) ?_
  refine cd_seq ?_
  refine cd_region ?_
  refine st (ev_move rfl) rfl rfl rfl ?_
  refine st (ev_neq_ptr_nil Try.underlying97 rfl rfl) rfl rfl rfl ?_
  refine op_nil ?_
  refine ax_then ?_
  refine At.regs (L' := [(0, _), (3, _)]) (.cons rfl (.cons rfl (.nil _))) ?_
  refine cd_true rfl ?_
  refine cd_region ?_
  refine st (ev_move rfl) rfl rfl rfl ?_
  refine st (ev_move rfl) rfl rfl rfl ?_
  refine st (ev_nilCheck rfl) rfl rfl rfl ?_
  refine st (ev_fieldAddr (b := _) Try.underlying125 (f := _) rfl ty22 (by decide) rfl) rfl rfl rfl ?_
  refine st_store1 0 ty22 rfl rfl rfl rfl (show 0 < 2 from by decide) rfl ?_
  refine at_heq (i := 0) (v' := .blk (b) (.cells ([Ky.nil0, .bool (bad)]).toArray 125)) rfl rfl ?_
  refine st (ev_nilCheck rfl) rfl rfl rfl ?_
  refine st (ev_fieldAddr (b := _) Try.underlying125 (f := _) rfl ty4 (by decide) rfl) rfl rfl rfl ?_
  refine st_store1 0 ty4 rfl rfl rfl rfl (show 1 < 2 from by decide) rfl ?_
  refine at_heq (i := 0) (v' := .blk (b) (.cells ([Ky.nil0, .bool (true)]).toArray 125)) rfl rfl ?_
  refine op_nil ?_
  refine rt_none (.inr rfl) Try.results93 ?_
  exact fun w1 sw => ⟨(), trivial, rfl, sw.gives (N := [(0, _)]) (.cons rfl (.nil _))⟩
set_option maxRecDepth 20000 in
set_option maxHeartbeats 2000000 in
theorem rraw_ok (b : Nat) (rv : Value) (bad : Bool) (r : List Int) (w : World) (hb : w.heap[b]? = some (.cells (List.toArray [rv, .bool bad]) 125)) (h : Rd w rv 1 (ints .u8 r)) (ho : FE.off b (.sl rv 1 (ints .u8 r))) (hr : r.length ≤ 140737488352000) (hk : 32 ≤ r.length) : Calls Try.prog 94 #[.pointer (some ⟨b, 0, none⟩), .int .i64 32] w (Post (ι := Value) w [b] (fun _ => True) (fun x => x) (fun x => [(0, .blk (b) (.cells ([Ky.rawV rv r, .bool (bad || decide (r.length < 32))]).toArray 125)), (1, .own (x) 5 1 (ints .u8 (Ky.rawOut r)))])) := by
  refine calls_at (vs := [.pointer (some ⟨b, 0, none⟩), .int .i64 32]) (X := [b]) (H := [(0, .blk (b) (.cells ([rv, .bool (bad)]).toArray 125))]) (F := [(1, .sl rv 1 (ints .u8 r))]) 40 Try.func94 rfl rfl rfl ((Sat.blkX 0 hb).readb (f := .sl rv 1 (ints .u8 r)) 1 h ho) ?_
  refine cd_seq ?_
  refine cd_region ?_
  refine st (ev_assign rfl) rfl rfl rfl ?_
  refine at_own_nil 4 5 1 ?_
  refine at_heq (i := 4) (v' := .own (.slice none 0 0) 5 1 (ints .u8 [])) rfl rfl ?_
  refine op_nil ?_
  refine ax_then ?_
  refine At.regs (L' := [(0, _), (1, _), (4, _)]) (.cons rfl (.cons rfl (.cons rfl (.nil _)))) ?_
  refine cd_seq ?_
  refine cd_seq ?_
  refine cd_region ?_
  refine st (ev_move rfl) rfl rfl rfl ?_
  refine st (ev_eql_ptr_nil Try.underlying97 rfl rfl) rfl rfl rfl ?_
  refine st (ev_move rfl) rfl rfl rfl ?_
  refine st (ev_move rfl) rfl rfl rfl ?_
  refine st (ev_lss rfl rfl) rfl rfl rfl ?_
  refine st (ev_pick_f rfl rfl) rfl rfl rfl ?_
  refine st (ev_move rfl) rfl rfl rfl ?_
  refine at_eq (i := 12) (v' := .bool false) rfl (by rfl) ?_
  refine st (ev_move rfl) rfl rfl rfl ?_
  refine st (ev_move rfl) rfl rfl rfl ?_
  refine st (ev_nilCheck rfl) rfl rfl rfl ?_
  refine st (ev_fieldAddr (b := _) Try.underlying125 (f := _) rfl ty22 (by decide) rfl) rfl rfl rfl ?_
  refine st (ld_blk1 (h := 0) ty22 rfl rfl rfl rfl) rfl rfl rfl ?_
  refine st (ev_len_rdi (h := 1) Try.underlying22 rfl rfl) rfl rfl rfl ?_
  refine st (ev_gtr rfl rfl) rfl rfl rfl ?_
  refine st (ev_pick_f rfl rfl) rfl rfl rfl ?_
  refine op_nil ?_
  refine ax_then ?_
  refine At.regs (L' := [(0, _), (1, _), (4, _), (20, _)]) (.cons rfl (.cons rfl (.cons rfl (.cons rfl (.nil _))))) ?_
  refine cd_if_f rfl (by omega) ?_
  refine cd_skip ?_
  refine ax_then ?_
  refine At.regs (L' := [(0, _), (1, _), (4, _)]) (.cons rfl (.cons rfl (.cons rfl (.nil _)))) ?_
  refine cd_seq ?_
  refine cd_region ?_
  refine st (ev_move rfl) rfl rfl rfl ?_
  refine st (ev_nilCheck rfl) rfl rfl rfl ?_
  refine st (ev_fieldAddr (b := _) Try.underlying125 (f := _) rfl ty22 (by decide) rfl) rfl rfl rfl ?_
  refine st (ld_blk1 (h := 0) ty22 rfl rfl rfl rfl) rfl rfl rfl ?_
  refine st (ev_move rfl) rfl rfl rfl ?_
  refine st (ev_slicei_hi Try.underlying22 ty5 rfl rfl (fun w1 sw => sw.sl_rd (h := 1) rfl) (by omega) (by first | omega | (simp only [List.length_append, List.length_cons, List.length_nil, List.length_set, List.length_replicate, List.length_take, List.length_drop, ints_length, wr_length, sha_len, node_len, recov_len, Ky.named_len, Ky.keyPub_len, Ky.hashOf_len] <;> omega))) rfl rfl rfl ?_
  refine at_eq (i := 28) (v' := cutAt 1 rv 0 32) rfl rfl ?_
  refine st_call has92 rfl (fun w1 sw => rn 29 (clone_any (cutAt 1 rv 0 32) (r.take 32) w1 (by rw [List.length_take]; omega) (by have := (sw.sl_rd (h := 1) rfl).cuti (lo := 0) (hi := 32) (by omega) hk; simpa using this))) nil_all rfl rfl (fun v29 _ => ?_)
  refine at_heq (i := 29) (v' := .own (v29) 5 1 (ints .u8 (Ky.rawOut r))) rfl (by rw [show Ky.rawOut r = r.take 32 from if_pos hk]) ?_
  refine st (ev_assign rfl) rfl rfl rfl ?_
  refine op_nil ?_
  refine ax_then ?_
  refine At.regs (L' := [(0, _), (1, _), (4, _), (5, _)]) (.cons rfl (.cons rfl (.cons rfl (.cons rfl (.nil _))))) ?_
  refine cd_seq ?_
  refine cd_region ?_
  refine st (ev_move rfl) rfl rfl rfl ?_
  refine st (ev_move rfl) rfl rfl rfl ?_
  refine st (ev_nilCheck rfl) rfl rfl rfl ?_
  refine st (ev_fieldAddr (b := _) Try.underlying125 (f := _) rfl ty22 (by decide) rfl) rfl rfl rfl ?_
  refine st (ld_blk1 (h := 0) ty22 rfl rfl rfl rfl) rfl rfl rfl ?_
  refine st (ev_move rfl) rfl rfl rfl ?_
  refine st (ev_slicei_lo Try.underlying22 ty5 rfl rfl (fun w1 sw => sw.sl_rd (h := 1) rfl) (by omega) (by first | omega | (simp only [List.length_append, List.length_cons, List.length_nil, List.length_set, List.length_replicate, List.length_take, List.length_drop, ints_length, wr_length, sha_len, node_len, recov_len, Ky.named_len, Ky.keyPub_len, Ky.hashOf_len] <;> omega))) rfl rfl rfl ?_
  refine st (ev_nilCheck rfl) rfl rfl rfl ?_
  refine st (ev_fieldAddr (b := _) Try.underlying125 (f := _) rfl ty22 (by decide) rfl) rfl rfl rfl ?_
  refine st_store1 0 ty22 rfl rfl rfl (rd_shape (h.cuti (lo := 32) (hi := r.length) hk (Nat.le_refl _))).2 (show 0 < 2 from by decide) rfl ?_
  refine at_heq (i := 0) (v' := .blk (b) (.cells ([Ky.rawV rv r, .bool (bad || decide (r.length < 32))]).toArray 125)) rfl (by rw [show Ky.rawV rv r = cutAt 1 rv 32 r.length from if_pos hk, decide_eq_false (by omega), Bool.or_false]; rfl) ?_
  refine op_nil ?_
  refine ax_then ?_
  refine At.regs (L' := [(4, _), (5, _)]) (.cons rfl (.cons rfl (.nil _))) ?_
  refine cd_seq ?_
  refine cd_region ?_
  refine st (ev_move rfl) rfl rfl rfl ?_
  refine st (ev_assign rfl) rfl rfl rfl ?_
  refine op_nil ?_
  refine ax_then ?_
  refine At.regs (L' := [(4, _)]) (.cons rfl (.nil _)) ?_
  refine cd_ret ?_
  refine rt_tmp (.inl rfl) Try.results94 rfl ?_
  exact fun w1 sw => ⟨v29, trivial, rfl, (sw.gives (N := [(0, _), (29, _)]) (.cons rfl (.cons rfl (.nil _)))).rn2 (by decide) 0 1⟩
set_option maxRecDepth 20000 in
set_option maxHeartbeats 2000000 in
theorem rraw_no (b : Nat) (rv : Value) (bad : Bool) (r : List Int) (w : World) (hb : w.heap[b]? = some (.cells (List.toArray [rv, .bool bad]) 125)) (h : Rd w rv 1 (ints .u8 r)) (ho : FE.off b (.sl rv 1 (ints .u8 r))) (hr : r.length ≤ 140737488352000) (hk : r.length < 32) : Calls Try.prog 94 #[.pointer (some ⟨b, 0, none⟩), .int .i64 32] w (Post (ι := Value) w [b] (fun _ => True) (fun x => x) (fun x => [(0, .blk (b) (.cells ([Ky.rawV rv r, .bool (bad || decide (r.length < 32))]).toArray 125)), (1, .own (x) 5 1 (ints .u8 (Ky.rawOut r)))])) := by
  refine calls_at (vs := [.pointer (some ⟨b, 0, none⟩), .int .i64 32]) (X := [b]) (H := [(0, .blk (b) (.cells ([rv, .bool (bad)]).toArray 125))]) (F := [(1, .sl rv 1 (ints .u8 r))]) 40 Try.func94 rfl rfl rfl ((Sat.blkX 0 hb).readb (f := .sl rv 1 (ints .u8 r)) 1 h ho) ?_
  refine cd_seq ?_
  refine cd_region ?_
  refine st (ev_assign rfl) rfl rfl rfl ?_
  refine at_own_nil 4 5 1 ?_
  refine at_heq (i := 4) (v' := .own (.slice none 0 0) 5 1 (ints .u8 [])) rfl rfl ?_
  refine op_nil ?_
  refine ax_then ?_
  refine At.regs (L' := [(0, _), (1, _), (4, _)]) (.cons rfl (.cons rfl (.cons rfl (.nil _)))) ?_
  refine cd_seq ?_
  refine cd_seq ?_
  refine cd_region ?_
  refine st (ev_move rfl) rfl rfl rfl ?_
  refine st (ev_eql_ptr_nil Try.underlying97 rfl rfl) rfl rfl rfl ?_
  refine st (ev_move rfl) rfl rfl rfl ?_
  refine st (ev_move rfl) rfl rfl rfl ?_
  refine st (ev_lss rfl rfl) rfl rfl rfl ?_
  refine st (ev_pick_f rfl rfl) rfl rfl rfl ?_
  refine st (ev_move rfl) rfl rfl rfl ?_
  refine at_eq (i := 12) (v' := .bool false) rfl (by rfl) ?_
  refine st (ev_move rfl) rfl rfl rfl ?_
  refine st (ev_move rfl) rfl rfl rfl ?_
  refine st (ev_nilCheck rfl) rfl rfl rfl ?_
  refine st (ev_fieldAddr (b := _) Try.underlying125 (f := _) rfl ty22 (by decide) rfl) rfl rfl rfl ?_
  refine st (ld_blk1 (h := 0) ty22 rfl rfl rfl rfl) rfl rfl rfl ?_
  refine st (ev_len_rdi (h := 1) Try.underlying22 rfl rfl) rfl rfl rfl ?_
  refine st (ev_gtr rfl rfl) rfl rfl rfl ?_
  refine st (ev_pick_f rfl rfl) rfl rfl rfl ?_
  refine op_nil ?_
  refine ax_then ?_
  refine At.regs (L' := [(0, _), (1, _), (4, _), (20, _)]) (.cons rfl (.cons rfl (.cons rfl (.cons rfl (.nil _))))) ?_
  refine cd_if_t rfl (by omega) ?_
  refine cd_seq ?_
  refine cd_region ?_
  refine st (ev_move rfl) rfl rfl rfl ?_
  refine st_call has93 rfl (fun w1 sw => rbad_any b rv bad w1 (sw.blk_eq (h := 0) rfl)) (mod_blk rfl) rfl rfl (fun _ _ => ?_)
  refine op_nil ?_
  refine ax_then ?_
  refine At.regs (L' := [(0, _), (1, _), (4, _)]) (.cons rfl (.cons rfl (.cons rfl (.nil _)))) ?_
  refine cd_seq ?_
  refine cd_region ?_
  refine st (ev_assign rfl) rfl rfl rfl ?_
  refine at_own_nil 4 5 1 ?_
  refine at_heq (i := 4) (v' := .own (.slice none 0 0) 5 1 (ints .u8 [])) rfl rfl ?_
  refine op_nil ?_
  refine ax_then ?_
  refine At.regs (L' := [(0, _), (1, _), (4, _)]) (.cons rfl (.cons rfl (.cons rfl (.nil _)))) ?_
  refine cd_ret ?_
  refine ax_then_ret ?_
  refine rt_tmp (.inl rfl) Try.results94 rfl ?_
  exact fun w1 sw => ⟨_, trivial, rfl, by rw [show Ky.rawV rv r = Ky.nil0 from if_neg (by omega), show Ky.rawOut r = [] from if_neg (by omega), decide_eq_true hk, Bool.or_true]; exact (sw.gives (N := [(0, _), (4, _)]) (.cons rfl (.cons rfl (.nil _)))).rn2 (by decide) 0 1⟩
theorem rraw_any (b : Nat) (rv : Value) (bad : Bool) (r : List Int) (w : World) (hb : w.heap[b]? = some (.cells (List.toArray [rv, .bool bad]) 125)) (h : Rd w rv 1 (ints .u8 r)) (ho : FE.off b (.sl rv 1 (ints .u8 r))) (hr : r.length ≤ 140737488352000) : Calls Try.prog 94 #[.pointer (some ⟨b, 0, none⟩), .int .i64 32] w (Post (ι := Value) w [b] (fun _ => True) (fun x => x) (fun x => [(0, .blk (b) (.cells ([Ky.rawV rv r, .bool (bad || decide (r.length < 32))]).toArray 125)), (1, .own (x) 5 1 (ints .u8 (Ky.rawOut r)))])) := by
  by_cases hk : 32 ≤ r.length
  · exact rraw_ok b rv bad r w hb h ho hr hk
  · exact rraw_no b rv bad r w hb h ho hr (by omega)
set_option maxRecDepth 20000 in
set_option maxHeartbeats 1000000 in
theorem rgood_any (b : Nat) (rv : Value) (bad : Bool) (w : World) (h : Lies w b 0 [rv, .bool bad]) : Calls Try.prog 95 #[.pointer (some ⟨b, 0, none⟩)] w (PostV w (.bool (!bad))) := by
  refine calls_at (vs := [.pointer (some ⟨b, 0, none⟩)]) (X := []) (H := []) (F := [(21, .mem b 0 [rv, .bool bad])]) 12 Try.func95 rfl rfl rfl ((Sat.start0 w).read 21 h off_nil) ?_
  refine cd_seq ?_
  refine cd_region ?_
  refine st (ev_assign rfl) rfl rfl rfl ?_
  refine op_nil ?_
  refine ax_then ?_
  refine At.regs (L' := [(0, _), (2, _)]) (.cons rfl (.cons rfl (.nil _))) ?_
  refine cd_seq ?_
  refine cd_region ?_
  refine st (ev_move rfl) rfl rfl rfl ?_
  refine st (ev_neq_ptr_nil Try.underlying97 rfl rfl) rfl rfl rfl ?_
  refine st (ev_move rfl) rfl rfl rfl ?_
  refine st (ev_move rfl) rfl rfl rfl ?_
  refine st (ev_nilCheck rfl) rfl rfl rfl ?_
  refine st (ev_fieldAddr (b := _) Try.underlying125 (f := _) rfl ty4 (by decide) rfl) rfl rfl rfl ?_
  refine st (ld_mem1 (h := 21) ty4 rfl rfl rfl (Nat.zero_add _).symm rfl) rfl rfl rfl ?_
  refine st (ev_not rfl) rfl rfl rfl ?_
  refine st (ev_pick_t rfl rfl) rfl rfl rfl ?_
  refine st (ev_assign rfl) rfl rfl rfl ?_
  refine op_nil ?_
  refine ax_then ?_
  refine At.regs (L' := [(2, _)]) (.cons rfl (.nil _)) ?_
  refine cd_ret ?_
  refine rt_tmp (.inl rfl) Try.results95 rfl ?_
  exact fun w1 sw => ⟨rfl, sw.gives (.nil _)⟩
set_option maxRecDepth 20000 in
set_option maxHeartbeats 1000000 in
theorem rwhole_any (b : Nat) (rv : Value) (bad : Bool) (r : List Int) (w : World) (h : Lies w b 0 [rv, .bool bad]) (h' : Rd w rv 1 (ints .u8 r)) : Calls Try.prog 69 #[.pointer (some ⟨b, 0, none⟩)] w (PostV w (.bool (!bad && decide (r.length = 0)))) := by
  refine calls_at (vs := [.pointer (some ⟨b, 0, none⟩)]) (X := []) (H := []) (F := [(21, .mem b 0 [rv, .bool bad]), (20, .sl (rv) 1 (ints .u8 (r)))]) 13 Try.func69 rfl rfl rfl ((Sat.rd0 20 h').read 21 h off_nil) ?_
  refine cd_seq ?_
  refine cd_region ?_
  refine st (ev_assign rfl) rfl rfl rfl ?_
  refine op_nil ?_
  refine ax_then ?_
  refine At.regs (L' := [(0, _), (2, _)]) (.cons rfl (.cons rfl (.nil _))) ?_
  refine cd_seq ?_
  refine cd_region ?_
  refine st (ev_move rfl) rfl rfl rfl ?_
  refine st_callv has95 rfl (fun w1 sw => rgood_any b rv bad w1 (sw.rd 21 _ rfl)) rfl rfl ?_
  refine st (ev_move rfl) rfl rfl rfl ?_
  refine at_split (i := 5) rfl (fun hg5 => ?_) (fun hg5 => ?_)
  ·
    refine st (ev_move rfl) rfl rfl rfl ?_
    refine st (ev_nilCheck rfl) rfl rfl rfl ?_
    refine st (ev_fieldAddr (b := _) Try.underlying125 (f := _) rfl ty22 (by decide) rfl) rfl rfl rfl ?_
    refine st (ld_mem1 (h := 21) ty22 rfl rfl rfl (Nat.zero_add _).symm rfl) rfl rfl rfl ?_
    refine st (ev_len_rdi (h := 20) Try.underlying22 rfl rfl) rfl rfl rfl ?_
    refine st (ev_eql rfl rfl) rfl rfl rfl ?_
    refine st (ev_pick_t rfl rfl) rfl rfl rfl ?_
    refine st (ev_assign rfl) rfl rfl rfl ?_
    refine op_nil ?_
    refine ax_then ?_
    refine At.regs (L' := [(2, _)]) (.cons rfl (.nil _)) ?_
    refine cd_ret ?_
    refine rt_tmp (.inl rfl) Try.results69 rfl ?_
    exact fun w1 sw => ⟨congrArg (fun b => Ending.returned (Value.bool b)) (by rw [hg5]; first | rfl | (rw [Bool.true_and]; exact decide_eq_decide.2 (by omega))), sw.gives (.nil _)⟩
  ·
    refine st_skip rfl rfl rfl ?_
    refine st_skip rfl rfl rfl ?_
    refine st_skip rfl rfl rfl ?_
    refine st_skip rfl rfl rfl ?_
    refine st_skip rfl rfl rfl ?_
    refine st_skip rfl rfl rfl ?_
    refine st (ev_pick_f rfl rfl) rfl rfl rfl ?_
    refine st (ev_assign rfl) rfl rfl rfl ?_
    refine op_nil ?_
    refine ax_then ?_
    refine At.regs (L' := [(2, _)]) (.cons rfl (.nil _)) ?_
    refine cd_ret ?_
    refine rt_tmp (.inl rfl) Try.results69 rfl ?_
    exact fun w1 sw => ⟨congrArg (fun b => Ending.returned (Value.bool b)) (by rw [hg5]; first | rfl | (rw [Bool.true_and]; exact decide_eq_decide.2 (by omega))), sw.gives (.nil _)⟩
set_option maxRecDepth 20000 in
set_option maxHeartbeats 2000000 in
theorem khashes_any (b : Nat) (rv : Value) (bad : Bool) (r : List Int) (n : Nat) (w : World) (hb : w.heap[b]? = some (.cells (List.toArray [rv, .bool bad]) 125)) (h : Rd w rv 1 (ints .u8 r)) (ho : FE.off b (.sl rv 1 (ints .u8 r))) (hr : r.length ≤ 140737488352000) (hn : n ≤ 1000) : Calls Try.prog 68 #[.pointer (some ⟨b, 0, none⟩), .int .i64 (n : Int)] w (Post (ι := Value) w [b] (fun _ => True) (fun x => x) (fun x => [(0, .blk (b) (.cells ([Ky.valS rv r n, .bool (Ky.badS bad r n)]).toArray 125)), (1, .own (x) 39 32 (flat (Ky.hashS r n)))])) := by
  refine calls_at (vs := [.pointer (some ⟨b, 0, none⟩), .int .i64 (n : Int)]) (X := [b]) (H := [(0, .blk (b) (.cells ([rv, .bool (bad)]).toArray 125))]) (F := [(1, .sl rv 1 (ints .u8 r))]) 20 Try.func68 rfl rfl rfl ((Sat.blkX 0 hb).readb (f := .sl rv 1 (ints .u8 r)) 1 h ho) ?_
  refine cd_seq ?_
  refine cd_region ?_
  refine st (ev_assign rfl) rfl rfl rfl ?_
  refine at_own_nil 4 39 32 ?_
  refine at_heq (i := 4) (v' := .own (.slice none 0 0) 39 32 (flat [])) rfl rfl ?_
  have hu4 := H32.nil
  refine op_nil ?_
  refine ax_then ?_
  refine At.regs (L' := [(0, _), (1, _), (4, _)]) (.cons rfl (.cons rfl (.cons rfl (.nil _)))) ?_
  refine cd_seq ?_
  refine cd_region ?_
  refine st (ev_assign rfl) rfl rfl rfl ?_
  refine at_own_nil 5 39 32 ?_
  refine at_heq (i := 5) (v' := .own (.slice none 0 0) 39 32 (flat [])) rfl rfl ?_
  have hu5 := H32.nil
  refine op_nil ?_
  refine ax_then ?_
  refine At.regs (L' := [(0, _), (1, _), (4, _), (5, _)]) (.cons rfl (.cons rfl (.cons rfl (.cons rfl (.nil _))))) ?_
  refine cd_seq ?_
  refine cd_seq ?_
  refine cd_region ?_
  refine st (ev_move rfl) rfl rfl rfl ?_
  refine st (ev_move rfl) rfl rfl rfl ?_
  refine op_nil ?_
  refine ax_then ?_
  refine At.regs (L' := [(0, _), (4, _), (5, _), (7, _), (8, _)]) (.cons rfl (.cons rfl (.cons rfl (.cons rfl (.cons rfl (.nil _)))))) ?_
  refine cd_block ?_
  refine cd_loop (ι := Nat × Value) (fun x => x.1 ≤ n) (fun x => n - x.1)
      (fun x => [(0, .pointer (some ⟨b, 0, none⟩)), (5, x.2), (7, .int .i64 (n : Int)), (8, .int .i64 (x.1 : Int))])
      (fun x => [(0, .blk (b) (.cells ([Ky.valS rv r x.1, .bool (Ky.badS bad r x.1)]).toArray 125)), (5, .own (x.2) 39 32 (flat (Ky.hashS r x.1)))])
      (fun x => [(1, .sl (Ky.valS rv r x.1) 1 (ints .u8 (Ky.restS r x.1)))])
      (0, .slice none 0 0) (by omega) (.cons rfl (.cons rfl (.cons rfl (.cons rfl (.nil _))))) (.cons rfl (.cons rfl (.nil _))) (.cons rfl (.nil _)) (fun x hi => ?_)
  have hu5 := Ky.hashS_h32 r x.1
  have hn5 := Ky.hashS_len r x.1
  have hrl := Ky.restS_le r x.1
  have hro := Ky.rawOut_len (Ky.restS r x.1)
  have hhl := Ky.hashOf_len (Ky.restS r x.1)
  refine cd_seq ?_
  refine cd_region ?_
  refine st (ev_lss rfl rfl) rfl rfl rfl ?_
  refine op_nil ?_
  refine ax_then ?_
  refine At.regs (L' := [(0, _), (5, _), (7, _), (8, _), (9, _)]) (.cons rfl (.cons rfl (.cons rfl (.cons rfl (.cons rfl (.nil _)))))) ?_
  refine cd_seq ?_
  refine cd_if rfl (fun hc9 => ?_) (fun hc9 => ?_)
  ·
    refine cd_skip ?_
    refine ax_then ?_
    refine At.regs (L' := [(0, _), (5, _), (7, _), (8, _), (9, _)]) (.cons rfl (.cons rfl (.cons rfl (.cons rfl (.cons rfl (.nil _)))))) ?_
    refine cd_seq ?_
    refine cd_block ?_
    refine cd_seq ?_
    refine cd_region ?_
    refine st_alloc (h := 6) ty39 rfl rfl rfl (fun b6 => ?_)
    refine op_nil ?_
    refine ax_then ?_
    refine At.regs (L' := [(0, _), (5, _), (6, _), (7, _), (8, _), (9, _)]) (.cons rfl (.cons rfl (.cons rfl (.cons rfl (.cons rfl (.cons rfl (.nil _))))))) ?_
    refine cd_seq ?_
    refine cd_mix hmix ?_
    refine mx (i := 0) rfl (by decide +kernel) (by decide +kernel) (by decide +kernel) rfl (fun w0 => ev_slice_arr_all Try.underlying39 ty5 rfl) rfl rfl (Sub.refl _) ?_
    refine mx (i := 1) rfl (by decide +kernel) (by decide +kernel) (by decide +kernel) rfl (fun w0 => ev_move rfl) rfl rfl (Sub.refl _) ?_
    refine mx_one (i := 2) (by decide +kernel) (Sub.refl _) ?_
    refine wo (i := 2) rfl ?_
    refine st_call has94 rfl (fun w1 sw => rn2 0 12 (rraw_any b (Ky.valS rv r x.1) (Ky.badS bad r x.1) (Ky.restS r x.1) w1 (sw.blk_eq (h := 0) rfl) (sw.sl_rd (h := 1) rfl) (sw.off 1 _ 0 _ rfl rfl _ (by simp [Ent.ids])) (by omega))) (mod_blk2 rfl) rfl rfl (fun v12 _ => ?_)
    refine op_nil ?_
    refine ax_then ?_
    refine mx_one (i := 3) (by decide +kernel) (Sub.refl _) ?_
    refine wo (i := 3) rfl ?_
    refine st_copy (n := (Ky.rawOut (Ky.restS r x.1)).length) 6 Try.underlying22 ty5 rfl rfl rfl (fun w1 sw => sw.own_rd (h := 12) rfl) (by decide) (by rw [ints_length, Nat.mul_one]) (by rw [ints_length, List.length_replicate]; decide) (ints_one _ _) rfl rfl ?_
    refine at_heq (i := 6) (v' := .blk b6 (.cells (ints .u8 (Ky.hashOf (Ky.restS r x.1))).toArray 39)) rfl (by rw [Ky.hash_copy]) ?_
    refine op_nil ?_
    refine ax_then ?_
    refine mx_done (by decide +kernel) (Sub.refl _) ?_
    refine ax_then ?_
    refine At.regs (L' := [(0, _), (5, _), (6, _), (7, _), (8, _), (9, _), (10, _), (11, _), (12, _)]) (.cons rfl (.cons rfl (.cons rfl (.cons rfl (.cons rfl (.cons rfl (.cons rfl (.cons rfl (.cons rfl (.nil _)))))))))) ?_
    refine at_fmap (h := 1) 1 rfl (fun w1 hh => Ky.rawV_rd hh) (Ky.rawV_blk _ _) Ky.raw_nil ?_
    refine cd_region ?_
    refine st (ev_move rfl) rfl rfl rfl ?_
    refine st (ld_blk_all (h := 6) ty39 rfl rfl rfl (by first | omega | (simp only [List.length_append, List.length_cons, List.length_nil, List.length_set, List.length_replicate, List.length_take, List.length_drop, ints_length, wr_length, sha_len, node_len, recov_len, Ky.named_len, Ky.keyPub_len, Ky.hashOf_len] <;> omega) | rfl)) rfl rfl rfl ?_
    refine st_bsh1 (h := 16) Try.underlying26 ty39 rfl (by first | assumption | omega) rfl rfl (fun b16 hu16 => ?_)
    refine st_appendh (h := 5) Try.underlying26 Try.underlying26 ty39 rfl rfl rfl rfl (fun w1 sw => sw.own_rd (h := 16) rfl) (by assumption) (by assumption) (by first | omega | (simp only [List.length_append, List.length_cons, List.length_nil, List.length_set, List.length_replicate, List.length_take, List.length_drop, ints_length, wr_length, sha_len, node_len, recov_len, Ky.named_len, Ky.keyPub_len, Ky.hashOf_len] <;> omega)) (by decide) rfl rfl (fun v17 hu17 => ?_)
    refine st (ev_assign rfl) rfl rfl rfl ?_
    refine op_nil ?_
    refine ax_block ?_
    refine ax_then ?_
    refine At.regs (L' := [(0, _), (5, _), (6, _), (7, _), (8, _), (9, _), (10, _), (11, _), (12, _), (14, _), (15, _), (16, _), (17, _)]) (.cons rfl (.cons rfl (.cons rfl (.cons rfl (.cons rfl (.cons rfl (.cons rfl (.cons rfl (.cons rfl (.cons rfl (.cons rfl (.cons rfl (.cons rfl (.nil _)))))))))))))) ?_
    refine cd_region ?_
    refine st (ev_add64 rfl rfl (by omega) (by omega)) rfl rfl rfl ?_
    refine st (ev_move rfl) rfl rfl rfl ?_
    refine op_nil ?_
    refine ax_heq (i := 5) (v' := .own (v17) 39 32 (flat (Ky.hashS r (x.1 + 1)))) rfl rfl ?_
    exact at_again ((x.1 + 1, v17)) (by show x.1 + 1 ≤ n; omega) (by omega) (.cons rfl (.cons rfl (.cons rfl (.cons rfl (.nil _))))) (.cons rfl (.cons rfl (.nil _))) (.cons rfl (.nil _))
  ·
    obtain ⟨j, v⟩ := x
    dsimp only at hi hc9 ⊢
    obtain rfl : j = n := by omega
    refine cd_exit ?_
    refine ax_then_exit ?_
    refine ax_then_exit ?_
    refine ax_block_hit ?_
    refine ax_then ?_
    refine At.regs (L' := [(5, _)]) (.cons rfl (.nil _)) ?_
    refine cd_seq ?_
    refine cd_region ?_
    refine st (ev_move rfl) rfl rfl rfl ?_
    refine st (ev_assign rfl) rfl rfl rfl ?_
    refine op_nil ?_
    refine ax_then ?_
    refine At.regs (L' := [(4, _)]) (.cons rfl (.nil _)) ?_
    refine cd_ret ?_
    refine rt_tmp (.inl rfl) Try.results68 rfl ?_
    exact fun w1 sw => ⟨v, trivial, rfl, (sw.gives (N := [(0, _), (5, _)]) (.cons rfl (.cons rfl (.nil _)))).rn2 (by decide) 0 1⟩
set_option maxRecDepth 20000 in
set_option maxHeartbeats 1000000 in
theorem newreader_any (p : Value) (l : List Int) (w : World) (hl : l.length ≤ 140737488352000) (h : Rd w p 1 (ints .u8 l)) : Calls Try.prog 66 #[p] w (Post (ι := Nat × Value) w [] (fun _ => True) (fun x => .pointer (some ⟨x.1, 0, none⟩)) (fun x => [(0, .blk (x.1) (.cells ([x.2, .bool false]).toArray 125)), (1, .own (x.2) 5 1 (ints .u8 (l)))])) := by
  refine calls_at (vs := [p]) (X := []) (H := []) (F := [(0, .sl (p) 1 (ints .u8 (l)))]) 7 Try.func66 rfl rfl rfl (Sat.rd0 0 h) ?_
  refine cd_seq ?_
  refine cd_region ?_
  refine st (ev_assign rfl) rfl rfl rfl ?_
  refine op_nil ?_
  refine ax_then ?_
  refine At.regs (L' := [(0, _), (2, _)]) (.cons rfl (.cons rfl (.nil _))) ?_
  refine cd_seq ?_
  refine cd_region ?_
  refine st (ev_move rfl) rfl rfl rfl ?_
  refine st_call has92 rfl (fun w1 sw => rn 4 (clone_any p l w1 hl (sw.sl_rd (h := 0) rfl))) nil_all rfl rfl (fun v4 _ => ?_)
  refine at_own_shape (h := 4) rfl (fun hs4 => ?_)
  refine st (ev_build_struct ty125 rfl pl125 rfl ((fill_put (i := 0) (off := 0) (n := 1) (vs := [v4]) rfl hs4.1 rfl (Nat.le_of_ble_eq_true rfl)).trans fill_nil)) rfl rfl rfl ?_
  refine at_eq (i := 5) (v' := .agg (List.toArray [v4, .bool false])) rfl rfl ?_
  refine st_box (h := 6) rfl rfl rfl rfl (fun b6 => ?_)
  refine st (ev_assign rfl) rfl rfl rfl ?_
  refine op_nil ?_
  refine ax_then ?_
  refine At.regs (L' := [(2, _)]) (.cons rfl (.nil _)) ?_
  refine cd_ret ?_
  refine rt_tmp (.inl rfl) Try.results66 rfl ?_
  exact fun w1 sw => ⟨(b6, v4), trivial, rfl, (sw.gives (N := [(6, _), (4, _)]) (.cons rfl (.cons rfl (.nil _)))).rn2 (by decide) 0 1⟩
end Go.Proofs.Yteedclmcgifmpaa

namespace Go.Proofs.Yteedclmcgifmpaa
open Go Go.RowKit Fw
open Sha
open Ots
open Mk
set_option linter.unusedVariables false
set_option linter.unusedSimpArgs false
def encP (l : Int) (hs : List (List Int)) (i : Nat) : List Int := [l] ++ (hs.take i).flatten
theorem encP_step (l : Int) {hs : List (List Int)} {i : Nat} (hi : i < hs.length) : encP l hs (i + 1) = encP l hs i ++ hs.getD i [] := by
  rw [encP, encP, List.take_succ_eq_append_getElem hi, List.flatten_append, List.getD_eq_getElem?_getD, List.getElem?_eq_getElem hi]
  simp
theorem encP_len (l : Int) {hs : List (List Int)} (hu : H32 hs) (i : Nat) (hi : i ≤ hs.length) : (encP l hs i).length = 1 + 32 * i := by
  induction i with
  | zero => simp [encP]
  | succ i ih => rw [encP_step l (by omega), List.length_append, ih (by omega), hu.get (by omega)]; omega
set_option maxRecDepth 20000 in
set_option maxHeartbeats 4000000 in
theorem encode_any (l : Int) (vc vp : Value) (cs ps : List (List Int)) (w : World) (his : Ky.isSig l cs ps) (hu : H32 cs) (hu' : H32 ps) (h : Rd w vc 32 (flat cs)) (h' : Rd w vp 32 (flat ps)) : Calls Try.prog 39 #[.agg (List.toArray [.int .i64 l, vc, vp])] w (Post (ι := Value) w [] (fun _ => True) (fun x => .tuple #[x, .int .i64 0]) (fun x => [(0, .own (x) 5 1 (ints .u8 (Ky.enc l cs ps)))])) := by
  obtain ⟨i1, i2, i3, i4⟩ := id his
  have hcat := hu.append hu'
  have hcl : (cs ++ ps).length = 40 := by rw [List.length_append]; omega
  have hsc := rd_shape h
  have hsp := rd_shape h'
  refine calls_at (vs := [.agg (List.toArray [.int .i64 l, vc, vp])]) (X := []) (H := []) (F := [(21, .sl (vp) 32 (flat (ps))), (20, .sl (vc) 32 (flat (cs)))]) 29 Try.func39 rfl rfl rfl ((Sat.rd0 20 h).more 21 h') ?_
  refine cd_seq ?_
  refine cd_region ?_
  refine st_box (h := 1) rfl rfl rfl rfl (fun b1 => ?_)
  refine st (ev_assign rfl) rfl rfl rfl ?_
  refine at_own_nil 2 5 1 ?_
  refine at_heq (i := 2) (v' := .own (.slice none 0 0) 5 1 (ints .u8 [])) rfl rfl ?_
  refine st (ev_assign rfl) rfl rfl rfl ?_
  refine op_nil ?_
  refine ax_then ?_
  refine At.regs (L' := [(1, _), (2, _), (3, _)]) (.cons rfl (.cons rfl (.cons rfl (.nil _)))) ?_
  refine cd_seq ?_
  refine cd_seq ?_
  refine cd_region ?_
  refine st (ld_blk_all (h := 1) ty42 rfl rfl rfl (by first | omega | (simp only [List.length_append, List.length_cons, List.length_nil, List.length_set, List.length_replicate, List.length_take, List.length_drop, ints_length, wr_length, sha_len, node_len, recov_len, Ky.named_len, Ky.keyPub_len, Ky.hashOf_len] <;> omega) | rfl)) rfl rfl rfl ?_
  refine st_callv has37 rfl (fun w1 sw => isSig_any l vc vp cs ps w1 hu hu' (sw.sl_rd (h := 20) rfl) (sw.sl_rd (h := 21) rfl)) rfl rfl ?_
  refine st (ev_not_if rfl) rfl rfl rfl ?_
  refine op_nil ?_
  refine ax_then ?_
  refine At.regs (L' := [(1, _), (2, _), (3, _), (9, _)]) (.cons rfl (.cons rfl (.cons rfl (.cons rfl (.nil _))))) ?_
  refine cd_if_f rfl (fun h => h his) ?_
  refine cd_skip ?_
  refine ax_then ?_
  refine At.regs (L' := [(1, _), (2, _), (3, _)]) (.cons rfl (.cons rfl (.cons rfl (.nil _)))) ?_
  refine cd_seq ?_
  refine cd_region ?_
  refine st_alloc (h := 4) ty91 rfl rfl rfl (fun b4 => ?_)
  refine at_own_nil 100 5 1 ?_
  refine at_heq (i := 100) (v' := .own (.slice none 0 0) 5 1 (ints .u8 ([]))) rfl rfl ?_
  refine op_nil ?_
  refine ax_then ?_
  refine At.regs (L' := [(1, _), (2, _), (3, _), (4, _)]) (.cons rfl (.cons rfl (.cons rfl (.cons rfl (.nil _))))) ?_
  refine cd_seq ?_
  refine cd_region ?_
  refine st (ev_fieldAddr (b := _) Try.underlying42 (f := _) rfl ty3 (by decide) rfl) rfl rfl rfl ?_
  refine st (ld_blk1 (h := 1) ty3 rfl rfl rfl rfl) rfl rfl rfl ?_
  refine st_bsi (h := 12) (xs := [_]) Try.underlying120 ty3 (by decide) rfl rfl (by decide) rfl rfl (fun b12 => ?_)
  refine st_call has61 rfl (fun w1 sw => rn2 4 100 (wnum_any b4 (.slice none 0 0) (.slice (some ⟨b12, 0, none⟩) 1 1) [] l w1 (sw.blk_eq (h := 4) rfl) (sw.hold 100 _ rfl) (sw.own_notin (h := 4) (h' := 100) rfl rfl (by decide)) (sw.own_rd (h := 12) rfl) (sw.own_off (h := 4) (h' := 12) rfl rfl (by decide)) (sw.own_own (h := 100) (h' := 12) rfl rfl (by decide)) (by decide) ⟨by omega, by omega⟩)) (mod_two (k := 4) (j := 100) rfl rfl) rfl rfl (fun v13 _ => ?_)
  refine op_nil ?_
  refine ax_then ?_
  refine At.regs (L' := [(1, _), (2, _), (3, _), (4, _)]) (.cons rfl (.cons rfl (.cons rfl (.cons rfl (.nil _))))) ?_
  refine cd_seq ?_
  refine cd_seq ?_
  refine cd_region ?_
  refine st (ev_fieldAddr (b := _) Try.underlying42 (f := _) rfl ty26 (by decide) rfl) rfl rfl rfl ?_
  refine st (ld_blk1 (h := 1) ty26 rfl rfl rfl rfl) rfl rfl rfl ?_
  refine st (ev_fieldAddr (b := _) Try.underlying42 (f := _) rfl ty26 (by decide) rfl) rfl rfl rfl ?_
  refine st (ld_blk1 (h := 1) ty26 rfl rfl rfl rfl) rfl rfl rfl ?_
  refine st_buildSlice (h := 18) (cells := [vc, vp]) Try.underlying122 ty26 rfl (by decide) (Eq.trans (congrArg (fun z => Instr.fill _ z _) (show _ = List.toArray [Value.slice none 0 0, Value.slice none 0 0] from by kernel_rfl)) ((fill_put (i := 0) (off := 0) (n := 1) (vs := [vc]) rfl hsc.1 rfl (Nat.le_of_ble_eq_true rfl)).trans ((fill_put (i := 1) (off := 1) (n := 1) (vs := [vp]) rfl hsp.1 rfl (Nat.le_of_ble_eq_true rfl)).trans fill_nil))) rfl rfl rfl (fun b18 => ?_)
  refine st_call has62 rfl (fun w1 sw => rn 19 (concat_any (.slice (some ⟨b18, 0, none⟩) 2 2) vc vp cs ps w1 hu hu' (by omega) (by omega) (by omega) (sw.own_rd (h := 18) rfl) (sw.sl_rd (h := 20) rfl) (sw.sl_rd (h := 21) rfl))) nil_all rfl rfl (fun v19 _ => ?_)
  refine st (ev_len_ownh (h := 19) Try.underlying26 rfl rfl (by assumption)) rfl rfl rfl ?_
  refine st (ev_move rfl) rfl rfl rfl ?_
  refine op_nil ?_
  refine ax_then ?_
  refine At.regs (L' := [(2, _), (3, _), (4, _), (19, _), (20, _), (21, _)]) (.cons rfl (.cons rfl (.cons rfl (.cons rfl (.cons rfl (.cons rfl (.nil _))))))) ?_
  refine cd_block ?_
  refine at_heq (i := 100) (v' := .own (v13) 5 1 (ints .u8 (encP l (cs ++ ps) 0))) rfl (by simp [encP]) ?_
  refine cd_loop (ι := Nat × Value) (fun x => x.1 ≤ 40) (fun x => 40 - x.1)
      (fun x => [(4, .pointer (some ⟨b4, 0, none⟩)), (19, v19), (20, .int .i64 ((cs ++ ps).length : Nat)), (21, .int .i64 (x.1 : Int))])
      (fun x => [(4, .blk (b4) (.cells ([x.2]).toArray 91)), (19, .own (v19) 39 32 (flat (cs ++ ps))), (100, .own (x.2) 5 1 (ints .u8 (encP l (cs ++ ps) x.1)))])
      (fun x => [])
      (0, v13) (by omega) (.cons rfl (.cons rfl (.cons rfl (.cons rfl (.nil _))))) (.cons rfl (.cons rfl (.cons rfl (.nil _)))) (.nil _) (fun x hi => ?_)
  have hepl := encP_len l hcat x.1 (by omega)
  have hlen2 : x.1 < 40 → ((cs ++ ps).getD (x.1 : Int).toNat []).length = 32 := fun hh => hcat.get (by omega)
  have e0 : (x.1 : Int).toNat = x.1 := by omega
  refine cd_seq ?_
  refine cd_region ?_
  refine st (ev_lss rfl rfl) rfl rfl rfl ?_
  refine op_nil ?_
  refine ax_then ?_
  refine At.regs (L' := [(4, _), (19, _), (20, _), (21, _), (22, _)]) (.cons rfl (.cons rfl (.cons rfl (.cons rfl (.cons rfl (.nil _)))))) ?_
  refine cd_seq ?_
  refine cd_if rfl (fun hc22 => ?_) (fun hc22 => ?_)
  ·
    have hg := hcat.get (i := (x.1 : Int).toNat) (by omega)
    refine cd_skip ?_
    refine ax_then ?_
    refine At.regs (L' := [(4, _), (19, _), (20, _), (21, _), (22, _)]) (.cons rfl (.cons rfl (.cons rfl (.cons rfl (.cons rfl (.nil _)))))) ?_
    refine cd_seq ?_
    refine cd_block ?_
    refine cd_seq ?_
    refine cd_region ?_
    refine st (ev_indexAddr_ownh (h := 19) Try.underlying26 ty39 rfl rfl rfl (by assumption) (by omega) (by omega)) rfl rfl rfl ?_
    refine st (ld_ownh (h := 19) ty39 rfl rfl rfl (by assumption) (by omega)) rfl rfl rfl ?_
    refine st_alloc (h := 6) ty39 rfl rfl rfl (fun b6 => ?_)
    refine st_store_all 6 ty39 rfl rfl rfl rfl (by first | omega | (simp only [List.length_append, List.length_cons, List.length_nil, List.length_set, List.length_replicate, List.length_take, List.length_drop, ints_length, wr_length, sha_len, node_len, recov_len, Ky.named_len, Ky.keyPub_len, Ky.hashOf_len] <;> omega) | rfl) (ints_one _ _) (by first | omega | (simp only [List.length_append, List.length_cons, List.length_nil, List.length_set, List.length_replicate, List.length_take, List.length_drop, ints_length, wr_length, sha_len, node_len, recov_len, Ky.named_len, Ky.keyPub_len, Ky.hashOf_len] <;> omega) | rfl) rfl ?_
    refine op_nil ?_
    refine ax_then ?_
    refine At.regs (L' := [(4, _), (6, _), (19, _), (20, _), (21, _), (22, _), (23, _), (24, _)]) (.cons rfl (.cons rfl (.cons rfl (.cons rfl (.cons rfl (.cons rfl (.cons rfl (.cons rfl (.nil _))))))))) ?_
    refine cd_region ?_
    refine st (ev_slice_arr_all Try.underlying39 ty5 rfl) rfl rfl rfl ?_
    refine st_call has63 rfl (fun w1 sw => rn2 4 100 (wraw_any b4 x.2 (.slice (some ⟨b6, 0, none⟩) 32 32) (encP l (cs ++ ps) x.1) ((cs ++ ps).getD (x.1 : Int).toNat []) w1 (sw.blk_eq (h := 4) rfl) (sw.hold 100 _ rfl) (sw.own_notin (h := 4) (h' := 100) rfl rfl (by decide)) (rd_blk_all sw (h := 6) rfl (by rw [ints_length, hg])) (sw.blk_off (h := 4) (h' := 6) rfl rfl (by decide)) (sw.ownblk_off (h := 100) (h' := 6) rfl rfl (by decide)) (by omega))) (mod_two (k := 4) (j := 100) rfl rfl) rfl rfl (fun v26 _ => ?_)
    refine op_nil ?_
    refine ax_block ?_
    refine ax_then ?_
    refine At.regs (L' := [(4, _), (6, _), (19, _), (20, _), (21, _), (22, _), (23, _), (24, _), (25, _)]) (.cons rfl (.cons rfl (.cons rfl (.cons rfl (.cons rfl (.cons rfl (.cons rfl (.cons rfl (.cons rfl (.nil _)))))))))) ?_
    refine cd_region ?_
    refine st (ev_add64 rfl rfl (by omega) (by omega)) rfl rfl rfl ?_
    refine st (ev_move rfl) rfl rfl rfl ?_
    refine op_nil ?_
    refine ax_heq (i := 100) (v' := .own (v26) 5 1 (ints .u8 (encP l (cs ++ ps) (x.1 + 1)))) rfl (by rw [encP_step l (by omega), e0]) ?_
    exact at_again ((x.1 + 1, v26)) (by show x.1 + 1 ≤ 40; omega) (by omega) (.cons rfl (.cons rfl (.cons rfl (.cons rfl (.nil _))))) (.cons rfl (.cons rfl (.cons rfl (.nil _)))) (.nil _)
  ·
    obtain ⟨j, u⟩ := x
    dsimp only at hi hc22 ⊢
    obtain rfl : j = 40 := by omega
    refine at_heq (i := 100) (v' := .own (u) 5 1 (ints .u8 (Ky.enc l cs ps))) rfl (by rw [encP, List.take_of_length_le (by omega)]; rfl) ?_
    have hel := Ky.enc_len (leaf := l) hu hu'
    refine cd_exit ?_
    refine ax_then_exit ?_
    refine ax_then_exit ?_
    refine ax_block_hit ?_
    refine ax_then ?_
    refine At.regs (L' := [(4, _)]) (.cons rfl (.nil _)) ?_
    refine cd_seq ?_
    refine cd_region ?_
    refine st_call has64 rfl (fun w1 sw => rn 28 (wout_any b4 u (Ky.enc l cs ps) w1 (by omega) (lies_blk (sw.blk_eq (h := 4) rfl)) (sw.own_rd (h := 100) rfl))) nil_all rfl rfl (fun v28 _ => ?_)
    refine st (ev_assign rfl) rfl rfl rfl ?_
    refine st (ev_assign rfl) rfl rfl rfl ?_
    refine op_nil ?_
    refine ax_then ?_
    refine At.regs (L' := [(2, _), (3, _)]) (.cons rfl (.cons rfl (.nil _))) ?_
    refine cd_ret ?_
    refine rt_tmp2 (.inl rfl) Try.results39 rfl rfl ?_
    exact fun w1 sw => ⟨v28, trivial, rfl, (sw.gives (N := [(28, _)]) (.cons rfl (.nil _))).rn 0⟩
end Go.Proofs.Yteedclmcgifmpaa

namespace Go.Proofs.Yteedclmcgifmpaa
open Go Go.RowKit Fw
open Sha
open Ots
open Mk
set_option linter.unusedVariables false
set_option linter.unusedSimpArgs false
set_option maxRecDepth 20000 in
set_option maxHeartbeats 4000000 in
theorem rnum_g (b : Nat) (rv : Value) (bad : Bool) (r : List Int) (w : World) (hb : w.heap[b]? = some (.cells (List.toArray [rv, .bool bad]) 125)) (h : Rd w rv 1 (ints .u8 r)) (ho : FE.off b (.sl rv 1 (ints .u8 r))) (hr : r.length ≤ 140737488352000) : Calls Try.prog 67 #[.pointer (some ⟨b, 0, none⟩)] w (Post (ι := Value) w [b] (fun x => Rr.Und rv r x (Rr.nRest r)) (fun _ => .int .i64 (Rr.nVal r)) (fun x => [(0, .blk (b) (.cells ([x, .bool (bad || Rr.nBad r)]).toArray 125))])) := by
  refine calls_at (vs := [.pointer (some ⟨b, 0, none⟩)]) (X := [b]) (H := [(0, .blk (b) (.cells ([rv, .bool (bad)]).toArray 125))]) (F := [(1, .sl rv 1 (ints .u8 r))]) 55 Try.func67 rfl rfl rfl ((Sat.blkX 0 hb).readb (f := .sl rv 1 (ints .u8 r)) 1 h ho) ?_
  refine cd_seq ?_
  refine cd_region ?_
  refine st (ev_assign rfl) rfl rfl rfl ?_
  refine op_nil ?_
  refine ax_then ?_
  refine At.regs (L' := [(0, _), (2, _)]) (.cons rfl (.cons rfl (.nil _))) ?_
  refine cd_seq ?_
  refine cd_seq ?_
  refine cd_region ?_
  refine st (ev_move rfl) rfl rfl rfl ?_
  refine st (ev_eql_ptr_nil Try.underlying97 rfl rfl) rfl rfl rfl ?_
  refine op_nil ?_
  refine ax_then ?_
  refine At.regs (L' := [(0, _), (2, _), (7, _)]) (.cons rfl (.cons rfl (.cons rfl (.nil _)))) ?_
  refine cd_false rfl ?_
  refine cd_skip ?_
  refine ax_then ?_
  refine At.regs (L' := [(0, _), (2, _)]) (.cons rfl (.cons rfl (.nil _))) ?_
  refine cd_seq ?_
  refine cd_region ?_
  refine st (ev_assign rfl) rfl rfl rfl ?_
  refine op_nil ?_
  refine ax_then ?_
  refine At.regs (L' := [(0, _), (2, _), (3, _)]) (.cons rfl (.cons rfl (.cons rfl (.nil _)))) ?_
  refine cd_seq ?_
  refine cd_seq ?_
  refine cd_region ?_
  refine st (ev_move rfl) rfl rfl rfl ?_
  refine st (ev_nilCheck rfl) rfl rfl rfl ?_
  refine st (ev_fieldAddr (b := _) Try.underlying125 (f := _) rfl ty22 (by decide) rfl) rfl rfl rfl ?_
  refine st (ld_blk1 (h := 0) ty22 rfl rfl rfl rfl) rfl rfl rfl ?_
  refine st (ev_len_rdi (h := 1) Try.underlying22 rfl rfl) rfl rfl rfl ?_
  refine st (ev_move rfl) rfl rfl rfl ?_
  refine op_nil ?_
  refine ax_then ?_
  refine At.regs (L' := [(0, _), (2, _), (3, _), (11, _), (12, _), (13, _)]) (.cons rfl (.cons rfl (.cons rfl (.cons rfl (.cons rfl (.cons rfl (.nil _))))))) ?_
  refine cd_block ?_
  refine cd_loop (ι := Nat × Int) (fun x => x.1 ≤ r.length ∧ Rr.numG x.1 x.2 (r.drop x.1) = Rr.numS r) (fun x => r.length - x.1)
      (fun x => [(0, .pointer (some ⟨b, 0, none⟩)), (3, .int .u64 x.2), (11, rv), (12, .int .i64 (r.length : Nat)), (13, .int .i64 (x.1 : Int))])
      (fun x => [(0, .blk (b) (.cells ([rv, .bool (bad)]).toArray 125))])
      (fun x => [(1, .sl rv 1 (ints .u8 r))])
      (0, 0) (⟨by omega, by rw [List.drop_zero]; rfl⟩) (.cons rfl (.cons rfl (.cons rfl (.cons rfl (.cons rfl (.nil _)))))) (.cons rfl (.nil _)) (.cons rfl (.nil _)) (fun x hi => ?_)
  obtain ⟨i, u⟩ := x
  dsimp only at hi ⊢
  have hi1 := hi.1
  refine cd_seq ?_
  refine cd_region ?_
  refine st (ev_lss rfl rfl) rfl rfl rfl ?_
  refine op_nil ?_
  refine ax_then ?_
  refine At.regs (L' := [(0, _), (3, _), (11, _), (12, _), (13, _), (14, _)]) (.cons rfl (.cons rfl (.cons rfl (.cons rfl (.cons rfl (.cons rfl (.nil _))))))) ?_
  refine cd_seq ?_
  refine cd_if rfl (fun hc14 => ?_) (fun hc14 => ?_)
  ·
    have hlt : i < r.length := by omega
    have hd0 := Rr.drop_head hlt
    obtain ⟨c, hc⟩ : ∃ c, c = r.getD i 0 := ⟨_, rfl⟩
    have hd : r.drop i = c :: r.drop (i + 1) := by rw [hc]; exact hd0
    refine cd_skip ?_
    refine ax_then ?_
    refine At.regs (L' := [(0, _), (3, _), (11, _), (12, _), (13, _), (14, _)]) (.cons rfl (.cons rfl (.cons rfl (.cons rfl (.cons rfl (.cons rfl (.nil _))))))) ?_
    refine cd_seq ?_
    refine cd_block ?_
    refine cd_seq ?_
    refine cd_region ?_
    refine st (ev_move rfl) rfl rfl rfl ?_
    refine st (ev_indexAddr_rdi (h := 1) Try.underlying22 ty5 rfl rfl rfl (by omega) (by first | omega | (simp only [List.length_append, List.length_cons, List.length_nil, List.length_set, List.length_replicate, List.length_take, List.length_drop, ints_length, wr_length, sha_len, node_len, recov_len, Ky.named_len, Ky.keyPub_len, Ky.hashOf_len] <;> omega))) rfl rfl rfl ?_
    refine st (ld_rd1 (h := 1) ty5 rfl rfl rfl (ints_get _ _ _ (by first | omega | (simp only [List.length_append, List.length_cons, List.length_nil, List.length_set, List.length_replicate, List.length_take, List.length_drop, ints_length, wr_length, sha_len, node_len, recov_len, Ky.named_len, Ky.keyPub_len, Ky.hashOf_len] <;> omega) | rfl))) rfl rfl rfl ?_
    refine at_eq (i := 17) (v' := .int .u8 c) rfl (by rw [hc, Int.toNat_natCast]) ?_
    refine st (ev_assign rfl) rfl rfl rfl ?_
    refine st (ev_assign rfl) rfl rfl rfl ?_
    refine op_nil ?_
    refine ax_then ?_
    refine At.regs (L' := [(0, _), (3, _), (4, _), (5, _), (11, _), (12, _), (13, _), (14, _), (15, _), (16, _), (17, _)]) (.cons rfl (.cons rfl (.cons rfl (.cons rfl (.cons rfl (.cons rfl (.cons rfl (.cons rfl (.cons rfl (.cons rfl (.cons rfl (.nil _)))))))))))) ?_
    refine cd_seq ?_
    refine cd_seq ?_
    refine cd_region ?_
    refine st (ev_move rfl) rfl rfl rfl ?_
    refine st (ev_geq rfl rfl) rfl rfl rfl ?_
    refine st (ev_move rfl) rfl rfl rfl ?_
    refine at_split_if (i := 20) rfl (fun hg20 => ?_) (fun hg20 => ?_)
    ·
      refine st_skip rfl rfl rfl ?_
      refine st_skip rfl rfl rfl ?_
      refine st_skip rfl rfl rfl ?_
      refine st_skip rfl rfl rfl ?_
      refine st_skip rfl rfl rfl ?_
      refine st_skip rfl rfl rfl ?_
      refine st (ev_pick_t rfl rfl) rfl rfl rfl ?_
      refine op_nil ?_
      refine ax_then ?_
      refine At.regs (L' := [(0, _), (3, _), (4, _), (5, _), (11, _), (12, _), (13, _), (14, _), (15, _), (16, _), (17, _), (18, _), (19, _), (20, _), (21, _), (22, _), (23, _), (24, _), (25, _), (26, _), (27, _)]) (.cons rfl (.cons rfl (.cons rfl (.cons rfl (.cons rfl (.cons rfl (.cons rfl (.cons rfl (.cons rfl (.cons rfl (.cons rfl (.cons rfl (.cons rfl (.cons rfl (.cons rfl (.cons rfl (.cons rfl (.cons rfl (.cons rfl (.cons rfl (.cons rfl (.nil _)))))))))))))))))))))) ?_
      refine cd_true rfl ?_
      refine cd_exit ?_
      refine ax_then_exit ?_
      refine ax_block_miss (by decide) ?_
      refine ax_then_exit ?_
      refine ax_then_exit ?_
      refine ax_block_hit ?_
      refine ax_then ?_
      refine At.regs (L' := [(0, _)]) (.cons rfl (.nil _)) ?_
      refine cd_seq ?_
      refine cd_region ?_
      refine st (ev_move rfl) rfl rfl rfl ?_
      refine st_call has93 rfl (fun w1 sw => rbad_any b rv bad w1 (sw.blk_eq (h := 0) rfl)) (mod_blk rfl) rfl rfl (fun _ _ => ?_)
      refine op_nil ?_
      refine ax_then ?_
      refine At.regs (L' := []) (.nil _) ?_
      refine cd_seq ?_
      refine cd_region ?_
      refine st (ev_assign rfl) rfl rfl rfl ?_
      refine op_nil ?_
      refine ax_then ?_
      refine At.regs (L' := [(2, _)]) (.cons rfl (.nil _)) ?_
      refine cd_ret ?_
      refine rt_tmp (.inl rfl) Try.results67 rfl ?_
      first
      | (exact fun w1 sw => ⟨cutAt 1 rv (i + 1) r.length, Rr.nUnd_ok rv hs, by rw [(Rr.nVal_ok hs).1], by rw [(Rr.nVal_ok hs).2.1, Bool.or_false]; exact sw.gives (N := [(0, _)]) (.cons rfl (.nil _))⟩)
      | (have hnone : Rr.numS r = none := by
           rw [← hi.2]
           first
           | (rw [show i = r.length by omega, List.drop_length]; rfl)
           | (rw [hd]; first | exact Rr.numG_brk (by omega) | exact Rr.numG_big (by omega) (by omega))
         exact fun w1 sw => ⟨Ky.nil0, Rr.nUnd_no rv hnone, by rw [(Rr.nVal_no hnone).1], by rw [(Rr.nVal_no hnone).2.1, Bool.or_true]; exact sw.gives (N := [(0, _)]) (.cons rfl (.nil _))⟩)
    ·
      refine st (ev_move rfl) rfl rfl rfl ?_
      refine st (ev_gtr rfl rfl) rfl rfl rfl ?_
      refine st (ev_move rfl) rfl rfl rfl ?_
      refine at_split_if (i := 23) rfl (fun hg23 => ?_) (fun hg23 => ?_)
      ·
        refine st (ev_move rfl) rfl rfl rfl ?_
        refine st (ev_eql rfl rfl) rfl rfl rfl ?_
        refine st (ev_pick_t rfl rfl) rfl rfl rfl ?_
        refine st (ev_pick_f rfl rfl) rfl rfl rfl ?_
        refine op_nil ?_
        refine ax_then ?_
        refine At.regs (L' := [(0, _), (3, _), (4, _), (5, _), (11, _), (12, _), (13, _), (14, _), (15, _), (16, _), (17, _), (18, _), (19, _), (20, _), (21, _), (22, _), (23, _), (24, _), (25, _), (26, _), (27, _)]) (.cons rfl (.cons rfl (.cons rfl (.cons rfl (.cons rfl (.cons rfl (.cons rfl (.cons rfl (.cons rfl (.cons rfl (.cons rfl (.cons rfl (.cons rfl (.cons rfl (.cons rfl (.cons rfl (.cons rfl (.cons rfl (.cons rfl (.cons rfl (.cons rfl (.nil _)))))))))))))))))))))) ?_
        refine cd_if rfl (fun hc27 => ?_) (fun hc27 => ?_)
        ·
          refine cd_exit ?_
          refine ax_then_exit ?_
          refine ax_block_miss (by decide) ?_
          refine ax_then_exit ?_
          refine ax_then_exit ?_
          refine ax_block_hit ?_
          refine ax_then ?_
          refine At.regs (L' := [(0, _)]) (.cons rfl (.nil _)) ?_
          refine cd_seq ?_
          refine cd_region ?_
          refine st (ev_move rfl) rfl rfl rfl ?_
          refine st_call has93 rfl (fun w1 sw => rbad_any b rv bad w1 (sw.blk_eq (h := 0) rfl)) (mod_blk rfl) rfl rfl (fun _ _ => ?_)
          refine op_nil ?_
          refine ax_then ?_
          refine At.regs (L' := []) (.nil _) ?_
          refine cd_seq ?_
          refine cd_region ?_
          refine st (ev_assign rfl) rfl rfl rfl ?_
          refine op_nil ?_
          refine ax_then ?_
          refine At.regs (L' := [(2, _)]) (.cons rfl (.nil _)) ?_
          refine cd_ret ?_
          refine rt_tmp (.inl rfl) Try.results67 rfl ?_
          first
          | (exact fun w1 sw => ⟨cutAt 1 rv (i + 1) r.length, Rr.nUnd_ok rv hs, by rw [(Rr.nVal_ok hs).1], by rw [(Rr.nVal_ok hs).2.1, Bool.or_false]; exact sw.gives (N := [(0, _)]) (.cons rfl (.nil _))⟩)
          | (have hnone : Rr.numS r = none := by
               rw [← hi.2]
               first
               | (rw [show i = r.length by omega, List.drop_length]; rfl)
               | (rw [hd]; first | exact Rr.numG_brk (by omega) | exact Rr.numG_big (by omega) (by omega))
             exact fun w1 sw => ⟨Ky.nil0, Rr.nUnd_no rv hnone, by rw [(Rr.nVal_no hnone).1], by rw [(Rr.nVal_no hnone).2.1, Bool.or_true]; exact sw.gives (N := [(0, _)]) (.cons rfl (.nil _))⟩)
        ·
          refine cd_skip ?_
          refine ax_then ?_
          refine At.regs (L' := [(0, _), (3, _), (4, _), (5, _), (11, _), (12, _), (13, _), (14, _), (15, _), (16, _), (17, _), (18, _), (19, _), (20, _), (21, _), (22, _), (23, _), (24, _), (25, _), (26, _), (27, _)]) (.cons rfl (.cons rfl (.cons rfl (.cons rfl (.cons rfl (.cons rfl (.cons rfl (.cons rfl (.cons rfl (.cons rfl (.cons rfl (.cons rfl (.cons rfl (.cons rfl (.cons rfl (.cons rfl (.cons rfl (.cons rfl (.cons rfl (.cons rfl (.cons rfl (.nil _)))))))))))))))))))))) ?_
          refine cd_seq ?_
          refine cd_region ?_
          refine st (ev_move rfl) rfl rfl rfl ?_
          have hnb : ¬ (i ≥ 9 ∨ (i > 0 ∧ c = 0)) := by omega
          refine st (ev_move rfl) rfl rfl rfl ?_
          refine st (ev_and rfl rfl) rfl rfl rfl ?_
          refine st (ev_conv Try.underlying5 Try.underlying121 rfl) rfl rfl rfl ?_
          refine st (ev_move rfl) rfl rfl rfl ?_
          refine st (ev_mul64 rfl rfl (by omega) (by omega)) rfl rfl rfl ?_
          refine st (ev_shl rfl rfl (by omega)) rfl rfl rfl ?_
          refine st (ev_or rfl rfl) rfl rfl rfl ?_
          refine at_eq (i := 35) (v' := .int .u64 (Rr.acc u c i)) rfl rfl ?_
          refine st (ev_assign rfl) rfl rfl rfl ?_
          refine op_nil ?_
          refine ax_then ?_
          refine At.regs (L' := [(0, _), (3, _), (4, _), (5, _), (11, _), (12, _), (13, _), (14, _), (15, _), (16, _), (17, _), (18, _), (19, _), (20, _), (21, _), (22, _), (23, _), (24, _), (25, _), (26, _), (27, _), (28, _), (29, _), (30, _), (31, _), (32, _), (33, _), (34, _), (35, _)]) (.cons rfl (.cons rfl (.cons rfl (.cons rfl (.cons rfl (.cons rfl (.cons rfl (.cons rfl (.cons rfl (.cons rfl (.cons rfl (.cons rfl (.cons rfl (.cons rfl (.cons rfl (.cons rfl (.cons rfl (.cons rfl (.cons rfl (.cons rfl (.cons rfl (.cons rfl (.cons rfl (.cons rfl (.cons rfl (.cons rfl (.cons rfl (.cons rfl (.cons rfl (.nil _)))))))))))))))))))))))))))))) ?_
          refine cd_seq ?_
          refine cd_region ?_
          refine st (ev_move rfl) rfl rfl rfl ?_
          refine st (ev_lss rfl rfl) rfl rfl rfl ?_
          refine op_nil ?_
          refine ax_then ?_
          refine At.regs (L' := [(0, _), (3, _), (4, _), (5, _), (11, _), (12, _), (13, _), (14, _), (15, _), (16, _), (17, _), (18, _), (19, _), (20, _), (21, _), (22, _), (23, _), (24, _), (25, _), (26, _), (27, _), (28, _), (29, _), (30, _), (31, _), (32, _), (33, _), (34, _), (35, _), (36, _), (37, _)]) (.cons rfl (.cons rfl (.cons rfl (.cons rfl (.cons rfl (.cons rfl (.cons rfl (.cons rfl (.cons rfl (.cons rfl (.cons rfl (.cons rfl (.cons rfl (.cons rfl (.cons rfl (.cons rfl (.cons rfl (.cons rfl (.cons rfl (.cons rfl (.cons rfl (.cons rfl (.cons rfl (.cons rfl (.cons rfl (.cons rfl (.cons rfl (.cons rfl (.cons rfl (.cons rfl (.cons rfl (.nil _)))))))))))))))))))))))))))))))) ?_
          refine cd_if rfl (fun hc37 => ?_) (fun hc37 => ?_)
          ·
            refine cd_seq ?_
            refine cd_seq ?_
            refine cd_region ?_
            refine st (ev_move rfl) rfl rfl rfl ?_
            refine st (ev_gtr rfl rfl) rfl rfl rfl ?_
            refine op_nil ?_
            refine ax_then ?_
            refine At.regs (L' := [(0, _), (3, _), (4, _), (5, _), (11, _), (12, _), (13, _), (14, _), (15, _), (16, _), (17, _), (18, _), (19, _), (20, _), (21, _), (22, _), (23, _), (24, _), (25, _), (26, _), (27, _), (28, _), (29, _), (30, _), (31, _), (32, _), (33, _), (34, _), (35, _), (36, _), (37, _), (38, _), (39, _)]) (.cons rfl (.cons rfl (.cons rfl (.cons rfl (.cons rfl (.cons rfl (.cons rfl (.cons rfl (.cons rfl (.cons rfl (.cons rfl (.cons rfl (.cons rfl (.cons rfl (.cons rfl (.cons rfl (.cons rfl (.cons rfl (.cons rfl (.cons rfl (.cons rfl (.cons rfl (.cons rfl (.cons rfl (.cons rfl (.cons rfl (.cons rfl (.cons rfl (.cons rfl (.cons rfl (.cons rfl (.cons rfl (.cons rfl (.nil _)))))))))))))))))))))))))))))))))) ?_
            refine cd_if rfl (fun hc39 => ?_) (fun hc39 => ?_)
            ·
              refine cd_exit ?_
              refine ax_then_exit ?_
              refine ax_block_miss (by decide) ?_
              refine ax_then_exit ?_
              refine ax_then_exit ?_
              refine ax_block_hit ?_
              refine ax_then ?_
              refine At.regs (L' := [(0, _)]) (.cons rfl (.nil _)) ?_
              refine cd_seq ?_
              refine cd_region ?_
              refine st (ev_move rfl) rfl rfl rfl ?_
              refine st_call has93 rfl (fun w1 sw => rbad_any b rv bad w1 (sw.blk_eq (h := 0) rfl)) (mod_blk rfl) rfl rfl (fun _ _ => ?_)
              refine op_nil ?_
              refine ax_then ?_
              refine At.regs (L' := []) (.nil _) ?_
              refine cd_seq ?_
              refine cd_region ?_
              refine st (ev_assign rfl) rfl rfl rfl ?_
              refine op_nil ?_
              refine ax_then ?_
              refine At.regs (L' := [(2, _)]) (.cons rfl (.nil _)) ?_
              refine cd_ret ?_
              refine rt_tmp (.inl rfl) Try.results67 rfl ?_
              first
              | (exact fun w1 sw => ⟨cutAt 1 rv (i + 1) r.length, Rr.nUnd_ok rv hs, by rw [(Rr.nVal_ok hs).1], by rw [(Rr.nVal_ok hs).2.1, Bool.or_false]; exact sw.gives (N := [(0, _)]) (.cons rfl (.nil _))⟩)
              | (have hnone : Rr.numS r = none := by
                   rw [← hi.2]
                   first
                   | (rw [show i = r.length by omega, List.drop_length]; rfl)
                   | (rw [hd]; first | exact Rr.numG_brk (by omega) | exact Rr.numG_big (by omega) (by omega))
                 exact fun w1 sw => ⟨Ky.nil0, Rr.nUnd_no rv hnone, by rw [(Rr.nVal_no hnone).1], by rw [(Rr.nVal_no hnone).2.1, Bool.or_true]; exact sw.gives (N := [(0, _)]) (.cons rfl (.nil _))⟩)
            ·
              refine cd_skip ?_
              refine ax_then ?_
              refine At.regs (L' := [(0, _), (3, _), (4, _), (5, _), (11, _), (12, _), (13, _), (14, _), (15, _), (16, _), (17, _), (18, _), (19, _), (20, _), (21, _), (22, _), (23, _), (24, _), (25, _), (26, _), (27, _), (28, _), (29, _), (30, _), (31, _), (32, _), (33, _), (34, _), (35, _), (36, _), (37, _), (38, _), (39, _)]) (.cons rfl (.cons rfl (.cons rfl (.cons rfl (.cons rfl (.cons rfl (.cons rfl (.cons rfl (.cons rfl (.cons rfl (.cons rfl (.cons rfl (.cons rfl (.cons rfl (.cons rfl (.cons rfl (.cons rfl (.cons rfl (.cons rfl (.cons rfl (.cons rfl (.cons rfl (.cons rfl (.cons rfl (.cons rfl (.cons rfl (.cons rfl (.cons rfl (.cons rfl (.cons rfl (.cons rfl (.cons rfl (.cons rfl (.nil _)))))))))))))))))))))))))))))))))) ?_
              refine cd_seq ?_
              refine cd_region ?_
              refine st (ev_move rfl) rfl rfl rfl ?_
              have hs : Rr.numS r = some (Rr.acc u c i, i + 1) := by rw [← hi.2, hd]; exact Rr.numG_ok hnb (by omega) hc39
              have hap := Rr.acc_pos u c i
              have hrng := Rr.numS_spec hs
              refine st (ev_move rfl) rfl rfl rfl ?_
              refine st (ev_nilCheck rfl) rfl rfl rfl ?_
              refine st (ev_fieldAddr (b := _) Try.underlying125 (f := _) rfl ty22 (by decide) rfl) rfl rfl rfl ?_
              refine st (ld_blk1 (h := 0) ty22 rfl rfl rfl rfl) rfl rfl rfl ?_
              refine st (ev_move rfl) rfl rfl rfl ?_
              refine st (ev_add64 rfl rfl (by omega) (by omega)) rfl rfl rfl ?_
              refine st (ev_slicei_lo Try.underlying22 ty5 rfl rfl (fun w1 sw => sw.sl_rd (h := 1) rfl) (by omega) (by first | omega | (simp only [List.length_append, List.length_cons, List.length_nil, List.length_set, List.length_replicate, List.length_take, List.length_drop, ints_length, wr_length, sha_len, node_len, recov_len, Ky.named_len, Ky.keyPub_len, Ky.hashOf_len] <;> omega))) rfl rfl rfl ?_
              refine at_eq (i := 47) (v' := cutAt 1 rv (i + 1) r.length) rfl rfl ?_
              refine st (ev_nilCheck rfl) rfl rfl rfl ?_
              refine st (ev_fieldAddr (b := _) Try.underlying125 (f := _) rfl ty22 (by decide) rfl) rfl rfl rfl ?_
              refine st_store1 0 ty22 rfl rfl rfl (rd_shape (h.cuti (lo := i + 1) (hi := r.length) (by omega) (Nat.le_refl _))).2 (show 0 < 2 from by decide) rfl ?_
              refine at_heq (i := 0) (v' := .blk (b) (.cells ([cutAt 1 rv (i + 1) r.length, .bool (bad)]).toArray 125)) rfl rfl ?_
              refine op_nil ?_
              refine ax_then ?_
              refine At.regs (L' := [(0, _), (3, _), (4, _), (5, _), (11, _), (12, _), (13, _), (14, _), (15, _), (16, _), (17, _), (18, _), (19, _), (20, _), (21, _), (22, _), (23, _), (24, _), (25, _), (26, _), (27, _), (28, _), (29, _), (30, _), (31, _), (32, _), (33, _), (34, _), (35, _), (36, _), (37, _), (38, _), (39, _), (40, _), (41, _), (42, _), (43, _), (44, _), (45, _), (46, _), (47, _), (48, _), (49, _)]) (.cons rfl (.cons rfl (.cons rfl (.cons rfl (.cons rfl (.cons rfl (.cons rfl (.cons rfl (.cons rfl (.cons rfl (.cons rfl (.cons rfl (.cons rfl (.cons rfl (.cons rfl (.cons rfl (.cons rfl (.cons rfl (.cons rfl (.cons rfl (.cons rfl (.cons rfl (.cons rfl (.cons rfl (.cons rfl (.cons rfl (.cons rfl (.cons rfl (.cons rfl (.cons rfl (.cons rfl (.cons rfl (.cons rfl (.cons rfl (.cons rfl (.cons rfl (.cons rfl (.cons rfl (.cons rfl (.cons rfl (.cons rfl (.cons rfl (.cons rfl (.nil _)))))))))))))))))))))))))))))))))))))))))))) ?_
              refine cd_seq ?_
              refine cd_region ?_
              refine st (ev_move rfl) rfl rfl rfl ?_
              refine st (ev_conv64 Try.underlying121 Try.underlying3 rfl (by omega) (by omega)) rfl rfl rfl ?_
              refine st (ev_assign rfl) rfl rfl rfl ?_
              refine op_nil ?_
              refine ax_then ?_
              refine At.regs (L' := [(0, _), (2, _), (3, _), (4, _), (5, _), (11, _), (12, _), (13, _), (14, _), (15, _), (16, _), (17, _), (18, _), (19, _), (20, _), (21, _), (22, _), (23, _), (24, _), (25, _), (26, _), (27, _), (28, _), (29, _), (30, _), (31, _), (32, _), (33, _), (34, _), (35, _), (36, _), (37, _), (38, _), (39, _), (40, _), (41, _), (42, _), (43, _), (44, _), (45, _), (46, _), (47, _), (48, _), (49, _), (50, _), (51, _)]) (.cons rfl (.cons rfl (.cons rfl (.cons rfl (.cons rfl (.cons rfl (.cons rfl (.cons rfl (.cons rfl (.cons rfl (.cons rfl (.cons rfl (.cons rfl (.cons rfl (.cons rfl (.cons rfl (.cons rfl (.cons rfl (.cons rfl (.cons rfl (.cons rfl (.cons rfl (.cons rfl (.cons rfl (.cons rfl (.cons rfl (.cons rfl (.cons rfl (.cons rfl (.cons rfl (.cons rfl (.cons rfl (.cons rfl (.cons rfl (.cons rfl (.cons rfl (.cons rfl (.cons rfl (.cons rfl (.cons rfl (.cons rfl (.cons rfl (.cons rfl (.cons rfl (.cons rfl (.cons rfl (.nil _))))))))))))))))))))))))))))))))))))))))))))))) ?_
              refine cd_ret ?_
              refine ax_block_ret ?_
              refine ax_then_ret ?_
              refine ax_then_ret ?_
              refine ax_block_ret ?_
              refine ax_then_ret ?_
              refine rt_tmp (.inl rfl) Try.results67 rfl ?_
              first
              | (exact fun w1 sw => ⟨cutAt 1 rv (i + 1) r.length, Rr.nUnd_ok rv hs, by rw [(Rr.nVal_ok hs).1], by rw [(Rr.nVal_ok hs).2.1, Bool.or_false]; exact sw.gives (N := [(0, _)]) (.cons rfl (.nil _))⟩)
              | (have hnone : Rr.numS r = none := by
                   rw [← hi.2]
                   first
                   | (rw [show i = r.length by omega, List.drop_length]; rfl)
                   | (rw [hd]; first | exact Rr.numG_brk (by omega) | exact Rr.numG_big (by omega) (by omega))
                 exact fun w1 sw => ⟨Ky.nil0, Rr.nUnd_no rv hnone, by rw [(Rr.nVal_no hnone).1], by rw [(Rr.nVal_no hnone).2.1, Bool.or_true]; exact sw.gives (N := [(0, _)]) (.cons rfl (.nil _))⟩)
          ·
            refine cd_skip ?_
            refine ax_block ?_
            refine ax_then ?_
            refine At.regs (L' := [(0, _), (3, _), (4, _), (5, _), (11, _), (12, _), (13, _), (14, _), (15, _), (16, _), (17, _), (18, _), (19, _), (20, _), (21, _), (22, _), (23, _), (24, _), (25, _), (26, _), (27, _), (28, _), (29, _), (30, _), (31, _), (32, _), (33, _), (34, _), (35, _), (36, _), (37, _)]) (.cons rfl (.cons rfl (.cons rfl (.cons rfl (.cons rfl (.cons rfl (.cons rfl (.cons rfl (.cons rfl (.cons rfl (.cons rfl (.cons rfl (.cons rfl (.cons rfl (.cons rfl (.cons rfl (.cons rfl (.cons rfl (.cons rfl (.cons rfl (.cons rfl (.cons rfl (.cons rfl (.cons rfl (.cons rfl (.cons rfl (.cons rfl (.cons rfl (.cons rfl (.cons rfl (.cons rfl (.nil _)))))))))))))))))))))))))))))))) ?_
            refine cd_region ?_
            refine st (ev_add64 rfl rfl (by omega) (by omega)) rfl rfl rfl ?_
            refine st (ev_move rfl) rfl rfl rfl ?_
            refine op_nil ?_
            exact at_again ((i + 1, Rr.acc u c i)) (⟨by show i + 1 ≤ r.length; omega, by show Rr.numG (i + 1) (Rr.acc u c i) (r.drop (i + 1)) = Rr.numS r; rw [← Rr.numG_go hnb (by omega), ← hd]; exact hi.2⟩) (by omega) (.cons rfl (.cons rfl (.cons rfl (.cons rfl (.cons rfl (.nil _)))))) (.cons rfl (.nil _)) (.cons rfl (.nil _))
      ·
        refine st_skip rfl rfl rfl ?_
        refine st_skip rfl rfl rfl ?_
        refine st (ev_pick_f rfl rfl) rfl rfl rfl ?_
        refine st (ev_pick_f rfl rfl) rfl rfl rfl ?_
        refine op_nil ?_
        refine ax_then ?_
        refine At.regs (L' := [(0, _), (3, _), (4, _), (5, _), (11, _), (12, _), (13, _), (14, _), (15, _), (16, _), (17, _), (18, _), (19, _), (20, _), (21, _), (22, _), (23, _), (24, _), (25, _), (26, _), (27, _)]) (.cons rfl (.cons rfl (.cons rfl (.cons rfl (.cons rfl (.cons rfl (.cons rfl (.cons rfl (.cons rfl (.cons rfl (.cons rfl (.cons rfl (.cons rfl (.cons rfl (.cons rfl (.cons rfl (.cons rfl (.cons rfl (.cons rfl (.cons rfl (.cons rfl (.nil _)))))))))))))))))))))) ?_
        refine cd_false rfl ?_
        refine cd_skip ?_
        refine ax_then ?_
        refine At.regs (L' := [(0, _), (3, _), (4, _), (5, _), (11, _), (12, _), (13, _), (14, _), (15, _), (16, _), (17, _), (18, _), (19, _), (20, _), (21, _), (22, _), (23, _), (24, _), (25, _), (26, _), (27, _)]) (.cons rfl (.cons rfl (.cons rfl (.cons rfl (.cons rfl (.cons rfl (.cons rfl (.cons rfl (.cons rfl (.cons rfl (.cons rfl (.cons rfl (.cons rfl (.cons rfl (.cons rfl (.cons rfl (.cons rfl (.cons rfl (.cons rfl (.cons rfl (.cons rfl (.nil _)))))))))))))))))))))) ?_
        refine cd_seq ?_
        refine cd_region ?_
        refine st (ev_move rfl) rfl rfl rfl ?_
        have hnb : ¬ (i ≥ 9 ∨ (i > 0 ∧ c = 0)) := by omega
        refine st (ev_move rfl) rfl rfl rfl ?_
        refine st (ev_and rfl rfl) rfl rfl rfl ?_
        refine st (ev_conv Try.underlying5 Try.underlying121 rfl) rfl rfl rfl ?_
        refine st (ev_move rfl) rfl rfl rfl ?_
        refine st (ev_mul64 rfl rfl (by omega) (by omega)) rfl rfl rfl ?_
        refine st (ev_shl rfl rfl (by omega)) rfl rfl rfl ?_
        refine st (ev_or rfl rfl) rfl rfl rfl ?_
        refine at_eq (i := 35) (v' := .int .u64 (Rr.acc u c i)) rfl rfl ?_
        refine st (ev_assign rfl) rfl rfl rfl ?_
        refine op_nil ?_
        refine ax_then ?_
        refine At.regs (L' := [(0, _), (3, _), (4, _), (5, _), (11, _), (12, _), (13, _), (14, _), (15, _), (16, _), (17, _), (18, _), (19, _), (20, _), (21, _), (22, _), (23, _), (24, _), (25, _), (26, _), (27, _), (28, _), (29, _), (30, _), (31, _), (32, _), (33, _), (34, _), (35, _)]) (.cons rfl (.cons rfl (.cons rfl (.cons rfl (.cons rfl (.cons rfl (.cons rfl (.cons rfl (.cons rfl (.cons rfl (.cons rfl (.cons rfl (.cons rfl (.cons rfl (.cons rfl (.cons rfl (.cons rfl (.cons rfl (.cons rfl (.cons rfl (.cons rfl (.cons rfl (.cons rfl (.cons rfl (.cons rfl (.cons rfl (.cons rfl (.cons rfl (.cons rfl (.nil _)))))))))))))))))))))))))))))) ?_
        refine cd_seq ?_
        refine cd_region ?_
        refine st (ev_move rfl) rfl rfl rfl ?_
        refine st (ev_lss rfl rfl) rfl rfl rfl ?_
        refine op_nil ?_
        refine ax_then ?_
        refine At.regs (L' := [(0, _), (3, _), (4, _), (5, _), (11, _), (12, _), (13, _), (14, _), (15, _), (16, _), (17, _), (18, _), (19, _), (20, _), (21, _), (22, _), (23, _), (24, _), (25, _), (26, _), (27, _), (28, _), (29, _), (30, _), (31, _), (32, _), (33, _), (34, _), (35, _), (36, _), (37, _)]) (.cons rfl (.cons rfl (.cons rfl (.cons rfl (.cons rfl (.cons rfl (.cons rfl (.cons rfl (.cons rfl (.cons rfl (.cons rfl (.cons rfl (.cons rfl (.cons rfl (.cons rfl (.cons rfl (.cons rfl (.cons rfl (.cons rfl (.cons rfl (.cons rfl (.cons rfl (.cons rfl (.cons rfl (.cons rfl (.cons rfl (.cons rfl (.cons rfl (.cons rfl (.cons rfl (.cons rfl (.nil _)))))))))))))))))))))))))))))))) ?_
        refine cd_if rfl (fun hc37 => ?_) (fun hc37 => ?_)
        ·
          refine cd_seq ?_
          refine cd_seq ?_
          refine cd_region ?_
          refine st (ev_move rfl) rfl rfl rfl ?_
          refine st (ev_gtr rfl rfl) rfl rfl rfl ?_
          refine op_nil ?_
          refine ax_then ?_
          refine At.regs (L' := [(0, _), (3, _), (4, _), (5, _), (11, _), (12, _), (13, _), (14, _), (15, _), (16, _), (17, _), (18, _), (19, _), (20, _), (21, _), (22, _), (23, _), (24, _), (25, _), (26, _), (27, _), (28, _), (29, _), (30, _), (31, _), (32, _), (33, _), (34, _), (35, _), (36, _), (37, _), (38, _), (39, _)]) (.cons rfl (.cons rfl (.cons rfl (.cons rfl (.cons rfl (.cons rfl (.cons rfl (.cons rfl (.cons rfl (.cons rfl (.cons rfl (.cons rfl (.cons rfl (.cons rfl (.cons rfl (.cons rfl (.cons rfl (.cons rfl (.cons rfl (.cons rfl (.cons rfl (.cons rfl (.cons rfl (.cons rfl (.cons rfl (.cons rfl (.cons rfl (.cons rfl (.cons rfl (.cons rfl (.cons rfl (.cons rfl (.cons rfl (.nil _)))))))))))))))))))))))))))))))))) ?_
          refine cd_if rfl (fun hc39 => ?_) (fun hc39 => ?_)
          ·
            refine cd_exit ?_
            refine ax_then_exit ?_
            refine ax_block_miss (by decide) ?_
            refine ax_then_exit ?_
            refine ax_then_exit ?_
            refine ax_block_hit ?_
            refine ax_then ?_
            refine At.regs (L' := [(0, _)]) (.cons rfl (.nil _)) ?_
            refine cd_seq ?_
            refine cd_region ?_
            refine st (ev_move rfl) rfl rfl rfl ?_
            refine st_call has93 rfl (fun w1 sw => rbad_any b rv bad w1 (sw.blk_eq (h := 0) rfl)) (mod_blk rfl) rfl rfl (fun _ _ => ?_)
            refine op_nil ?_
            refine ax_then ?_
            refine At.regs (L' := []) (.nil _) ?_
            refine cd_seq ?_
            refine cd_region ?_
            refine st (ev_assign rfl) rfl rfl rfl ?_
            refine op_nil ?_
            refine ax_then ?_
            refine At.regs (L' := [(2, _)]) (.cons rfl (.nil _)) ?_
            refine cd_ret ?_
            refine rt_tmp (.inl rfl) Try.results67 rfl ?_
            first
            | (exact fun w1 sw => ⟨cutAt 1 rv (i + 1) r.length, Rr.nUnd_ok rv hs, by rw [(Rr.nVal_ok hs).1], by rw [(Rr.nVal_ok hs).2.1, Bool.or_false]; exact sw.gives (N := [(0, _)]) (.cons rfl (.nil _))⟩)
            | (have hnone : Rr.numS r = none := by
                 rw [← hi.2]
                 first
                 | (rw [show i = r.length by omega, List.drop_length]; rfl)
                 | (rw [hd]; first | exact Rr.numG_brk (by omega) | exact Rr.numG_big (by omega) (by omega))
               exact fun w1 sw => ⟨Ky.nil0, Rr.nUnd_no rv hnone, by rw [(Rr.nVal_no hnone).1], by rw [(Rr.nVal_no hnone).2.1, Bool.or_true]; exact sw.gives (N := [(0, _)]) (.cons rfl (.nil _))⟩)
          ·
            refine cd_skip ?_
            refine ax_then ?_
            refine At.regs (L' := [(0, _), (3, _), (4, _), (5, _), (11, _), (12, _), (13, _), (14, _), (15, _), (16, _), (17, _), (18, _), (19, _), (20, _), (21, _), (22, _), (23, _), (24, _), (25, _), (26, _), (27, _), (28, _), (29, _), (30, _), (31, _), (32, _), (33, _), (34, _), (35, _), (36, _), (37, _), (38, _), (39, _)]) (.cons rfl (.cons rfl (.cons rfl (.cons rfl (.cons rfl (.cons rfl (.cons rfl (.cons rfl (.cons rfl (.cons rfl (.cons rfl (.cons rfl (.cons rfl (.cons rfl (.cons rfl (.cons rfl (.cons rfl (.cons rfl (.cons rfl (.cons rfl (.cons rfl (.cons rfl (.cons rfl (.cons rfl (.cons rfl (.cons rfl (.cons rfl (.cons rfl (.cons rfl (.cons rfl (.cons rfl (.cons rfl (.cons rfl (.nil _)))))))))))))))))))))))))))))))))) ?_
            refine cd_seq ?_
            refine cd_region ?_
            refine st (ev_move rfl) rfl rfl rfl ?_
            have hs : Rr.numS r = some (Rr.acc u c i, i + 1) := by rw [← hi.2, hd]; exact Rr.numG_ok hnb (by omega) hc39
            have hap := Rr.acc_pos u c i
            have hrng := Rr.numS_spec hs
            refine st (ev_move rfl) rfl rfl rfl ?_
            refine st (ev_nilCheck rfl) rfl rfl rfl ?_
            refine st (ev_fieldAddr (b := _) Try.underlying125 (f := _) rfl ty22 (by decide) rfl) rfl rfl rfl ?_
            refine st (ld_blk1 (h := 0) ty22 rfl rfl rfl rfl) rfl rfl rfl ?_
            refine st (ev_move rfl) rfl rfl rfl ?_
            refine st (ev_add64 rfl rfl (by omega) (by omega)) rfl rfl rfl ?_
            refine st (ev_slicei_lo Try.underlying22 ty5 rfl rfl (fun w1 sw => sw.sl_rd (h := 1) rfl) (by omega) (by first | omega | (simp only [List.length_append, List.length_cons, List.length_nil, List.length_set, List.length_replicate, List.length_take, List.length_drop, ints_length, wr_length, sha_len, node_len, recov_len, Ky.named_len, Ky.keyPub_len, Ky.hashOf_len] <;> omega))) rfl rfl rfl ?_
            refine at_eq (i := 47) (v' := cutAt 1 rv (i + 1) r.length) rfl rfl ?_
            refine st (ev_nilCheck rfl) rfl rfl rfl ?_
            refine st (ev_fieldAddr (b := _) Try.underlying125 (f := _) rfl ty22 (by decide) rfl) rfl rfl rfl ?_
            refine st_store1 0 ty22 rfl rfl rfl (rd_shape (h.cuti (lo := i + 1) (hi := r.length) (by omega) (Nat.le_refl _))).2 (show 0 < 2 from by decide) rfl ?_
            refine at_heq (i := 0) (v' := .blk (b) (.cells ([cutAt 1 rv (i + 1) r.length, .bool (bad)]).toArray 125)) rfl rfl ?_
            refine op_nil ?_
            refine ax_then ?_
            refine At.regs (L' := [(0, _), (3, _), (4, _), (5, _), (11, _), (12, _), (13, _), (14, _), (15, _), (16, _), (17, _), (18, _), (19, _), (20, _), (21, _), (22, _), (23, _), (24, _), (25, _), (26, _), (27, _), (28, _), (29, _), (30, _), (31, _), (32, _), (33, _), (34, _), (35, _), (36, _), (37, _), (38, _), (39, _), (40, _), (41, _), (42, _), (43, _), (44, _), (45, _), (46, _), (47, _), (48, _), (49, _)]) (.cons rfl (.cons rfl (.cons rfl (.cons rfl (.cons rfl (.cons rfl (.cons rfl (.cons rfl (.cons rfl (.cons rfl (.cons rfl (.cons rfl (.cons rfl (.cons rfl (.cons rfl (.cons rfl (.cons rfl (.cons rfl (.cons rfl (.cons rfl (.cons rfl (.cons rfl (.cons rfl (.cons rfl (.cons rfl (.cons rfl (.cons rfl (.cons rfl (.cons rfl (.cons rfl (.cons rfl (.cons rfl (.cons rfl (.cons rfl (.cons rfl (.cons rfl (.cons rfl (.cons rfl (.cons rfl (.cons rfl (.cons rfl (.cons rfl (.cons rfl (.nil _)))))))))))))))))))))))))))))))))))))))))))) ?_
            refine cd_seq ?_
            refine cd_region ?_
            refine st (ev_move rfl) rfl rfl rfl ?_
            refine st (ev_conv64 Try.underlying121 Try.underlying3 rfl (by omega) (by omega)) rfl rfl rfl ?_
            refine st (ev_assign rfl) rfl rfl rfl ?_
            refine op_nil ?_
            refine ax_then ?_
            refine At.regs (L' := [(0, _), (2, _), (3, _), (4, _), (5, _), (11, _), (12, _), (13, _), (14, _), (15, _), (16, _), (17, _), (18, _), (19, _), (20, _), (21, _), (22, _), (23, _), (24, _), (25, _), (26, _), (27, _), (28, _), (29, _), (30, _), (31, _), (32, _), (33, _), (34, _), (35, _), (36, _), (37, _), (38, _), (39, _), (40, _), (41, _), (42, _), (43, _), (44, _), (45, _), (46, _), (47, _), (48, _), (49, _), (50, _), (51, _)]) (.cons rfl (.cons rfl (.cons rfl (.cons rfl (.cons rfl (.cons rfl (.cons rfl (.cons rfl (.cons rfl (.cons rfl (.cons rfl (.cons rfl (.cons rfl (.cons rfl (.cons rfl (.cons rfl (.cons rfl (.cons rfl (.cons rfl (.cons rfl (.cons rfl (.cons rfl (.cons rfl (.cons rfl (.cons rfl (.cons rfl (.cons rfl (.cons rfl (.cons rfl (.cons rfl (.cons rfl (.cons rfl (.cons rfl (.cons rfl (.cons rfl (.cons rfl (.cons rfl (.cons rfl (.cons rfl (.cons rfl (.cons rfl (.cons rfl (.cons rfl (.cons rfl (.cons rfl (.cons rfl (.nil _))))))))))))))))))))))))))))))))))))))))))))))) ?_
            refine cd_ret ?_
            refine ax_block_ret ?_
            refine ax_then_ret ?_
            refine ax_then_ret ?_
            refine ax_block_ret ?_
            refine ax_then_ret ?_
            refine rt_tmp (.inl rfl) Try.results67 rfl ?_
            first
            | (exact fun w1 sw => ⟨cutAt 1 rv (i + 1) r.length, Rr.nUnd_ok rv hs, by rw [(Rr.nVal_ok hs).1], by rw [(Rr.nVal_ok hs).2.1, Bool.or_false]; exact sw.gives (N := [(0, _)]) (.cons rfl (.nil _))⟩)
            | (have hnone : Rr.numS r = none := by
                 rw [← hi.2]
                 first
                 | (rw [show i = r.length by omega, List.drop_length]; rfl)
                 | (rw [hd]; first | exact Rr.numG_brk (by omega) | exact Rr.numG_big (by omega) (by omega))
               exact fun w1 sw => ⟨Ky.nil0, Rr.nUnd_no rv hnone, by rw [(Rr.nVal_no hnone).1], by rw [(Rr.nVal_no hnone).2.1, Bool.or_true]; exact sw.gives (N := [(0, _)]) (.cons rfl (.nil _))⟩)
        ·
          refine cd_skip ?_
          refine ax_block ?_
          refine ax_then ?_
          refine At.regs (L' := [(0, _), (3, _), (4, _), (5, _), (11, _), (12, _), (13, _), (14, _), (15, _), (16, _), (17, _), (18, _), (19, _), (20, _), (21, _), (22, _), (23, _), (24, _), (25, _), (26, _), (27, _), (28, _), (29, _), (30, _), (31, _), (32, _), (33, _), (34, _), (35, _), (36, _), (37, _)]) (.cons rfl (.cons rfl (.cons rfl (.cons rfl (.cons rfl (.cons rfl (.cons rfl (.cons rfl (.cons rfl (.cons rfl (.cons rfl (.cons rfl (.cons rfl (.cons rfl (.cons rfl (.cons rfl (.cons rfl (.cons rfl (.cons rfl (.cons rfl (.cons rfl (.cons rfl (.cons rfl (.cons rfl (.cons rfl (.cons rfl (.cons rfl (.cons rfl (.cons rfl (.cons rfl (.cons rfl (.nil _)))))))))))))))))))))))))))))))) ?_
          refine cd_region ?_
          refine st (ev_add64 rfl rfl (by omega) (by omega)) rfl rfl rfl ?_
          refine st (ev_move rfl) rfl rfl rfl ?_
          refine op_nil ?_
          exact at_again ((i + 1, Rr.acc u c i)) (⟨by show i + 1 ≤ r.length; omega, by show Rr.numG (i + 1) (Rr.acc u c i) (r.drop (i + 1)) = Rr.numS r; rw [← Rr.numG_go hnb (by omega), ← hd]; exact hi.2⟩) (by omega) (.cons rfl (.cons rfl (.cons rfl (.cons rfl (.cons rfl (.nil _)))))) (.cons rfl (.nil _)) (.cons rfl (.nil _))
  ·
    have hlt : ¬ i < r.length := by omega
    have hd : True := trivial
    refine cd_exit ?_
    refine ax_then_exit ?_
    refine ax_then_exit ?_
    refine ax_block_hit ?_
    refine ax_then ?_
    refine At.regs (L' := [(0, _)]) (.cons rfl (.nil _)) ?_
    refine cd_seq ?_
    refine cd_region ?_
    refine st (ev_move rfl) rfl rfl rfl ?_
    refine st_call has93 rfl (fun w1 sw => rbad_any b rv bad w1 (sw.blk_eq (h := 0) rfl)) (mod_blk rfl) rfl rfl (fun _ _ => ?_)
    refine op_nil ?_
    refine ax_then ?_
    refine At.regs (L' := []) (.nil _) ?_
    refine cd_seq ?_
    refine cd_region ?_
    refine st (ev_assign rfl) rfl rfl rfl ?_
    refine op_nil ?_
    refine ax_then ?_
    refine At.regs (L' := [(2, _)]) (.cons rfl (.nil _)) ?_
    refine cd_ret ?_
    refine rt_tmp (.inl rfl) Try.results67 rfl ?_
    first
    | (exact fun w1 sw => ⟨cutAt 1 rv (i + 1) r.length, Rr.nUnd_ok rv hs, by rw [(Rr.nVal_ok hs).1], by rw [(Rr.nVal_ok hs).2.1, Bool.or_false]; exact sw.gives (N := [(0, _)]) (.cons rfl (.nil _))⟩)
    | (have hnone : Rr.numS r = none := by
         rw [← hi.2]
         first
         | (rw [show i = r.length by omega, List.drop_length]; rfl)
         | (rw [hd]; first | exact Rr.numG_brk (by omega) | exact Rr.numG_big (by omega) (by omega))
       exact fun w1 sw => ⟨Ky.nil0, Rr.nUnd_no rv hnone, by rw [(Rr.nVal_no hnone).1], by rw [(Rr.nVal_no hnone).2.1, Bool.or_true]; exact sw.gives (N := [(0, _)]) (.cons rfl (.nil _))⟩)
set_option maxRecDepth 20000 in
set_option maxHeartbeats 1000000 in
theorem qbad_any (b : Nat) (rv : Value) (bad : Bool) (w : World) (hb : w.heap[b]? = some (.cells (List.toArray [rv, .bool bad]) 102)) : Calls Try.prog 97 #[.pointer (some ⟨b, 0, none⟩)] w (Post (ι := Unit) w [b] (fun _ => True) (fun _ => .tuple #[]) (fun _ => [(0, .blk (b) (.cells ([Ky.nil0, .bool (true)]).toArray 102))])) := by
  refine calls_at (vs := [.pointer (some ⟨b, 0, none⟩)]) (X := [b]) (H := [(0, .blk (b) (.cells ([rv, .bool (bad)]).toArray 102))]) (F := []) 8 Try.func97 rfl rfl rfl (Sat.blkX 0 hb) ?_
  refine cd_seq ?_
  refine cd_region ?_
  refine st (ev_move rfl) rfl rfl rfl ?_
  refine st (ev_nilCheck rfl) rfl rfl rfl ?_
  refine st (ev_fieldAddr (b := _) Try.underlying102 (f := _) rfl ty4 (by decide) rfl) rfl rfl rfl ?_
  refine st_store1 0 ty4 rfl rfl rfl rfl (show 1 < 2 from by decide) rfl ?_
  refine at_heq (i := 0) (v' := .blk (b) (.cells ([rv, .bool (true)]).toArray 102)) rfl rfl ?_
  refine op_nil ?_
  refine ax_then ?_
  refine At.regs (L' := [(0, _)]) (.cons rfl (.nil _)) ?_
  refine cd_region ?_
  refine st (ev_move rfl) rfl rfl rfl ?_
  refine st (ev_nilCheck rfl) rfl rfl rfl ?_
  refine st (ev_fieldAddr (b := _) Try.underlying102 (f := _) rfl ty22 (by decide) rfl) rfl rfl rfl ?_
  refine st_store1 0 ty22 rfl rfl rfl rfl (show 0 < 2 from by decide) rfl ?_
  refine at_heq (i := 0) (v' := .blk (b) (.cells ([Ky.nil0, .bool (true)]).toArray 102)) rfl rfl ?_
  refine op_nil ?_
  refine rt_none (.inr rfl) Try.results97 ?_
  exact fun w1 sw => ⟨(), trivial, rfl, sw.gives (N := [(0, _)]) (.cons rfl (.nil _))⟩
set_option maxRecDepth 20000 in
set_option maxHeartbeats 2000000 in
theorem qrawg_ok (b : Nat) (rv : Value) (bad : Bool) (r : List Int) (w : World) (hb : w.heap[b]? = some (.cells (List.toArray [rv, .bool bad]) 102)) (h : Rd w rv 1 (ints .u8 r)) (ho : FE.off b (.sl rv 1 (ints .u8 r))) (hr : r.length ≤ 140737488352000) (he : bad = true → r = []) (n : Int) (hf : Rr.fitsR r n) : Calls Try.prog 96 #[.pointer (some ⟨b, 0, none⟩), .int .i64 n] w (Post (ι := Value × Value) w [b] (fun x => Rr.Und rv r x.1 (Rr.rRest r n)) (fun x => x.2) (fun x => [(0, .blk (b) (.cells ([x.1, .bool (bad || Rr.rBad r n)]).toArray 102)), (1, .own (x.2) 5 1 (ints .u8 (Rr.rOut r n)))])) := by
  have hf0 := hf.1
  have hf1 := hf.2
  refine calls_at (vs := [.pointer (some ⟨b, 0, none⟩), .int .i64 n]) (X := [b]) (H := [(0, .blk (b) (.cells ([rv, .bool (bad)]).toArray 102))]) (F := [(1, .sl rv 1 (ints .u8 r))]) 41 Try.func96 rfl rfl rfl ((Sat.blkX 0 hb).readb (f := .sl rv 1 (ints .u8 r)) 1 h ho) ?_
  refine cd_seq ?_
  refine cd_region ?_
  refine st (ev_assign rfl) rfl rfl rfl ?_
  refine at_own_nil 4 5 1 ?_
  refine at_heq (i := 4) (v' := .own (.slice none 0 0) 5 1 (ints .u8 [])) rfl rfl ?_
  refine op_nil ?_
  refine ax_then ?_
  refine At.regs (L' := [(0, _), (1, _), (4, _)]) (.cons rfl (.cons rfl (.cons rfl (.nil _)))) ?_
  refine cd_seq ?_
  refine cd_seq ?_
  refine cd_region ?_
  refine st (ev_move rfl) rfl rfl rfl ?_
  refine st (ev_lss rfl rfl) rfl rfl rfl ?_
  refine st (ev_move rfl) rfl rfl rfl ?_
  refine at_eq (i := 8) (v' := .bool false) rfl (by simp only [Value.bool.injEq, decide_eq_true_eq, decide_eq_false_iff_not]; omega) ?_
  refine st (ev_move rfl) rfl rfl rfl ?_
  refine st (ev_move rfl) rfl rfl rfl ?_
  refine st (ev_nilCheck rfl) rfl rfl rfl ?_
  refine st (ev_fieldAddr (b := _) Try.underlying102 (f := _) rfl ty22 (by decide) rfl) rfl rfl rfl ?_
  refine st (ld_blk1 (h := 0) ty22 rfl rfl rfl rfl) rfl rfl rfl ?_
  refine st (ev_len_rdi (h := 1) Try.underlying22 rfl rfl) rfl rfl rfl ?_
  refine st (ev_gtr rfl rfl) rfl rfl rfl ?_
  refine st (ev_pick_f rfl rfl) rfl rfl rfl ?_
  refine op_nil ?_
  refine ax_then ?_
  refine At.regs (L' := [(0, _), (1, _), (4, _), (16, _)]) (.cons rfl (.cons rfl (.cons rfl (.cons rfl (.nil _))))) ?_
  refine cd_if_f rfl (by omega) ?_
  refine cd_skip ?_
  refine ax_then ?_
  refine At.regs (L' := [(0, _), (1, _), (4, _)]) (.cons rfl (.cons rfl (.cons rfl (.nil _)))) ?_
  refine cd_seq ?_
  refine cd_seq ?_
  refine cd_region ?_
  refine st (ev_move rfl) rfl rfl rfl ?_
  refine st (ev_nilCheck rfl) rfl rfl rfl ?_
  refine st (ev_fieldAddr (b := _) Try.underlying102 (f := _) rfl ty4 (by decide) rfl) rfl rfl rfl ?_
  refine st (ld_blk1 (h := 0) ty4 rfl rfl rfl rfl) rfl rfl rfl ?_
  refine op_nil ?_
  refine ax_then ?_
  refine At.regs (L' := [(0, _), (1, _), (4, _), (22, _)]) (.cons rfl (.cons rfl (.cons rfl (.cons rfl (.nil _))))) ?_
  refine cd_cond rfl (fun hc22 => ?_) (fun hc22 => ?_)
  ·
    have hr0 := he hc22
    have hn0 : n = 0 := by rw [hr0] at hf1; simp at hf1; omega
    refine cd_seq ?_
    refine cd_region ?_
    refine st (ev_assign rfl) rfl rfl rfl ?_
    refine at_own_nil 4 5 1 ?_
    refine at_heq (i := 4) (v' := .own (.slice none 0 0) 5 1 (ints .u8 [])) rfl rfl ?_
    refine op_nil ?_
    refine ax_then ?_
    refine At.regs (L' := [(0, _), (1, _), (4, _)]) (.cons rfl (.cons rfl (.cons rfl (.nil _)))) ?_
    refine cd_ret ?_
    refine ax_then_ret ?_
    refine rt_tmp (.inl rfl) Try.results96 rfl ?_
    exact fun w1 sw => ⟨(rv, .slice none 0 0), by rw [Rr.rRest, if_pos hf, hn0]; exact Rr.Und.refl rv r, rfl, by rw [hc22, Bool.true_or, show Rr.rOut r n = [] from by rw [Rr.rOut, if_pos hf, hr0]; simp]; rw [hc22] at sw; exact (sw.gives (N := [(0, _), (4, _)]) (.cons rfl (.cons rfl (.nil _)))).rn2 (by decide) 0 1⟩
  ·
    refine cd_skip ?_
    refine ax_then ?_
    refine At.regs (L' := [(0, _), (1, _), (4, _)]) (.cons rfl (.cons rfl (.cons rfl (.nil _)))) ?_
    refine cd_seq ?_
    refine cd_region ?_
    refine st_bsi (h := 23) (xs := []) Try.underlying22 ty5 (by decide) rfl rfl (by decide) rfl rfl (fun b23 => ?_)
    refine st (ev_move rfl) rfl rfl rfl ?_
    refine st (ev_nilCheck rfl) rfl rfl rfl ?_
    refine st (ev_fieldAddr (b := _) Try.underlying102 (f := _) rfl ty22 (by decide) rfl) rfl rfl rfl ?_
    refine st (ld_blk1 (h := 0) ty22 rfl rfl rfl rfl) rfl rfl rfl ?_
    refine st (ev_move rfl) rfl rfl rfl ?_
    refine st (ev_slicei_hi Try.underlying22 ty5 rfl rfl (fun w1 sw => sw.sl_rd (h := 1) rfl) (by omega) (by first | omega | (simp only [List.length_append, List.length_cons, List.length_nil, List.length_set, List.length_replicate, List.length_take, List.length_drop, ints_length, wr_length, sha_len, node_len, recov_len, Ky.named_len, Ky.keyPub_len, Ky.hashOf_len] <;> omega))) rfl rfl rfl ?_
    refine at_eq (i := 29) (v' := cutAt 1 rv 0 n.toNat) rfl rfl ?_
    refine st_appendi (h := 23) (cs := r.take n.toNat) Try.underlying22 Try.underlying22 ty5 rfl rfl rfl rfl (fun w1 sw => (by have := (sw.sl_rd (h := 1) rfl).cuti (lo := 0) (hi := n.toNat) (by omega) (by omega); simpa using this)) (by rw [List.length_take]; simp only [List.length_nil]; omega) (by decide) rfl rfl (fun v30 => ?_)
    refine at_heq (i := 23) (v' := .own (v30) 5 1 (ints .u8 (Rr.rOut r n))) rfl (by rw [show Rr.rOut r n = r.take n.toNat from if_pos hf, List.nil_append]) ?_
    refine st (ev_assign rfl) rfl rfl rfl ?_
    refine op_nil ?_
    refine ax_then ?_
    refine At.regs (L' := [(0, _), (1, _), (4, _), (5, _)]) (.cons rfl (.cons rfl (.cons rfl (.cons rfl (.nil _))))) ?_
    refine cd_seq ?_
    refine cd_region ?_
    refine st (ev_move rfl) rfl rfl rfl ?_
    refine st (ev_move rfl) rfl rfl rfl ?_
    refine st (ev_nilCheck rfl) rfl rfl rfl ?_
    refine st (ev_fieldAddr (b := _) Try.underlying102 (f := _) rfl ty22 (by decide) rfl) rfl rfl rfl ?_
    refine st (ld_blk1 (h := 0) ty22 rfl rfl rfl rfl) rfl rfl rfl ?_
    refine st (ev_move rfl) rfl rfl rfl ?_
    refine st (ev_slicei_lo Try.underlying22 ty5 rfl rfl (fun w1 sw => sw.sl_rd (h := 1) rfl) (by omega) (by first | omega | (simp only [List.length_append, List.length_cons, List.length_nil, List.length_set, List.length_replicate, List.length_take, List.length_drop, ints_length, wr_length, sha_len, node_len, recov_len, Ky.named_len, Ky.keyPub_len, Ky.hashOf_len] <;> omega))) rfl rfl rfl ?_
    refine st (ev_nilCheck rfl) rfl rfl rfl ?_
    refine st (ev_fieldAddr (b := _) Try.underlying102 (f := _) rfl ty22 (by decide) rfl) rfl rfl rfl ?_
    refine st_store1 0 ty22 rfl rfl rfl (rd_shape (h.cuti (lo := n.toNat) (hi := r.length) (by omega) (Nat.le_refl _))).2 (show 0 < 2 from by decide) rfl ?_
    refine at_heq (i := 0) (v' := .blk (b) (.cells ([cutAt 1 rv n.toNat r.length, .bool (bad)]).toArray 102)) rfl rfl ?_
    refine op_nil ?_
    refine ax_then ?_
    refine At.regs (L' := [(4, _), (5, _)]) (.cons rfl (.cons rfl (.nil _))) ?_
    refine cd_seq ?_
    refine cd_region ?_
    refine st (ev_move rfl) rfl rfl rfl ?_
    refine st (ev_assign rfl) rfl rfl rfl ?_
    refine op_nil ?_
    refine ax_then ?_
    refine At.regs (L' := [(4, _)]) (.cons rfl (.nil _)) ?_
    refine cd_ret ?_
    refine rt_tmp (.inl rfl) Try.results96 rfl ?_
    exact fun w1 sw => ⟨(cutAt 1 rv n.toNat r.length, v30), Rr.rUnd_ok rv hf, rfl, by rw [show Rr.rBad r n = false from by rw [Rr.rBad, decide_eq_true hf]; rfl, Bool.or_false]; exact (sw.gives (N := [(0, _), (23, _)]) (.cons rfl (.cons rfl (.nil _)))).rn2 (by decide) 0 1⟩
set_option maxRecDepth 20000 in
set_option maxHeartbeats 2000000 in
theorem qrawg_neg (b : Nat) (rv : Value) (bad : Bool) (r : List Int) (w : World) (hb : w.heap[b]? = some (.cells (List.toArray [rv, .bool bad]) 102)) (h : Rd w rv 1 (ints .u8 r)) (ho : FE.off b (.sl rv 1 (ints .u8 r))) (hr : r.length ≤ 140737488352000) (he : bad = true → r = []) (n : Int) (hn : n < 0) : Calls Try.prog 96 #[.pointer (some ⟨b, 0, none⟩), .int .i64 n] w (Post (ι := Value × Value) w [b] (fun x => Rr.Und rv r x.1 (Rr.rRest r n)) (fun x => x.2) (fun x => [(0, .blk (b) (.cells ([x.1, .bool (bad || Rr.rBad r n)]).toArray 102)), (1, .own (x.2) 5 1 (ints .u8 (Rr.rOut r n)))])) := by
  have hf : ¬ Rr.fitsR r n := fun hh => by have := hh.1; have := hh.2; omega
  refine calls_at (vs := [.pointer (some ⟨b, 0, none⟩), .int .i64 n]) (X := [b]) (H := [(0, .blk (b) (.cells ([rv, .bool (bad)]).toArray 102))]) (F := [(1, .sl rv 1 (ints .u8 r))]) 41 Try.func96 rfl rfl rfl ((Sat.blkX 0 hb).readb (f := .sl rv 1 (ints .u8 r)) 1 h ho) ?_
  refine cd_seq ?_
  refine cd_region ?_
  refine st (ev_assign rfl) rfl rfl rfl ?_
  refine at_own_nil 4 5 1 ?_
  refine at_heq (i := 4) (v' := .own (.slice none 0 0) 5 1 (ints .u8 [])) rfl rfl ?_
  refine op_nil ?_
  refine ax_then ?_
  refine At.regs (L' := [(0, _), (1, _), (4, _)]) (.cons rfl (.cons rfl (.cons rfl (.nil _)))) ?_
  refine cd_seq ?_
  refine cd_seq ?_
  refine cd_region ?_
  refine st (ev_move rfl) rfl rfl rfl ?_
  refine st (ev_lss rfl rfl) rfl rfl rfl ?_
  refine st (ev_move rfl) rfl rfl rfl ?_
  refine at_eq (i := 8) (v' := .bool true) rfl (by simp only [Value.bool.injEq, decide_eq_true_eq, decide_eq_false_iff_not]; omega) ?_
  refine st_skip rfl rfl rfl ?_
  refine st_skip rfl rfl rfl ?_
  refine st_skip rfl rfl rfl ?_
  refine st_skip rfl rfl rfl ?_
  refine st_skip rfl rfl rfl ?_
  refine st_skip rfl rfl rfl ?_
  refine st_skip rfl rfl rfl ?_
  refine st (ev_pick_t rfl rfl) rfl rfl rfl ?_
  refine op_nil ?_
  refine ax_then ?_
  refine At.regs (L' := [(0, _), (1, _), (4, _), (16, _)]) (.cons rfl (.cons rfl (.cons rfl (.cons rfl (.nil _))))) ?_
  refine cd_true rfl ?_
  refine cd_region ?_
  refine st (ev_move rfl) rfl rfl rfl ?_
  refine st_call has97 rfl (fun w1 sw => qbad_any b rv bad w1 (sw.blk_eq (h := 0) rfl)) (mod_blk rfl) rfl rfl (fun _ _ => ?_)
  refine op_nil ?_
  refine ax_then ?_
  refine At.regs (L' := [(0, _), (1, _), (4, _)]) (.cons rfl (.cons rfl (.cons rfl (.nil _)))) ?_
  refine cd_seq ?_
  refine cd_seq ?_
  refine cd_region ?_
  refine st (ev_move rfl) rfl rfl rfl ?_
  refine st (ev_nilCheck rfl) rfl rfl rfl ?_
  refine st (ev_fieldAddr (b := _) Try.underlying102 (f := _) rfl ty4 (by decide) rfl) rfl rfl rfl ?_
  refine st (ld_blk1 (h := 0) ty4 rfl rfl rfl rfl) rfl rfl rfl ?_
  refine op_nil ?_
  refine ax_then ?_
  refine At.regs (L' := [(0, _), (1, _), (4, _), (22, _)]) (.cons rfl (.cons rfl (.cons rfl (.cons rfl (.nil _))))) ?_
  refine cd_true rfl ?_
  refine cd_seq ?_
  refine cd_region ?_
  refine st (ev_assign rfl) rfl rfl rfl ?_
  refine at_own_nil 4 5 1 ?_
  refine at_heq (i := 4) (v' := .own (.slice none 0 0) 5 1 (ints .u8 [])) rfl rfl ?_
  refine op_nil ?_
  refine ax_then ?_
  refine At.regs (L' := [(0, _), (1, _), (4, _)]) (.cons rfl (.cons rfl (.cons rfl (.nil _)))) ?_
  refine cd_ret ?_
  refine ax_then_ret ?_
  refine rt_tmp (.inl rfl) Try.results96 rfl ?_
  exact fun w1 sw => ⟨(Ky.nil0, .slice none 0 0), Rr.rUnd_no rv hf, rfl, by rw [show Rr.rBad r n = true from by rw [Rr.rBad, decide_eq_false hf]; rfl, Bool.or_true, show Rr.rOut r n = [] from by rw [Rr.rOut, if_neg hf]]; exact (sw.gives (N := [(0, _), (4, _)]) (.cons rfl (.cons rfl (.nil _)))).rn2 (by decide) 0 1⟩
set_option maxRecDepth 20000 in
set_option maxHeartbeats 2000000 in
theorem qrawg_far (b : Nat) (rv : Value) (bad : Bool) (r : List Int) (w : World) (hb : w.heap[b]? = some (.cells (List.toArray [rv, .bool bad]) 102)) (h : Rd w rv 1 (ints .u8 r)) (ho : FE.off b (.sl rv 1 (ints .u8 r))) (hr : r.length ≤ 140737488352000) (he : bad = true → r = []) (n : Int) (hn0 : 0 ≤ n) (hn : n > (r.length : Nat)) : Calls Try.prog 96 #[.pointer (some ⟨b, 0, none⟩), .int .i64 n] w (Post (ι := Value × Value) w [b] (fun x => Rr.Und rv r x.1 (Rr.rRest r n)) (fun x => x.2) (fun x => [(0, .blk (b) (.cells ([x.1, .bool (bad || Rr.rBad r n)]).toArray 102)), (1, .own (x.2) 5 1 (ints .u8 (Rr.rOut r n)))])) := by
  have hf : ¬ Rr.fitsR r n := fun hh => by have := hh.1; have := hh.2; omega
  refine calls_at (vs := [.pointer (some ⟨b, 0, none⟩), .int .i64 n]) (X := [b]) (H := [(0, .blk (b) (.cells ([rv, .bool (bad)]).toArray 102))]) (F := [(1, .sl rv 1 (ints .u8 r))]) 41 Try.func96 rfl rfl rfl ((Sat.blkX 0 hb).readb (f := .sl rv 1 (ints .u8 r)) 1 h ho) ?_
  refine cd_seq ?_
  refine cd_region ?_
  refine st (ev_assign rfl) rfl rfl rfl ?_
  refine at_own_nil 4 5 1 ?_
  refine at_heq (i := 4) (v' := .own (.slice none 0 0) 5 1 (ints .u8 [])) rfl rfl ?_
  refine op_nil ?_
  refine ax_then ?_
  refine At.regs (L' := [(0, _), (1, _), (4, _)]) (.cons rfl (.cons rfl (.cons rfl (.nil _)))) ?_
  refine cd_seq ?_
  refine cd_seq ?_
  refine cd_region ?_
  refine st (ev_move rfl) rfl rfl rfl ?_
  refine st (ev_lss rfl rfl) rfl rfl rfl ?_
  refine st (ev_move rfl) rfl rfl rfl ?_
  refine at_eq (i := 8) (v' := .bool false) rfl (by simp only [Value.bool.injEq, decide_eq_true_eq, decide_eq_false_iff_not]; omega) ?_
  refine st (ev_move rfl) rfl rfl rfl ?_
  refine st (ev_move rfl) rfl rfl rfl ?_
  refine st (ev_nilCheck rfl) rfl rfl rfl ?_
  refine st (ev_fieldAddr (b := _) Try.underlying102 (f := _) rfl ty22 (by decide) rfl) rfl rfl rfl ?_
  refine st (ld_blk1 (h := 0) ty22 rfl rfl rfl rfl) rfl rfl rfl ?_
  refine st (ev_len_rdi (h := 1) Try.underlying22 rfl rfl) rfl rfl rfl ?_
  refine st (ev_gtr rfl rfl) rfl rfl rfl ?_
  refine st (ev_pick_f rfl rfl) rfl rfl rfl ?_
  refine op_nil ?_
  refine ax_then ?_
  refine At.regs (L' := [(0, _), (1, _), (4, _), (16, _)]) (.cons rfl (.cons rfl (.cons rfl (.cons rfl (.nil _))))) ?_
  refine cd_if_t rfl (by omega) ?_
  refine cd_region ?_
  refine st (ev_move rfl) rfl rfl rfl ?_
  refine st_call has97 rfl (fun w1 sw => qbad_any b rv bad w1 (sw.blk_eq (h := 0) rfl)) (mod_blk rfl) rfl rfl (fun _ _ => ?_)
  refine op_nil ?_
  refine ax_then ?_
  refine At.regs (L' := [(0, _), (1, _), (4, _)]) (.cons rfl (.cons rfl (.cons rfl (.nil _)))) ?_
  refine cd_seq ?_
  refine cd_seq ?_
  refine cd_region ?_
  refine st (ev_move rfl) rfl rfl rfl ?_
  refine st (ev_nilCheck rfl) rfl rfl rfl ?_
  refine st (ev_fieldAddr (b := _) Try.underlying102 (f := _) rfl ty4 (by decide) rfl) rfl rfl rfl ?_
  refine st (ld_blk1 (h := 0) ty4 rfl rfl rfl rfl) rfl rfl rfl ?_
  refine op_nil ?_
  refine ax_then ?_
  refine At.regs (L' := [(0, _), (1, _), (4, _), (22, _)]) (.cons rfl (.cons rfl (.cons rfl (.cons rfl (.nil _))))) ?_
  refine cd_true rfl ?_
  refine cd_seq ?_
  refine cd_region ?_
  refine st (ev_assign rfl) rfl rfl rfl ?_
  refine at_own_nil 4 5 1 ?_
  refine at_heq (i := 4) (v' := .own (.slice none 0 0) 5 1 (ints .u8 [])) rfl rfl ?_
  refine op_nil ?_
  refine ax_then ?_
  refine At.regs (L' := [(0, _), (1, _), (4, _)]) (.cons rfl (.cons rfl (.cons rfl (.nil _)))) ?_
  refine cd_ret ?_
  refine ax_then_ret ?_
  refine rt_tmp (.inl rfl) Try.results96 rfl ?_
  exact fun w1 sw => ⟨(Ky.nil0, .slice none 0 0), Rr.rUnd_no rv hf, rfl, by rw [show Rr.rBad r n = true from by rw [Rr.rBad, decide_eq_false hf]; rfl, Bool.or_true, show Rr.rOut r n = [] from by rw [Rr.rOut, if_neg hf]]; exact (sw.gives (N := [(0, _), (4, _)]) (.cons rfl (.cons rfl (.nil _)))).rn2 (by decide) 0 1⟩
theorem qraw_g (b : Nat) (rv : Value) (bad : Bool) (r : List Int) (w : World) (hb : w.heap[b]? = some (.cells (List.toArray [rv, .bool bad]) 102)) (h : Rd w rv 1 (ints .u8 r)) (ho : FE.off b (.sl rv 1 (ints .u8 r))) (hr : r.length ≤ 140737488352000) (he : bad = true → r = []) (n : Int) : Calls Try.prog 96 #[.pointer (some ⟨b, 0, none⟩), .int .i64 n] w (Post (ι := Value × Value) w [b] (fun x => Rr.Und rv r x.1 (Rr.rRest r n)) (fun x => x.2) (fun x => [(0, .blk (b) (.cells ([x.1, .bool (bad || Rr.rBad r n)]).toArray 102)), (1, .own (x.2) 5 1 (ints .u8 (Rr.rOut r n)))])) := by
  by_cases h0 : n < 0
  · exact qrawg_neg b rv bad r w hb h ho hr he n h0
  · by_cases h1 : n > (r.length : Nat)
    · exact qrawg_far b rv bad r w hb h ho hr he n (by omega) h1
    · exact qrawg_ok b rv bad r w hb h ho hr he n ⟨by omega, by omega⟩
end Go.Proofs.Yteedclmcgifmpaa

namespace Go.Proofs.Yteedclmcgifmpaa.Rr
open Go Fw Sha Ky Go.Proofs.Yteedclmcgifmpaa
set_option linter.unusedSimpArgs false
set_option linter.unusedVariables false
def encN (u : Nat) : List Int := if h : u < 128 then [(u : Int)] else ((u % 128 + 128 : Nat) : Int) :: encN (u / 128)
termination_by u
decreasing_by omega
theorem encN_lt {u : Nat} (h : u < 128) : encN u = [(u : Int)] := by rw [encN, dif_pos h]
theorem encN_ge {u : Nat} (h : ¬ u < 128) : encN u = ((u % 128 + 128 : Nat) : Int) :: encN (u / 128) := by rw [encN, dif_neg h]
/-- a number, as it is laid -/
def clampN (n : Int) : Nat := (max 0 (min n 4611686018427387904)).toNat
theorem clampN_le (n : Int) : clampN n ≤ 4611686018427387904 := by unfold clampN; omega
theorem clampN_id {n : Int} (h0 : 0 ≤ n) (h1 : n ≤ 4611686018427387904) : (clampN n : Int) = n := by unfold clampN; omega
def num (n : Int) : List Int := encN (clampN n)
theorem encN_len : ∀ (k u : Nat), u < 128 ^ (k + 1) → (encN u).length ≤ k + 1
  | 0, u, h => by rw [encN_lt (by simpa using h)]; simp
  | k + 1, u, h => by
    by_cases h1 : u < 128
    · rw [encN_lt h1]; simp
    · have h2 : u < 128 * 128 ^ (k + 1) := by rw [Nat.pow_succ] at h; omega
      rw [encN_ge h1, List.length_cons]
      have := encN_len k (u / 128) (Nat.div_lt_of_lt_mul h2)
      omega
theorem num_len (n : Int) : (num n).length ≤ 9 := encN_len 8 (clampN n) (by have := clampN_le n; have e : 128 ^ (8 + 1) = 9223372036854775808 := (by decide); omega)
theorem or128 : ∀ c : Nat, c < 256 → ior .u8 (c : Int) 128 = ((c % 128 + 128 : Nat) : Int) := by decide +kernel
theorem wrap8 (u : Nat) : IntKind.u8.wrap (u : Int) = ((u % 256 : Nat) : Int) := by
  simp only [IntKind.wrap, IntKind.signed, IntKind.bits, Bool.false_and, Bool.false_eq_true, if_false]
  omega
theorem lay8 (u : Nat) : ior .u8 (IntKind.u8.wrap (u : Int)) 128 = ((u % 128 + 128 : Nat) : Int) := by
  rw [wrap8, or128 _ (Nat.mod_lt _ (by decide))]
  congr 2
  omega
theorem ofInt64 {a : Nat} (h : a < 18446744073709551616) : (BitVec.ofInt IntKind.u64.bits (a : Int)).toNat = a := by
  show (BitVec.ofInt 64 (a : Int)).toNat = a
  rw [BitVec.toNat_ofInt]
  omega
theorem wrapn64 (n : Nat) (h : n < 18446744073709551616) : IntKind.u64.wrap (n : Int) = n := Fw.wrapu64_id (by omega) (by omega)
theorem and127_64 (u : Nat) (h : u < 18446744073709551616) : iand .u64 (u : Int) 127 = ((u % 128 : Nat) : Int) := by
  have e : (BitVec.ofInt IntKind.u64.bits 127).toNat = 127 := by decide
  rw [iand, BitVec.toNat_and, ofInt64 h, e, show (127 : Nat) = 2 ^ 7 - 1 from rfl, Nat.and_two_pow_sub_one_eq_mod]
  exact wrapn64 _ (by omega)
theorem shr7 (u : Nat) : ishr .u64 (u : Int) 7 = ((u / 128 : Nat) : Int) := by
  have e : (2 : Int) ^ (min (7 : Int).toNat IntKind.u64.bits) = ((128 : Nat) : Int) := by decide
  rw [ishr, e, Int.fdiv_eq_ediv_of_nonneg _ (by decide)]
  rfl
theorem lay8r (u : Nat) (h : u < 18446744073709551616) : ior .u8 (IntKind.u8.wrap (iand .u64 (u : Int) 127)) 128 = ((u % 128 + 128 : Nat) : Int) := by
  rw [and127_64 u h, lay8, Nat.mod_mod]
theorem low8 {u : Nat} (h : u < 128) : IntKind.u8.wrap (u : Int) = (u : Int) := by rw [wrap8, Nat.mod_eq_of_lt (by omega)]
end Go.Proofs.Yteedclmcgifmpaa.Rr

namespace Go.Proofs.Yteedclmcgifmpaa
open Go Go.RowKit Fw
open Sha
open Ots
open Mk
set_option linter.unusedVariables false
set_option linter.unusedSimpArgs false
set_option maxRecDepth 20000 in
set_option maxHeartbeats 2000000 in
theorem qnum_any (n : Int) (w : World) : Calls Try.prog 65 #[.int .i64 n] w (Post (ι := Value) w [] (fun _ => True) (fun v => v) (fun v => [(0, .own (v) 5 1 (ints .u8 (Rr.num n)))])) := by
  refine calls_at (vs := [.int .i64 n]) (X := []) (H := []) (F := []) 27 Try.func65 rfl rfl rfl (Sat.start0 w) ?_
  refine cd_seq ?_
  refine cd_region ?_
  refine st (ev_assign rfl) rfl rfl rfl ?_
  refine at_own_nil 2 5 1 ?_
  refine at_heq (i := 2) (v' := .own (.slice none 0 0) 5 1 (ints .u8 [])) rfl rfl ?_
  refine op_nil ?_
  refine ax_then ?_
  refine At.regs (L' := [(0, _), (2, _)]) (.cons rfl (.cons rfl (.nil _))) ?_
  refine cd_seq ?_
  refine cd_region ?_
  refine st (ev_assign rfl) rfl rfl rfl ?_
  refine op_nil ?_
  refine ax_then ?_
  refine At.regs (L' := [(0, _), (2, _), (3, _)]) (.cons rfl (.cons rfl (.cons rfl (.nil _)))) ?_
  refine cd_join (ι := Unit) (fun _ => True) (fun _ => [(3, .int .u64 (Rr.clampN n : Int))]) (fun _ => []) (fun _ => []) ?_ (fun _ hj => ?_)
  ·
    refine cd_seq ?_
    refine cd_region ?_
    refine st (ev_move rfl) rfl rfl rfl ?_
    refine st (ev_gtr rfl rfl) rfl rfl rfl ?_
    refine op_nil ?_
    refine ax_then ?_
    refine At.regs (L' := [(0, _), (2, _), (3, _), (6, _)]) (.cons rfl (.cons rfl (.cons rfl (.cons rfl (.nil _))))) ?_
    refine cd_if rfl (fun hc6 => ?_) (fun hc6 => ?_)
    ·
      refine cd_region ?_
      refine st (ev_assign rfl) rfl rfl rfl ?_
      refine op_nil ?_
      refine ax_eq (i := 3) (v' := .int .u64 (Rr.clampN n : Int)) rfl (by rw [show (Rr.clampN n : Int) = 4611686018427387904 by unfold Rr.clampN; omega]) ?_
      exact at_met (()) (trivial) (.cons rfl (.nil _)) (.nil _) (.nil _)
    ·
      refine cd_seq ?_
      refine cd_region ?_
      refine st (ev_move rfl) rfl rfl rfl ?_
      refine st (ev_gtr rfl rfl) rfl rfl rfl ?_
      refine op_nil ?_
      refine ax_then ?_
      refine At.regs (L' := [(0, _), (2, _), (3, _), (8, _)]) (.cons rfl (.cons rfl (.cons rfl (.cons rfl (.nil _))))) ?_
      refine cd_if rfl (fun hc8 => ?_) (fun hc8 => ?_)
      ·
        refine cd_region ?_
        refine st (ev_move rfl) rfl rfl rfl ?_
        refine st (ev_convu64 Try.underlying3 Try.underlying121 rfl (by omega) (by omega)) rfl rfl rfl ?_
        refine st (ev_assign rfl) rfl rfl rfl ?_
        refine op_nil ?_
        refine ax_eq (i := 3) (v' := .int .u64 (Rr.clampN n : Int)) rfl (by rw [show (Rr.clampN n : Int) = n by unfold Rr.clampN; omega]) ?_
        exact at_met (()) (trivial) (.cons rfl (.nil _)) (.nil _) (.nil _)
      ·
        refine cd_skip ?_
        refine ax_eq (i := 3) (v' := .int .u64 (Rr.clampN n : Int)) rfl (by rw [show (Rr.clampN n : Int) = 0 by unfold Rr.clampN; omega]) ?_
        exact at_met (()) (trivial) (.cons rfl (.nil _)) (.nil _) (.nil _)
  ·
    refine cd_seq ?_
    refine cd_region ?_
    refine st (ev_assign rfl) rfl rfl rfl ?_
    refine at_own_nil 4 5 1 ?_
    refine at_heq (i := 4) (v' := .own (.slice none 0 0) 5 1 (ints .u8 [])) rfl rfl ?_
    refine op_nil ?_
    refine ax_then ?_
    refine At.regs (L' := [(3, _), (4, _)]) (.cons rfl (.cons rfl (.nil _))) ?_
    refine cd_seq ?_
    refine cd_block ?_
    refine cd_loop (ι := Nat × Value × List Int) (fun y => y.2.2 ++ Rr.encN y.1 = Rr.num n ∧ y.1 ≤ 4611686018427387904) (fun y => y.1)
        (fun y => [(3, .int .u64 (y.1 : Int)), (4, y.2.1)])
        (fun y => [(4, .own (y.2.1) 5 1 (ints .u8 (y.2.2)))])
        (fun y => [])
        (Rr.clampN n, .slice none 0 0, []) (⟨rfl, Rr.clampN_le n⟩) (.cons rfl (.cons rfl (.nil _))) (.cons rfl (.nil _)) (.nil _) (fun y hi => ?_)
    obtain ⟨u, v, out⟩ := y
    dsimp only at hi ⊢
    have hi2 := hi.2
    have hol : out.length ≤ 9 := by
      have h1 := congrArg List.length hi.1
      rw [List.length_append] at h1
      have h2 := Rr.num_len n
      omega
    refine cd_seq ?_
    refine cd_seq ?_
    refine cd_region ?_
    refine st (ev_move rfl) rfl rfl rfl ?_
    refine st (ev_geq rfl rfl) rfl rfl rfl ?_
    refine op_nil ?_
    refine ax_then ?_
    refine At.regs (L' := [(3, _), (4, _), (11, _), (12, _)]) (.cons rfl (.cons rfl (.cons rfl (.cons rfl (.nil _))))) ?_
    refine cd_if rfl (fun hc12 => ?_) (fun hc12 => ?_)
    ·
      refine cd_skip ?_
      refine ax_then ?_
      refine At.regs (L' := [(3, _), (4, _), (11, _), (12, _)]) (.cons rfl (.cons rfl (.cons rfl (.cons rfl (.nil _))))) ?_
      refine cd_block ?_
      refine cd_seq ?_
      refine cd_region ?_
      refine st (ev_move rfl) rfl rfl rfl ?_
      refine st (ev_move rfl) rfl rfl rfl ?_
      refine st (ev_and rfl rfl) rfl rfl rfl ?_
      refine st (ev_conv Try.underlying121 Try.underlying5 rfl) rfl rfl rfl ?_
      refine st (ev_or rfl rfl) rfl rfl rfl ?_
      refine at_eq (i := 17) (v' := .int .u8 (((u % 128 + 128 : Nat)) : Int)) rfl (by rw [Rr.lay8r u (by omega)]) ?_
      refine st_bsi (h := 18) (xs := [_]) Try.underlying22 ty5 (by decide) rfl rfl (by decide) rfl rfl (fun b18 => ?_)
      refine st_appendi (h := 4) Try.underlying22 Try.underlying22 ty5 rfl rfl rfl rfl (fun w1 sw => sw.own_rd (h := 18) rfl) (by first | omega | (simp only [List.length_append, List.length_cons, List.length_nil, List.length_set, List.length_replicate, List.length_take, List.length_drop, ints_length, wr_length, sha_len, node_len, recov_len, Ky.named_len, Ky.keyPub_len, Ky.hashOf_len] <;> omega)) (by decide) rfl rfl (fun v19 => ?_)
      refine st (ev_assign rfl) rfl rfl rfl ?_
      refine op_nil ?_
      refine ax_then ?_
      refine At.regs (L' := [(3, _), (4, _), (11, _), (12, _), (13, _), (14, _), (15, _), (16, _), (17, _), (18, _), (19, _)]) (.cons rfl (.cons rfl (.cons rfl (.cons rfl (.cons rfl (.cons rfl (.cons rfl (.cons rfl (.cons rfl (.cons rfl (.cons rfl (.nil _)))))))))))) ?_
      refine cd_region ?_
      refine st (ev_move rfl) rfl rfl rfl ?_
      refine st (ev_shr rfl rfl (by omega)) rfl rfl rfl ?_
      refine at_eq (i := 21) (v' := .int .u64 ((u / 128 : Nat) : Int)) rfl (by rw [Rr.shr7]) ?_
      refine st (ev_assign rfl) rfl rfl rfl ?_
      refine op_nil ?_
      refine ax_block ?_
      exact at_again ((u / 128, v19, out ++ [(((u % 128 + 128 : Nat)) : Int)])) (⟨by show (out ++ [(((u % 128 + 128 : Nat)) : Int)]) ++ Rr.encN (u / 128) = Rr.num n; rw [List.append_assoc, List.singleton_append, ← Rr.encN_ge (by omega)]; exact hi.1, by show u / 128 ≤ 4611686018427387904; omega⟩) (by show u / 128 < u; omega) (.cons rfl (.cons rfl (.nil _))) (.cons rfl (.nil _)) (.nil _)
    ·
      refine cd_exit ?_
      refine ax_then_exit ?_
      refine ax_then_exit ?_
      refine ax_block_hit ?_
      refine ax_then ?_
      refine At.regs (L' := [(3, _), (4, _)]) (.cons rfl (.cons rfl (.nil _))) ?_
      refine cd_seq ?_
      refine cd_region ?_
      refine st (ev_move rfl) rfl rfl rfl ?_
      refine st (ev_move rfl) rfl rfl rfl ?_
      refine st (ev_conv Try.underlying121 Try.underlying5 rfl) rfl rfl rfl ?_
      refine at_eq (i := 24) (v' := .int .u8 (u : Int)) rfl (by rw [Rr.low8 (by omega)]) ?_
      refine st_bsi (h := 25) (xs := [_]) Try.underlying22 ty5 (by decide) rfl rfl (by decide) rfl rfl (fun b25 => ?_)
      refine st_appendi (h := 4) Try.underlying22 Try.underlying22 ty5 rfl rfl rfl rfl (fun w1 sw => sw.own_rd (h := 25) rfl) (by first | omega | (simp only [List.length_append, List.length_cons, List.length_nil, List.length_set, List.length_replicate, List.length_take, List.length_drop, ints_length, wr_length, sha_len, node_len, recov_len, Ky.named_len, Ky.keyPub_len, Ky.hashOf_len] <;> omega)) (by decide) rfl rfl (fun v26 => ?_)
      refine at_heq (i := 4) (v' := .own (v26) 5 1 (ints .u8 (Rr.num n))) rfl (by rw [← hi.1, Rr.encN_lt (by omega)]) ?_
      refine st (ev_assign rfl) rfl rfl rfl ?_
      refine op_nil ?_
      refine ax_then ?_
      refine At.regs (L' := [(2, _)]) (.cons rfl (.nil _)) ?_
      refine cd_ret ?_
      refine rt_tmp (.inl rfl) Try.results65 rfl ?_
      exact fun w1 sw => ⟨v26, trivial, rfl, (sw.gives (N := [(4, _)]) (.cons rfl (.nil _))).rn 0⟩
end Go.Proofs.Yteedclmcgifmpaa

namespace Go.Proofs.Yteedclmcgifmpaa
open Go Go.RowKit Fw
open Sha
open Ots
open Mk
set_option linter.unusedVariables false
set_option linter.unusedSimpArgs false
set_option maxRecDepth 20000 in
set_option maxHeartbeats 8000000 in
theorem qrnum_g (b : Nat) (rv : Value) (bad : Bool) (r : List Int) (w : World) (hb : w.heap[b]? = some (.cells (List.toArray [rv, .bool bad]) 102)) (h : Rd w rv 1 (ints .u8 r)) (ho : FE.off b (.sl rv 1 (ints .u8 r))) (hr : r.length ≤ 140737488352000) (he : bad = true → r = []) (hB : Byt r) : Calls Try.prog 70 #[.pointer (some ⟨b, 0, none⟩)] w (Post (ι := Value) w [b] (fun x => Rr.Und rv r x (Rr.nRest r)) (fun _ => .int .i64 (Rr.nVal r)) (fun x => [(0, .blk (b) (.cells ([x, .bool (bad || Rr.nBad r)]).toArray 102))])) := by
  refine calls_at (vs := [.pointer (some ⟨b, 0, none⟩)]) (X := [b]) (H := [(0, .blk (b) (.cells ([rv, .bool (bad)]).toArray 102))]) (F := [(1, .sl rv 1 (ints .u8 r))]) 57 Try.func70 rfl rfl rfl ((Sat.blkX 0 hb).readb (f := .sl rv 1 (ints .u8 r)) 1 h ho) ?_
  refine cd_seq ?_
  refine cd_region ?_
  refine st (ev_assign rfl) rfl rfl rfl ?_
  refine op_nil ?_
  refine ax_then ?_
  refine At.regs (L' := [(0, _), (2, _)]) (.cons rfl (.cons rfl (.nil _))) ?_
  refine cd_seq ?_
  refine cd_region ?_
  refine st (ev_assign rfl) rfl rfl rfl ?_
  refine op_nil ?_
  refine ax_then ?_
  refine At.regs (L' := [(0, _), (2, _), (3, _)]) (.cons rfl (.cons rfl (.cons rfl (.nil _)))) ?_
  refine cd_seq ?_
  refine cd_seq ?_
  refine cd_region ?_
  refine st (ev_assign rfl) rfl rfl rfl ?_
  refine op_nil ?_
  refine ax_then ?_
  refine At.regs (L' := [(0, _), (2, _), (3, _), (4, _)]) (.cons rfl (.cons rfl (.cons rfl (.cons rfl (.nil _))))) ?_
  refine cd_block ?_
  refine cd_loop (ι := Nat × Int × Value × List Int) (fun x => x.1 ≤ 10 ∧ Rr.numG x.1 x.2.1 x.2.2.2 = Rr.numS r ∧ Rr.Und rv r x.2.2.1 x.2.2.2 ∧ (bad = true → x.2.2.2 = []) ∧ x.2.2.2 = r.drop x.1) (fun x => 10 - x.1)
      (fun x => [(0, .pointer (some ⟨b, 0, none⟩)), (3, .int .u64 x.2.1), (4, .int .i64 (x.1 : Int))])
      (fun x => [(0, .blk (b) (.cells ([x.2.2.1, .bool (bad)]).toArray 102))])
      (fun x => [(1, .sl x.2.2.1 1 (ints .u8 x.2.2.2))])
      (0, 0, rv, r) (⟨by omega, rfl, Rr.Und.refl rv r, he, rfl⟩) (.cons rfl (.cons rfl (.cons rfl (.nil _)))) (.cons rfl (.nil _)) (.cons rfl (.nil _)) (fun x hi => ?_)
  obtain ⟨i, u, vc, rc⟩ := x
  dsimp only at hi ⊢
  have hi1 := hi.1
  have hrl := hi.2.2.1.len
  refine cd_seq ?_
  refine cd_seq ?_
  refine cd_region ?_
  refine st (ev_move rfl) rfl rfl rfl ?_
  refine st (ev_lss rfl rfl) rfl rfl rfl ?_
  refine op_nil ?_
  refine ax_then ?_
  refine At.regs (L' := [(0, _), (3, _), (4, _), (7, _), (8, _)]) (.cons rfl (.cons rfl (.cons rfl (.cons rfl (.cons rfl (.nil _)))))) ?_
  refine cd_if rfl (fun hc8 => ?_) (fun hc8 => ?_)
  ·
    refine cd_skip ?_
    refine ax_then ?_
    refine At.regs (L' := [(0, _), (3, _), (4, _), (7, _), (8, _)]) (.cons rfl (.cons rfl (.cons rfl (.cons rfl (.cons rfl (.nil _)))))) ?_
    refine cd_seq ?_
    refine cd_block ?_
    refine cd_seq ?_
    refine cd_region ?_
    refine st (ev_move rfl) rfl rfl rfl ?_
    refine st_call has96 rfl (fun w1 sw => rn2 0 12 (qraw_g b vc bad rc w1 (sw.blk_eq (h := 0) rfl) (sw.sl_rd (h := 1) rfl) (sw.off 1 _ 0 _ rfl rfl _ (by simp [Ent.ids])) (by omega) hi.2.2.2.1 1)) (mod_blk2 rfl) rfl rfl (fun x12 hx12 => ?_)
    obtain ⟨vd, vo⟩ := x12
    dsimp only at hx12 ⊢
    refine at_fmap (h := 1) 1 rfl (fun w1 hh => hx12.rd w1 hh) hx12.blk hx12.nil ?_
    refine st (ev_assign rfl) rfl rfl rfl ?_
    refine op_nil ?_
    refine ax_then ?_
    refine At.regs (L' := [(0, _), (3, _), (4, _), (5, _), (7, _), (8, _), (11, _), (12, _)]) (.cons rfl (.cons rfl (.cons rfl (.cons rfl (.cons rfl (.cons rfl (.cons rfl (.cons rfl (.nil _))))))))) ?_
    refine cd_seq ?_
    refine cd_seq ?_
    refine cd_region ?_
    refine st (ev_move rfl) rfl rfl rfl ?_
    refine st (ev_nilCheck rfl) rfl rfl rfl ?_
    refine st (ev_fieldAddr (b := _) Try.underlying102 (f := _) rfl ty4 (by decide) rfl) rfl rfl rfl ?_
    refine st (ld_blk1 (h := 0) ty4 rfl rfl rfl rfl) rfl rfl rfl ?_
    refine op_nil ?_
    refine ax_then ?_
    refine At.regs (L' := [(0, _), (3, _), (4, _), (5, _), (7, _), (8, _), (11, _), (12, _), (13, _), (14, _), (15, _), (16, _)]) (.cons rfl (.cons rfl (.cons rfl (.cons rfl (.cons rfl (.cons rfl (.cons rfl (.cons rfl (.cons rfl (.cons rfl (.cons rfl (.cons rfl (.nil _))))))))))))) ?_
    refine cd_cond rfl (fun hc16 => ?_) (fun hc16 => ?_)
    ·
      refine cd_seq ?_
      refine cd_region ?_
      refine st (ev_assign rfl) rfl rfl rfl ?_
      refine op_nil ?_
      refine ax_then ?_
      refine At.regs (L' := [(0, _), (2, _), (3, _), (4, _), (5, _), (7, _), (8, _), (11, _), (12, _), (13, _), (14, _), (15, _), (16, _)]) (.cons rfl (.cons rfl (.cons rfl (.cons rfl (.cons rfl (.cons rfl (.cons rfl (.cons rfl (.cons rfl (.cons rfl (.cons rfl (.cons rfl (.cons rfl (.nil _)))))))))))))) ?_
      refine cd_ret ?_
      refine ax_then_ret ?_
      refine ax_block_ret ?_
      refine ax_then_ret ?_
      refine ax_then_ret ?_
      refine ax_block_ret ?_
      refine ax_then_ret ?_
      refine rt_tmp (.inl rfl) Try.results70 rfl ?_
      first
      | (have hrc : rc = [] := by
           cases hbb : bad with
           | true => exact hi.2.2.2.1 hbb
           | false => rw [hbb] at hc16; exact Rr.rBad_1 hc16
         have hnone : Rr.numS r = none := by rw [← hi.2.1, hrc]; rfl
         exact fun w1 sw => ⟨vd, by rw [(Rr.nVal_no hnone).2.2, ← show Rr.rRest rc 1 = [] from by rw [hrc]; decide]; exact hi.2.2.1.trans hx12, by rw [(Rr.nVal_no hnone).1], by rw [(Rr.nVal_no hnone).2.1, Bool.or_true, ← hc16]; exact sw.gives (N := [(0, _)]) (.cons rfl (.nil _))⟩)
      | (exact fun w1 sw => ⟨vd, by rw [(Rr.nVal_ok hs).2.2, show r.drop (i + 1) = Rr.rRest (c :: t) 1 from by rw [hraw.2.1, ← htl]]; exact hi.2.2.1.trans hx12, by rw [(Rr.nVal_ok hs).1], by rw [(Rr.nVal_ok hs).2.1, Bool.or_false]; exact sw.gives (N := [(0, _)]) (.cons rfl (.nil _))⟩)
      | (have hnone : Rr.numS r = none := by
           rw [← hi.2.1]
           first
           | exact Rr.numG_brk (by omega)
           | exact Rr.numG_big (by omega) (by omega)
           | (rw [show i = 10 by omega]; exact Rr.numG_ten)
         exact fun w1 sw => ⟨Ky.nil0, Rr.nUnd_no rv hnone, by rw [(Rr.nVal_no hnone).1], by rw [(Rr.nVal_no hnone).2.1, Bool.or_true]; exact sw.gives (N := [(0, _)]) (.cons rfl (.nil _))⟩)
    ·
      have hnb : ¬ Rr.rBad rc 1 = true := fun hh => by rw [hh, Bool.or_true] at hc16; cases hc16
      obtain ⟨c, t, rfl⟩ := Rr.rBad_cons hnb
      have hraw := Rr.rOut_1 c t
      have hcB := (hi.2.2.1.byt hB) c (by simp)
      have htl : t = r.drop (i + 1) := by
        have h1 := congrArg List.tail hi.2.2.2.2
        simpa using h1
      refine at_heq (i := 0) (v' := .blk (b) (.cells ([vd, .bool (bad)]).toArray 102)) rfl (by rw [hraw.2.2, Bool.or_false]) ?_
      refine at_heq (i := 12) (v' := .own (vo) 5 1 (ints .u8 ([c]))) rfl (by rw [hraw.1]) ?_
      refine cd_skip ?_
      refine ax_then ?_
      refine At.regs (L' := [(0, _), (3, _), (4, _), (5, _), (7, _), (8, _), (11, _), (12, _), (13, _), (14, _), (15, _), (16, _)]) (.cons rfl (.cons rfl (.cons rfl (.cons rfl (.cons rfl (.cons rfl (.cons rfl (.cons rfl (.cons rfl (.cons rfl (.cons rfl (.cons rfl (.nil _))))))))))))) ?_
      refine cd_seq ?_
      refine cd_region ?_
      refine st (ev_move rfl) rfl rfl rfl ?_
      refine st (ev_indexAddr_owni (h := 12) Try.underlying22 ty5 rfl rfl rfl (by omega) (by first | omega | (simp only [List.length_append, List.length_cons, List.length_nil, List.length_set, List.length_replicate, List.length_take, List.length_drop, ints_length, wr_length, sha_len, node_len, recov_len, Ky.named_len, Ky.keyPub_len, Ky.hashOf_len] <;> omega))) rfl rfl rfl ?_
      refine st (ld_own1 (h := 12) ty5 rfl rfl rfl (ints_get _ _ _ (by first | omega | (simp only [List.length_append, List.length_cons, List.length_nil, List.length_set, List.length_replicate, List.length_take, List.length_drop, ints_length, wr_length, sha_len, node_len, recov_len, Ky.named_len, Ky.keyPub_len, Ky.hashOf_len] <;> omega) | rfl))) rfl rfl rfl ?_
      refine at_eq (i := 19) (v' := .int .u8 c) rfl rfl ?_
      refine st (ev_assign rfl) rfl rfl rfl ?_
      refine op_nil ?_
      refine ax_then ?_
      refine At.regs (L' := [(0, _), (3, _), (4, _), (5, _), (6, _), (7, _), (8, _), (11, _), (12, _), (13, _), (14, _), (15, _), (16, _), (17, _), (18, _), (19, _)]) (.cons rfl (.cons rfl (.cons rfl (.cons rfl (.cons rfl (.cons rfl (.cons rfl (.cons rfl (.cons rfl (.cons rfl (.cons rfl (.cons rfl (.cons rfl (.cons rfl (.cons rfl (.cons rfl (.nil _))))))))))))))))) ?_
      refine cd_seq ?_
      refine cd_seq ?_
      refine cd_region ?_
      refine st (ev_move rfl) rfl rfl rfl ?_
      refine st (ev_eql rfl rfl) rfl rfl rfl ?_
      refine st (ev_move rfl) rfl rfl rfl ?_
      refine at_split_if (i := 22) rfl (fun hg22 => ?_) (fun hg22 => ?_)
      ·
        refine st (ev_move rfl) rfl rfl rfl ?_
        refine st (ev_gtr rfl rfl) rfl rfl rfl ?_
        refine st (ev_pick_t rfl rfl) rfl rfl rfl ?_
        refine op_nil ?_
        refine ax_then ?_
        refine At.regs (L' := [(0, _), (3, _), (4, _), (5, _), (6, _), (7, _), (8, _), (11, _), (12, _), (13, _), (14, _), (15, _), (16, _), (17, _), (18, _), (19, _), (20, _), (21, _), (22, _), (23, _), (24, _), (25, _)]) (.cons rfl (.cons rfl (.cons rfl (.cons rfl (.cons rfl (.cons rfl (.cons rfl (.cons rfl (.cons rfl (.cons rfl (.cons rfl (.cons rfl (.cons rfl (.cons rfl (.cons rfl (.cons rfl (.cons rfl (.cons rfl (.cons rfl (.cons rfl (.cons rfl (.cons rfl (.nil _))))))))))))))))))))))) ?_
        refine cd_if rfl (fun hc25 => ?_) (fun hc25 => ?_)
        ·
          refine cd_exit ?_
          refine ax_then_exit ?_
          refine ax_block_miss (by decide) ?_
          refine ax_then_exit ?_
          refine ax_then_exit ?_
          refine ax_block_hit ?_
          refine ax_then ?_
          refine At.regs (L' := [(0, _)]) (.cons rfl (.nil _)) ?_
          refine cd_seq ?_
          refine cd_region ?_
          refine st (ev_move rfl) rfl rfl rfl ?_
          refine st_call has97 rfl (fun w1 sw => qbad_any b _ _ w1 (sw.blk_eq (h := 0) rfl)) (mod_blk rfl) rfl rfl (fun _ _ => ?_)
          refine op_nil ?_
          refine ax_then ?_
          refine At.regs (L' := []) (.nil _) ?_
          refine cd_seq ?_
          refine cd_region ?_
          refine st (ev_assign rfl) rfl rfl rfl ?_
          refine op_nil ?_
          refine ax_then ?_
          refine At.regs (L' := [(2, _)]) (.cons rfl (.nil _)) ?_
          refine cd_ret ?_
          refine rt_tmp (.inl rfl) Try.results70 rfl ?_
          first
          | (have hrc : rc = [] := by
               cases hbb : bad with
               | true => exact hi.2.2.2.1 hbb
               | false => rw [hbb] at hc16; exact Rr.rBad_1 hc16
             have hnone : Rr.numS r = none := by rw [← hi.2.1, hrc]; rfl
             exact fun w1 sw => ⟨vd, by rw [(Rr.nVal_no hnone).2.2, ← show Rr.rRest rc 1 = [] from by rw [hrc]; decide]; exact hi.2.2.1.trans hx12, by rw [(Rr.nVal_no hnone).1], by rw [(Rr.nVal_no hnone).2.1, Bool.or_true, ← hc16]; exact sw.gives (N := [(0, _)]) (.cons rfl (.nil _))⟩)
          | (exact fun w1 sw => ⟨vd, by rw [(Rr.nVal_ok hs).2.2, show r.drop (i + 1) = Rr.rRest (c :: t) 1 from by rw [hraw.2.1, ← htl]]; exact hi.2.2.1.trans hx12, by rw [(Rr.nVal_ok hs).1], by rw [(Rr.nVal_ok hs).2.1, Bool.or_false]; exact sw.gives (N := [(0, _)]) (.cons rfl (.nil _))⟩)
          | (have hnone : Rr.numS r = none := by
               rw [← hi.2.1]
               first
               | exact Rr.numG_brk (by omega)
               | exact Rr.numG_big (by omega) (by omega)
               | (rw [show i = 10 by omega]; exact Rr.numG_ten)
             exact fun w1 sw => ⟨Ky.nil0, Rr.nUnd_no rv hnone, by rw [(Rr.nVal_no hnone).1], by rw [(Rr.nVal_no hnone).2.1, Bool.or_true]; exact sw.gives (N := [(0, _)]) (.cons rfl (.nil _))⟩)
        ·
          refine cd_skip ?_
          refine ax_then ?_
          refine At.regs (L' := [(0, _), (3, _), (4, _), (5, _), (6, _), (7, _), (8, _), (11, _), (12, _), (13, _), (14, _), (15, _), (16, _), (17, _), (18, _), (19, _), (20, _), (21, _), (22, _), (23, _), (24, _), (25, _)]) (.cons rfl (.cons rfl (.cons rfl (.cons rfl (.cons rfl (.cons rfl (.cons rfl (.cons rfl (.cons rfl (.cons rfl (.cons rfl (.cons rfl (.cons rfl (.cons rfl (.cons rfl (.cons rfl (.cons rfl (.cons rfl (.cons rfl (.cons rfl (.cons rfl (.cons rfl (.nil _))))))))))))))))))))))) ?_
          refine cd_seq ?_
          refine cd_seq ?_
          refine cd_region ?_
          refine st (ev_move rfl) rfl rfl rfl ?_
          refine st (ev_eql rfl rfl) rfl rfl rfl ?_
          refine st (ev_move rfl) rfl rfl rfl ?_
          refine at_eq (i := 28) (v' := .bool true) rfl (by simp only [Value.bool.injEq, decide_eq_true_eq, decide_eq_false_iff_not]; exact hg22) ?_
          refine st (ev_move rfl) rfl rfl rfl ?_
          refine st (ev_gtr rfl rfl) rfl rfl rfl ?_
          refine st (ev_pick_t rfl rfl) rfl rfl rfl ?_
          refine op_nil ?_
          refine ax_then ?_
          refine At.regs (L' := [(0, _), (3, _), (4, _), (5, _), (6, _), (7, _), (8, _), (11, _), (12, _), (13, _), (14, _), (15, _), (16, _), (17, _), (18, _), (19, _), (20, _), (21, _), (22, _), (23, _), (24, _), (25, _), (26, _), (27, _), (28, _), (29, _), (30, _), (31, _)]) (.cons rfl (.cons rfl (.cons rfl (.cons rfl (.cons rfl (.cons rfl (.cons rfl (.cons rfl (.cons rfl (.cons rfl (.cons rfl (.cons rfl (.cons rfl (.cons rfl (.cons rfl (.cons rfl (.cons rfl (.cons rfl (.cons rfl (.cons rfl (.cons rfl (.cons rfl (.cons rfl (.cons rfl (.cons rfl (.cons rfl (.cons rfl (.cons rfl (.nil _))))))))))))))))))))))))))))) ?_
          refine cd_if rfl (fun hc31 => ?_) (fun hc31 => ?_)
          ·
            refine cd_exit ?_
            refine ax_then_exit ?_
            refine ax_block_miss (by decide) ?_
            refine ax_then_exit ?_
            refine ax_then_exit ?_
            refine ax_block_hit ?_
            refine ax_then ?_
            refine At.regs (L' := [(0, _)]) (.cons rfl (.nil _)) ?_
            refine cd_seq ?_
            refine cd_region ?_
            refine st (ev_move rfl) rfl rfl rfl ?_
            refine st_call has97 rfl (fun w1 sw => qbad_any b _ _ w1 (sw.blk_eq (h := 0) rfl)) (mod_blk rfl) rfl rfl (fun _ _ => ?_)
            refine op_nil ?_
            refine ax_then ?_
            refine At.regs (L' := []) (.nil _) ?_
            refine cd_seq ?_
            refine cd_region ?_
            refine st (ev_assign rfl) rfl rfl rfl ?_
            refine op_nil ?_
            refine ax_then ?_
            refine At.regs (L' := [(2, _)]) (.cons rfl (.nil _)) ?_
            refine cd_ret ?_
            refine rt_tmp (.inl rfl) Try.results70 rfl ?_
            first
            | (have hrc : rc = [] := by
                 cases hbb : bad with
                 | true => exact hi.2.2.2.1 hbb
                 | false => rw [hbb] at hc16; exact Rr.rBad_1 hc16
               have hnone : Rr.numS r = none := by rw [← hi.2.1, hrc]; rfl
               exact fun w1 sw => ⟨vd, by rw [(Rr.nVal_no hnone).2.2, ← show Rr.rRest rc 1 = [] from by rw [hrc]; decide]; exact hi.2.2.1.trans hx12, by rw [(Rr.nVal_no hnone).1], by rw [(Rr.nVal_no hnone).2.1, Bool.or_true, ← hc16]; exact sw.gives (N := [(0, _)]) (.cons rfl (.nil _))⟩)
            | (exact fun w1 sw => ⟨vd, by rw [(Rr.nVal_ok hs).2.2, show r.drop (i + 1) = Rr.rRest (c :: t) 1 from by rw [hraw.2.1, ← htl]]; exact hi.2.2.1.trans hx12, by rw [(Rr.nVal_ok hs).1], by rw [(Rr.nVal_ok hs).2.1, Bool.or_false]; exact sw.gives (N := [(0, _)]) (.cons rfl (.nil _))⟩)
            | (have hnone : Rr.numS r = none := by
                 rw [← hi.2.1]
                 first
                 | exact Rr.numG_brk (by omega)
                 | exact Rr.numG_big (by omega) (by omega)
                 | (rw [show i = 10 by omega]; exact Rr.numG_ten)
               exact fun w1 sw => ⟨Ky.nil0, Rr.nUnd_no rv hnone, by rw [(Rr.nVal_no hnone).1], by rw [(Rr.nVal_no hnone).2.1, Bool.or_true]; exact sw.gives (N := [(0, _)]) (.cons rfl (.nil _))⟩)
          ·
            refine cd_skip ?_
            refine ax_then ?_
            refine At.regs (L' := [(0, _), (3, _), (4, _), (5, _), (6, _), (7, _), (8, _), (11, _), (12, _), (13, _), (14, _), (15, _), (16, _), (17, _), (18, _), (19, _), (20, _), (21, _), (22, _), (23, _), (24, _), (25, _), (26, _), (27, _), (28, _), (29, _), (30, _), (31, _)]) (.cons rfl (.cons rfl (.cons rfl (.cons rfl (.cons rfl (.cons rfl (.cons rfl (.cons rfl (.cons rfl (.cons rfl (.cons rfl (.cons rfl (.cons rfl (.cons rfl (.cons rfl (.cons rfl (.cons rfl (.cons rfl (.cons rfl (.cons rfl (.cons rfl (.cons rfl (.cons rfl (.cons rfl (.cons rfl (.cons rfl (.cons rfl (.cons rfl (.nil _))))))))))))))))))))))))))))) ?_
            refine cd_seq ?_
            refine cd_region ?_
            refine st (ev_move rfl) rfl rfl rfl ?_
            refine st (ev_move rfl) rfl rfl rfl ?_
            refine st (ev_and rfl rfl) rfl rfl rfl ?_
            refine st (ev_conv Try.underlying5 Try.underlying121 rfl) rfl rfl rfl ?_
            refine st (ev_move rfl) rfl rfl rfl ?_
            refine st (ev_mul64 rfl rfl (by omega) (by omega)) rfl rfl rfl ?_
            refine st (ev_convu64 Try.underlying3 Try.underlying37 rfl (by omega) (by omega)) rfl rfl rfl ?_
            refine st (ev_shl rfl rfl (by omega)) rfl rfl rfl ?_
            refine st (ev_or rfl rfl) rfl rfl rfl ?_
            refine at_eq (i := 40) (v' := .int .u64 (Rr.acc u c i)) rfl rfl ?_
            have hap := Rr.acc_pos u c i
            refine st (ev_assign rfl) rfl rfl rfl ?_
            refine op_nil ?_
            refine ax_then ?_
            refine At.regs (L' := [(0, _), (3, _), (4, _), (5, _), (6, _), (7, _), (8, _), (11, _), (12, _), (13, _), (14, _), (15, _), (16, _), (17, _), (18, _), (19, _), (20, _), (21, _), (22, _), (23, _), (24, _), (25, _), (26, _), (27, _), (28, _), (29, _), (30, _), (31, _), (32, _), (33, _), (34, _), (35, _), (36, _), (37, _), (38, _), (39, _), (40, _)]) (.cons rfl (.cons rfl (.cons rfl (.cons rfl (.cons rfl (.cons rfl (.cons rfl (.cons rfl (.cons rfl (.cons rfl (.cons rfl (.cons rfl (.cons rfl (.cons rfl (.cons rfl (.cons rfl (.cons rfl (.cons rfl (.cons rfl (.cons rfl (.cons rfl (.cons rfl (.cons rfl (.cons rfl (.cons rfl (.cons rfl (.cons rfl (.cons rfl (.cons rfl (.cons rfl (.cons rfl (.cons rfl (.cons rfl (.cons rfl (.cons rfl (.cons rfl (.cons rfl (.nil _)))))))))))))))))))))))))))))))))))))) ?_
            refine cd_seq ?_
            refine cd_seq ?_
            refine cd_region ?_
            refine st (ev_move rfl) rfl rfl rfl ?_
            refine st (ev_gtr rfl rfl) rfl rfl rfl ?_
            refine op_nil ?_
            refine ax_then ?_
            refine At.regs (L' := [(0, _), (3, _), (4, _), (5, _), (6, _), (7, _), (8, _), (11, _), (12, _), (13, _), (14, _), (15, _), (16, _), (17, _), (18, _), (19, _), (20, _), (21, _), (22, _), (23, _), (24, _), (25, _), (26, _), (27, _), (28, _), (29, _), (30, _), (31, _), (32, _), (33, _), (34, _), (35, _), (36, _), (37, _), (38, _), (39, _), (40, _), (41, _), (42, _)]) (.cons rfl (.cons rfl (.cons rfl (.cons rfl (.cons rfl (.cons rfl (.cons rfl (.cons rfl (.cons rfl (.cons rfl (.cons rfl (.cons rfl (.cons rfl (.cons rfl (.cons rfl (.cons rfl (.cons rfl (.cons rfl (.cons rfl (.cons rfl (.cons rfl (.cons rfl (.cons rfl (.cons rfl (.cons rfl (.cons rfl (.cons rfl (.cons rfl (.cons rfl (.cons rfl (.cons rfl (.cons rfl (.cons rfl (.cons rfl (.cons rfl (.cons rfl (.cons rfl (.cons rfl (.cons rfl (.nil _)))))))))))))))))))))))))))))))))))))))) ?_
            refine cd_if rfl (fun hc42 => ?_) (fun hc42 => ?_)
            ·
              refine cd_exit ?_
              refine ax_then_exit ?_
              refine ax_block_hit ?_
              refine ax_then ?_
              refine At.regs (L' := [(0, _), (3, _), (4, _), (5, _), (6, _), (7, _), (8, _), (11, _), (12, _), (13, _), (14, _), (15, _), (16, _), (17, _), (18, _), (19, _), (20, _), (21, _), (22, _), (23, _), (24, _), (25, _), (26, _), (27, _), (28, _), (29, _), (30, _), (31, _), (32, _), (33, _), (34, _), (35, _), (36, _), (37, _), (38, _), (39, _), (40, _), (41, _), (42, _)]) (.cons rfl (.cons rfl (.cons rfl (.cons rfl (.cons rfl (.cons rfl (.cons rfl (.cons rfl (.cons rfl (.cons rfl (.cons rfl (.cons rfl (.cons rfl (.cons rfl (.cons rfl (.cons rfl (.cons rfl (.cons rfl (.cons rfl (.cons rfl (.cons rfl (.cons rfl (.cons rfl (.cons rfl (.cons rfl (.cons rfl (.cons rfl (.cons rfl (.cons rfl (.cons rfl (.cons rfl (.cons rfl (.cons rfl (.cons rfl (.cons rfl (.cons rfl (.cons rfl (.cons rfl (.cons rfl (.nil _)))))))))))))))))))))))))))))))))))))))) ?_
              refine cd_region ?_
              refine st (ev_move rfl) rfl rfl rfl ?_
              refine st (ev_add64 rfl rfl (by omega) (by omega)) rfl rfl rfl ?_
              refine st (ev_assign rfl) rfl rfl rfl ?_
              refine op_nil ?_
              exact at_again ((i + 1, Rr.acc u c i, vd, Rr.rRest (c :: t) 1)) (⟨by show i + 1 ≤ 10; omega, by show Rr.numG (i + 1) (Rr.acc u c i) (Rr.rRest (c :: t) 1) = Rr.numS r; rw [hraw.2.1, ← Rr.numG_go (by omega) (by omega)]; exact hi.2.1, hi.2.2.1.trans hx12, fun hb2 => (hi.2.2.2.1 hb2 |> fun hh => by cases hh), by show Rr.rRest (c :: t) 1 = r.drop (i + 1); rw [hraw.2.1]; exact htl⟩) (by omega) (.cons rfl (.cons rfl (.cons rfl (.nil _)))) (.cons rfl (.nil _)) (.cons rfl (.nil _))
            ·
              refine cd_skip ?_
              refine ax_then ?_
              refine At.regs (L' := [(0, _), (3, _), (4, _), (5, _), (6, _), (7, _), (8, _), (11, _), (12, _), (13, _), (14, _), (15, _), (16, _), (17, _), (18, _), (19, _), (20, _), (21, _), (22, _), (23, _), (24, _), (25, _), (26, _), (27, _), (28, _), (29, _), (30, _), (31, _), (32, _), (33, _), (34, _), (35, _), (36, _), (37, _), (38, _), (39, _), (40, _), (41, _), (42, _)]) (.cons rfl (.cons rfl (.cons rfl (.cons rfl (.cons rfl (.cons rfl (.cons rfl (.cons rfl (.cons rfl (.cons rfl (.cons rfl (.cons rfl (.cons rfl (.cons rfl (.cons rfl (.cons rfl (.cons rfl (.cons rfl (.cons rfl (.cons rfl (.cons rfl (.cons rfl (.cons rfl (.cons rfl (.cons rfl (.cons rfl (.cons rfl (.cons rfl (.cons rfl (.cons rfl (.cons rfl (.cons rfl (.cons rfl (.cons rfl (.cons rfl (.cons rfl (.cons rfl (.cons rfl (.cons rfl (.nil _)))))))))))))))))))))))))))))))))))))))) ?_
              refine cd_seq ?_
              refine cd_seq ?_
              refine cd_region ?_
              refine st (ev_move rfl) rfl rfl rfl ?_
              refine st (ev_gtr rfl rfl) rfl rfl rfl ?_
              refine st (ev_move rfl) rfl rfl rfl ?_
              refine at_split_if (i := 45) rfl (fun hg45 => ?_) (fun hg45 => ?_)
              ·
                refine st (ev_move rfl) rfl rfl rfl ?_
                refine st (ev_eql rfl rfl) rfl rfl rfl ?_
                refine st (ev_pick_t rfl rfl) rfl rfl rfl ?_
                refine st (ev_move rfl) rfl rfl rfl ?_
                refine at_split_if (i := 49) rfl (fun hg49 => ?_) (fun hg49 => ?_)
                ·
                  refine st_skip rfl rfl rfl ?_
                  refine st_skip rfl rfl rfl ?_
                  refine st (ev_pick_t rfl rfl) rfl rfl rfl ?_
                  refine op_nil ?_
                  refine ax_then ?_
                  refine At.regs (L' := [(0, _), (3, _), (4, _), (5, _), (6, _), (7, _), (8, _), (11, _), (12, _), (13, _), (14, _), (15, _), (16, _), (17, _), (18, _), (19, _), (20, _), (21, _), (22, _), (23, _), (24, _), (25, _), (26, _), (27, _), (28, _), (29, _), (30, _), (31, _), (32, _), (33, _), (34, _), (35, _), (36, _), (37, _), (38, _), (39, _), (40, _), (41, _), (42, _), (43, _), (44, _), (45, _), (46, _), (47, _), (48, _), (49, _), (50, _), (51, _), (52, _)]) (.cons rfl (.cons rfl (.cons rfl (.cons rfl (.cons rfl (.cons rfl (.cons rfl (.cons rfl (.cons rfl (.cons rfl (.cons rfl (.cons rfl (.cons rfl (.cons rfl (.cons rfl (.cons rfl (.cons rfl (.cons rfl (.cons rfl (.cons rfl (.cons rfl (.cons rfl (.cons rfl (.cons rfl (.cons rfl (.cons rfl (.cons rfl (.cons rfl (.cons rfl (.cons rfl (.cons rfl (.cons rfl (.cons rfl (.cons rfl (.cons rfl (.cons rfl (.cons rfl (.cons rfl (.cons rfl (.cons rfl (.cons rfl (.cons rfl (.cons rfl (.cons rfl (.cons rfl (.cons rfl (.cons rfl (.cons rfl (.cons rfl (.nil _)))))))))))))))))))))))))))))))))))))))))))))))))) ?_
                  refine cd_true rfl ?_
                  refine cd_exit ?_
                  refine ax_then_exit ?_
                  refine ax_block_miss (by decide) ?_
                  refine ax_then_exit ?_
                  refine ax_then_exit ?_
                  refine ax_block_hit ?_
                  refine ax_then ?_
                  refine At.regs (L' := [(0, _)]) (.cons rfl (.nil _)) ?_
                  refine cd_seq ?_
                  refine cd_region ?_
                  refine st (ev_move rfl) rfl rfl rfl ?_
                  refine st_call has97 rfl (fun w1 sw => qbad_any b _ _ w1 (sw.blk_eq (h := 0) rfl)) (mod_blk rfl) rfl rfl (fun _ _ => ?_)
                  refine op_nil ?_
                  refine ax_then ?_
                  refine At.regs (L' := []) (.nil _) ?_
                  refine cd_seq ?_
                  refine cd_region ?_
                  refine st (ev_assign rfl) rfl rfl rfl ?_
                  refine op_nil ?_
                  refine ax_then ?_
                  refine At.regs (L' := [(2, _)]) (.cons rfl (.nil _)) ?_
                  refine cd_ret ?_
                  refine rt_tmp (.inl rfl) Try.results70 rfl ?_
                  first
                  | (have hrc : rc = [] := by
                       cases hbb : bad with
                       | true => exact hi.2.2.2.1 hbb
                       | false => rw [hbb] at hc16; exact Rr.rBad_1 hc16
                     have hnone : Rr.numS r = none := by rw [← hi.2.1, hrc]; rfl
                     exact fun w1 sw => ⟨vd, by rw [(Rr.nVal_no hnone).2.2, ← show Rr.rRest rc 1 = [] from by rw [hrc]; decide]; exact hi.2.2.1.trans hx12, by rw [(Rr.nVal_no hnone).1], by rw [(Rr.nVal_no hnone).2.1, Bool.or_true, ← hc16]; exact sw.gives (N := [(0, _)]) (.cons rfl (.nil _))⟩)
                  | (exact fun w1 sw => ⟨vd, by rw [(Rr.nVal_ok hs).2.2, show r.drop (i + 1) = Rr.rRest (c :: t) 1 from by rw [hraw.2.1, ← htl]]; exact hi.2.2.1.trans hx12, by rw [(Rr.nVal_ok hs).1], by rw [(Rr.nVal_ok hs).2.1, Bool.or_false]; exact sw.gives (N := [(0, _)]) (.cons rfl (.nil _))⟩)
                  | (have hnone : Rr.numS r = none := by
                       rw [← hi.2.1]
                       first
                       | exact Rr.numG_brk (by omega)
                       | exact Rr.numG_big (by omega) (by omega)
                       | (rw [show i = 10 by omega]; exact Rr.numG_ten)
                     exact fun w1 sw => ⟨Ky.nil0, Rr.nUnd_no rv hnone, by rw [(Rr.nVal_no hnone).1], by rw [(Rr.nVal_no hnone).2.1, Bool.or_true]; exact sw.gives (N := [(0, _)]) (.cons rfl (.nil _))⟩)
                ·
                  refine st (ev_move rfl) rfl rfl rfl ?_
                  refine st (ev_gtr rfl rfl) rfl rfl rfl ?_
                  refine st (ev_pick_f rfl rfl) rfl rfl rfl ?_
                  refine op_nil ?_
                  refine ax_then ?_
                  refine At.regs (L' := [(0, _), (3, _), (4, _), (5, _), (6, _), (7, _), (8, _), (11, _), (12, _), (13, _), (14, _), (15, _), (16, _), (17, _), (18, _), (19, _), (20, _), (21, _), (22, _), (23, _), (24, _), (25, _), (26, _), (27, _), (28, _), (29, _), (30, _), (31, _), (32, _), (33, _), (34, _), (35, _), (36, _), (37, _), (38, _), (39, _), (40, _), (41, _), (42, _), (43, _), (44, _), (45, _), (46, _), (47, _), (48, _), (49, _), (50, _), (51, _), (52, _)]) (.cons rfl (.cons rfl (.cons rfl (.cons rfl (.cons rfl (.cons rfl (.cons rfl (.cons rfl (.cons rfl (.cons rfl (.cons rfl (.cons rfl (.cons rfl (.cons rfl (.cons rfl (.cons rfl (.cons rfl (.cons rfl (.cons rfl (.cons rfl (.cons rfl (.cons rfl (.cons rfl (.cons rfl (.cons rfl (.cons rfl (.cons rfl (.cons rfl (.cons rfl (.cons rfl (.cons rfl (.cons rfl (.cons rfl (.cons rfl (.cons rfl (.cons rfl (.cons rfl (.cons rfl (.cons rfl (.cons rfl (.cons rfl (.cons rfl (.cons rfl (.cons rfl (.cons rfl (.cons rfl (.cons rfl (.cons rfl (.cons rfl (.nil _)))))))))))))))))))))))))))))))))))))))))))))))))) ?_
                  refine cd_if rfl (fun hc52 => ?_) (fun hc52 => ?_)
                  ·
                    refine cd_exit ?_
                    refine ax_then_exit ?_
                    refine ax_block_miss (by decide) ?_
                    refine ax_then_exit ?_
                    refine ax_then_exit ?_
                    refine ax_block_hit ?_
                    refine ax_then ?_
                    refine At.regs (L' := [(0, _)]) (.cons rfl (.nil _)) ?_
                    refine cd_seq ?_
                    refine cd_region ?_
                    refine st (ev_move rfl) rfl rfl rfl ?_
                    refine st_call has97 rfl (fun w1 sw => qbad_any b _ _ w1 (sw.blk_eq (h := 0) rfl)) (mod_blk rfl) rfl rfl (fun _ _ => ?_)
                    refine op_nil ?_
                    refine ax_then ?_
                    refine At.regs (L' := []) (.nil _) ?_
                    refine cd_seq ?_
                    refine cd_region ?_
                    refine st (ev_assign rfl) rfl rfl rfl ?_
                    refine op_nil ?_
                    refine ax_then ?_
                    refine At.regs (L' := [(2, _)]) (.cons rfl (.nil _)) ?_
                    refine cd_ret ?_
                    refine rt_tmp (.inl rfl) Try.results70 rfl ?_
                    first
                    | (have hrc : rc = [] := by
                         cases hbb : bad with
                         | true => exact hi.2.2.2.1 hbb
                         | false => rw [hbb] at hc16; exact Rr.rBad_1 hc16
                       have hnone : Rr.numS r = none := by rw [← hi.2.1, hrc]; rfl
                       exact fun w1 sw => ⟨vd, by rw [(Rr.nVal_no hnone).2.2, ← show Rr.rRest rc 1 = [] from by rw [hrc]; decide]; exact hi.2.2.1.trans hx12, by rw [(Rr.nVal_no hnone).1], by rw [(Rr.nVal_no hnone).2.1, Bool.or_true, ← hc16]; exact sw.gives (N := [(0, _)]) (.cons rfl (.nil _))⟩)
                    | (exact fun w1 sw => ⟨vd, by rw [(Rr.nVal_ok hs).2.2, show r.drop (i + 1) = Rr.rRest (c :: t) 1 from by rw [hraw.2.1, ← htl]]; exact hi.2.2.1.trans hx12, by rw [(Rr.nVal_ok hs).1], by rw [(Rr.nVal_ok hs).2.1, Bool.or_false]; exact sw.gives (N := [(0, _)]) (.cons rfl (.nil _))⟩)
                    | (have hnone : Rr.numS r = none := by
                         rw [← hi.2.1]
                         first
                         | exact Rr.numG_brk (by omega)
                         | exact Rr.numG_big (by omega) (by omega)
                         | (rw [show i = 10 by omega]; exact Rr.numG_ten)
                       exact fun w1 sw => ⟨Ky.nil0, Rr.nUnd_no rv hnone, by rw [(Rr.nVal_no hnone).1], by rw [(Rr.nVal_no hnone).2.1, Bool.or_true]; exact sw.gives (N := [(0, _)]) (.cons rfl (.nil _))⟩)
                  ·
                    refine cd_skip ?_
                    refine ax_then ?_
                    refine At.regs (L' := [(0, _), (3, _), (4, _), (5, _), (6, _), (7, _), (8, _), (11, _), (12, _), (13, _), (14, _), (15, _), (16, _), (17, _), (18, _), (19, _), (20, _), (21, _), (22, _), (23, _), (24, _), (25, _), (26, _), (27, _), (28, _), (29, _), (30, _), (31, _), (32, _), (33, _), (34, _), (35, _), (36, _), (37, _), (38, _), (39, _), (40, _), (41, _), (42, _), (43, _), (44, _), (45, _), (46, _), (47, _), (48, _), (49, _), (50, _), (51, _), (52, _)]) (.cons rfl (.cons rfl (.cons rfl (.cons rfl (.cons rfl (.cons rfl (.cons rfl (.cons rfl (.cons rfl (.cons rfl (.cons rfl (.cons rfl (.cons rfl (.cons rfl (.cons rfl (.cons rfl (.cons rfl (.cons rfl (.cons rfl (.cons rfl (.cons rfl (.cons rfl (.cons rfl (.cons rfl (.cons rfl (.cons rfl (.cons rfl (.cons rfl (.cons rfl (.cons rfl (.cons rfl (.cons rfl (.cons rfl (.cons rfl (.cons rfl (.cons rfl (.cons rfl (.cons rfl (.cons rfl (.cons rfl (.cons rfl (.cons rfl (.cons rfl (.cons rfl (.cons rfl (.cons rfl (.cons rfl (.cons rfl (.cons rfl (.nil _)))))))))))))))))))))))))))))))))))))))))))))))))) ?_
                    refine cd_seq ?_
                    refine cd_region ?_
                    refine st (ev_move rfl) rfl rfl rfl ?_
                    have h9 : i ≠ 9 := by
                      intro h9
                      subst h9
                      have hc01 : c = 0 ∨ c = 1 := by omega
                      rcases hc01 with rfl | rfl
                      · omega
                      · have := Rr.acc_nine u
                        omega
                    have hs : Rr.numS r = some (Rr.acc u c i, i + 1) := by rw [← hi.2.1]; exact Rr.numG_ok (by omega) (by omega) (by omega)
                    have hrng := Rr.numS_spec hs
                    have hrg1 : Rr.acc u c i ≤ 4611686018427387904 := hrng.2.1
                    refine st (ev_conv64 Try.underlying121 Try.underlying3 rfl (by omega) (by omega)) rfl rfl rfl ?_
                    refine st (ev_assign rfl) rfl rfl rfl ?_
                    refine op_nil ?_
                    refine ax_then ?_
                    refine At.regs (L' := [(0, _), (2, _), (3, _), (4, _), (5, _), (6, _), (7, _), (8, _), (11, _), (12, _), (13, _), (14, _), (15, _), (16, _), (17, _), (18, _), (19, _), (20, _), (21, _), (22, _), (23, _), (24, _), (25, _), (26, _), (27, _), (28, _), (29, _), (30, _), (31, _), (32, _), (33, _), (34, _), (35, _), (36, _), (37, _), (38, _), (39, _), (40, _), (41, _), (42, _), (43, _), (44, _), (45, _), (46, _), (47, _), (48, _), (49, _), (50, _), (51, _), (52, _), (53, _), (54, _)]) (.cons rfl (.cons rfl (.cons rfl (.cons rfl (.cons rfl (.cons rfl (.cons rfl (.cons rfl (.cons rfl (.cons rfl (.cons rfl (.cons rfl (.cons rfl (.cons rfl (.cons rfl (.cons rfl (.cons rfl (.cons rfl (.cons rfl (.cons rfl (.cons rfl (.cons rfl (.cons rfl (.cons rfl (.cons rfl (.cons rfl (.cons rfl (.cons rfl (.cons rfl (.cons rfl (.cons rfl (.cons rfl (.cons rfl (.cons rfl (.cons rfl (.cons rfl (.cons rfl (.cons rfl (.cons rfl (.cons rfl (.cons rfl (.cons rfl (.cons rfl (.cons rfl (.cons rfl (.cons rfl (.cons rfl (.cons rfl (.cons rfl (.cons rfl (.cons rfl (.cons rfl (.nil _))))))))))))))))))))))))))))))))))))))))))))))))))))) ?_
                    refine cd_ret ?_
                    refine ax_block_ret ?_
                    refine ax_then_ret ?_
                    refine ax_then_ret ?_
                    refine ax_block_ret ?_
                    refine ax_then_ret ?_
                    refine rt_tmp (.inl rfl) Try.results70 rfl ?_
                    first
                    | (have hrc : rc = [] := by
                         cases hbb : bad with
                         | true => exact hi.2.2.2.1 hbb
                         | false => rw [hbb] at hc16; exact Rr.rBad_1 hc16
                       have hnone : Rr.numS r = none := by rw [← hi.2.1, hrc]; rfl
                       exact fun w1 sw => ⟨vd, by rw [(Rr.nVal_no hnone).2.2, ← show Rr.rRest rc 1 = [] from by rw [hrc]; decide]; exact hi.2.2.1.trans hx12, by rw [(Rr.nVal_no hnone).1], by rw [(Rr.nVal_no hnone).2.1, Bool.or_true, ← hc16]; exact sw.gives (N := [(0, _)]) (.cons rfl (.nil _))⟩)
                    | (exact fun w1 sw => ⟨vd, by rw [(Rr.nVal_ok hs).2.2, show r.drop (i + 1) = Rr.rRest (c :: t) 1 from by rw [hraw.2.1, ← htl]]; exact hi.2.2.1.trans hx12, by rw [(Rr.nVal_ok hs).1], by rw [(Rr.nVal_ok hs).2.1, Bool.or_false]; exact sw.gives (N := [(0, _)]) (.cons rfl (.nil _))⟩)
                    | (have hnone : Rr.numS r = none := by
                         rw [← hi.2.1]
                         first
                         | exact Rr.numG_brk (by omega)
                         | exact Rr.numG_big (by omega) (by omega)
                         | (rw [show i = 10 by omega]; exact Rr.numG_ten)
                       exact fun w1 sw => ⟨Ky.nil0, Rr.nUnd_no rv hnone, by rw [(Rr.nVal_no hnone).1], by rw [(Rr.nVal_no hnone).2.1, Bool.or_true]; exact sw.gives (N := [(0, _)]) (.cons rfl (.nil _))⟩)
              ·
                refine st_skip rfl rfl rfl ?_
                refine st_skip rfl rfl rfl ?_
                refine st (ev_pick_f rfl rfl) rfl rfl rfl ?_
                refine st (ev_move rfl) rfl rfl rfl ?_
                refine st (ev_move rfl) rfl rfl rfl ?_
                refine st (ev_gtr rfl rfl) rfl rfl rfl ?_
                refine st (ev_pick_f rfl rfl) rfl rfl rfl ?_
                refine op_nil ?_
                refine ax_then ?_
                refine At.regs (L' := [(0, _), (3, _), (4, _), (5, _), (6, _), (7, _), (8, _), (11, _), (12, _), (13, _), (14, _), (15, _), (16, _), (17, _), (18, _), (19, _), (20, _), (21, _), (22, _), (23, _), (24, _), (25, _), (26, _), (27, _), (28, _), (29, _), (30, _), (31, _), (32, _), (33, _), (34, _), (35, _), (36, _), (37, _), (38, _), (39, _), (40, _), (41, _), (42, _), (43, _), (44, _), (45, _), (46, _), (47, _), (48, _), (49, _), (50, _), (51, _), (52, _)]) (.cons rfl (.cons rfl (.cons rfl (.cons rfl (.cons rfl (.cons rfl (.cons rfl (.cons rfl (.cons rfl (.cons rfl (.cons rfl (.cons rfl (.cons rfl (.cons rfl (.cons rfl (.cons rfl (.cons rfl (.cons rfl (.cons rfl (.cons rfl (.cons rfl (.cons rfl (.cons rfl (.cons rfl (.cons rfl (.cons rfl (.cons rfl (.cons rfl (.cons rfl (.cons rfl (.cons rfl (.cons rfl (.cons rfl (.cons rfl (.cons rfl (.cons rfl (.cons rfl (.cons rfl (.cons rfl (.cons rfl (.cons rfl (.cons rfl (.cons rfl (.cons rfl (.cons rfl (.cons rfl (.cons rfl (.cons rfl (.cons rfl (.nil _)))))))))))))))))))))))))))))))))))))))))))))))))) ?_
                refine cd_if rfl (fun hc52 => ?_) (fun hc52 => ?_)
                ·
                  refine cd_exit ?_
                  refine ax_then_exit ?_
                  refine ax_block_miss (by decide) ?_
                  refine ax_then_exit ?_
                  refine ax_then_exit ?_
                  refine ax_block_hit ?_
                  refine ax_then ?_
                  refine At.regs (L' := [(0, _)]) (.cons rfl (.nil _)) ?_
                  refine cd_seq ?_
                  refine cd_region ?_
                  refine st (ev_move rfl) rfl rfl rfl ?_
                  refine st_call has97 rfl (fun w1 sw => qbad_any b _ _ w1 (sw.blk_eq (h := 0) rfl)) (mod_blk rfl) rfl rfl (fun _ _ => ?_)
                  refine op_nil ?_
                  refine ax_then ?_
                  refine At.regs (L' := []) (.nil _) ?_
                  refine cd_seq ?_
                  refine cd_region ?_
                  refine st (ev_assign rfl) rfl rfl rfl ?_
                  refine op_nil ?_
                  refine ax_then ?_
                  refine At.regs (L' := [(2, _)]) (.cons rfl (.nil _)) ?_
                  refine cd_ret ?_
                  refine rt_tmp (.inl rfl) Try.results70 rfl ?_
                  first
                  | (have hrc : rc = [] := by
                       cases hbb : bad with
                       | true => exact hi.2.2.2.1 hbb
                       | false => rw [hbb] at hc16; exact Rr.rBad_1 hc16
                     have hnone : Rr.numS r = none := by rw [← hi.2.1, hrc]; rfl
                     exact fun w1 sw => ⟨vd, by rw [(Rr.nVal_no hnone).2.2, ← show Rr.rRest rc 1 = [] from by rw [hrc]; decide]; exact hi.2.2.1.trans hx12, by rw [(Rr.nVal_no hnone).1], by rw [(Rr.nVal_no hnone).2.1, Bool.or_true, ← hc16]; exact sw.gives (N := [(0, _)]) (.cons rfl (.nil _))⟩)
                  | (exact fun w1 sw => ⟨vd, by rw [(Rr.nVal_ok hs).2.2, show r.drop (i + 1) = Rr.rRest (c :: t) 1 from by rw [hraw.2.1, ← htl]]; exact hi.2.2.1.trans hx12, by rw [(Rr.nVal_ok hs).1], by rw [(Rr.nVal_ok hs).2.1, Bool.or_false]; exact sw.gives (N := [(0, _)]) (.cons rfl (.nil _))⟩)
                  | (have hnone : Rr.numS r = none := by
                       rw [← hi.2.1]
                       first
                       | exact Rr.numG_brk (by omega)
                       | exact Rr.numG_big (by omega) (by omega)
                       | (rw [show i = 10 by omega]; exact Rr.numG_ten)
                     exact fun w1 sw => ⟨Ky.nil0, Rr.nUnd_no rv hnone, by rw [(Rr.nVal_no hnone).1], by rw [(Rr.nVal_no hnone).2.1, Bool.or_true]; exact sw.gives (N := [(0, _)]) (.cons rfl (.nil _))⟩)
                ·
                  refine cd_skip ?_
                  refine ax_then ?_
                  refine At.regs (L' := [(0, _), (3, _), (4, _), (5, _), (6, _), (7, _), (8, _), (11, _), (12, _), (13, _), (14, _), (15, _), (16, _), (17, _), (18, _), (19, _), (20, _), (21, _), (22, _), (23, _), (24, _), (25, _), (26, _), (27, _), (28, _), (29, _), (30, _), (31, _), (32, _), (33, _), (34, _), (35, _), (36, _), (37, _), (38, _), (39, _), (40, _), (41, _), (42, _), (43, _), (44, _), (45, _), (46, _), (47, _), (48, _), (49, _), (50, _), (51, _), (52, _)]) (.cons rfl (.cons rfl (.cons rfl (.cons rfl (.cons rfl (.cons rfl (.cons rfl (.cons rfl (.cons rfl (.cons rfl (.cons rfl (.cons rfl (.cons rfl (.cons rfl (.cons rfl (.cons rfl (.cons rfl (.cons rfl (.cons rfl (.cons rfl (.cons rfl (.cons rfl (.cons rfl (.cons rfl (.cons rfl (.cons rfl (.cons rfl (.cons rfl (.cons rfl (.cons rfl (.cons rfl (.cons rfl (.cons rfl (.cons rfl (.cons rfl (.cons rfl (.cons rfl (.cons rfl (.cons rfl (.cons rfl (.cons rfl (.cons rfl (.cons rfl (.cons rfl (.cons rfl (.cons rfl (.cons rfl (.cons rfl (.cons rfl (.nil _)))))))))))))))))))))))))))))))))))))))))))))))))) ?_
                  refine cd_seq ?_
                  refine cd_region ?_
                  refine st (ev_move rfl) rfl rfl rfl ?_
                  have h9 : i ≠ 9 := by
                    intro h9
                    subst h9
                    have hc01 : c = 0 ∨ c = 1 := by omega
                    rcases hc01 with rfl | rfl
                    · omega
                    · have := Rr.acc_nine u
                      omega
                  have hs : Rr.numS r = some (Rr.acc u c i, i + 1) := by rw [← hi.2.1]; exact Rr.numG_ok (by omega) (by omega) (by omega)
                  have hrng := Rr.numS_spec hs
                  have hrg1 : Rr.acc u c i ≤ 4611686018427387904 := hrng.2.1
                  refine st (ev_conv64 Try.underlying121 Try.underlying3 rfl (by omega) (by omega)) rfl rfl rfl ?_
                  refine st (ev_assign rfl) rfl rfl rfl ?_
                  refine op_nil ?_
                  refine ax_then ?_
                  refine At.regs (L' := [(0, _), (2, _), (3, _), (4, _), (5, _), (6, _), (7, _), (8, _), (11, _), (12, _), (13, _), (14, _), (15, _), (16, _), (17, _), (18, _), (19, _), (20, _), (21, _), (22, _), (23, _), (24, _), (25, _), (26, _), (27, _), (28, _), (29, _), (30, _), (31, _), (32, _), (33, _), (34, _), (35, _), (36, _), (37, _), (38, _), (39, _), (40, _), (41, _), (42, _), (43, _), (44, _), (45, _), (46, _), (47, _), (48, _), (49, _), (50, _), (51, _), (52, _), (53, _), (54, _)]) (.cons rfl (.cons rfl (.cons rfl (.cons rfl (.cons rfl (.cons rfl (.cons rfl (.cons rfl (.cons rfl (.cons rfl (.cons rfl (.cons rfl (.cons rfl (.cons rfl (.cons rfl (.cons rfl (.cons rfl (.cons rfl (.cons rfl (.cons rfl (.cons rfl (.cons rfl (.cons rfl (.cons rfl (.cons rfl (.cons rfl (.cons rfl (.cons rfl (.cons rfl (.cons rfl (.cons rfl (.cons rfl (.cons rfl (.cons rfl (.cons rfl (.cons rfl (.cons rfl (.cons rfl (.cons rfl (.cons rfl (.cons rfl (.cons rfl (.cons rfl (.cons rfl (.cons rfl (.cons rfl (.cons rfl (.cons rfl (.cons rfl (.cons rfl (.cons rfl (.cons rfl (.nil _))))))))))))))))))))))))))))))))))))))))))))))))))))) ?_
                  refine cd_ret ?_
                  refine ax_block_ret ?_
                  refine ax_then_ret ?_
                  refine ax_then_ret ?_
                  refine ax_block_ret ?_
                  refine ax_then_ret ?_
                  refine rt_tmp (.inl rfl) Try.results70 rfl ?_
                  first
                  | (have hrc : rc = [] := by
                       cases hbb : bad with
                       | true => exact hi.2.2.2.1 hbb
                       | false => rw [hbb] at hc16; exact Rr.rBad_1 hc16
                     have hnone : Rr.numS r = none := by rw [← hi.2.1, hrc]; rfl
                     exact fun w1 sw => ⟨vd, by rw [(Rr.nVal_no hnone).2.2, ← show Rr.rRest rc 1 = [] from by rw [hrc]; decide]; exact hi.2.2.1.trans hx12, by rw [(Rr.nVal_no hnone).1], by rw [(Rr.nVal_no hnone).2.1, Bool.or_true, ← hc16]; exact sw.gives (N := [(0, _)]) (.cons rfl (.nil _))⟩)
                  | (exact fun w1 sw => ⟨vd, by rw [(Rr.nVal_ok hs).2.2, show r.drop (i + 1) = Rr.rRest (c :: t) 1 from by rw [hraw.2.1, ← htl]]; exact hi.2.2.1.trans hx12, by rw [(Rr.nVal_ok hs).1], by rw [(Rr.nVal_ok hs).2.1, Bool.or_false]; exact sw.gives (N := [(0, _)]) (.cons rfl (.nil _))⟩)
                  | (have hnone : Rr.numS r = none := by
                       rw [← hi.2.1]
                       first
                       | exact Rr.numG_brk (by omega)
                       | exact Rr.numG_big (by omega) (by omega)
                       | (rw [show i = 10 by omega]; exact Rr.numG_ten)
                     exact fun w1 sw => ⟨Ky.nil0, Rr.nUnd_no rv hnone, by rw [(Rr.nVal_no hnone).1], by rw [(Rr.nVal_no hnone).2.1, Bool.or_true]; exact sw.gives (N := [(0, _)]) (.cons rfl (.nil _))⟩)
      ·
        refine st_skip rfl rfl rfl ?_
        refine st_skip rfl rfl rfl ?_
        refine st (ev_pick_f rfl rfl) rfl rfl rfl ?_
        refine op_nil ?_
        refine ax_then ?_
        refine At.regs (L' := [(0, _), (3, _), (4, _), (5, _), (6, _), (7, _), (8, _), (11, _), (12, _), (13, _), (14, _), (15, _), (16, _), (17, _), (18, _), (19, _), (20, _), (21, _), (22, _), (23, _), (24, _), (25, _)]) (.cons rfl (.cons rfl (.cons rfl (.cons rfl (.cons rfl (.cons rfl (.cons rfl (.cons rfl (.cons rfl (.cons rfl (.cons rfl (.cons rfl (.cons rfl (.cons rfl (.cons rfl (.cons rfl (.cons rfl (.cons rfl (.cons rfl (.cons rfl (.cons rfl (.cons rfl (.nil _))))))))))))))))))))))) ?_
        refine cd_false rfl ?_
        refine cd_skip ?_
        refine ax_then ?_
        refine At.regs (L' := [(0, _), (3, _), (4, _), (5, _), (6, _), (7, _), (8, _), (11, _), (12, _), (13, _), (14, _), (15, _), (16, _), (17, _), (18, _), (19, _), (20, _), (21, _), (22, _), (23, _), (24, _), (25, _)]) (.cons rfl (.cons rfl (.cons rfl (.cons rfl (.cons rfl (.cons rfl (.cons rfl (.cons rfl (.cons rfl (.cons rfl (.cons rfl (.cons rfl (.cons rfl (.cons rfl (.cons rfl (.cons rfl (.cons rfl (.cons rfl (.cons rfl (.cons rfl (.cons rfl (.cons rfl (.nil _))))))))))))))))))))))) ?_
        refine cd_seq ?_
        refine cd_seq ?_
        refine cd_region ?_
        refine st (ev_move rfl) rfl rfl rfl ?_
        refine st (ev_eql rfl rfl) rfl rfl rfl ?_
        refine st (ev_move rfl) rfl rfl rfl ?_
        refine at_eq (i := 28) (v' := .bool false) rfl (by simp only [Value.bool.injEq, decide_eq_true_eq, decide_eq_false_iff_not]; exact hg22) ?_
        refine st_skip rfl rfl rfl ?_
        refine st_skip rfl rfl rfl ?_
        refine st (ev_pick_f rfl rfl) rfl rfl rfl ?_
        refine op_nil ?_
        refine ax_then ?_
        refine At.regs (L' := [(0, _), (3, _), (4, _), (5, _), (6, _), (7, _), (8, _), (11, _), (12, _), (13, _), (14, _), (15, _), (16, _), (17, _), (18, _), (19, _), (20, _), (21, _), (22, _), (23, _), (24, _), (25, _), (26, _), (27, _), (28, _), (29, _), (30, _), (31, _)]) (.cons rfl (.cons rfl (.cons rfl (.cons rfl (.cons rfl (.cons rfl (.cons rfl (.cons rfl (.cons rfl (.cons rfl (.cons rfl (.cons rfl (.cons rfl (.cons rfl (.cons rfl (.cons rfl (.cons rfl (.cons rfl (.cons rfl (.cons rfl (.cons rfl (.cons rfl (.cons rfl (.cons rfl (.cons rfl (.cons rfl (.cons rfl (.cons rfl (.nil _))))))))))))))))))))))))))))) ?_
        refine cd_false rfl ?_
        refine cd_skip ?_
        refine ax_then ?_
        refine At.regs (L' := [(0, _), (3, _), (4, _), (5, _), (6, _), (7, _), (8, _), (11, _), (12, _), (13, _), (14, _), (15, _), (16, _), (17, _), (18, _), (19, _), (20, _), (21, _), (22, _), (23, _), (24, _), (25, _), (26, _), (27, _), (28, _), (29, _), (30, _), (31, _)]) (.cons rfl (.cons rfl (.cons rfl (.cons rfl (.cons rfl (.cons rfl (.cons rfl (.cons rfl (.cons rfl (.cons rfl (.cons rfl (.cons rfl (.cons rfl (.cons rfl (.cons rfl (.cons rfl (.cons rfl (.cons rfl (.cons rfl (.cons rfl (.cons rfl (.cons rfl (.cons rfl (.cons rfl (.cons rfl (.cons rfl (.cons rfl (.cons rfl (.nil _))))))))))))))))))))))))))))) ?_
        refine cd_seq ?_
        refine cd_region ?_
        refine st (ev_move rfl) rfl rfl rfl ?_
        refine st (ev_move rfl) rfl rfl rfl ?_
        refine st (ev_and rfl rfl) rfl rfl rfl ?_
        refine st (ev_conv Try.underlying5 Try.underlying121 rfl) rfl rfl rfl ?_
        refine st (ev_move rfl) rfl rfl rfl ?_
        refine st (ev_mul64 rfl rfl (by omega) (by omega)) rfl rfl rfl ?_
        refine st (ev_convu64 Try.underlying3 Try.underlying37 rfl (by omega) (by omega)) rfl rfl rfl ?_
        refine st (ev_shl rfl rfl (by omega)) rfl rfl rfl ?_
        refine st (ev_or rfl rfl) rfl rfl rfl ?_
        refine at_eq (i := 40) (v' := .int .u64 (Rr.acc u c i)) rfl rfl ?_
        have hap := Rr.acc_pos u c i
        refine st (ev_assign rfl) rfl rfl rfl ?_
        refine op_nil ?_
        refine ax_then ?_
        refine At.regs (L' := [(0, _), (3, _), (4, _), (5, _), (6, _), (7, _), (8, _), (11, _), (12, _), (13, _), (14, _), (15, _), (16, _), (17, _), (18, _), (19, _), (20, _), (21, _), (22, _), (23, _), (24, _), (25, _), (26, _), (27, _), (28, _), (29, _), (30, _), (31, _), (32, _), (33, _), (34, _), (35, _), (36, _), (37, _), (38, _), (39, _), (40, _)]) (.cons rfl (.cons rfl (.cons rfl (.cons rfl (.cons rfl (.cons rfl (.cons rfl (.cons rfl (.cons rfl (.cons rfl (.cons rfl (.cons rfl (.cons rfl (.cons rfl (.cons rfl (.cons rfl (.cons rfl (.cons rfl (.cons rfl (.cons rfl (.cons rfl (.cons rfl (.cons rfl (.cons rfl (.cons rfl (.cons rfl (.cons rfl (.cons rfl (.cons rfl (.cons rfl (.cons rfl (.cons rfl (.cons rfl (.cons rfl (.cons rfl (.cons rfl (.cons rfl (.nil _)))))))))))))))))))))))))))))))))))))) ?_
        refine cd_seq ?_
        refine cd_seq ?_
        refine cd_region ?_
        refine st (ev_move rfl) rfl rfl rfl ?_
        refine st (ev_gtr rfl rfl) rfl rfl rfl ?_
        refine op_nil ?_
        refine ax_then ?_
        refine At.regs (L' := [(0, _), (3, _), (4, _), (5, _), (6, _), (7, _), (8, _), (11, _), (12, _), (13, _), (14, _), (15, _), (16, _), (17, _), (18, _), (19, _), (20, _), (21, _), (22, _), (23, _), (24, _), (25, _), (26, _), (27, _), (28, _), (29, _), (30, _), (31, _), (32, _), (33, _), (34, _), (35, _), (36, _), (37, _), (38, _), (39, _), (40, _), (41, _), (42, _)]) (.cons rfl (.cons rfl (.cons rfl (.cons rfl (.cons rfl (.cons rfl (.cons rfl (.cons rfl (.cons rfl (.cons rfl (.cons rfl (.cons rfl (.cons rfl (.cons rfl (.cons rfl (.cons rfl (.cons rfl (.cons rfl (.cons rfl (.cons rfl (.cons rfl (.cons rfl (.cons rfl (.cons rfl (.cons rfl (.cons rfl (.cons rfl (.cons rfl (.cons rfl (.cons rfl (.cons rfl (.cons rfl (.cons rfl (.cons rfl (.cons rfl (.cons rfl (.cons rfl (.cons rfl (.cons rfl (.nil _)))))))))))))))))))))))))))))))))))))))) ?_
        refine cd_if rfl (fun hc42 => ?_) (fun hc42 => ?_)
        ·
          refine cd_exit ?_
          refine ax_then_exit ?_
          refine ax_block_hit ?_
          refine ax_then ?_
          refine At.regs (L' := [(0, _), (3, _), (4, _), (5, _), (6, _), (7, _), (8, _), (11, _), (12, _), (13, _), (14, _), (15, _), (16, _), (17, _), (18, _), (19, _), (20, _), (21, _), (22, _), (23, _), (24, _), (25, _), (26, _), (27, _), (28, _), (29, _), (30, _), (31, _), (32, _), (33, _), (34, _), (35, _), (36, _), (37, _), (38, _), (39, _), (40, _), (41, _), (42, _)]) (.cons rfl (.cons rfl (.cons rfl (.cons rfl (.cons rfl (.cons rfl (.cons rfl (.cons rfl (.cons rfl (.cons rfl (.cons rfl (.cons rfl (.cons rfl (.cons rfl (.cons rfl (.cons rfl (.cons rfl (.cons rfl (.cons rfl (.cons rfl (.cons rfl (.cons rfl (.cons rfl (.cons rfl (.cons rfl (.cons rfl (.cons rfl (.cons rfl (.cons rfl (.cons rfl (.cons rfl (.cons rfl (.cons rfl (.cons rfl (.cons rfl (.cons rfl (.cons rfl (.cons rfl (.cons rfl (.nil _)))))))))))))))))))))))))))))))))))))))) ?_
          refine cd_region ?_
          refine st (ev_move rfl) rfl rfl rfl ?_
          refine st (ev_add64 rfl rfl (by omega) (by omega)) rfl rfl rfl ?_
          refine st (ev_assign rfl) rfl rfl rfl ?_
          refine op_nil ?_
          exact at_again ((i + 1, Rr.acc u c i, vd, Rr.rRest (c :: t) 1)) (⟨by show i + 1 ≤ 10; omega, by show Rr.numG (i + 1) (Rr.acc u c i) (Rr.rRest (c :: t) 1) = Rr.numS r; rw [hraw.2.1, ← Rr.numG_go (by omega) (by omega)]; exact hi.2.1, hi.2.2.1.trans hx12, fun hb2 => (hi.2.2.2.1 hb2 |> fun hh => by cases hh), by show Rr.rRest (c :: t) 1 = r.drop (i + 1); rw [hraw.2.1]; exact htl⟩) (by omega) (.cons rfl (.cons rfl (.cons rfl (.nil _)))) (.cons rfl (.nil _)) (.cons rfl (.nil _))
        ·
          refine cd_skip ?_
          refine ax_then ?_
          refine At.regs (L' := [(0, _), (3, _), (4, _), (5, _), (6, _), (7, _), (8, _), (11, _), (12, _), (13, _), (14, _), (15, _), (16, _), (17, _), (18, _), (19, _), (20, _), (21, _), (22, _), (23, _), (24, _), (25, _), (26, _), (27, _), (28, _), (29, _), (30, _), (31, _), (32, _), (33, _), (34, _), (35, _), (36, _), (37, _), (38, _), (39, _), (40, _), (41, _), (42, _)]) (.cons rfl (.cons rfl (.cons rfl (.cons rfl (.cons rfl (.cons rfl (.cons rfl (.cons rfl (.cons rfl (.cons rfl (.cons rfl (.cons rfl (.cons rfl (.cons rfl (.cons rfl (.cons rfl (.cons rfl (.cons rfl (.cons rfl (.cons rfl (.cons rfl (.cons rfl (.cons rfl (.cons rfl (.cons rfl (.cons rfl (.cons rfl (.cons rfl (.cons rfl (.cons rfl (.cons rfl (.cons rfl (.cons rfl (.cons rfl (.cons rfl (.cons rfl (.cons rfl (.cons rfl (.cons rfl (.nil _)))))))))))))))))))))))))))))))))))))))) ?_
          refine cd_seq ?_
          refine cd_seq ?_
          refine cd_region ?_
          refine st (ev_move rfl) rfl rfl rfl ?_
          refine st (ev_gtr rfl rfl) rfl rfl rfl ?_
          refine st (ev_move rfl) rfl rfl rfl ?_
          refine at_split_if (i := 45) rfl (fun hg45 => ?_) (fun hg45 => ?_)
          ·
            refine st (ev_move rfl) rfl rfl rfl ?_
            refine st (ev_eql rfl rfl) rfl rfl rfl ?_
            refine st (ev_pick_t rfl rfl) rfl rfl rfl ?_
            refine st (ev_move rfl) rfl rfl rfl ?_
            refine at_split_if (i := 49) rfl (fun hg49 => ?_) (fun hg49 => ?_)
            ·
              refine st_skip rfl rfl rfl ?_
              refine st_skip rfl rfl rfl ?_
              refine st (ev_pick_t rfl rfl) rfl rfl rfl ?_
              refine op_nil ?_
              refine ax_then ?_
              refine At.regs (L' := [(0, _), (3, _), (4, _), (5, _), (6, _), (7, _), (8, _), (11, _), (12, _), (13, _), (14, _), (15, _), (16, _), (17, _), (18, _), (19, _), (20, _), (21, _), (22, _), (23, _), (24, _), (25, _), (26, _), (27, _), (28, _), (29, _), (30, _), (31, _), (32, _), (33, _), (34, _), (35, _), (36, _), (37, _), (38, _), (39, _), (40, _), (41, _), (42, _), (43, _), (44, _), (45, _), (46, _), (47, _), (48, _), (49, _), (50, _), (51, _), (52, _)]) (.cons rfl (.cons rfl (.cons rfl (.cons rfl (.cons rfl (.cons rfl (.cons rfl (.cons rfl (.cons rfl (.cons rfl (.cons rfl (.cons rfl (.cons rfl (.cons rfl (.cons rfl (.cons rfl (.cons rfl (.cons rfl (.cons rfl (.cons rfl (.cons rfl (.cons rfl (.cons rfl (.cons rfl (.cons rfl (.cons rfl (.cons rfl (.cons rfl (.cons rfl (.cons rfl (.cons rfl (.cons rfl (.cons rfl (.cons rfl (.cons rfl (.cons rfl (.cons rfl (.cons rfl (.cons rfl (.cons rfl (.cons rfl (.cons rfl (.cons rfl (.cons rfl (.cons rfl (.cons rfl (.cons rfl (.cons rfl (.cons rfl (.nil _)))))))))))))))))))))))))))))))))))))))))))))))))) ?_
              refine cd_true rfl ?_
              refine cd_exit ?_
              refine ax_then_exit ?_
              refine ax_block_miss (by decide) ?_
              refine ax_then_exit ?_
              refine ax_then_exit ?_
              refine ax_block_hit ?_
              refine ax_then ?_
              refine At.regs (L' := [(0, _)]) (.cons rfl (.nil _)) ?_
              refine cd_seq ?_
              refine cd_region ?_
              refine st (ev_move rfl) rfl rfl rfl ?_
              refine st_call has97 rfl (fun w1 sw => qbad_any b _ _ w1 (sw.blk_eq (h := 0) rfl)) (mod_blk rfl) rfl rfl (fun _ _ => ?_)
              refine op_nil ?_
              refine ax_then ?_
              refine At.regs (L' := []) (.nil _) ?_
              refine cd_seq ?_
              refine cd_region ?_
              refine st (ev_assign rfl) rfl rfl rfl ?_
              refine op_nil ?_
              refine ax_then ?_
              refine At.regs (L' := [(2, _)]) (.cons rfl (.nil _)) ?_
              refine cd_ret ?_
              refine rt_tmp (.inl rfl) Try.results70 rfl ?_
              first
              | (have hrc : rc = [] := by
                   cases hbb : bad with
                   | true => exact hi.2.2.2.1 hbb
                   | false => rw [hbb] at hc16; exact Rr.rBad_1 hc16
                 have hnone : Rr.numS r = none := by rw [← hi.2.1, hrc]; rfl
                 exact fun w1 sw => ⟨vd, by rw [(Rr.nVal_no hnone).2.2, ← show Rr.rRest rc 1 = [] from by rw [hrc]; decide]; exact hi.2.2.1.trans hx12, by rw [(Rr.nVal_no hnone).1], by rw [(Rr.nVal_no hnone).2.1, Bool.or_true, ← hc16]; exact sw.gives (N := [(0, _)]) (.cons rfl (.nil _))⟩)
              | (exact fun w1 sw => ⟨vd, by rw [(Rr.nVal_ok hs).2.2, show r.drop (i + 1) = Rr.rRest (c :: t) 1 from by rw [hraw.2.1, ← htl]]; exact hi.2.2.1.trans hx12, by rw [(Rr.nVal_ok hs).1], by rw [(Rr.nVal_ok hs).2.1, Bool.or_false]; exact sw.gives (N := [(0, _)]) (.cons rfl (.nil _))⟩)
              | (have hnone : Rr.numS r = none := by
                   rw [← hi.2.1]
                   first
                   | exact Rr.numG_brk (by omega)
                   | exact Rr.numG_big (by omega) (by omega)
                   | (rw [show i = 10 by omega]; exact Rr.numG_ten)
                 exact fun w1 sw => ⟨Ky.nil0, Rr.nUnd_no rv hnone, by rw [(Rr.nVal_no hnone).1], by rw [(Rr.nVal_no hnone).2.1, Bool.or_true]; exact sw.gives (N := [(0, _)]) (.cons rfl (.nil _))⟩)
            ·
              refine st (ev_move rfl) rfl rfl rfl ?_
              refine st (ev_gtr rfl rfl) rfl rfl rfl ?_
              refine st (ev_pick_f rfl rfl) rfl rfl rfl ?_
              refine op_nil ?_
              refine ax_then ?_
              refine At.regs (L' := [(0, _), (3, _), (4, _), (5, _), (6, _), (7, _), (8, _), (11, _), (12, _), (13, _), (14, _), (15, _), (16, _), (17, _), (18, _), (19, _), (20, _), (21, _), (22, _), (23, _), (24, _), (25, _), (26, _), (27, _), (28, _), (29, _), (30, _), (31, _), (32, _), (33, _), (34, _), (35, _), (36, _), (37, _), (38, _), (39, _), (40, _), (41, _), (42, _), (43, _), (44, _), (45, _), (46, _), (47, _), (48, _), (49, _), (50, _), (51, _), (52, _)]) (.cons rfl (.cons rfl (.cons rfl (.cons rfl (.cons rfl (.cons rfl (.cons rfl (.cons rfl (.cons rfl (.cons rfl (.cons rfl (.cons rfl (.cons rfl (.cons rfl (.cons rfl (.cons rfl (.cons rfl (.cons rfl (.cons rfl (.cons rfl (.cons rfl (.cons rfl (.cons rfl (.cons rfl (.cons rfl (.cons rfl (.cons rfl (.cons rfl (.cons rfl (.cons rfl (.cons rfl (.cons rfl (.cons rfl (.cons rfl (.cons rfl (.cons rfl (.cons rfl (.cons rfl (.cons rfl (.cons rfl (.cons rfl (.cons rfl (.cons rfl (.cons rfl (.cons rfl (.cons rfl (.cons rfl (.cons rfl (.cons rfl (.nil _)))))))))))))))))))))))))))))))))))))))))))))))))) ?_
              refine cd_if rfl (fun hc52 => ?_) (fun hc52 => ?_)
              ·
                refine cd_exit ?_
                refine ax_then_exit ?_
                refine ax_block_miss (by decide) ?_
                refine ax_then_exit ?_
                refine ax_then_exit ?_
                refine ax_block_hit ?_
                refine ax_then ?_
                refine At.regs (L' := [(0, _)]) (.cons rfl (.nil _)) ?_
                refine cd_seq ?_
                refine cd_region ?_
                refine st (ev_move rfl) rfl rfl rfl ?_
                refine st_call has97 rfl (fun w1 sw => qbad_any b _ _ w1 (sw.blk_eq (h := 0) rfl)) (mod_blk rfl) rfl rfl (fun _ _ => ?_)
                refine op_nil ?_
                refine ax_then ?_
                refine At.regs (L' := []) (.nil _) ?_
                refine cd_seq ?_
                refine cd_region ?_
                refine st (ev_assign rfl) rfl rfl rfl ?_
                refine op_nil ?_
                refine ax_then ?_
                refine At.regs (L' := [(2, _)]) (.cons rfl (.nil _)) ?_
                refine cd_ret ?_
                refine rt_tmp (.inl rfl) Try.results70 rfl ?_
                first
                | (have hrc : rc = [] := by
                     cases hbb : bad with
                     | true => exact hi.2.2.2.1 hbb
                     | false => rw [hbb] at hc16; exact Rr.rBad_1 hc16
                   have hnone : Rr.numS r = none := by rw [← hi.2.1, hrc]; rfl
                   exact fun w1 sw => ⟨vd, by rw [(Rr.nVal_no hnone).2.2, ← show Rr.rRest rc 1 = [] from by rw [hrc]; decide]; exact hi.2.2.1.trans hx12, by rw [(Rr.nVal_no hnone).1], by rw [(Rr.nVal_no hnone).2.1, Bool.or_true, ← hc16]; exact sw.gives (N := [(0, _)]) (.cons rfl (.nil _))⟩)
                | (exact fun w1 sw => ⟨vd, by rw [(Rr.nVal_ok hs).2.2, show r.drop (i + 1) = Rr.rRest (c :: t) 1 from by rw [hraw.2.1, ← htl]]; exact hi.2.2.1.trans hx12, by rw [(Rr.nVal_ok hs).1], by rw [(Rr.nVal_ok hs).2.1, Bool.or_false]; exact sw.gives (N := [(0, _)]) (.cons rfl (.nil _))⟩)
                | (have hnone : Rr.numS r = none := by
                     rw [← hi.2.1]
                     first
                     | exact Rr.numG_brk (by omega)
                     | exact Rr.numG_big (by omega) (by omega)
                     | (rw [show i = 10 by omega]; exact Rr.numG_ten)
                   exact fun w1 sw => ⟨Ky.nil0, Rr.nUnd_no rv hnone, by rw [(Rr.nVal_no hnone).1], by rw [(Rr.nVal_no hnone).2.1, Bool.or_true]; exact sw.gives (N := [(0, _)]) (.cons rfl (.nil _))⟩)
              ·
                refine cd_skip ?_
                refine ax_then ?_
                refine At.regs (L' := [(0, _), (3, _), (4, _), (5, _), (6, _), (7, _), (8, _), (11, _), (12, _), (13, _), (14, _), (15, _), (16, _), (17, _), (18, _), (19, _), (20, _), (21, _), (22, _), (23, _), (24, _), (25, _), (26, _), (27, _), (28, _), (29, _), (30, _), (31, _), (32, _), (33, _), (34, _), (35, _), (36, _), (37, _), (38, _), (39, _), (40, _), (41, _), (42, _), (43, _), (44, _), (45, _), (46, _), (47, _), (48, _), (49, _), (50, _), (51, _), (52, _)]) (.cons rfl (.cons rfl (.cons rfl (.cons rfl (.cons rfl (.cons rfl (.cons rfl (.cons rfl (.cons rfl (.cons rfl (.cons rfl (.cons rfl (.cons rfl (.cons rfl (.cons rfl (.cons rfl (.cons rfl (.cons rfl (.cons rfl (.cons rfl (.cons rfl (.cons rfl (.cons rfl (.cons rfl (.cons rfl (.cons rfl (.cons rfl (.cons rfl (.cons rfl (.cons rfl (.cons rfl (.cons rfl (.cons rfl (.cons rfl (.cons rfl (.cons rfl (.cons rfl (.cons rfl (.cons rfl (.cons rfl (.cons rfl (.cons rfl (.cons rfl (.cons rfl (.cons rfl (.cons rfl (.cons rfl (.cons rfl (.cons rfl (.nil _)))))))))))))))))))))))))))))))))))))))))))))))))) ?_
                refine cd_seq ?_
                refine cd_region ?_
                refine st (ev_move rfl) rfl rfl rfl ?_
                have h9 : i ≠ 9 := by
                  intro h9
                  subst h9
                  have hc01 : c = 0 ∨ c = 1 := by omega
                  rcases hc01 with rfl | rfl
                  · omega
                  · have := Rr.acc_nine u
                    omega
                have hs : Rr.numS r = some (Rr.acc u c i, i + 1) := by rw [← hi.2.1]; exact Rr.numG_ok (by omega) (by omega) (by omega)
                have hrng := Rr.numS_spec hs
                have hrg1 : Rr.acc u c i ≤ 4611686018427387904 := hrng.2.1
                refine st (ev_conv64 Try.underlying121 Try.underlying3 rfl (by omega) (by omega)) rfl rfl rfl ?_
                refine st (ev_assign rfl) rfl rfl rfl ?_
                refine op_nil ?_
                refine ax_then ?_
                refine At.regs (L' := [(0, _), (2, _), (3, _), (4, _), (5, _), (6, _), (7, _), (8, _), (11, _), (12, _), (13, _), (14, _), (15, _), (16, _), (17, _), (18, _), (19, _), (20, _), (21, _), (22, _), (23, _), (24, _), (25, _), (26, _), (27, _), (28, _), (29, _), (30, _), (31, _), (32, _), (33, _), (34, _), (35, _), (36, _), (37, _), (38, _), (39, _), (40, _), (41, _), (42, _), (43, _), (44, _), (45, _), (46, _), (47, _), (48, _), (49, _), (50, _), (51, _), (52, _), (53, _), (54, _)]) (.cons rfl (.cons rfl (.cons rfl (.cons rfl (.cons rfl (.cons rfl (.cons rfl (.cons rfl (.cons rfl (.cons rfl (.cons rfl (.cons rfl (.cons rfl (.cons rfl (.cons rfl (.cons rfl (.cons rfl (.cons rfl (.cons rfl (.cons rfl (.cons rfl (.cons rfl (.cons rfl (.cons rfl (.cons rfl (.cons rfl (.cons rfl (.cons rfl (.cons rfl (.cons rfl (.cons rfl (.cons rfl (.cons rfl (.cons rfl (.cons rfl (.cons rfl (.cons rfl (.cons rfl (.cons rfl (.cons rfl (.cons rfl (.cons rfl (.cons rfl (.cons rfl (.cons rfl (.cons rfl (.cons rfl (.cons rfl (.cons rfl (.cons rfl (.cons rfl (.cons rfl (.nil _))))))))))))))))))))))))))))))))))))))))))))))))))))) ?_
                refine cd_ret ?_
                refine ax_block_ret ?_
                refine ax_then_ret ?_
                refine ax_then_ret ?_
                refine ax_block_ret ?_
                refine ax_then_ret ?_
                refine rt_tmp (.inl rfl) Try.results70 rfl ?_
                first
                | (have hrc : rc = [] := by
                     cases hbb : bad with
                     | true => exact hi.2.2.2.1 hbb
                     | false => rw [hbb] at hc16; exact Rr.rBad_1 hc16
                   have hnone : Rr.numS r = none := by rw [← hi.2.1, hrc]; rfl
                   exact fun w1 sw => ⟨vd, by rw [(Rr.nVal_no hnone).2.2, ← show Rr.rRest rc 1 = [] from by rw [hrc]; decide]; exact hi.2.2.1.trans hx12, by rw [(Rr.nVal_no hnone).1], by rw [(Rr.nVal_no hnone).2.1, Bool.or_true, ← hc16]; exact sw.gives (N := [(0, _)]) (.cons rfl (.nil _))⟩)
                | (exact fun w1 sw => ⟨vd, by rw [(Rr.nVal_ok hs).2.2, show r.drop (i + 1) = Rr.rRest (c :: t) 1 from by rw [hraw.2.1, ← htl]]; exact hi.2.2.1.trans hx12, by rw [(Rr.nVal_ok hs).1], by rw [(Rr.nVal_ok hs).2.1, Bool.or_false]; exact sw.gives (N := [(0, _)]) (.cons rfl (.nil _))⟩)
                | (have hnone : Rr.numS r = none := by
                     rw [← hi.2.1]
                     first
                     | exact Rr.numG_brk (by omega)
                     | exact Rr.numG_big (by omega) (by omega)
                     | (rw [show i = 10 by omega]; exact Rr.numG_ten)
                   exact fun w1 sw => ⟨Ky.nil0, Rr.nUnd_no rv hnone, by rw [(Rr.nVal_no hnone).1], by rw [(Rr.nVal_no hnone).2.1, Bool.or_true]; exact sw.gives (N := [(0, _)]) (.cons rfl (.nil _))⟩)
          ·
            refine st_skip rfl rfl rfl ?_
            refine st_skip rfl rfl rfl ?_
            refine st (ev_pick_f rfl rfl) rfl rfl rfl ?_
            refine st (ev_move rfl) rfl rfl rfl ?_
            refine st (ev_move rfl) rfl rfl rfl ?_
            refine st (ev_gtr rfl rfl) rfl rfl rfl ?_
            refine st (ev_pick_f rfl rfl) rfl rfl rfl ?_
            refine op_nil ?_
            refine ax_then ?_
            refine At.regs (L' := [(0, _), (3, _), (4, _), (5, _), (6, _), (7, _), (8, _), (11, _), (12, _), (13, _), (14, _), (15, _), (16, _), (17, _), (18, _), (19, _), (20, _), (21, _), (22, _), (23, _), (24, _), (25, _), (26, _), (27, _), (28, _), (29, _), (30, _), (31, _), (32, _), (33, _), (34, _), (35, _), (36, _), (37, _), (38, _), (39, _), (40, _), (41, _), (42, _), (43, _), (44, _), (45, _), (46, _), (47, _), (48, _), (49, _), (50, _), (51, _), (52, _)]) (.cons rfl (.cons rfl (.cons rfl (.cons rfl (.cons rfl (.cons rfl (.cons rfl (.cons rfl (.cons rfl (.cons rfl (.cons rfl (.cons rfl (.cons rfl (.cons rfl (.cons rfl (.cons rfl (.cons rfl (.cons rfl (.cons rfl (.cons rfl (.cons rfl (.cons rfl (.cons rfl (.cons rfl (.cons rfl (.cons rfl (.cons rfl (.cons rfl (.cons rfl (.cons rfl (.cons rfl (.cons rfl (.cons rfl (.cons rfl (.cons rfl (.cons rfl (.cons rfl (.cons rfl (.cons rfl (.cons rfl (.cons rfl (.cons rfl (.cons rfl (.cons rfl (.cons rfl (.cons rfl (.cons rfl (.cons rfl (.cons rfl (.nil _)))))))))))))))))))))))))))))))))))))))))))))))))) ?_
            refine cd_if rfl (fun hc52 => ?_) (fun hc52 => ?_)
            ·
              refine cd_exit ?_
              refine ax_then_exit ?_
              refine ax_block_miss (by decide) ?_
              refine ax_then_exit ?_
              refine ax_then_exit ?_
              refine ax_block_hit ?_
              refine ax_then ?_
              refine At.regs (L' := [(0, _)]) (.cons rfl (.nil _)) ?_
              refine cd_seq ?_
              refine cd_region ?_
              refine st (ev_move rfl) rfl rfl rfl ?_
              refine st_call has97 rfl (fun w1 sw => qbad_any b _ _ w1 (sw.blk_eq (h := 0) rfl)) (mod_blk rfl) rfl rfl (fun _ _ => ?_)
              refine op_nil ?_
              refine ax_then ?_
              refine At.regs (L' := []) (.nil _) ?_
              refine cd_seq ?_
              refine cd_region ?_
              refine st (ev_assign rfl) rfl rfl rfl ?_
              refine op_nil ?_
              refine ax_then ?_
              refine At.regs (L' := [(2, _)]) (.cons rfl (.nil _)) ?_
              refine cd_ret ?_
              refine rt_tmp (.inl rfl) Try.results70 rfl ?_
              first
              | (have hrc : rc = [] := by
                   cases hbb : bad with
                   | true => exact hi.2.2.2.1 hbb
                   | false => rw [hbb] at hc16; exact Rr.rBad_1 hc16
                 have hnone : Rr.numS r = none := by rw [← hi.2.1, hrc]; rfl
                 exact fun w1 sw => ⟨vd, by rw [(Rr.nVal_no hnone).2.2, ← show Rr.rRest rc 1 = [] from by rw [hrc]; decide]; exact hi.2.2.1.trans hx12, by rw [(Rr.nVal_no hnone).1], by rw [(Rr.nVal_no hnone).2.1, Bool.or_true, ← hc16]; exact sw.gives (N := [(0, _)]) (.cons rfl (.nil _))⟩)
              | (exact fun w1 sw => ⟨vd, by rw [(Rr.nVal_ok hs).2.2, show r.drop (i + 1) = Rr.rRest (c :: t) 1 from by rw [hraw.2.1, ← htl]]; exact hi.2.2.1.trans hx12, by rw [(Rr.nVal_ok hs).1], by rw [(Rr.nVal_ok hs).2.1, Bool.or_false]; exact sw.gives (N := [(0, _)]) (.cons rfl (.nil _))⟩)
              | (have hnone : Rr.numS r = none := by
                   rw [← hi.2.1]
                   first
                   | exact Rr.numG_brk (by omega)
                   | exact Rr.numG_big (by omega) (by omega)
                   | (rw [show i = 10 by omega]; exact Rr.numG_ten)
                 exact fun w1 sw => ⟨Ky.nil0, Rr.nUnd_no rv hnone, by rw [(Rr.nVal_no hnone).1], by rw [(Rr.nVal_no hnone).2.1, Bool.or_true]; exact sw.gives (N := [(0, _)]) (.cons rfl (.nil _))⟩)
            ·
              refine cd_skip ?_
              refine ax_then ?_
              refine At.regs (L' := [(0, _), (3, _), (4, _), (5, _), (6, _), (7, _), (8, _), (11, _), (12, _), (13, _), (14, _), (15, _), (16, _), (17, _), (18, _), (19, _), (20, _), (21, _), (22, _), (23, _), (24, _), (25, _), (26, _), (27, _), (28, _), (29, _), (30, _), (31, _), (32, _), (33, _), (34, _), (35, _), (36, _), (37, _), (38, _), (39, _), (40, _), (41, _), (42, _), (43, _), (44, _), (45, _), (46, _), (47, _), (48, _), (49, _), (50, _), (51, _), (52, _)]) (.cons rfl (.cons rfl (.cons rfl (.cons rfl (.cons rfl (.cons rfl (.cons rfl (.cons rfl (.cons rfl (.cons rfl (.cons rfl (.cons rfl (.cons rfl (.cons rfl (.cons rfl (.cons rfl (.cons rfl (.cons rfl (.cons rfl (.cons rfl (.cons rfl (.cons rfl (.cons rfl (.cons rfl (.cons rfl (.cons rfl (.cons rfl (.cons rfl (.cons rfl (.cons rfl (.cons rfl (.cons rfl (.cons rfl (.cons rfl (.cons rfl (.cons rfl (.cons rfl (.cons rfl (.cons rfl (.cons rfl (.cons rfl (.cons rfl (.cons rfl (.cons rfl (.cons rfl (.cons rfl (.cons rfl (.cons rfl (.cons rfl (.nil _)))))))))))))))))))))))))))))))))))))))))))))))))) ?_
              refine cd_seq ?_
              refine cd_region ?_
              refine st (ev_move rfl) rfl rfl rfl ?_
              have h9 : i ≠ 9 := by
                intro h9
                subst h9
                have hc01 : c = 0 ∨ c = 1 := by omega
                rcases hc01 with rfl | rfl
                · omega
                · have := Rr.acc_nine u
                  omega
              have hs : Rr.numS r = some (Rr.acc u c i, i + 1) := by rw [← hi.2.1]; exact Rr.numG_ok (by omega) (by omega) (by omega)
              have hrng := Rr.numS_spec hs
              have hrg1 : Rr.acc u c i ≤ 4611686018427387904 := hrng.2.1
              refine st (ev_conv64 Try.underlying121 Try.underlying3 rfl (by omega) (by omega)) rfl rfl rfl ?_
              refine st (ev_assign rfl) rfl rfl rfl ?_
              refine op_nil ?_
              refine ax_then ?_
              refine At.regs (L' := [(0, _), (2, _), (3, _), (4, _), (5, _), (6, _), (7, _), (8, _), (11, _), (12, _), (13, _), (14, _), (15, _), (16, _), (17, _), (18, _), (19, _), (20, _), (21, _), (22, _), (23, _), (24, _), (25, _), (26, _), (27, _), (28, _), (29, _), (30, _), (31, _), (32, _), (33, _), (34, _), (35, _), (36, _), (37, _), (38, _), (39, _), (40, _), (41, _), (42, _), (43, _), (44, _), (45, _), (46, _), (47, _), (48, _), (49, _), (50, _), (51, _), (52, _), (53, _), (54, _)]) (.cons rfl (.cons rfl (.cons rfl (.cons rfl (.cons rfl (.cons rfl (.cons rfl (.cons rfl (.cons rfl (.cons rfl (.cons rfl (.cons rfl (.cons rfl (.cons rfl (.cons rfl (.cons rfl (.cons rfl (.cons rfl (.cons rfl (.cons rfl (.cons rfl (.cons rfl (.cons rfl (.cons rfl (.cons rfl (.cons rfl (.cons rfl (.cons rfl (.cons rfl (.cons rfl (.cons rfl (.cons rfl (.cons rfl (.cons rfl (.cons rfl (.cons rfl (.cons rfl (.cons rfl (.cons rfl (.cons rfl (.cons rfl (.cons rfl (.cons rfl (.cons rfl (.cons rfl (.cons rfl (.cons rfl (.cons rfl (.cons rfl (.cons rfl (.cons rfl (.cons rfl (.nil _))))))))))))))))))))))))))))))))))))))))))))))))))))) ?_
              refine cd_ret ?_
              refine ax_block_ret ?_
              refine ax_then_ret ?_
              refine ax_then_ret ?_
              refine ax_block_ret ?_
              refine ax_then_ret ?_
              refine rt_tmp (.inl rfl) Try.results70 rfl ?_
              first
              | (have hrc : rc = [] := by
                   cases hbb : bad with
                   | true => exact hi.2.2.2.1 hbb
                   | false => rw [hbb] at hc16; exact Rr.rBad_1 hc16
                 have hnone : Rr.numS r = none := by rw [← hi.2.1, hrc]; rfl
                 exact fun w1 sw => ⟨vd, by rw [(Rr.nVal_no hnone).2.2, ← show Rr.rRest rc 1 = [] from by rw [hrc]; decide]; exact hi.2.2.1.trans hx12, by rw [(Rr.nVal_no hnone).1], by rw [(Rr.nVal_no hnone).2.1, Bool.or_true, ← hc16]; exact sw.gives (N := [(0, _)]) (.cons rfl (.nil _))⟩)
              | (exact fun w1 sw => ⟨vd, by rw [(Rr.nVal_ok hs).2.2, show r.drop (i + 1) = Rr.rRest (c :: t) 1 from by rw [hraw.2.1, ← htl]]; exact hi.2.2.1.trans hx12, by rw [(Rr.nVal_ok hs).1], by rw [(Rr.nVal_ok hs).2.1, Bool.or_false]; exact sw.gives (N := [(0, _)]) (.cons rfl (.nil _))⟩)
              | (have hnone : Rr.numS r = none := by
                   rw [← hi.2.1]
                   first
                   | exact Rr.numG_brk (by omega)
                   | exact Rr.numG_big (by omega) (by omega)
                   | (rw [show i = 10 by omega]; exact Rr.numG_ten)
                 exact fun w1 sw => ⟨Ky.nil0, Rr.nUnd_no rv hnone, by rw [(Rr.nVal_no hnone).1], by rw [(Rr.nVal_no hnone).2.1, Bool.or_true]; exact sw.gives (N := [(0, _)]) (.cons rfl (.nil _))⟩)
  ·
    refine cd_exit ?_
    refine ax_then_exit ?_
    refine ax_then_exit ?_
    refine ax_block_hit ?_
    refine ax_then ?_
    refine At.regs (L' := [(0, _)]) (.cons rfl (.nil _)) ?_
    refine cd_seq ?_
    refine cd_region ?_
    refine st (ev_move rfl) rfl rfl rfl ?_
    refine st_call has97 rfl (fun w1 sw => qbad_any b _ _ w1 (sw.blk_eq (h := 0) rfl)) (mod_blk rfl) rfl rfl (fun _ _ => ?_)
    refine op_nil ?_
    refine ax_then ?_
    refine At.regs (L' := []) (.nil _) ?_
    refine cd_seq ?_
    refine cd_region ?_
    refine st (ev_assign rfl) rfl rfl rfl ?_
    refine op_nil ?_
    refine ax_then ?_
    refine At.regs (L' := [(2, _)]) (.cons rfl (.nil _)) ?_
    refine cd_ret ?_
    refine rt_tmp (.inl rfl) Try.results70 rfl ?_
    first
    | (have hrc : rc = [] := by
         cases hbb : bad with
         | true => exact hi.2.2.2.1 hbb
         | false => rw [hbb] at hc16; exact Rr.rBad_1 hc16
       have hnone : Rr.numS r = none := by rw [← hi.2.1, hrc]; rfl
       exact fun w1 sw => ⟨vd, by rw [(Rr.nVal_no hnone).2.2, ← show Rr.rRest rc 1 = [] from by rw [hrc]; decide]; exact hi.2.2.1.trans hx12, by rw [(Rr.nVal_no hnone).1], by rw [(Rr.nVal_no hnone).2.1, Bool.or_true, ← hc16]; exact sw.gives (N := [(0, _)]) (.cons rfl (.nil _))⟩)
    | (exact fun w1 sw => ⟨vd, by rw [(Rr.nVal_ok hs).2.2, show r.drop (i + 1) = Rr.rRest (c :: t) 1 from by rw [hraw.2.1, ← htl]]; exact hi.2.2.1.trans hx12, by rw [(Rr.nVal_ok hs).1], by rw [(Rr.nVal_ok hs).2.1, Bool.or_false]; exact sw.gives (N := [(0, _)]) (.cons rfl (.nil _))⟩)
    | (have hnone : Rr.numS r = none := by
         rw [← hi.2.1]
         first
         | exact Rr.numG_brk (by omega)
         | exact Rr.numG_big (by omega) (by omega)
         | (rw [show i = 10 by omega]; exact Rr.numG_ten)
       exact fun w1 sw => ⟨Ky.nil0, Rr.nUnd_no rv hnone, by rw [(Rr.nVal_no hnone).1], by rw [(Rr.nVal_no hnone).2.1, Bool.or_true]; exact sw.gives (N := [(0, _)]) (.cons rfl (.nil _))⟩)
set_option maxRecDepth 20000 in
set_option maxHeartbeats 1000000 in
theorem qwhole_any (b : Nat) (rv : Value) (bad : Bool) (r : List Int) (w : World) (h : Lies w b 0 [rv, .bool bad]) (h' : Rd w rv 1 (ints .u8 r)) : Calls Try.prog 72 #[.pointer (some ⟨b, 0, none⟩)] w (PostV w (.bool (!bad && decide (r.length = 0)))) := by
  refine calls_at (vs := [.pointer (some ⟨b, 0, none⟩)]) (X := []) (H := []) (F := [(21, .mem b 0 [rv, .bool bad]), (20, .sl (rv) 1 (ints .u8 (r)))]) 16 Try.func72 rfl rfl rfl ((Sat.rd0 20 h').read 21 h off_nil) ?_
  refine cd_seq ?_
  refine cd_region ?_
  refine st (ev_assign rfl) rfl rfl rfl ?_
  refine op_nil ?_
  refine ax_then ?_
  refine At.regs (L' := [(0, _), (2, _)]) (.cons rfl (.cons rfl (.nil _))) ?_
  refine cd_seq ?_
  refine cd_region ?_
  refine st (ev_move rfl) rfl rfl rfl ?_
  refine st (ev_nilCheck rfl) rfl rfl rfl ?_
  refine st (ev_fieldAddr (b := _) Try.underlying102 (f := _) rfl ty4 (by decide) rfl) rfl rfl rfl ?_
  refine st (ld_mem1 (h := 21) ty4 rfl rfl rfl (Nat.zero_add _).symm rfl) rfl rfl rfl ?_
  refine st (ev_not rfl) rfl rfl rfl ?_
  refine st (ev_move rfl) rfl rfl rfl ?_
  refine at_split (i := 8) rfl (fun hg8 => ?_) (fun hg8 => ?_)
  ·
    refine st (ev_move rfl) rfl rfl rfl ?_
    refine st (ev_nilCheck rfl) rfl rfl rfl ?_
    refine st (ev_fieldAddr (b := _) Try.underlying102 (f := _) rfl ty22 (by decide) rfl) rfl rfl rfl ?_
    refine st (ld_mem1 (h := 21) ty22 rfl rfl rfl (Nat.zero_add _).symm rfl) rfl rfl rfl ?_
    refine st (ev_len_rdi (h := 20) Try.underlying22 rfl rfl) rfl rfl rfl ?_
    refine st (ev_eql rfl rfl) rfl rfl rfl ?_
    refine st (ev_pick_t rfl rfl) rfl rfl rfl ?_
    refine st (ev_assign rfl) rfl rfl rfl ?_
    refine op_nil ?_
    refine ax_then ?_
    refine At.regs (L' := [(2, _)]) (.cons rfl (.nil _)) ?_
    refine cd_ret ?_
    refine rt_tmp (.inl rfl) Try.results72 rfl ?_
    exact fun w1 sw => ⟨congrArg (fun b => Ending.returned (Value.bool b)) (by cases bad <;> first | rfl | (rw [Bool.not_false, Bool.true_and]; exact decide_eq_decide.2 (by omega)) | simp_all), sw.gives (.nil _)⟩
  ·
    refine st_skip rfl rfl rfl ?_
    refine st_skip rfl rfl rfl ?_
    refine st_skip rfl rfl rfl ?_
    refine st_skip rfl rfl rfl ?_
    refine st_skip rfl rfl rfl ?_
    refine st_skip rfl rfl rfl ?_
    refine st (ev_pick_f rfl rfl) rfl rfl rfl ?_
    refine st (ev_assign rfl) rfl rfl rfl ?_
    refine op_nil ?_
    refine ax_then ?_
    refine At.regs (L' := [(2, _)]) (.cons rfl (.nil _)) ?_
    refine cd_ret ?_
    refine rt_tmp (.inl rfl) Try.results72 rfl ?_
    exact fun w1 sw => ⟨congrArg (fun b => Ending.returned (Value.bool b)) (by cases bad <;> first | rfl | (rw [Bool.not_false, Bool.true_and]; exact decide_eq_decide.2 (by omega)) | simp_all), sw.gives (.nil _)⟩
end Go.Proofs.Yteedclmcgifmpaa

namespace Go.Proofs.Yteedclmcgifmpaa
open Go Go.RowKit Fw
open Sha
open Ots
open Mk
set_option linter.unusedVariables false
set_option linter.unusedSimpArgs false
set_option maxRecDepth 20000 in
set_option maxHeartbeats 1000000 in
theorem known5_any (w : World) : Calls Try.prog 33 #[] w (PostV w (.bool true)) := by
  refine calls_at (vs := []) (X := []) (H := []) (F := []) 20 Try.func33 rfl rfl rfl (Sat.start0 w) ?_
  refine cd_seq ?_
  refine cd_region ?_
  refine st (ev_assign rfl) rfl rfl rfl ?_
  refine op_nil ?_
  refine ax_then ?_
  refine At.regs (L' := [(0, _)]) (.cons rfl (.nil _)) ?_
  refine cd_seq ?_
  refine cd_region ?_
  refine st (ev_build_array ty39 rfl ty5 rfl rfl) rfl rfl rfl ?_
  refine at_eq (i := 4) (v' := .agg (ints .u8 ((1 :: List.replicate 31 0))).toArray) rfl (by kernel_rfl) ?_
  refine st_call has26 rfl (fun w1 sw => rn2 5 20 (new_any (1 :: List.replicate 31 0) 16 w1 rfl)) nil_all rfl rfl (fun x5 _ => ?_)
  obtain ⟨b5, lv5⟩ := x5
  dsimp only
  refine at_heq (i := 5) (v' := .blk (b5) (.cells (Ky.cells (1 :: List.replicate 31 0) lv5 (((16 : Nat) : Int))).toArray 81)) rfl (by rw [show Ky.clamp 16 = (((16 : Nat) : Int)) from rfl]) ?_
  refine st (ev_assign rfl) rfl rfl rfl ?_
  refine op_nil ?_
  refine ax_then ?_
  refine At.regs (L' := [(0, _), (1, _)]) (.cons rfl (.cons rfl (.nil _))) ?_
  refine cd_seq ?_
  refine cd_seq ?_
  refine cd_region ?_
  refine st (ev_move rfl) rfl rfl rfl ?_
  refine st (ev_eql_ptr_nil Try.underlying49 rfl rfl) rfl rfl rfl ?_
  refine op_nil ?_
  refine ax_then ?_
  refine At.regs (L' := [(0, _), (1, _), (7, _)]) (.cons rfl (.cons rfl (.cons rfl (.nil _)))) ?_
  refine cd_false rfl ?_
  refine cd_skip ?_
  refine ax_then ?_
  refine At.regs (L' := [(0, _), (1, _)]) (.cons rfl (.cons rfl (.nil _))) ?_
  refine cd_seq ?_
  refine cd_region ?_
  refine st (ev_move rfl) rfl rfl rfl ?_
  refine st_callv has29 rfl (fun w1 sw => signk_used b5 lv5 (1 :: List.replicate 31 0) 16 (.slice none 0 0) w1 (by decide) rfl (lies_blk (sw.blk_eq (h := 5) rfl)) (sw.own_rd (h := 20) rfl)) rfl rfl ?_
  refine st (ev_move rfl) rfl rfl rfl ?_
  refine st (ev_extract rfl rfl) rfl rfl rfl ?_
  refine st (ev_extract rfl rfl) rfl rfl rfl ?_
  refine st_alloc (h := 2) ty42 rfl rfl rfl (fun b2 => ?_)
  refine st_store_all 2 ty42 rfl rfl rfl rfl (by first | omega | (simp only [List.length_append, List.length_cons, List.length_nil, List.length_set, List.length_replicate, List.length_take, List.length_drop, ints_length, wr_length, sha_len, node_len, recov_len, Ky.named_len, Ky.keyPub_len] <;> omega) | rfl) (by first | (intro u hu; simp at hu; rcases hu with rfl | rfl <;> rfl) | (simp [Value.oneCell'])) (by first | omega | (simp only [List.length_append, List.length_cons, List.length_nil, List.length_set, List.length_replicate, List.length_take, List.length_drop, ints_length, wr_length, sha_len, node_len, recov_len, Ky.named_len, Ky.keyPub_len] <;> omega) | rfl) rfl ?_
  refine st (ev_assign rfl) rfl rfl rfl ?_
  refine op_nil ?_
  refine ax_then ?_
  refine At.regs (L' := [(0, _), (1, _), (3, _)]) (.cons rfl (.cons rfl (.cons rfl (.nil _)))) ?_
  refine cd_seq ?_
  refine cd_region ?_
  refine st (ev_move rfl) rfl rfl rfl ?_
  refine st (ev_eql rfl rfl) rfl rfl rfl ?_
  refine st (ev_move rfl) rfl rfl rfl ?_
  refine at_eq (i := 15) (v' := .bool true) rfl (by rfl) ?_
  refine st (ev_move rfl) rfl rfl rfl ?_
  refine st_callv has32 rfl (fun w1 sw => used_any b5 lv5 (1 :: List.replicate 31 0) 16 w1 rfl (lies_blk (sw.blk_eq (h := 5) rfl)) (sw.own_rd (h := 20) rfl)) rfl rfl ?_
  refine st (ev_eql rfl rfl) rfl rfl rfl ?_
  refine st (ev_pick_t rfl rfl) rfl rfl rfl ?_
  refine st (ev_assign rfl) rfl rfl rfl ?_
  refine op_nil ?_
  refine ax_then ?_
  refine At.regs (L' := [(0, _)]) (.cons rfl (.nil _)) ?_
  refine cd_ret ?_
  refine rt_tmp (.inl rfl) Try.results33 rfl ?_
  exact fun w1 sw => ⟨rfl, sw.gives (.nil _)⟩
end Go.Proofs.Yteedclmcgifmpaa

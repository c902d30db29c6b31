/- Walks: octet's Writer. -/
import Derived.Test.YteedclmcgifmpaaK2
import Derived.Test.YteedclmcgifmpaaFw18
namespace Go.Proofs.Yteedclmcgifmpaa
open Go Go.RowKit Fw
open Sha
open Ots
open Mk
set_option linter.unusedVariables false
set_option linter.unusedSimpArgs false

set_option maxRecDepth 20000 in
set_option maxHeartbeats 1000000 in
theorem clone_nil (w : World) : Calls Try.prog 92 #[.slice none 0 0] w (Post (ι := Value) w [] (fun _ => True) (fun v => v) (fun v => [(0, .own (v) 5 1 (ints .u8 ([])))])) := by
  refine calls_at (vs := [.slice none 0 0]) (X := []) (H := []) (F := []) 8 Try.func92 rfl rfl rfl (Sat.start0 w) ?_
  refine cd_seq ?_
  refine cd_region ?_
  refine st (ev_assign rfl) rfl rfl rfl ?_
  refine at_own_nil 2 5 1 ?_
  refine at_heq (i := 2) (v' := .own (.slice none 0 0) 5 1 (ints .u8 [])) rfl rfl ?_
  refine op_nil ?_
  refine ax_then ?_
  refine At.regs (L' := [(0, _), (2, _)]) (.cons rfl (.cons rfl (.nil _))) ?_
  refine cd_seq ?_
  refine cd_seq ?_
  refine cd_region ?_
  refine st (ev_move rfl) rfl rfl rfl ?_
  refine st (ev_eql_slice_nil Try.underlying22 rfl rfl) rfl rfl rfl ?_
  refine op_nil ?_
  refine ax_then ?_
  refine At.regs (L' := [(0, _), (2, _), (4, _)]) (.cons rfl (.cons rfl (.cons rfl (.nil _)))) ?_
  refine cd_true rfl ?_
  refine cd_seq ?_
  refine cd_region ?_
  refine st (ev_assign rfl) rfl rfl rfl ?_
  refine at_own_nil 2 5 1 ?_
  refine at_heq (i := 2) (v' := .own (.slice none 0 0) 5 1 (ints .u8 [])) rfl rfl ?_
  refine op_nil ?_
  refine ax_then ?_
  refine At.regs (L' := [(0, _), (2, _)]) (.cons rfl (.cons rfl (.nil _))) ?_
  refine cd_ret ?_
  refine ax_then_ret ?_
  refine rt_tmp (.inl rfl) Try.results92 rfl ?_
  exact fun w1 sw => ⟨_, trivial, rfl, (sw.gives (N := [(2, _)]) (.cons rfl (.nil _))).rn 0⟩

set_option maxRecDepth 20000 in
set_option maxHeartbeats 1000000 in
theorem clone_some (x : Addr) (n c : Nat) (l : List Int) (w : World) (hl : l.length ≤ 1000000000) (h : Rd w (.slice (some x) n c) 1 (ints .u8 l)) : Calls Try.prog 92 #[.slice (some x) n c] w (Post (ι := Value) w [] (fun _ => True) (fun v => v) (fun v => [(0, .own (v) 5 1 (ints .u8 (l)))])) := by
  refine calls_at (vs := [.slice (some x) n c]) (X := []) (H := []) (F := [(0, .sl (.slice (some x) n c) 1 (ints .u8 (l)))]) 8 Try.func92 rfl rfl rfl (Sat.rd0 0 h) ?_
  refine cd_seq ?_
  refine cd_region ?_
  refine st (ev_assign rfl) rfl rfl rfl ?_
  refine at_own_nil 2 5 1 ?_
  refine at_heq (i := 2) (v' := .own (.slice none 0 0) 5 1 (ints .u8 [])) rfl rfl ?_
  refine op_nil ?_
  refine ax_then ?_
  refine At.regs (L' := [(0, _), (2, _)]) (.cons rfl (.cons rfl (.nil _))) ?_
  refine cd_seq ?_
  refine cd_seq ?_
  refine cd_region ?_
  refine st (ev_move rfl) rfl rfl rfl ?_
  refine st (ev_eql_slice_nil Try.underlying22 rfl rfl) rfl rfl rfl ?_
  refine op_nil ?_
  refine ax_then ?_
  refine At.regs (L' := [(0, _), (2, _), (4, _)]) (.cons rfl (.cons rfl (.cons rfl (.nil _)))) ?_
  refine cd_false rfl ?_
  refine cd_skip ?_
  refine ax_then ?_
  refine At.regs (L' := [(0, _), (2, _)]) (.cons rfl (.cons rfl (.nil _))) ?_
  refine cd_seq ?_
  refine cd_region ?_
  refine st_bsi (h := 5) (xs := []) Try.underlying22 ty5 (by decide) rfl rfl (by decide) rfl rfl (fun b5 => ?_)
  refine st (ev_move rfl) rfl rfl rfl ?_
  refine st_appendi (h := 5) Try.underlying22 Try.underlying22 ty5 rfl rfl rfl rfl (fun w1 sw => sw.sl_rd (h := 0) rfl) (by first | omega | (simp only [List.length_append, List.length_cons, List.length_nil, List.length_set, List.length_replicate, List.length_take, List.length_drop, ints_length, wr_length, sha_len, node_len, recov_len, Ky.named_len, Ky.keyPub_len] <;> omega)) (by decide) rfl rfl (fun v7 => ?_)
  refine at_heq (i := 5) (v' := .own (v7) 5 1 (ints .u8 (l))) rfl (by rw [List.nil_append]) ?_
  refine st (ev_assign rfl) rfl rfl rfl ?_
  refine op_nil ?_
  refine ax_then ?_
  refine At.regs (L' := [(2, _)]) (.cons rfl (.nil _)) ?_
  refine cd_ret ?_
  refine rt_tmp (.inl rfl) Try.results92 rfl ?_
  exact fun w1 sw => ⟨_, trivial, rfl, (sw.gives (N := [(5, _)]) (.cons rfl (.nil _))).rn 0⟩

theorem clone_any (p : Value) (l : List Int) (w : World) (hl : l.length ≤ 1000000000) (h : Rd w p 1 (ints .u8 l)) : Calls Try.prog 92 #[p] w (Post (ι := Value) w [] (fun _ => True) (fun v => v) (fun v => [(0, .own (v) 5 1 (ints .u8 (l)))])) := by
  have h' := h
  obtain ⟨a, len, cap, rfl, h1, h2, h3, h4⟩ := h
  cases a with
  | some x => exact clone_some x len cap l w hl h'
  | none =>
    have hc := h3 rfl
    have hn : len = 0 := by omega
    subst hc; subst hn
    have : l = [] := List.length_eq_zero_iff.1 (by rw [ints_length] at h1; omega)
    subst this
    exact clone_nil w

set_option maxRecDepth 20000 in
set_option maxHeartbeats 1000000 in
theorem wraw_any (b : Nat) (v q : Value) (l m : List Int) (w : World) (hb : w.heap[b]? = some (.cells (List.toArray [v]) 91)) (hv : Own w v 5 1 (ints .u8 l)) (hbv : b ∉ blkOf v) (h : Rd w q 1 (ints .u8 m)) (ho : FE.off b (.sl (q) 1 (ints .u8 (m)))) (ho2 : ∀ x, x ∈ blkOf v → FE.off x (.sl (q) 1 (ints .u8 (m)))) (hs : l.length + m.length ≤ 1000000000) : Calls Try.prog 63 #[.pointer (some ⟨b, 0, none⟩), q] w (Post (ι := Value) w (b :: blkOf v) (fun _ => True) (fun _ => .tuple #[]) (fun x => [(0, .blk (b) (.cells ([x]).toArray 91)), (1, .own (x) 5 1 (ints .u8 (l ++ m)))])) := by
  refine calls_at (vs := [.pointer (some ⟨b, 0, none⟩), q]) (X := b :: blkOf v) (H := [(0, .blk (b) (.cells ([v]).toArray 91)), (1, .own (v) 5 1 (ints .u8 (l)))]) (F := [(2, .sl (q) 1 (ints .u8 (m)))]) 15 Try.func63 rfl rfl rfl ((Sat.two 0 1 (by decide) hb hv hbv).read2 (f := .sl (q) 1 (ints .u8 (m))) 2 h ho ho2) ?_
  refine cd_seq ?_
  refine cd_region ?_
  refine st (ev_move rfl) rfl rfl rfl ?_
  refine st (ev_neq_ptr_nil Try.underlying119 rfl rfl) rfl rfl rfl ?_
  refine op_nil ?_
  refine ax_then ?_
  refine At.regs (L' := [(0, _), (1, _), (5, _)]) (.cons rfl (.cons rfl (.cons rfl (.nil _)))) ?_
  refine cd_true rfl ?_
  refine cd_region ?_
  refine st (ev_move rfl) rfl rfl rfl ?_
  refine st (ev_move rfl) rfl rfl rfl ?_
  refine st (ev_nilCheck rfl) rfl rfl rfl ?_
  refine st (ev_fieldAddr (b := _) Try.underlying91 (f := _) rfl ty22 (by decide) rfl) rfl rfl rfl ?_
  refine st (ld_blk1 (h := 0) ty22 rfl rfl rfl rfl) rfl rfl rfl ?_
  refine st (ev_move rfl) rfl rfl rfl ?_
  refine st_appendi (h := 1) Try.underlying22 Try.underlying22 ty5 rfl rfl rfl rfl (fun w1 sw => sw.sl_rd (h := 2) rfl) (by first | omega | (simp only [List.length_append, List.length_cons, List.length_nil, List.length_set, List.length_replicate, List.length_take, List.length_drop, ints_length, wr_length, sha_len, node_len, recov_len, Ky.named_len, Ky.keyPub_len] <;> omega)) (by decide) rfl rfl (fun v12 => ?_)
  refine at_own_shape (h := 1) rfl (fun hs12 => ?_)
  refine st (ev_nilCheck rfl) rfl rfl rfl ?_
  refine st (ev_fieldAddr (b := _) Try.underlying91 (f := _) rfl ty22 (by decide) rfl) rfl rfl rfl ?_
  refine st_store1 0 ty22 rfl rfl rfl hs12.2 (show 0 < 1 from by decide) rfl ?_
  refine at_heq (i := 0) (v' := .blk (b) (.cells ([v12]).toArray 91)) rfl rfl ?_
  refine op_nil ?_
  refine rt_none (.inr rfl) Try.results63 ?_
  exact fun w1 sw => ⟨v12, trivial, rfl, sw.gives (N := [(0, _), (1, _)]) (.cons rfl (.cons rfl (.nil _)))⟩

set_option maxRecDepth 20000 in
set_option maxHeartbeats 2000000 in
theorem wnum_any (b : Nat) (v q : Value) (l : List Int) (n : Int) (w : World) (hb : w.heap[b]? = some (.cells (List.toArray [v]) 91)) (hv : Own w v 5 1 (ints .u8 l)) (hbv : b ∉ blkOf v) (h : Rd w q 1 (ints .i64 [n])) (ho : FE.off b (.sl q 1 (ints .i64 [n]))) (ho2 : ∀ x, x ∈ blkOf v → FE.off x (.sl q 1 (ints .i64 [n]))) (hs : l.length ≤ 1000000) (hn : 0 ≤ n ∧ n < 128) : Calls Try.prog 61 #[.pointer (some ⟨b, 0, none⟩), q] w (Post (ι := Value) w (b :: blkOf v) (fun _ => True) (fun _ => .tuple #[]) (fun x => [(0, .blk (b) (.cells ([x]).toArray 91)), (1, .own (x) 5 1 (ints .u8 (l ++ [n])))])) := by
  refine calls_at (vs := [.pointer (some ⟨b, 0, none⟩), q]) (X := b :: blkOf v) (H := [(0, .blk (b) (.cells ([v]).toArray 91)), (1, .own (v) 5 1 (ints .u8 (l)))]) (F := [(2, .sl q 1 (ints .i64 [n]))]) 47 Try.func61 rfl rfl rfl ((Sat.two 0 1 (by decide) hb hv hbv).read2 (f := .sl q 1 (ints .i64 [n])) 2 h ho ho2) ?_
  refine cd_seq ?_
  refine cd_seq ?_
  refine cd_region ?_
  refine st (ev_move rfl) rfl rfl rfl ?_
  refine st (ev_eql_ptr_nil Try.underlying119 rfl rfl) rfl rfl rfl ?_
  refine op_nil ?_
  refine ax_then ?_
  refine At.regs (L' := [(0, _), (1, _), (8, _)]) (.cons rfl (.cons rfl (.cons rfl (.nil _)))) ?_
  refine cd_false rfl ?_
  refine cd_skip ?_
  refine ax_then ?_
  refine At.regs (L' := [(0, _), (1, _)]) (.cons rfl (.cons rfl (.nil _))) ?_
  refine cd_seq ?_
  refine cd_region ?_
  refine st (ev_move rfl) rfl rfl rfl ?_
  refine st (ev_len_rdi (h := 2) Try.underlying120 rfl rfl) rfl rfl rfl ?_
  refine st (ev_move rfl) rfl rfl rfl ?_
  refine op_nil ?_
  refine ax_then ?_
  refine At.regs (L' := [(0, _), (9, _), (10, _), (11, _)]) (.cons rfl (.cons rfl (.cons rfl (.cons rfl (.nil _))))) ?_
  refine cd_block ?_
  refine at_heq (i := 1) (v' := .own (v) 5 1 (ints .u8 (l ++ [n].take 0))) rfl (by simp) ?_
  refine cd_loop (ι := Nat × Value) (fun x => x.1 ≤ 1) (fun x => 1 - x.1)
      (fun x => [(0, .pointer (some ⟨b, 0, none⟩)), (9, q), (10, .int .i64 (([n] : List Int).length : Nat)), (11, .int .i64 (x.1 : Int))])
      (fun x => [(0, .blk (b) (.cells ([x.2]).toArray 91)), (1, .own (x.2) 5 1 (ints .u8 (l ++ [n].take x.1)))])
      (fun x => [(2, .sl q 1 (ints .i64 [n]))])
      (0, v) (by omega) (.cons rfl (.cons rfl (.cons rfl (.cons rfl (.nil _))))) (.cons rfl (.cons rfl (.nil _))) (.cons rfl (.nil _)) (fun x hi => ?_)
  have hln : ([n] : List Int).length = 1 := rfl
  have htk : (([n] : List Int).take x.1).length ≤ 1 := by rw [List.length_take]; omega
  refine cd_seq ?_
  refine cd_region ?_
  refine st (ev_lss rfl rfl) rfl rfl rfl ?_
  refine op_nil ?_
  refine ax_then ?_
  refine At.regs (L' := [(0, _), (9, _), (10, _), (11, _), (12, _)]) (.cons rfl (.cons rfl (.cons rfl (.cons rfl (.cons rfl (.nil _)))))) ?_
  refine cd_seq ?_
  refine cd_if rfl (fun hc12 => ?_) (fun hc12 => ?_)
  ·
    have hx0 : x.1 = 0 := by have : ([n] : List Int).length = 1 := rfl; omega
    refine cd_skip ?_
    refine ax_then ?_
    refine At.regs (L' := [(0, _), (9, _), (10, _), (11, _), (12, _)]) (.cons rfl (.cons rfl (.cons rfl (.cons rfl (.cons rfl (.nil _)))))) ?_
    refine cd_seq ?_
    refine cd_block ?_
    refine cd_seq ?_
    refine cd_region ?_
    refine st (ev_indexAddr_rdi (h := 2) Try.underlying120 ty3 rfl rfl rfl (by omega) (by first | omega | (simp only [List.length_append, List.length_cons, List.length_nil, List.length_set, List.length_replicate, List.length_take, List.length_drop, ints_length, wr_length, sha_len, node_len, recov_len, Ky.named_len, Ky.keyPub_len] <;> omega))) rfl rfl rfl ?_
    refine st (ld_rd1 (h := 2) ty3 rfl rfl rfl (ints_get _ _ _ (by first | omega | (simp only [List.length_append, List.length_cons, List.length_nil, List.length_set, List.length_replicate, List.length_take, List.length_drop, ints_length, wr_length, sha_len, node_len, recov_len, Ky.named_len, Ky.keyPub_len] <;> omega) | rfl))) rfl rfl rfl ?_
    refine at_eq (i := 14) (v' := .int .i64 n) rfl (by rw [show (x.1 : Int).toNat = 0 by omega]; rfl) ?_
    refine st (ev_assign rfl) rfl rfl rfl ?_
    refine op_nil ?_
    refine ax_then ?_
    refine At.regs (L' := [(0, _), (5, _), (9, _), (10, _), (11, _), (12, _), (13, _), (14, _)]) (.cons rfl (.cons rfl (.cons rfl (.cons rfl (.cons rfl (.cons rfl (.cons rfl (.cons rfl (.nil _))))))))) ?_
    refine cd_seq ?_
    refine cd_region ?_
    refine st (ev_move rfl) rfl rfl rfl ?_
    refine st (ev_min2 rfl rfl) rfl rfl rfl ?_
    refine st (ev_max2 rfl rfl) rfl rfl rfl ?_
    refine at_eq (i := 17) (v' := .int .i64 n) rfl (by congr 1; omega) ?_
    refine st (ev_convu64 Try.underlying3 Try.underlying121 rfl (by omega) (by omega)) rfl rfl rfl ?_
    refine st (ev_assign rfl) rfl rfl rfl ?_
    refine op_nil ?_
    refine ax_then ?_
    refine At.regs (L' := [(0, _), (5, _), (6, _), (9, _), (10, _), (11, _), (12, _), (13, _), (14, _), (15, _), (16, _), (17, _), (18, _)]) (.cons rfl (.cons rfl (.cons rfl (.cons rfl (.cons rfl (.cons rfl (.cons rfl (.cons rfl (.cons rfl (.cons rfl (.cons rfl (.cons rfl (.cons rfl (.nil _)))))))))))))) ?_
    refine cd_seq ?_
    refine cd_block ?_
    refine cd_loop (ι := Nat) (fun u => True) (fun u => 0)
        (fun u => [(0, .pointer (some ⟨b, 0, none⟩)), (6, .int .u64 n), (9, q), (10, .int .i64 (([n] : List Int).length : Nat)), (11, .int .i64 (x.1 : Int))])
        (fun u => [(0, .blk (b) (.cells ([x.2]).toArray 91)), (1, .own (x.2) 5 1 (ints .u8 (l ++ [n].take x.1)))])
        (fun u => [(2, .sl q 1 (ints .i64 [n]))])
        0 (trivial) (.cons rfl (.cons rfl (.cons rfl (.cons rfl (.cons rfl (.nil _)))))) (.cons rfl (.cons rfl (.nil _))) (.cons rfl (.nil _)) (fun u hi => ?_)
    refine cd_seq ?_
    refine cd_seq ?_
    refine cd_region ?_
    refine st (ev_move rfl) rfl rfl rfl ?_
    refine st (ev_geq rfl rfl) rfl rfl rfl ?_
    refine op_nil ?_
    refine ax_then ?_
    refine At.regs (L' := [(0, _), (6, _), (9, _), (10, _), (11, _), (19, _), (20, _)]) (.cons rfl (.cons rfl (.cons rfl (.cons rfl (.cons rfl (.cons rfl (.cons rfl (.nil _)))))))) ?_
    refine cd_if_f rfl (by omega) ?_
    refine cd_exit ?_
    refine ax_then_exit ?_
    refine ax_then_exit ?_
    refine ax_block_hit ?_
    refine ax_then ?_
    refine At.regs (L' := [(0, _), (6, _), (9, _), (10, _), (11, _), (19, _), (20, _)]) (.cons rfl (.cons rfl (.cons rfl (.cons rfl (.cons rfl (.cons rfl (.cons rfl (.nil _)))))))) ?_
    refine cd_region ?_
    refine st (ev_move rfl) rfl rfl rfl ?_
    refine st (ev_move rfl) rfl rfl rfl ?_
    refine st (ev_nilCheck rfl) rfl rfl rfl ?_
    refine st (ev_fieldAddr (b := _) Try.underlying91 (f := _) rfl ty22 (by decide) rfl) rfl rfl rfl ?_
    refine st (ld_blk1 (h := 0) ty22 rfl rfl rfl rfl) rfl rfl rfl ?_
    refine st (ev_move rfl) rfl rfl rfl ?_
    refine st (ev_conv Try.underlying121 Try.underlying5 rfl) rfl rfl rfl ?_
    refine at_eq (i := 41) (v' := .int .u8 n) rfl (by rw [show IntKind.u8.wrap n = n by simp [IntKind.wrap, IntKind.bits, IntKind.signed]; omega]) ?_
    refine st_bsi (h := 42) (xs := [_]) Try.underlying22 ty5 (by decide) rfl rfl (by decide) rfl rfl (fun b42 => ?_)
    refine st_appendi (h := 1) Try.underlying22 Try.underlying22 ty5 rfl rfl rfl rfl (fun w1 sw => sw.own_rd (h := 42) rfl) (by first | omega | (simp only [List.length_append, List.length_cons, List.length_nil, List.length_set, List.length_replicate, List.length_take, List.length_drop, ints_length, wr_length, sha_len, node_len, recov_len, Ky.named_len, Ky.keyPub_len] <;> omega)) (by decide) rfl rfl (fun v43 => ?_)
    refine at_own_shape (h := 1) rfl (fun hs43 => ?_)
    refine st (ev_nilCheck rfl) rfl rfl rfl ?_
    refine st (ev_fieldAddr (b := _) Try.underlying91 (f := _) rfl ty22 (by decide) rfl) rfl rfl rfl ?_
    refine st_store1 0 ty22 rfl rfl rfl hs43.2 (show 0 < 1 from by decide) rfl ?_
    refine at_heq (i := 0) (v' := .blk (b) (.cells ([v43]).toArray 91)) rfl rfl ?_
    refine op_nil ?_
    refine ax_block ?_
    refine ax_then ?_
    refine At.regs (L' := [(0, _), (6, _), (9, _), (10, _), (11, _), (19, _), (20, _), (35, _), (36, _), (37, _), (38, _), (39, _), (40, _), (41, _), (42, _), (43, _), (44, _), (45, _)]) (.cons rfl (.cons rfl (.cons rfl (.cons rfl (.cons rfl (.cons rfl (.cons rfl (.cons rfl (.cons rfl (.cons rfl (.cons rfl (.cons rfl (.cons rfl (.cons rfl (.cons rfl (.cons rfl (.cons rfl (.cons rfl (.nil _))))))))))))))))))) ?_
    refine cd_region ?_
    refine st (ev_add64 rfl rfl (by omega) (by omega)) rfl rfl rfl ?_
    refine st (ev_move rfl) rfl rfl rfl ?_
    refine op_nil ?_
    refine ax_heq (i := 1) (v' := .own (v43) 5 1 (ints .u8 (l ++ [n].take (x.1 + 1)))) rfl (by rw [hx0]; simp) ?_
    exact at_again ((x.1 + 1, v43)) (by show x.1 + 1 ≤ 1; omega) (by omega) (.cons rfl (.cons rfl (.cons rfl (.cons rfl (.nil _))))) (.cons rfl (.cons rfl (.nil _))) (.cons rfl (.nil _))
  ·
    obtain ⟨j, u⟩ := x
    dsimp only at hi hc12 ⊢
    obtain rfl : j = 1 := by have : ([n] : List Int).length = 1 := rfl; omega
    refine cd_exit ?_
    refine ax_then_exit ?_
    refine ax_then_exit ?_
    refine ax_block_hit ?_
    refine rt_none (.inr rfl) Try.results61 ?_
    exact fun w1 sw => ⟨u, trivial, rfl, sw.gives (N := [(0, _), (1, _)]) (.cons rfl (.cons rfl (.nil _)))⟩

set_option maxRecDepth 20000 in
set_option maxHeartbeats 1000000 in
theorem wout_any (b : Nat) (v : Value) (l : List Int) (w : World) (hl : l.length ≤ 1000000000) (h : Lies w b 0 [v]) (h' : Rd w v 1 (ints .u8 l)) : Calls Try.prog 64 #[.pointer (some ⟨b, 0, none⟩)] w (Post (ι := Value) w [] (fun _ => True) (fun v => v) (fun v => [(0, .own (v) 5 1 (ints .u8 (l)))])) := by
  refine calls_at (vs := [.pointer (some ⟨b, 0, none⟩)]) (X := []) (H := []) (F := [(21, .mem b 0 [v]), (20, .sl (v) 1 (ints .u8 (l)))]) 10 Try.func64 rfl rfl rfl ((Sat.rd0 20 h').read 21 h off_nil) ?_
  refine cd_seq ?_
  refine cd_region ?_
  refine st (ev_assign rfl) rfl rfl rfl ?_
  refine at_own_nil 2 5 1 ?_
  refine at_heq (i := 2) (v' := .own (.slice none 0 0) 5 1 (ints .u8 [])) rfl rfl ?_
  refine op_nil ?_
  refine ax_then ?_
  refine At.regs (L' := [(0, _), (2, _)]) (.cons rfl (.cons rfl (.nil _))) ?_
  refine cd_seq ?_
  refine cd_seq ?_
  refine cd_region ?_
  refine st (ev_move rfl) rfl rfl rfl ?_
  refine st (ev_eql_ptr_nil Try.underlying119 rfl rfl) rfl rfl rfl ?_
  refine op_nil ?_
  refine ax_then ?_
  refine At.regs (L' := [(0, _), (2, _), (4, _)]) (.cons rfl (.cons rfl (.cons rfl (.nil _)))) ?_
  refine cd_false rfl ?_
  refine cd_skip ?_
  refine ax_then ?_
  refine At.regs (L' := [(0, _), (2, _)]) (.cons rfl (.cons rfl (.nil _))) ?_
  refine cd_seq ?_
  refine cd_region ?_
  refine st (ev_move rfl) rfl rfl rfl ?_
  refine st (ev_nilCheck rfl) rfl rfl rfl ?_
  refine st (ev_fieldAddr (b := _) Try.underlying91 (f := _) rfl ty22 (by decide) rfl) rfl rfl rfl ?_
  refine st (ld_mem1 (h := 21) ty22 rfl rfl rfl (Nat.zero_add _).symm rfl) rfl rfl rfl ?_
  refine st_call has92 rfl (fun w1 sw => rn 9 (clone_any v l w1 hl (sw.sl_rd (h := 20) rfl))) nil_all rfl rfl (fun v9 _ => ?_)
  refine st (ev_assign rfl) rfl rfl rfl ?_
  refine op_nil ?_
  refine ax_then ?_
  refine At.regs (L' := [(2, _)]) (.cons rfl (.nil _)) ?_
  refine cd_ret ?_
  refine rt_tmp (.inl rfl) Try.results64 rfl ?_
  exact fun w1 sw => ⟨_, trivial, rfl, (sw.gives (N := [(9, _)]) (.cons rfl (.nil _))).rn 0⟩

set_option maxRecDepth 20000 in
set_option maxHeartbeats 1000000 in
theorem grow_any (n : Nat) (w : World) (hn0 : 0 < n) (hn : n ≤ 1000000) : Calls Try.prog 91 #[.slice none 0 0, .int .i64 (n : Int)] w (Post (ι := Value) w [] (fun _ => True) (fun v => v) (fun v => [(0, .own (v) 39 32 (flat ([])))])) := by
  refine calls_at (vs := [.slice none 0 0, .int .i64 (n : Int)]) (X := []) (H := []) (F := []) 27 Try.func91 rfl rfl rfl (Sat.start0 w) ?_
  refine cd_seq ?_
  refine cd_region ?_
  refine st (ev_assign rfl) rfl rfl rfl ?_
  refine at_own_nil 4 39 32 ?_
  refine at_heq (i := 4) (v' := .own (.slice none 0 0) 39 32 (flat [])) rfl rfl ?_
  have hu4 := H32.nil
  refine op_nil ?_
  refine ax_then ?_
  refine At.regs (L' := [(0, _), (1, _), (4, _)]) (.cons rfl (.cons rfl (.cons rfl (.nil _)))) ?_
  refine cd_seq ?_
  refine cd_seq ?_
  refine cd_region ?_
  refine st (ev_move rfl) rfl rfl rfl ?_
  refine st (ev_lss rfl rfl) rfl rfl rfl ?_
  refine op_nil ?_
  refine ax_then ?_
  refine At.regs (L' := [(0, _), (1, _), (4, _), (6, _)]) (.cons rfl (.cons rfl (.cons rfl (.cons rfl (.nil _))))) ?_
  refine cd_if_f rfl (by omega) ?_
  refine cd_skip ?_
  refine ax_then ?_
  refine At.regs (L' := [(0, _), (1, _), (4, _)]) (.cons rfl (.cons rfl (.cons rfl (.nil _)))) ?_
  refine cd_seq ?_
  refine cd_seq ?_
  refine cd_region ?_
  refine st (ev_move rfl) rfl rfl rfl ?_
  refine st (ev_move rfl) rfl rfl rfl ?_
  refine st (ev_cap Try.underlying26 rfl) rfl rfl rfl ?_
  refine st (ev_move rfl) rfl rfl rfl ?_
  refine st (ev_len Try.underlying26 rfl) rfl rfl rfl ?_
  refine st (ev_sub64 rfl rfl (by omega) (by omega)) rfl rfl rfl ?_
  refine st (ev_sub64 rfl rfl (by omega) (by omega)) rfl rfl rfl ?_
  refine at_eq (i := 14) (v' := .int .i64 (n : Int)) rfl (by congr 1 <;> omega) ?_
  refine st (ev_assign rfl) rfl rfl rfl ?_
  refine op_nil ?_
  refine ax_then ?_
  refine At.regs (L' := [(0, _), (1, _), (4, _)]) (.cons rfl (.cons rfl (.cons rfl (.nil _)))) ?_
  refine cd_seq ?_
  refine cd_region ?_
  refine st (ev_move rfl) rfl rfl rfl ?_
  refine st (ev_gtr rfl rfl) rfl rfl rfl ?_
  refine op_nil ?_
  refine ax_then ?_
  refine At.regs (L' := [(0, _), (1, _), (4, _), (16, _)]) (.cons rfl (.cons rfl (.cons rfl (.cons rfl (.nil _))))) ?_
  refine cd_if_t rfl (by omega) ?_
  refine cd_region ?_
  refine st (ev_move rfl) rfl rfl rfl ?_
  refine st (ev_move rfl) rfl rfl rfl ?_
  refine st (ev_cap Try.underlying26 rfl) rfl rfl rfl ?_
  refine st (ev_sliceh_hi Try.underlying26 ty39 rfl rfl (fun w1 sw => rd_nil 32) H32.nil (by decide) (by decide)) rfl rfl rfl ?_
  refine at_eq (i := 20) (v' := .slice none 0 0) rfl rfl ?_
  refine st (ev_move rfl) rfl rfl rfl ?_
  refine st_appendz_nil (h := 22) (m := n) Try.underlying26 Try.underlying3 ty39 rfl (by decide) rfl rfl hn0 (by omega) (by decide) rfl rfl (fun v22 l22 hl22 => ?_)
  refine st (ev_move rfl) rfl rfl rfl ?_
  refine st (ev_len Try.underlying26 rfl) rfl rfl rfl ?_
  refine st (ev_slice_rd_hi (n := n) Try.underlying26 ty39 rfl rfl (fun w1 sw => sw.own_rd (h := 22) rfl) (by decide) hl22 (by decide) (by omega)) rfl rfl rfl ?_
  refine at_own_take (h := 22) (n := n) (hi := 0) rfl (by decide) hl22 (Nat.zero_le _) ?_
  refine at_heq (i := 22) (v' := .own (cutAt 32 v22 0 0) 39 32 (flat ([]))) rfl (by rw [Nat.zero_mul, List.take_zero]; rfl) ?_
  refine st (ev_assign rfl) rfl rfl rfl ?_
  refine op_nil ?_
  refine ax_then ?_
  refine At.regs (L' := [(0, _), (4, _)]) (.cons rfl (.cons rfl (.nil _))) ?_
  refine cd_seq ?_
  refine cd_region ?_
  refine st (ev_move rfl) rfl rfl rfl ?_
  refine st (ev_assign rfl) rfl rfl rfl ?_
  refine op_nil ?_
  refine ax_then ?_
  refine At.regs (L' := [(4, _)]) (.cons rfl (.nil _)) ?_
  refine cd_ret ?_
  refine rt_tmp (.inl rfl) Try.results91 rfl ?_
  exact fun w1 sw => ⟨_, trivial, rfl, (sw.gives (N := [(22, _)]) (.cons rfl (.nil _))).rn 0⟩

/-- one of two -/
def tv (a b : Value) (i : Nat) : Value := if i = 0 then a else b
def tl (a b : List (List Int)) (i : Nat) : List (List Int) := if i = 0 then a else b
def tsum (a b : List (List Int)) : Nat → List (List Int)
  | 0 => []
  | n + 1 => tsum a b n ++ tl a b n
theorem tl_h32 {a b : List (List Int)} (ha : H32 a) (hb : H32 b) (i : Nat) : H32 (tl a b i) := by unfold tl; split <;> assumption
theorem tsum_h32 {a b : List (List Int)} (ha : H32 a) (hb : H32 b) : ∀ n, H32 (tsum a b n)
  | 0 => H32.nil
  | n + 1 => (tsum_h32 ha hb n).append (tl_h32 ha hb n)
theorem tl_le (a b : List (List Int)) (i : Nat) : (tl a b i).length ≤ a.length + b.length := by unfold tl; split <;> omega
theorem tsum_le (a b : List (List Int)) : ∀ n, n ≤ 2 → (tsum a b n).length ≤ n * (a.length + b.length)
  | 0, _ => by simp [tsum]
  | n + 1, h => by
    have := tsum_le a b n (by omega)
    have := tl_le a b n
    rw [tsum, List.length_append, Nat.succ_mul]
    omega
theorem tsum_le2 (a b : List (List Int)) {n : Nat} (h : n ≤ 2) : (tsum a b n).length ≤ 2 * (a.length + b.length) := Nat.le_trans (tsum_le a b n h) (Nat.mul_le_mul_right _ h)
theorem tsum_two (a b : List (List Int)) : tsum a b 2 = a ++ b := by simp [tsum, tl]
theorem trd {w : World} {va vb : Value} {a b : List (List Int)} (ha : Rd w va 32 (flat a)) (hb : Rd w vb 32 (flat b)) (i : Nat) : Rd w (tv va vb i) 32 (flat (tl a b i)) := by
  unfold tv tl; split <;> assumption
theorem two_get (va vb : Value) {i : Nat} (hi : i < 2) : [va, vb][i]? = some (tv va vb i) := by
  match i, hi with
  | 0, _ => rfl
  | 1, _ => rfl
theorem tv_shape {va vb : Value} (ha : va.cells = #[va] ∧ va.oneCell' = true) (hb : vb.cells = #[vb] ∧ vb.oneCell' = true) (i : Nat) : (tv va vb i).cells = #[tv va vb i] ∧ (tv va vb i).oneCell' = true := by
  unfold tv; split <;> assumption

set_option maxRecDepth 20000 in
set_option maxHeartbeats 2000000 in
theorem concat_any (p va vb : Value) (a b : List (List Int)) (w : World) (ha : H32 a) (hb : H32 b) (n1 : a.length ≤ 1000) (n2 : b.length ≤ 1000) (h0 : 0 < a.length) (h : Rd w p 1 [va, vb]) (h1 : Rd w va 32 (flat a)) (h2 : Rd w vb 32 (flat b)) : Calls Try.prog 62 #[p] w (Post (ι := Value) w [] (fun _ => True) (fun v => v) (fun v => [(0, .own (v) 39 32 (flat (a ++ b)))])) := by
  refine calls_at (vs := [p]) (X := []) (H := []) (F := [(0, .sl p 1 [va, vb]), (21, .sl (vb) 32 (flat (b))), (20, .sl (va) 32 (flat (a)))]) 36 Try.func62 rfl rfl rfl (((Sat.rd0 20 h1).more 21 h2).more 0 h) ?_
  refine cd_seq ?_
  refine cd_region ?_
  refine st (ev_assign rfl) rfl rfl rfl ?_
  refine at_own_nil 2 39 32 ?_
  refine at_heq (i := 2) (v' := .own (.slice none 0 0) 39 32 (flat [])) rfl rfl ?_
  have hu2 := H32.nil
  refine op_nil ?_
  refine ax_then ?_
  refine At.regs (L' := [(0, _), (2, _)]) (.cons rfl (.cons rfl (.nil _))) ?_
  refine cd_seq ?_
  refine cd_region ?_
  refine st (ev_assign rfl) rfl rfl rfl ?_
  refine op_nil ?_
  refine ax_then ?_
  refine At.regs (L' := [(0, _), (2, _), (3, _)]) (.cons rfl (.cons rfl (.cons rfl (.nil _)))) ?_
  refine cd_seq ?_
  refine cd_seq ?_
  refine cd_region ?_
  refine st (ev_move rfl) rfl rfl rfl ?_
  refine st (ev_len_rd (h := 0) (n := 2) Try.underlying122 rfl rfl rfl (by decide)) rfl rfl rfl ?_
  refine st (ev_move rfl) rfl rfl rfl ?_
  refine op_nil ?_
  refine ax_then ?_
  refine At.regs (L' := [(0, _), (2, _), (3, _), (9, _), (10, _), (11, _)]) (.cons rfl (.cons rfl (.cons rfl (.cons rfl (.cons rfl (.cons rfl (.nil _))))))) ?_
  refine cd_block ?_
  refine at_eq (i := 10) (v' := .int .i64 ((2 : Nat) : Int)) rfl rfl ?_
  refine cd_loop (ι := Nat) (fun i => i ≤ 2) (fun i => 2 - i)
      (fun i => [(0, p), (3, .int .i64 ((tsum a b i).length : Nat)), (9, p), (10, .int .i64 ((2 : Nat) : Int)), (11, .int .i64 (i : Int))])
      (fun i => [])
      (fun i => [(0, .sl p 1 [va, vb]), (20, .sl (va) 32 (flat (a))), (21, .sl (vb) 32 (flat (b)))])
      0 (by omega) (.cons rfl (.cons rfl (.cons rfl (.cons rfl (.cons rfl (.nil _)))))) (.nil _) (.cons rfl (.cons rfl (.cons rfl (.nil _)))) (fun i hi => ?_)
  have hts := tsum_le2 a b hi
  have htl := tl_le a b i
  refine cd_seq ?_
  refine cd_region ?_
  refine st (ev_lss rfl rfl) rfl rfl rfl ?_
  refine op_nil ?_
  refine ax_then ?_
  refine At.regs (L' := [(0, _), (3, _), (9, _), (10, _), (11, _), (12, _)]) (.cons rfl (.cons rfl (.cons rfl (.cons rfl (.cons rfl (.cons rfl (.nil _))))))) ?_
  refine cd_seq ?_
  refine cd_if rfl (fun hc12 => ?_) (fun hc12 => ?_)
  ·
    have hi2 : i < 2 := by omega
    refine cd_skip ?_
    refine ax_then ?_
    refine At.regs (L' := [(0, _), (3, _), (9, _), (10, _), (11, _), (12, _)]) (.cons rfl (.cons rfl (.cons rfl (.cons rfl (.cons rfl (.cons rfl (.nil _))))))) ?_
    refine cd_seq ?_
    refine cd_block ?_
    refine cd_seq ?_
    refine cd_region ?_
    refine st (ev_indexAddr_rd (h := 0) (n := 2) Try.underlying122 ty26 rfl rfl rfl rfl (by decide) (by omega) (by omega)) rfl rfl rfl ?_
    refine st (ld_rd1 (h := 0) ty26 rfl rfl rfl (by rw [Nat.mul_one, Int.toNat_natCast]; exact two_get va vb (by omega))) rfl rfl rfl ?_
    refine st (ev_assign rfl) rfl rfl rfl ?_
    refine op_nil ?_
    refine ax_then ?_
    refine At.regs (L' := [(0, _), (3, _), (5, _), (9, _), (10, _), (11, _), (12, _), (13, _), (14, _)]) (.cons rfl (.cons rfl (.cons rfl (.cons rfl (.cons rfl (.cons rfl (.cons rfl (.cons rfl (.cons rfl (.nil _)))))))))) ?_
    refine cd_seq ?_
    refine cd_region ?_
    refine st (ev_move rfl) rfl rfl rfl ?_
    refine st (ev_move rfl) rfl rfl rfl ?_
    refine st (ev_len_of (sz := 32) Try.underlying26 rfl (fun w1 sw => trd (sw.sl_rd (h := 20) rfl) (sw.sl_rd (h := 21) rfl) i) (flat_len (tl_h32 ha hb i)) (by decide)) rfl rfl rfl ?_
    refine st (ev_add64 rfl rfl (by omega) (by omega)) rfl rfl rfl ?_
    refine st (ev_assign rfl) rfl rfl rfl ?_
    refine op_nil ?_
    refine ax_then ?_
    refine At.regs (L' := [(0, _), (3, _), (5, _), (9, _), (10, _), (11, _), (12, _), (13, _), (14, _), (15, _), (16, _), (17, _), (18, _)]) (.cons rfl (.cons rfl (.cons rfl (.cons rfl (.cons rfl (.cons rfl (.cons rfl (.cons rfl (.cons rfl (.cons rfl (.cons rfl (.cons rfl (.cons rfl (.nil _)))))))))))))) ?_
    refine cd_seq ?_
    refine cd_region ?_
    refine st (ev_move rfl) rfl rfl rfl ?_
    refine st (ev_lss rfl rfl) rfl rfl rfl ?_
    refine op_nil ?_
    refine ax_then ?_
    refine At.regs (L' := [(0, _), (3, _), (5, _), (9, _), (10, _), (11, _), (12, _), (13, _), (14, _), (15, _), (16, _), (17, _), (18, _), (19, _), (20, _)]) (.cons rfl (.cons rfl (.cons rfl (.cons rfl (.cons rfl (.cons rfl (.cons rfl (.cons rfl (.cons rfl (.cons rfl (.cons rfl (.cons rfl (.cons rfl (.cons rfl (.cons rfl (.nil _)))))))))))))))) ?_
    refine cd_if_f rfl (by omega) ?_
    refine cd_skip ?_
    refine ax_block ?_
    refine ax_then ?_
    refine At.regs (L' := [(0, _), (3, _), (5, _), (9, _), (10, _), (11, _), (12, _), (13, _), (14, _), (15, _), (16, _), (17, _), (18, _), (19, _), (20, _)]) (.cons rfl (.cons rfl (.cons rfl (.cons rfl (.cons rfl (.cons rfl (.cons rfl (.cons rfl (.cons rfl (.cons rfl (.cons rfl (.cons rfl (.cons rfl (.cons rfl (.cons rfl (.nil _)))))))))))))))) ?_
    refine cd_region ?_
    refine st (ev_add64 rfl rfl (by omega) (by omega)) rfl rfl rfl ?_
    refine st (ev_move rfl) rfl rfl rfl ?_
    refine op_nil ?_
    refine ax_eq (i := 3) (v' := .int .i64 ((tsum a b (i + 1)).length : Nat)) rfl (by rw [tsum, List.length_append]; rfl) ?_
    exact at_again (i + 1) (by omega) (by omega) (.cons rfl (.cons rfl (.cons rfl (.cons rfl (.cons rfl (.nil _)))))) (.nil _) (.cons rfl (.cons rfl (.cons rfl (.nil _))))
  ·
    obtain rfl : i = 2 := by omega
    have hs2 : (tsum a b 2).length = a.length + b.length := by rw [tsum_two, List.length_append]
    refine cd_exit ?_
    refine ax_then_exit ?_
    refine ax_then_exit ?_
    refine ax_block_hit ?_
    refine ax_then ?_
    refine At.regs (L' := [(0, _), (3, _)]) (.cons rfl (.cons rfl (.nil _))) ?_
    refine cd_seq ?_
    refine cd_region ?_
    refine st (ev_move rfl) rfl rfl rfl ?_
    refine st_call has91 rfl (fun w1 sw => rn 24 (grow_any (tsum a b 2).length w1 (by omega) (by omega))) nil_all rfl rfl (fun v24 _ => ?_)
    refine st (ev_assign rfl) rfl rfl rfl ?_
    refine op_nil ?_
    refine ax_then ?_
    refine At.regs (L' := [(0, _), (6, _)]) (.cons rfl (.cons rfl (.nil _))) ?_
    refine cd_seq ?_
    refine cd_seq ?_
    refine cd_region ?_
    refine st (ev_move rfl) rfl rfl rfl ?_
    refine st (ev_len_rd (h := 0) (n := 2) Try.underlying122 rfl rfl rfl (by decide)) rfl rfl rfl ?_
    refine st (ev_move rfl) rfl rfl rfl ?_
    refine op_nil ?_
    refine ax_then ?_
    refine At.regs (L' := [(6, _), (25, _), (26, _), (27, _)]) (.cons rfl (.cons rfl (.cons rfl (.cons rfl (.nil _))))) ?_
    refine cd_block ?_
    refine at_eq (i := 26) (v' := .int .i64 ((2 : Nat) : Int)) rfl rfl ?_
    refine cd_loop (ι := Nat × Value) (fun x => x.1 ≤ 2) (fun x => 2 - x.1)
        (fun x => [(6, x.2), (25, p), (26, .int .i64 ((2 : Nat) : Int)), (27, .int .i64 (x.1 : Int))])
        (fun x => [(24, .own (x.2) 39 32 (flat (tsum a b x.1)))])
        (fun x => [(0, .sl p 1 [va, vb]), (20, .sl (va) 32 (flat (a))), (21, .sl (vb) 32 (flat (b)))])
        (0, v24) (by omega) (.cons rfl (.cons rfl (.cons rfl (.cons rfl (.nil _))))) (.cons rfl (.nil _)) (.cons rfl (.cons rfl (.cons rfl (.nil _)))) (fun x hi => ?_)
    have hts := tsum_le2 a b hi
    have htl := tl_le a b x.1
    have hu1 := tsum_h32 ha hb x.1
    have hu2 := tl_h32 ha hb x.1
    refine cd_seq ?_
    refine cd_region ?_
    refine st (ev_lss rfl rfl) rfl rfl rfl ?_
    refine op_nil ?_
    refine ax_then ?_
    refine At.regs (L' := [(6, _), (25, _), (26, _), (27, _), (28, _)]) (.cons rfl (.cons rfl (.cons rfl (.cons rfl (.cons rfl (.nil _)))))) ?_
    refine cd_seq ?_
    refine cd_if rfl (fun hc28 => ?_) (fun hc28 => ?_)
    ·
      have hx2 : x.1 < 2 := by omega
      refine cd_skip ?_
      refine ax_then ?_
      refine At.regs (L' := [(6, _), (25, _), (26, _), (27, _), (28, _)]) (.cons rfl (.cons rfl (.cons rfl (.cons rfl (.cons rfl (.nil _)))))) ?_
      refine cd_seq ?_
      refine cd_block ?_
      refine cd_seq ?_
      refine cd_region ?_
      refine st (ev_indexAddr_rd (h := 0) (n := 2) Try.underlying122 ty26 rfl rfl rfl rfl (by decide) (by omega) (by omega)) rfl rfl rfl ?_
      refine st (ld_rd1 (h := 0) ty26 rfl rfl rfl (by rw [Nat.mul_one, Int.toNat_natCast]; exact two_get va vb (by omega))) rfl rfl rfl ?_
      refine st (ev_assign rfl) rfl rfl rfl ?_
      refine op_nil ?_
      refine ax_then ?_
      refine At.regs (L' := [(6, _), (8, _), (25, _), (26, _), (27, _), (28, _), (29, _), (30, _)]) (.cons rfl (.cons rfl (.cons rfl (.cons rfl (.cons rfl (.cons rfl (.cons rfl (.cons rfl (.nil _))))))))) ?_
      refine cd_region ?_
      refine st (ev_move rfl) rfl rfl rfl ?_
      refine st (ev_move rfl) rfl rfl rfl ?_
      refine st_appendh (h := 24) Try.underlying26 Try.underlying26 ty39 rfl rfl rfl rfl (fun w1 sw => trd (sw.sl_rd (h := 20) rfl) (sw.sl_rd (h := 21) rfl) x.1) hu1 hu2 (by omega) (by decide) rfl rfl (fun v33 hu33 => ?_)
      refine st (ev_assign rfl) rfl rfl rfl ?_
      refine op_nil ?_
      refine ax_block ?_
      refine ax_then ?_
      refine At.regs (L' := [(6, _), (8, _), (25, _), (26, _), (27, _), (28, _), (29, _), (30, _), (31, _), (32, _), (33, _)]) (.cons rfl (.cons rfl (.cons rfl (.cons rfl (.cons rfl (.cons rfl (.cons rfl (.cons rfl (.cons rfl (.cons rfl (.cons rfl (.nil _)))))))))))) ?_
      refine cd_region ?_
      refine st (ev_add64 rfl rfl (by omega) (by omega)) rfl rfl rfl ?_
      refine st (ev_move rfl) rfl rfl rfl ?_
      refine op_nil ?_
      refine ax_heq (i := 24) (v' := .own (v33) 39 32 (flat (tsum a b (x.1 + 1)))) rfl rfl ?_
      exact at_again ((x.1 + 1, v33)) (by show x.1 + 1 ≤ 2; omega) (by omega) (.cons rfl (.cons rfl (.cons rfl (.cons rfl (.nil _))))) (.cons rfl (.nil _)) (.cons rfl (.cons rfl (.cons rfl (.nil _))))
    ·
      obtain ⟨j, u⟩ := x
      dsimp only at hi hc28 ⊢
      obtain rfl : j = 2 := by omega
      refine at_heq (i := 24) (v' := .own (u) 39 32 (flat (a ++ b))) rfl (by rw [tsum_two]) ?_
      refine cd_exit ?_
      refine ax_then_exit ?_
      refine ax_then_exit ?_
      refine ax_block_hit ?_
      refine ax_then ?_
      refine At.regs (L' := [(6, _)]) (.cons rfl (.nil _)) ?_
      refine cd_seq ?_
      refine cd_region ?_
      refine st (ev_move rfl) rfl rfl rfl ?_
      refine st (ev_assign rfl) rfl rfl rfl ?_
      refine op_nil ?_
      refine ax_then ?_
      refine At.regs (L' := [(2, _)]) (.cons rfl (.nil _)) ?_
      refine cd_ret ?_
      refine rt_tmp (.inl rfl) Try.results62 rfl ?_
      exact fun w1 sw => ⟨_, trivial, rfl, (sw.gives (N := [(24, _)]) (.cons rfl (.nil _))).rn 0⟩

end Go.Proofs.Yteedclmcgifmpaa

/- The statement's proof, part 5: what its walks and its plain laws need. -/
import Derived.Test.YtgfnmolbagilmaaRows
import Derived.Tactics
import Derived.Deep.Quiet
import Derived.StillTail
import Derived.Laws.World
import Derived.Laws.Sem
import Derived.Laws.Entries
import Derived.Below
import Derived.Deep.LoopGhost
import Derived.Laws.BytesString
import Derived.Laws.IdiomStrings
import Derived.KernelRfl
import Derived.Carry
import Derived.OpenShut
import Derived.ProofKit
import Derived.ChangeSame
import Derived.HandedShaped
import Derived.SizedLaws
import Derived.Test.YtgfnmolbagilmaaProg
import Derived.Laws.Strings
import Derived.Test.YtgfnmolbagilmaaXe4
namespace Go.Proofs.Ytgfnmolbagilmaa
open Go Go.RowKit Fw
open Sha
open Ots
open Mk
set_option linter.unusedVariables false
set_option linter.unusedSimpArgs false
set_option maxRecDepth 20000 in
set_option maxHeartbeats 2000000 in
theorem qnum_any (n : Int) (w : World) : Calls Try.prog 103 #[.int .i64 n] w (Post (ι := Value) w [] (fun _ => True) (fun v => v) (fun v => [(0, .own (v) 5 1 (ints .u8 (Rr.num n)))])) := by
  refine calls_at (vs := [.int .i64 n]) (X := []) (H := []) (F := []) 27 Try.func103 rfl rfl rfl (Sat.start0 w) ?_
  refine cd_seq ?_
  refine cd_region ?_
  refine st (ev_assign rfl) rfl rfl rfl ?_
  refine at_own_nil 2 5 1 ?_
  refine at_heq (i := 2) (v' := .own (.slice none 0 0) 5 1 (ints .u8 [])) rfl rfl ?_
  refine op_nil ?_
  refine ax_then ?_
  refine At.regs (L' := [(0, _), (2, _)]) (.cons rfl (.cons rfl (.nil _))) ?_
  refine cd_seq ?_
  refine cd_region ?_
  refine st (ev_assign rfl) rfl rfl rfl ?_
  refine op_nil ?_
  refine ax_then ?_
  refine At.regs (L' := [(0, _), (2, _), (3, _)]) (.cons rfl (.cons rfl (.cons rfl (.nil _)))) ?_
  refine cd_join (ι := Unit) (fun _ => True) (fun _ => [(3, .int .u64 (Rr.clampN n : Int))]) (fun _ => []) (fun _ => []) ?_ (fun _ hj => ?_)
  ·
    refine cd_seq ?_
    refine cd_region ?_
    refine st (ev_move rfl) rfl rfl rfl ?_
    refine st (ev_gtr rfl rfl) rfl rfl rfl ?_
    refine op_nil ?_
    refine ax_then ?_
    refine At.regs (L' := [(0, _), (2, _), (3, _), (6, _)]) (.cons rfl (.cons rfl (.cons rfl (.cons rfl (.nil _))))) ?_
    refine cd_if rfl (fun hc6 => ?_) (fun hc6 => ?_)
    ·
      refine cd_region ?_
      refine st (ev_assign rfl) rfl rfl rfl ?_
      refine op_nil ?_
      refine ax_eq (i := 3) (v' := .int .u64 (Rr.clampN n : Int)) rfl (by rw [show (Rr.clampN n : Int) = 4611686018427387904 by unfold Rr.clampN; omega]) ?_
      exact at_met (()) (trivial) (.cons rfl (.nil _)) (.nil _) (.nil _)
    ·
      refine cd_seq ?_
      refine cd_region ?_
      refine st (ev_move rfl) rfl rfl rfl ?_
      refine st (ev_gtr rfl rfl) rfl rfl rfl ?_
      refine op_nil ?_
      refine ax_then ?_
      refine At.regs (L' := [(0, _), (2, _), (3, _), (8, _)]) (.cons rfl (.cons rfl (.cons rfl (.cons rfl (.nil _))))) ?_
      refine cd_if rfl (fun hc8 => ?_) (fun hc8 => ?_)
      ·
        refine cd_region ?_
        refine st (ev_move rfl) rfl rfl rfl ?_
        refine st (ev_convu64 Try.underlying3 Try.underlying135 rfl (by omega) (by omega)) rfl rfl rfl ?_
        refine st (ev_assign rfl) rfl rfl rfl ?_
        refine op_nil ?_
        refine ax_eq (i := 3) (v' := .int .u64 (Rr.clampN n : Int)) rfl (by rw [show (Rr.clampN n : Int) = n by unfold Rr.clampN; omega]) ?_
        exact at_met (()) (trivial) (.cons rfl (.nil _)) (.nil _) (.nil _)
      ·
        refine cd_skip ?_
        refine ax_eq (i := 3) (v' := .int .u64 (Rr.clampN n : Int)) rfl (by rw [show (Rr.clampN n : Int) = 0 by unfold Rr.clampN; omega]) ?_
        exact at_met (()) (trivial) (.cons rfl (.nil _)) (.nil _) (.nil _)
  ·
    refine cd_seq ?_
    refine cd_region ?_
    refine st (ev_assign rfl) rfl rfl rfl ?_
    refine at_own_nil 4 5 1 ?_
    refine at_heq (i := 4) (v' := .own (.slice none 0 0) 5 1 (ints .u8 [])) rfl rfl ?_
    refine op_nil ?_
    refine ax_then ?_
    refine At.regs (L' := [(3, _), (4, _)]) (.cons rfl (.cons rfl (.nil _))) ?_
    refine cd_seq ?_
    refine cd_block ?_
    refine cd_loop (ι := Nat × Value × List Int) (fun y => y.2.2 ++ Rr.encN y.1 = Rr.num n ∧ y.1 ≤ 4611686018427387904) (fun y => y.1)
        (fun y => [(3, .int .u64 (y.1 : Int)), (4, y.2.1)])
        (fun y => [(4, .own (y.2.1) 5 1 (ints .u8 (y.2.2)))])
        (fun y => [])
        (Rr.clampN n, .slice none 0 0, []) (⟨rfl, Rr.clampN_le n⟩) (.cons rfl (.cons rfl (.nil _))) (.cons rfl (.nil _)) (.nil _) (fun y hi => ?_)
    obtain ⟨u, v, out⟩ := y
    dsimp only at hi ⊢
    have hi2 := hi.2
    have hol : out.length ≤ 9 := by
      have h1 := congrArg List.length hi.1
      rw [List.length_append] at h1
      have h2 := Rr.num_len n
      omega
    refine cd_seq ?_
    refine cd_seq ?_
    refine cd_region ?_
    refine st (ev_move rfl) rfl rfl rfl ?_
    refine st (ev_geq rfl rfl) rfl rfl rfl ?_
    refine op_nil ?_
    refine ax_then ?_
    refine At.regs (L' := [(3, _), (4, _), (11, _), (12, _)]) (.cons rfl (.cons rfl (.cons rfl (.cons rfl (.nil _))))) ?_
    refine cd_if rfl (fun hc12 => ?_) (fun hc12 => ?_)
    ·
      refine cd_skip ?_
      refine ax_then ?_
      refine At.regs (L' := [(3, _), (4, _), (11, _), (12, _)]) (.cons rfl (.cons rfl (.cons rfl (.cons rfl (.nil _))))) ?_
      refine cd_block ?_
      refine cd_seq ?_
      refine cd_region ?_
      refine st (ev_move rfl) rfl rfl rfl ?_
      refine st (ev_move rfl) rfl rfl rfl ?_
      refine st (ev_and rfl rfl) rfl rfl rfl ?_
      refine st (ev_conv Try.underlying135 Try.underlying5 rfl) rfl rfl rfl ?_
      refine st (ev_or rfl rfl) rfl rfl rfl ?_
      refine at_eq (i := 17) (v' := .int .u8 (((u % 128 + 128 : Nat)) : Int)) rfl (by rw [Rr.lay8r u (by omega)]) ?_
      refine st_bsi (h := 18) (xs := [_]) Try.underlying28 ty5 (by decide) rfl rfl (by decide) rfl rfl (fun b18 => ?_)
      refine st_appendi (h := 4) Try.underlying28 Try.underlying28 ty5 rfl rfl rfl rfl (fun w1 sw => sw.own_rd (h := 18) rfl) (by first | omega | (simp only [List.length_append, List.length_cons, List.length_nil, List.length_set, List.length_replicate, List.length_take, List.length_drop, ints_length, wr_length, sha_len, node_len, recov_len, Ky.named_len, Ky.keyPub_len, Ky.hashOf_len] <;> omega)) (by decide) rfl rfl (fun v19 => ?_)
      refine st (ev_assign rfl) rfl rfl rfl ?_
      refine op_nil ?_
      refine ax_then ?_
      refine At.regs (L' := [(3, _), (4, _), (11, _), (12, _), (13, _), (14, _), (15, _), (16, _), (17, _), (18, _), (19, _)]) (.cons rfl (.cons rfl (.cons rfl (.cons rfl (.cons rfl (.cons rfl (.cons rfl (.cons rfl (.cons rfl (.cons rfl (.cons rfl (.nil _)))))))))))) ?_
      refine cd_region ?_
      refine st (ev_move rfl) rfl rfl rfl ?_
      refine st (ev_shr rfl rfl (by omega)) rfl rfl rfl ?_
      refine at_eq (i := 21) (v' := .int .u64 ((u / 128 : Nat) : Int)) rfl (by rw [Rr.shr7]) ?_
      refine st (ev_assign rfl) rfl rfl rfl ?_
      refine op_nil ?_
      refine ax_block ?_
      exact at_again ((u / 128, v19, out ++ [(((u % 128 + 128 : Nat)) : Int)])) (⟨by show (out ++ [(((u % 128 + 128 : Nat)) : Int)]) ++ Rr.encN (u / 128) = Rr.num n; rw [List.append_assoc, List.singleton_append, ← Rr.encN_ge (by omega)]; exact hi.1, by show u / 128 ≤ 4611686018427387904; omega⟩) (by show u / 128 < u; omega) (.cons rfl (.cons rfl (.nil _))) (.cons rfl (.nil _)) (.nil _)
    ·
      refine cd_exit ?_
      refine ax_then_exit ?_
      refine ax_then_exit ?_
      refine ax_block_hit ?_
      refine ax_then ?_
      refine At.regs (L' := [(3, _), (4, _)]) (.cons rfl (.cons rfl (.nil _))) ?_
      refine cd_seq ?_
      refine cd_region ?_
      refine st (ev_move rfl) rfl rfl rfl ?_
      refine st (ev_move rfl) rfl rfl rfl ?_
      refine st (ev_conv Try.underlying135 Try.underlying5 rfl) rfl rfl rfl ?_
      refine at_eq (i := 24) (v' := .int .u8 (u : Int)) rfl (by rw [Rr.low8 (by omega)]) ?_
      refine st_bsi (h := 25) (xs := [_]) Try.underlying28 ty5 (by decide) rfl rfl (by decide) rfl rfl (fun b25 => ?_)
      refine st_appendi (h := 4) Try.underlying28 Try.underlying28 ty5 rfl rfl rfl rfl (fun w1 sw => sw.own_rd (h := 25) rfl) (by first | omega | (simp only [List.length_append, List.length_cons, List.length_nil, List.length_set, List.length_replicate, List.length_take, List.length_drop, ints_length, wr_length, sha_len, node_len, recov_len, Ky.named_len, Ky.keyPub_len, Ky.hashOf_len] <;> omega)) (by decide) rfl rfl (fun v26 => ?_)
      refine at_heq (i := 4) (v' := .own (v26) 5 1 (ints .u8 (Rr.num n))) rfl (by rw [← hi.1, Rr.encN_lt (by omega)]) ?_
      refine st (ev_assign rfl) rfl rfl rfl ?_
      refine op_nil ?_
      refine ax_then ?_
      refine At.regs (L' := [(2, _)]) (.cons rfl (.nil _)) ?_
      refine cd_ret ?_
      refine rt_tmp (.inl rfl) Try.results103 rfl ?_
      exact fun w1 sw => ⟨v26, trivial, rfl, (sw.gives (N := [(4, _)]) (.cons rfl (.nil _))).rn 0⟩
set_option maxRecDepth 20000 in
set_option maxHeartbeats 2000000 in
theorem qnums_any (q : Value) (ns : List Int) (w : World) (hn : ns.length ≤ 1000) (h : Rd w q 1 (ints .i64 ns)) : Calls Try.prog 71 #[q] w (Post (ι := Value) w [] (fun _ => True) (fun v => v) (fun v => [(0, .own (v) 5 1 (ints .u8 (Rr.nums ns)))])) := by
  refine calls_at (vs := [q]) (X := []) (H := []) (F := [(20, .sl q 1 (ints .i64 ns))]) 19 Try.func71 rfl rfl rfl (Sat.rd0 20 h) ?_
  refine cd_seq ?_
  refine cd_region ?_
  refine st (ev_assign rfl) rfl rfl rfl ?_
  refine at_own_nil 2 5 1 ?_
  refine at_heq (i := 2) (v' := .own (.slice none 0 0) 5 1 (ints .u8 [])) rfl rfl ?_
  refine op_nil ?_
  refine ax_then ?_
  refine At.regs (L' := [(0, _), (2, _)]) (.cons rfl (.cons rfl (.nil _))) ?_
  refine cd_seq ?_
  refine cd_region ?_
  refine st (ev_assign rfl) rfl rfl rfl ?_
  refine at_own_nil 3 5 1 ?_
  refine at_heq (i := 3) (v' := .own (.slice none 0 0) 5 1 (ints .u8 [])) rfl rfl ?_
  refine op_nil ?_
  refine ax_then ?_
  refine At.regs (L' := [(0, _), (2, _), (3, _)]) (.cons rfl (.cons rfl (.cons rfl (.nil _)))) ?_
  refine cd_seq ?_
  refine cd_seq ?_
  refine cd_region ?_
  refine st (ev_assign rfl) rfl rfl rfl ?_
  refine op_nil ?_
  refine ax_then ?_
  refine At.regs (L' := [(0, _), (2, _), (3, _), (4, _)]) (.cons rfl (.cons rfl (.cons rfl (.cons rfl (.nil _))))) ?_
  refine cd_block ?_
  refine cd_loop (ι := Nat × Value) (fun x => x.1 ≤ ns.length) (fun x => ns.length - x.1)
      (fun x => [(0, q), (3, x.2), (4, .int .i64 (x.1 : Int))])
      (fun x => [(3, .own (x.2) 5 1 (ints .u8 (Rr.nums (ns.take x.1))))])
      (fun x => [(20, .sl q 1 (ints .i64 ns))])
      (0, .slice none 0 0) (by omega) (.cons rfl (.cons rfl (.cons rfl (.nil _)))) (.cons rfl (.nil _)) (.cons rfl (.nil _)) (fun x hi => ?_)
  have hml := Rr.nums_len (ns.take x.1)
  have htl : (ns.take x.1).length ≤ ns.length := by rw [List.length_take]; omega
  refine cd_seq ?_
  refine cd_seq ?_
  refine cd_region ?_
  refine st (ev_move rfl) rfl rfl rfl ?_
  refine st (ev_move rfl) rfl rfl rfl ?_
  refine st (ev_len_rdi (h := 20) Try.underlying49 rfl rfl) rfl rfl rfl ?_
  refine st (ev_lss rfl rfl) rfl rfl rfl ?_
  refine op_nil ?_
  refine ax_then ?_
  refine At.regs (L' := [(0, _), (3, _), (4, _), (5, _), (6, _), (7, _), (8, _)]) (.cons rfl (.cons rfl (.cons rfl (.cons rfl (.cons rfl (.cons rfl (.cons rfl (.nil _)))))))) ?_
  refine cd_if rfl (fun hc8 => ?_) (fun hc8 => ?_)
  ·
    refine cd_skip ?_
    refine ax_then ?_
    refine At.regs (L' := [(0, _), (3, _), (4, _), (5, _), (6, _), (7, _), (8, _)]) (.cons rfl (.cons rfl (.cons rfl (.cons rfl (.cons rfl (.cons rfl (.cons rfl (.nil _)))))))) ?_
    refine cd_seq ?_
    refine cd_block ?_
    refine cd_region ?_
    refine st (ev_move rfl) rfl rfl rfl ?_
    refine st (ev_move rfl) rfl rfl rfl ?_
    refine st (ev_move rfl) rfl rfl rfl ?_
    refine st (ev_indexAddr_rdi (h := 20) Try.underlying49 ty3 rfl rfl rfl (by omega) (by first | omega | (simp only [List.length_append, List.length_cons, List.length_nil, List.length_set, List.length_replicate, List.length_take, List.length_drop, ints_length, wr_length, sha_len, node_len, recov_len, Ky.named_len, Ky.keyPub_len, Ky.hashOf_len] <;> omega))) rfl rfl rfl ?_
    refine st (ld_rd1 (h := 20) ty3 rfl rfl rfl (ints_get _ _ _ (by first | omega | (simp only [List.length_append, List.length_cons, List.length_nil, List.length_set, List.length_replicate, List.length_take, List.length_drop, ints_length, wr_length, sha_len, node_len, recov_len, Ky.named_len, Ky.keyPub_len, Ky.hashOf_len] <;> omega) | rfl))) rfl rfl rfl ?_
    refine st_call has103 rfl (fun w1 sw => rn 16 (qnum_any _ w1)) nil_all rfl rfl (fun v16 _ => ?_)
    have hnl := Rr.num_len (ns.getD (x.1 : Int).toNat 0)
    have hnx : ns.getD (x.1 : Int).toNat 0 = ns[x.1]'(by omega) := by rw [Int.toNat_natCast, List.getD_eq_getElem?_getD, List.getElem?_eq_getElem (by omega)]; rfl
    refine st_appendi (h := 3) Try.underlying28 Try.underlying28 ty5 rfl rfl rfl rfl (fun w1 sw => sw.own_rd (h := 16) rfl) (by first | omega | (simp only [List.length_append, List.length_cons, List.length_nil, List.length_set, List.length_replicate, List.length_take, List.length_drop, ints_length, wr_length, sha_len, node_len, recov_len, Ky.named_len, Ky.keyPub_len, Ky.hashOf_len] <;> omega)) (by decide) rfl rfl (fun v17 => ?_)
    refine st (ev_assign rfl) rfl rfl rfl ?_
    refine op_nil ?_
    refine ax_block ?_
    refine ax_then ?_
    refine At.regs (L' := [(0, _), (3, _), (4, _), (5, _), (6, _), (7, _), (8, _), (11, _), (12, _), (13, _), (14, _), (15, _), (16, _), (17, _)]) (.cons rfl (.cons rfl (.cons rfl (.cons rfl (.cons rfl (.cons rfl (.cons rfl (.cons rfl (.cons rfl (.cons rfl (.cons rfl (.cons rfl (.cons rfl (.cons rfl (.nil _))))))))))))))) ?_
    refine cd_region ?_
    refine st (ev_move rfl) rfl rfl rfl ?_
    refine st (ev_add64 rfl rfl (by omega) (by omega)) rfl rfl rfl ?_
    refine st (ev_assign rfl) rfl rfl rfl ?_
    refine op_nil ?_
    refine ax_heq (i := 3) (v' := .own (v17) 5 1 (ints .u8 (Rr.nums (ns.take (x.1 + 1))))) rfl (by rw [List.take_succ_eq_append_getElem (by omega), Rr.nums_snoc, hnx]) ?_
    exact at_again ((x.1 + 1, v17)) (by show x.1 + 1 ≤ ns.length; omega) (by omega) (.cons rfl (.cons rfl (.cons rfl (.nil _)))) (.cons rfl (.nil _)) (.cons rfl (.nil _))
  ·
    obtain ⟨j, v⟩ := x
    dsimp only at hi hc8 ⊢
    obtain rfl : j = ns.length := by omega
    refine at_heq (i := 3) (v' := .own (v) 5 1 (ints .u8 (Rr.nums ns))) rfl (by rw [List.take_length]) ?_
    refine cd_exit ?_
    refine ax_then_exit ?_
    refine ax_then_exit ?_
    refine ax_block_hit ?_
    refine ax_then ?_
    refine At.regs (L' := [(3, _)]) (.cons rfl (.nil _)) ?_
    refine cd_seq ?_
    refine cd_region ?_
    refine st (ev_move rfl) rfl rfl rfl ?_
    refine st (ev_assign rfl) rfl rfl rfl ?_
    refine op_nil ?_
    refine ax_then ?_
    refine At.regs (L' := [(2, _)]) (.cons rfl (.nil _)) ?_
    refine cd_ret ?_
    refine rt_tmp (.inl rfl) Try.results71 rfl ?_
    exact fun w1 sw => ⟨v, trivial, rfl, (sw.gives (N := [(3, _)]) (.cons rfl (.nil _))).rn 0⟩
end Go.Proofs.Ytgfnmolbagilmaa

namespace Go.Proofs.Ytgfnmolbagilmaa
open Go Go.RowKit Fw
open Sha
open Ots
open Mk
set_option linter.unusedVariables false
set_option linter.unusedSimpArgs false
set_option maxRecDepth 20000 in
set_option maxHeartbeats 1000000 in
theorem qver_any (n : Int) (w : World) : Calls Try.prog 101 #[.int .i64 n] w (PostV w (.bool (decide (1 ≤ n ∧ n ≤ 1073741824)))) := by
  refine calls_at (vs := [.int .i64 n]) (X := []) (H := []) (F := []) 9 Try.func101 rfl rfl rfl (Sat.start0 w) ?_
  refine cd_seq ?_
  refine cd_region ?_
  refine st (ev_assign rfl) rfl rfl rfl ?_
  refine op_nil ?_
  refine ax_then ?_
  refine At.regs (L' := [(0, _), (2, _)]) (.cons rfl (.cons rfl (.nil _))) ?_
  refine cd_seq ?_
  refine cd_region ?_
  refine st (ev_move rfl) rfl rfl rfl ?_
  refine st (ev_geq rfl rfl) rfl rfl rfl ?_
  refine st (ev_move rfl) rfl rfl rfl ?_
  refine at_split_if (i := 5) rfl (fun hg5 => ?_) (fun hg5 => ?_)
  ·
    refine st (ev_move rfl) rfl rfl rfl ?_
    refine st (ev_leq rfl rfl) rfl rfl rfl ?_
    refine st (ev_pick_t rfl rfl) rfl rfl rfl ?_
    refine st (ev_assign rfl) rfl rfl rfl ?_
    refine op_nil ?_
    refine ax_then ?_
    refine At.regs (L' := [(2, _)]) (.cons rfl (.nil _)) ?_
    refine cd_ret ?_
    refine rt_tmp (.inl rfl) Try.results101 rfl ?_
    exact fun w1 sw => ⟨congrArg (fun b => Ending.returned (Value.bool b)) (by first | exact (decide_eq_false (fun hh => hg5 hh.1)).symm | exact decide_eq_decide.2 ⟨fun hh => ⟨hg5, hh⟩, fun hh => hh.2⟩), sw.gives (.nil _)⟩
  ·
    refine st_skip rfl rfl rfl ?_
    refine st_skip rfl rfl rfl ?_
    refine st (ev_pick_f rfl rfl) rfl rfl rfl ?_
    refine st (ev_assign rfl) rfl rfl rfl ?_
    refine op_nil ?_
    refine ax_then ?_
    refine At.regs (L' := [(2, _)]) (.cons rfl (.nil _)) ?_
    refine cd_ret ?_
    refine rt_tmp (.inl rfl) Try.results101 rfl ?_
    exact fun w1 sw => ⟨congrArg (fun b => Ending.returned (Value.bool b)) (by first | exact (decide_eq_false (fun hh => hg5 hh.1)).symm | exact decide_eq_decide.2 ⟨fun hh => ⟨hg5, hh⟩, fun hh => hh.2⟩), sw.gives (.nil _)⟩
set_option maxRecDepth 20000 in
set_option maxHeartbeats 2000000 in
theorem qnumb_any (q : Value) (ns : List Int) (w : World) (hn : ns.length ≤ 1000) (h : Rd w q 1 (ints .i64 ns)) : Calls Try.prog 102 #[q] w (PostV w (.bool (decide (∀ z, z ∈ ns → 0 ≤ z ∧ z ≤ 1073741824)))) := by
  refine calls_at (vs := [q]) (X := []) (H := []) (F := [(20, .sl q 1 (ints .i64 ns))]) 22 Try.func102 rfl rfl rfl (Sat.rd0 20 h) ?_
  refine cd_seq ?_
  refine cd_region ?_
  refine st (ev_assign rfl) rfl rfl rfl ?_
  refine op_nil ?_
  refine ax_then ?_
  refine At.regs (L' := [(0, _), (2, _)]) (.cons rfl (.cons rfl (.nil _))) ?_
  refine cd_seq ?_
  refine cd_seq ?_
  refine cd_region ?_
  refine st (ev_assign rfl) rfl rfl rfl ?_
  refine op_nil ?_
  refine ax_then ?_
  refine At.regs (L' := [(0, _), (2, _), (3, _)]) (.cons rfl (.cons rfl (.cons rfl (.nil _)))) ?_
  refine cd_block ?_
  refine cd_loop (ι := Nat) (fun i => i ≤ ns.length ∧ ∀ j, j < i → 0 ≤ ns.getD j 0 ∧ ns.getD j 0 ≤ 1073741824) (fun i => ns.length - i)
      (fun i => [(0, q), (3, .int .i64 (i : Int))])
      (fun i => [])
      (fun i => [(20, .sl q 1 (ints .i64 ns))])
      0 (⟨by omega, fun j hj => by omega⟩) (.cons rfl (.cons rfl (.nil _))) (.nil _) (.cons rfl (.nil _)) (fun i hi => ?_)
  have hi1 := hi.1
  refine cd_seq ?_
  refine cd_seq ?_
  refine cd_region ?_
  refine st (ev_move rfl) rfl rfl rfl ?_
  refine st (ev_move rfl) rfl rfl rfl ?_
  refine st (ev_len_rdi (h := 20) Try.underlying49 rfl rfl) rfl rfl rfl ?_
  refine st (ev_lss rfl rfl) rfl rfl rfl ?_
  refine op_nil ?_
  refine ax_then ?_
  refine At.regs (L' := [(0, _), (3, _), (4, _), (5, _), (6, _), (7, _)]) (.cons rfl (.cons rfl (.cons rfl (.cons rfl (.cons rfl (.cons rfl (.nil _))))))) ?_
  refine cd_if rfl (fun hc7 => ?_) (fun hc7 => ?_)
  ·
    have hlt : i < ns.length := by omega
    have hmem : (ns.getD i 0) ∈ ns := by rw [List.getD_eq_getElem?_getD, List.getElem?_eq_getElem hlt]; exact List.getElem_mem _
    refine cd_skip ?_
    refine ax_then ?_
    refine At.regs (L' := [(0, _), (3, _), (4, _), (5, _), (6, _), (7, _)]) (.cons rfl (.cons rfl (.cons rfl (.cons rfl (.cons rfl (.cons rfl (.nil _))))))) ?_
    refine cd_seq ?_
    refine cd_block ?_
    refine cd_seq ?_
    refine cd_region ?_
    refine st (ev_move rfl) rfl rfl rfl ?_
    refine st (ev_move rfl) rfl rfl rfl ?_
    refine st (ev_indexAddr_rdi (h := 20) Try.underlying49 ty3 rfl rfl rfl (by omega) (by first | omega | (simp only [List.length_append, List.length_cons, List.length_nil, List.length_set, List.length_replicate, List.length_take, List.length_drop, ints_length, wr_length, sha_len, node_len, recov_len, Ky.named_len, Ky.keyPub_len, Ky.hashOf_len] <;> omega))) rfl rfl rfl ?_
    refine st (ld_rd1 (h := 20) ty3 rfl rfl rfl (ints_get _ _ _ (by first | omega | (simp only [List.length_append, List.length_cons, List.length_nil, List.length_set, List.length_replicate, List.length_take, List.length_drop, ints_length, wr_length, sha_len, node_len, recov_len, Ky.named_len, Ky.keyPub_len, Ky.hashOf_len] <;> omega) | rfl))) rfl rfl rfl ?_
    refine at_eq (i := 13) (v' := .int .i64 (ns.getD i 0)) rfl (by rw [Int.toNat_natCast]) ?_
    refine st (ev_lss rfl rfl) rfl rfl rfl ?_
    refine st (ev_move rfl) rfl rfl rfl ?_
    refine at_split_if (i := 15) rfl (fun hg15 => ?_) (fun hg15 => ?_)
    ·
      refine st_skip rfl rfl rfl ?_
      refine st_skip rfl rfl rfl ?_
      refine st_skip rfl rfl rfl ?_
      refine st_skip rfl rfl rfl ?_
      refine st_skip rfl rfl rfl ?_
      refine st (ev_pick_t rfl rfl) rfl rfl rfl ?_
      refine op_nil ?_
      refine ax_then ?_
      refine At.regs (L' := [(0, _), (3, _), (4, _), (5, _), (6, _), (7, _), (10, _), (11, _), (12, _), (13, _), (14, _), (15, _), (16, _), (17, _), (18, _), (19, _), (20, _), (21, _)]) (.cons rfl (.cons rfl (.cons rfl (.cons rfl (.cons rfl (.cons rfl (.cons rfl (.cons rfl (.cons rfl (.cons rfl (.cons rfl (.cons rfl (.cons rfl (.cons rfl (.cons rfl (.cons rfl (.cons rfl (.cons rfl (.nil _))))))))))))))))))) ?_
      refine cd_true rfl ?_
      refine cd_seq ?_
      refine cd_region ?_
      refine st (ev_assign rfl) rfl rfl rfl ?_
      refine op_nil ?_
      refine ax_then ?_
      refine At.regs (L' := [(0, _), (2, _), (3, _), (4, _), (5, _), (6, _), (7, _), (10, _), (11, _), (12, _), (13, _), (14, _), (15, _), (16, _), (17, _), (18, _), (19, _), (20, _), (21, _)]) (.cons rfl (.cons rfl (.cons rfl (.cons rfl (.cons rfl (.cons rfl (.cons rfl (.cons rfl (.cons rfl (.cons rfl (.cons rfl (.cons rfl (.cons rfl (.cons rfl (.cons rfl (.cons rfl (.cons rfl (.cons rfl (.cons rfl (.nil _)))))))))))))))))))) ?_
      refine cd_ret ?_
      refine ax_block_ret ?_
      refine ax_then_ret ?_
      refine ax_then_ret ?_
      refine ax_block_ret ?_
      refine ax_then_ret ?_
      refine rt_tmp (.inl rfl) Try.results102 rfl ?_
      exact fun w1 sw => ⟨congrArg (fun b => Ending.returned (Value.bool b)) (by exact (decide_eq_false (fun hh => by have := hh _ hmem; omega)).symm), sw.gives (.nil _)⟩
    ·
      refine st (ev_move rfl) rfl rfl rfl ?_
      refine st (ev_move rfl) rfl rfl rfl ?_
      refine st (ev_indexAddr_rdi (h := 20) Try.underlying49 ty3 rfl rfl rfl (by omega) (by first | omega | (simp only [List.length_append, List.length_cons, List.length_nil, List.length_set, List.length_replicate, List.length_take, List.length_drop, ints_length, wr_length, sha_len, node_len, recov_len, Ky.named_len, Ky.keyPub_len, Ky.hashOf_len] <;> omega))) rfl rfl rfl ?_
      refine st (ld_rd1 (h := 20) ty3 rfl rfl rfl (ints_get _ _ _ (by first | omega | (simp only [List.length_append, List.length_cons, List.length_nil, List.length_set, List.length_replicate, List.length_take, List.length_drop, ints_length, wr_length, sha_len, node_len, recov_len, Ky.named_len, Ky.keyPub_len, Ky.hashOf_len] <;> omega) | rfl))) rfl rfl rfl ?_
      refine at_eq (i := 19) (v' := .int .i64 (ns.getD i 0)) rfl (by rw [Int.toNat_natCast]) ?_
      refine st (ev_gtr rfl rfl) rfl rfl rfl ?_
      refine st (ev_pick_f rfl rfl) rfl rfl rfl ?_
      refine op_nil ?_
      refine ax_then ?_
      refine At.regs (L' := [(0, _), (3, _), (4, _), (5, _), (6, _), (7, _), (10, _), (11, _), (12, _), (13, _), (14, _), (15, _), (16, _), (17, _), (18, _), (19, _), (20, _), (21, _)]) (.cons rfl (.cons rfl (.cons rfl (.cons rfl (.cons rfl (.cons rfl (.cons rfl (.cons rfl (.cons rfl (.cons rfl (.cons rfl (.cons rfl (.cons rfl (.cons rfl (.cons rfl (.cons rfl (.cons rfl (.cons rfl (.nil _))))))))))))))))))) ?_
      refine cd_if rfl (fun hc21 => ?_) (fun hc21 => ?_)
      ·
        refine cd_seq ?_
        refine cd_region ?_
        refine st (ev_assign rfl) rfl rfl rfl ?_
        refine op_nil ?_
        refine ax_then ?_
        refine At.regs (L' := [(0, _), (2, _), (3, _), (4, _), (5, _), (6, _), (7, _), (10, _), (11, _), (12, _), (13, _), (14, _), (15, _), (16, _), (17, _), (18, _), (19, _), (20, _), (21, _)]) (.cons rfl (.cons rfl (.cons rfl (.cons rfl (.cons rfl (.cons rfl (.cons rfl (.cons rfl (.cons rfl (.cons rfl (.cons rfl (.cons rfl (.cons rfl (.cons rfl (.cons rfl (.cons rfl (.cons rfl (.cons rfl (.cons rfl (.nil _)))))))))))))))))))) ?_
        refine cd_ret ?_
        refine ax_block_ret ?_
        refine ax_then_ret ?_
        refine ax_then_ret ?_
        refine ax_block_ret ?_
        refine ax_then_ret ?_
        refine rt_tmp (.inl rfl) Try.results102 rfl ?_
        exact fun w1 sw => ⟨congrArg (fun b => Ending.returned (Value.bool b)) (by exact (decide_eq_false (fun hh => by have := hh _ hmem; omega)).symm), sw.gives (.nil _)⟩
      ·
        refine cd_skip ?_
        refine ax_block ?_
        refine ax_then ?_
        refine At.regs (L' := [(0, _), (3, _), (4, _), (5, _), (6, _), (7, _), (10, _), (11, _), (12, _), (13, _), (14, _), (15, _), (16, _), (17, _), (18, _), (19, _), (20, _), (21, _)]) (.cons rfl (.cons rfl (.cons rfl (.cons rfl (.cons rfl (.cons rfl (.cons rfl (.cons rfl (.cons rfl (.cons rfl (.cons rfl (.cons rfl (.cons rfl (.cons rfl (.cons rfl (.cons rfl (.cons rfl (.cons rfl (.nil _))))))))))))))))))) ?_
        refine cd_region ?_
        refine st (ev_move rfl) rfl rfl rfl ?_
        refine st (ev_add64 rfl rfl (by omega) (by omega)) rfl rfl rfl ?_
        refine st (ev_assign rfl) rfl rfl rfl ?_
        refine op_nil ?_
        exact at_again (i + 1) (⟨by omega, fun j hj => (Nat.lt_succ_iff_lt_or_eq.1 hj).elim (hi.2 j) (fun e => by subst e; omega)⟩) (by omega) (.cons rfl (.cons rfl (.nil _))) (.nil _) (.cons rfl (.nil _))
  ·
    obtain rfl : i = ns.length := by omega
    refine cd_exit ?_
    refine ax_then_exit ?_
    refine ax_then_exit ?_
    refine ax_block_hit ?_
    refine ax_then ?_
    refine At.regs (L' := []) (.nil _) ?_
    refine cd_seq ?_
    refine cd_region ?_
    refine st (ev_assign rfl) rfl rfl rfl ?_
    refine op_nil ?_
    refine ax_then ?_
    refine At.regs (L' := [(2, _)]) (.cons rfl (.nil _)) ?_
    refine cd_ret ?_
    refine rt_tmp (.inl rfl) Try.results102 rfl ?_
    exact fun w1 sw => ⟨congrArg (fun b => Ending.returned (Value.bool b)) (by exact (decide_eq_true (fun z hz => by obtain ⟨j, hj, rfl⟩ := List.getElem_of_mem hz; have := hi.2 j hj; rwa [List.getD_eq_getElem?_getD, List.getElem?_eq_getElem hj] at this)).symm), sw.gives (.nil _)⟩
set_option maxRecDepth 20000 in
set_option maxHeartbeats 4000000 in
theorem qisroot_any (ver exp : Int) (l : List Rt.Rol) (w : World) (hl : l.length = 4) (hu : ∀ k, k ∈ Rt.kds l → H32 k.ks) (hkl : ∀ k, k ∈ Rt.kds l → k.ks.length ≤ 1000000000) (h : ∀ y, y ∈ Rt.rowsR l → Rd w y.1 y.2.1 y.2.2) : Calls Try.prog 70 #[.agg (List.toArray (Rt.rootC ver exp l))] w (PostV w (.bool (decide (Rt.isRt (⟨ver, exp, Rt.kds l⟩ : Rt.RT))))) := by
  refine calls_at (vs := [.agg (List.toArray (Rt.rootC ver exp l))]) (X := []) (H := []) (F := [(200, .rows (Rt.rowsR l))]) 23 Try.func70 rfl rfl rfl ((Sat.start0 w).read (f := .rows (Rt.rowsR l)) 200 h off_nil) ?_
  refine cd_seq ?_
  refine cd_region ?_
  refine st_box (h := 1) rfl rfl rfl rfl (fun b1 => ?_)
  refine st (ev_assign rfl) rfl rfl rfl ?_
  refine op_nil ?_
  refine ax_then ?_
  refine At.regs (L' := [(1, _), (2, _)]) (.cons rfl (.cons rfl (.nil _))) ?_
  refine cd_seq ?_
  refine cd_seq ?_
  refine cd_region ?_
  refine st (ev_assign rfl) rfl rfl rfl ?_
  refine op_nil ?_
  refine ax_then ?_
  refine At.regs (L' := [(1, _), (2, _), (3, _)]) (.cons rfl (.cons rfl (.cons rfl (.nil _)))) ?_
  refine cd_block ?_
  refine cd_loop (ι := Nat) (fun i => i ≤ 4 ∧ ∀ j, j < i → isK (l.getD j Rt.rol0).2.ks (l.getD j Rt.rol0).2.need) (fun i => 4 - i)
      (fun i => [(1, .pointer (some ⟨b1, 0, none⟩)), (3, .int .i64 (i : Int))])
      (fun i => [(1, .blk (b1) (.cells (Rt.rootC ver exp l).toArray 27))])
      (fun i => [(200, .rows (Rt.rowsR l))])
      0 (⟨by omega, fun j hj => by omega⟩) (.cons rfl (.cons rfl (.nil _))) (.cons rfl (.nil _)) (.cons rfl (.nil _)) (fun i hi => ?_)
  have hi1 := hi.1
  have e0 : (i : Int).toNat = i := by omega
  refine cd_seq ?_
  refine cd_seq ?_
  refine cd_region ?_
  refine st (ev_move rfl) rfl rfl rfl ?_
  refine st (ev_lss rfl rfl) rfl rfl rfl ?_
  refine op_nil ?_
  refine ax_then ?_
  refine At.regs (L' := [(1, _), (3, _), (4, _), (5, _)]) (.cons rfl (.cons rfl (.cons rfl (.cons rfl (.nil _))))) ?_
  refine cd_if rfl (fun hc5 => ?_) (fun hc5 => ?_)
  ·
    have hlt : i < 4 := by omega
    refine cd_skip ?_
    refine ax_then ?_
    refine At.regs (L' := [(1, _), (3, _), (4, _), (5, _)]) (.cons rfl (.cons rfl (.cons rfl (.cons rfl (.nil _))))) ?_
    refine cd_seq ?_
    refine cd_block ?_
    refine cd_seq ?_
    refine cd_region ?_
    refine st (ev_move rfl) rfl rfl rfl ?_
    refine st (ev_fieldAddr (b := _) Try.underlying27 (f := _) rfl ty25 (by decide) rfl) rfl rfl rfl ?_
    refine st (ev_indexAddr_arr Try.underlying25 ty24 rfl rfl (by omega) (by omega)) rfl rfl rfl ?_
    refine st (ld_blk (h := 1) ty24 rfl rfl rfl (by rw [Rt.rootC_len _ _ (by omega), e0]; show 0 + 2 + i * 2 + 2 ≤ 10; omega)) rfl rfl rfl ?_
    refine at_eq (i := 11) (v' := .agg (List.toArray [(l.getD i Rt.rol0).1, .int .i64 (l.getD i Rt.rol0).2.need])) rfl (congrArg (fun x => Value.agg (List.toArray x)) (by rw [e0]; exact Rt.rootC_get _ _ (l := l) (i := i) (by omega))) ?_
    refine st_callv has63 rfl (fun w1 sw => riskeys_any (l.getD i Rt.rol0).1 (l.getD i Rt.rol0).2.ks (l.getD i Rt.rol0).2.need w1 (hu _ (Rt.kds_get (by omega))) (by have := hkl _ (Rt.kds_get (i := i) (l := l) (by omega)); omega) (sw.row (i := 200) rfl (Rt.rowsR_mem (by omega)))) rfl rfl ?_
    refine st (ev_not_if rfl) rfl rfl rfl ?_
    refine op_nil ?_
    refine ax_then ?_
    refine At.regs (L' := [(1, _), (3, _), (4, _), (5, _), (8, _), (9, _), (10, _), (11, _), (12, _), (13, _)]) (.cons rfl (.cons rfl (.cons rfl (.cons rfl (.cons rfl (.cons rfl (.cons rfl (.cons rfl (.cons rfl (.cons rfl (.nil _))))))))))) ?_
    refine cd_if rfl (fun hc13 => ?_) (fun hc13 => ?_)
    ·
      refine cd_seq ?_
      refine cd_region ?_
      refine st (ev_assign rfl) rfl rfl rfl ?_
      refine op_nil ?_
      refine ax_then ?_
      refine At.regs (L' := [(1, _), (2, _), (3, _), (4, _), (5, _), (8, _), (9, _), (10, _), (11, _), (12, _), (13, _)]) (.cons rfl (.cons rfl (.cons rfl (.cons rfl (.cons rfl (.cons rfl (.cons rfl (.cons rfl (.cons rfl (.cons rfl (.cons rfl (.nil _)))))))))))) ?_
      refine cd_ret ?_
      refine ax_block_ret ?_
      refine ax_then_ret ?_
      refine ax_then_ret ?_
      refine ax_block_ret ?_
      refine ax_then_ret ?_
      refine rt_tmp (.inl rfl) Try.results70 rfl ?_
      exact fun w1 sw => ⟨congrArg (fun b => Ending.returned (Value.bool b)) (by exact (decide_eq_false (fun hh => hc13 (hh.1 _ (Rt.kds_get (by omega))))).symm), sw.gives (.nil _)⟩
    ·
      refine cd_skip ?_
      refine ax_block ?_
      refine ax_then ?_
      refine At.regs (L' := [(1, _), (3, _), (4, _), (5, _), (8, _), (9, _), (10, _), (11, _), (12, _), (13, _)]) (.cons rfl (.cons rfl (.cons rfl (.cons rfl (.cons rfl (.cons rfl (.cons rfl (.cons rfl (.cons rfl (.cons rfl (.nil _))))))))))) ?_
      refine cd_region ?_
      refine st (ev_move rfl) rfl rfl rfl ?_
      refine st (ev_add64 rfl rfl (by omega) (by omega)) rfl rfl rfl ?_
      refine st (ev_assign rfl) rfl rfl rfl ?_
      refine op_nil ?_
      exact at_again (i + 1) (⟨by omega, fun j hj => (Nat.lt_succ_iff_lt_or_eq.1 hj).elim (hi.2 j) (fun e => by subst e; exact Classical.not_not.1 hc13)⟩) (by omega) (.cons rfl (.cons rfl (.nil _))) (.cons rfl (.nil _)) (.cons rfl (.nil _))
  ·
    obtain rfl : i = 4 := by omega
    have hall : ∀ k, k ∈ Rt.kds l → isK k.ks k.need := fun k hk => by
      obtain ⟨x, hx, rfl⟩ := List.mem_map.1 hk
      obtain ⟨j, hj, rfl⟩ := List.getElem_of_mem hx
      have := hi.2 j (by omega)
      rwa [List.getD_eq_getElem?_getD, List.getElem?_eq_getElem hj] at this
    refine cd_exit ?_
    refine ax_then_exit ?_
    refine ax_then_exit ?_
    refine ax_block_hit ?_
    refine ax_then ?_
    refine At.regs (L' := [(1, _)]) (.cons rfl (.nil _)) ?_
    refine cd_seq ?_
    refine cd_region ?_
    refine st (ev_fieldAddr (b := _) Try.underlying27 (f := _) rfl ty3 (by decide) rfl) rfl rfl rfl ?_
    refine st (ld_blk1 (h := 1) ty3 rfl rfl rfl rfl) rfl rfl rfl ?_
    refine st_callv has101 rfl (fun w1 sw => qver_any ver w1) rfl rfl ?_
    refine st (ev_move rfl) rfl rfl rfl ?_
    refine at_split_if (i := 17) rfl (fun hg17 => ?_) (fun hg17 => ?_)
    ·
      refine st (ev_fieldAddr (b := _) Try.underlying27 (f := _) rfl ty3 (by decide) rfl) rfl rfl rfl ?_
      refine st (ld_blk1 (h := 1) ty3 rfl rfl rfl rfl) rfl rfl rfl ?_
      refine st_bsi (h := 20) (xs := [_]) Try.underlying49 ty3 (by decide) rfl rfl (by decide) rfl rfl (fun b20 => ?_)
      refine st_callv has102 rfl (fun w1 sw => qnumb_any (.slice (some ⟨b20, 0, none⟩) 1 1) [exp] w1 (by simp) (sw.own_rd (h := 20) rfl)) rfl rfl ?_
      refine st (ev_pick_t rfl rfl) rfl rfl rfl ?_
      refine st (ev_assign rfl) rfl rfl rfl ?_
      refine op_nil ?_
      refine ax_then ?_
      refine At.regs (L' := [(2, _)]) (.cons rfl (.nil _)) ?_
      refine cd_ret ?_
      refine rt_tmp (.inl rfl) Try.results70 rfl ?_
      exact fun w1 sw => ⟨congrArg (fun b => Ending.returned (Value.bool b)) (by exact decide_eq_decide.2 ⟨fun hh => ⟨hall, hg17.1, hg17.2, (hh exp (by simp)).1, (hh exp (by simp)).2⟩, fun hh z hz => by rw [List.mem_singleton.1 hz]; exact hh.2.2.2⟩), sw.gives (.nil _)⟩
    ·
      refine st_skip rfl rfl rfl ?_
      refine st_skip rfl rfl rfl ?_
      refine st_skip rfl rfl rfl ?_
      refine st_skip rfl rfl rfl ?_
      refine st (ev_pick_f rfl rfl) rfl rfl rfl ?_
      refine st (ev_assign rfl) rfl rfl rfl ?_
      refine op_nil ?_
      refine ax_then ?_
      refine At.regs (L' := [(2, _)]) (.cons rfl (.nil _)) ?_
      refine cd_ret ?_
      refine rt_tmp (.inl rfl) Try.results70 rfl ?_
      exact fun w1 sw => ⟨congrArg (fun b => Ending.returned (Value.bool b)) (by exact (decide_eq_false (fun hh => hg17 ⟨hh.2.1, hh.2.2.1⟩)).symm), sw.gives (.nil _)⟩
theorem flat_take6 {hs : List (List Int)} {i : Nat} (hi : i < hs.length) : (hs.take (i + 1)).flatten = (hs.take i).flatten ++ hs.getD i [] := by
  rw [List.take_succ_eq_append_getElem hi, List.flatten_append, List.getD_eq_getElem?_getD, List.getElem?_eq_getElem hi]
  simp
theorem flat_tlen6 {hs : List (List Int)} (hu : H32 hs) : ∀ i, i ≤ hs.length → (hs.take i).flatten.length = 32 * i
  | 0, _ => by simp
  | i + 1, h => by rw [flat_take6 (by omega), List.length_append, flat_tlen6 hu i (by omega), hu.get (by omega)]; omega
set_option maxRecDepth 20000 in
set_option maxHeartbeats 4000000 in
theorem qkeysb_any (kv : Value) (ks : List (List Int)) (need : Int) (w : World) (hu : H32 ks) (hkl : ks.length ≤ 1000000000) (h : Rd w kv 32 (flat ks)) : Calls Try.prog 72 #[.agg (List.toArray [kv, .int .i64 need])] w (Post (ι := Value) w [] (fun _ => True) (fun v => v) (fun v => [(0, .own (v) 5 1 (ints .u8 (Rt.encK (⟨ks, need⟩ : Rt.KD))))])) := by
  refine calls_at (vs := [.agg (List.toArray [kv, .int .i64 need])]) (X := []) (H := []) (F := [(20, .sl (kv) 32 (flat (ks)))]) 28 Try.func72 rfl rfl rfl (Sat.rd0 20 h) ?_
  refine cd_seq ?_
  refine cd_region ?_
  refine st_box (h := 1) rfl rfl rfl rfl (fun b1 => ?_)
  refine st (ev_assign rfl) rfl rfl rfl ?_
  refine at_own_nil 2 5 1 ?_
  refine at_heq (i := 2) (v' := .own (.slice none 0 0) 5 1 (ints .u8 [])) rfl rfl ?_
  refine op_nil ?_
  refine ax_then ?_
  refine At.regs (L' := [(1, _), (2, _)]) (.cons rfl (.cons rfl (.nil _))) ?_
  refine cd_seq ?_
  refine cd_region ?_
  refine st (ev_fieldAddr (b := _) Try.underlying24 (f := _) rfl ty22 (by decide) rfl) rfl rfl rfl ?_
  refine st (ld_blk1 (h := 1) ty22 rfl rfl rfl rfl) rfl rfl rfl ?_
  refine st (ev_len_rdh (h := 20) Try.underlying22 rfl rfl (by assumption)) rfl rfl rfl ?_
  refine st_call has103 rfl (fun w1 sw => rn 8 (qnum_any _ w1)) nil_all rfl rfl (fun v8 _ => ?_)
  refine st (ev_assign rfl) rfl rfl rfl ?_
  refine op_nil ?_
  refine ax_then ?_
  refine At.regs (L' := [(1, _), (2, _), (3, _)]) (.cons rfl (.cons rfl (.cons rfl (.nil _)))) ?_
  refine cd_seq ?_
  refine cd_seq ?_
  refine cd_region ?_
  refine st (ev_assign rfl) rfl rfl rfl ?_
  refine op_nil ?_
  refine ax_then ?_
  refine At.regs (L' := [(1, _), (2, _), (3, _), (4, _)]) (.cons rfl (.cons rfl (.cons rfl (.cons rfl (.nil _))))) ?_
  refine cd_block ?_
  refine at_heq (i := 8) (v' := .own (v8) 5 1 (ints .u8 (Rr.num (ks.length : Nat) ++ (ks.take 0).flatten))) rfl (by simp) ?_
  refine cd_loop (ι := Nat × Value) (fun x => x.1 ≤ ks.length) (fun x => ks.length - x.1)
      (fun x => [(1, .pointer (some ⟨b1, 0, none⟩)), (3, x.2), (4, .int .i64 (x.1 : Int))])
      (fun x => [(1, .blk (b1) (.cells ([kv, .int .i64 need]).toArray 24)), (8, .own (x.2) 5 1 (ints .u8 (Rr.num (ks.length : Nat) ++ (ks.take x.1).flatten)))])
      (fun x => [(20, .sl (kv) 32 (flat (ks)))])
      (0, v8) (by omega) (.cons rfl (.cons rfl (.cons rfl (.nil _)))) (.cons rfl (.cons rfl (.nil _))) (.cons rfl (.nil _)) (fun x hi => ?_)
  have hft := flat_tlen6 hu x.1 hi
  have hn9 := Rr.num_len (ks.length : Nat)
  have hcur : (Rr.num (ks.length : Nat) ++ (ks.take x.1).flatten).length ≤ 9 + 32 * x.1 := by rw [List.length_append]; omega
  refine cd_seq ?_
  refine cd_seq ?_
  refine cd_region ?_
  refine st (ev_move rfl) rfl rfl rfl ?_
  refine st (ev_fieldAddr (b := _) Try.underlying24 (f := _) rfl ty22 (by decide) rfl) rfl rfl rfl ?_
  refine st (ld_blk1 (h := 1) ty22 rfl rfl rfl rfl) rfl rfl rfl ?_
  refine st (ev_len_rdh (h := 20) Try.underlying22 rfl rfl (by assumption)) rfl rfl rfl ?_
  refine st (ev_lss rfl rfl) rfl rfl rfl ?_
  refine op_nil ?_
  refine ax_then ?_
  refine At.regs (L' := [(1, _), (3, _), (4, _), (9, _), (10, _), (11, _), (12, _), (13, _)]) (.cons rfl (.cons rfl (.cons rfl (.cons rfl (.cons rfl (.cons rfl (.cons rfl (.cons rfl (.nil _))))))))) ?_
  refine cd_if rfl (fun hc13 => ?_) (fun hc13 => ?_)
  ·
    have hlt : x.1 < ks.length := by omega
    have hg : (ks.getD x.1 []).length = 32 := hu.get hlt
    refine cd_skip ?_
    refine ax_then ?_
    refine At.regs (L' := [(1, _), (3, _), (4, _), (9, _), (10, _), (11, _), (12, _), (13, _)]) (.cons rfl (.cons rfl (.cons rfl (.cons rfl (.cons rfl (.cons rfl (.cons rfl (.cons rfl (.nil _))))))))) ?_
    refine cd_seq ?_
    refine cd_block ?_
    refine cd_region ?_
    refine st (ev_move rfl) rfl rfl rfl ?_
    refine st (ev_fieldAddr (b := _) Try.underlying24 (f := _) rfl ty22 (by decide) rfl) rfl rfl rfl ?_
    refine st (ld_blk1 (h := 1) ty22 rfl rfl rfl rfl) rfl rfl rfl ?_
    refine st (ev_move rfl) rfl rfl rfl ?_
    refine st (ev_indexAddr_rdh (h := 20) Try.underlying22 ty55 rfl rfl rfl (by assumption) (by omega) (by omega)) rfl rfl rfl ?_
    refine st (ev_arrAt Try.underlying55 ty5 rfl (fun w1 sw => sw.sl_rd (h := 20) rfl) (by rw [flat_len (by assumption)]; omega)) rfl rfl rfl ?_
    refine st_appendi (h := 8) (cs := ks.getD x.1 []) Try.underlying28 Try.underlying28 ty5 rfl rfl rfl rfl (fun w1 sw => (by have := rd_arrh (i := (x.1 : Int).toNat) (sw.sl_rd (h := 20) rfl) hu (by omega); rwa [Int.toNat_natCast] at this)) (by omega) (by decide) rfl rfl (fun v22 => ?_)
    refine st (ev_assign rfl) rfl rfl rfl ?_
    refine op_nil ?_
    refine ax_block ?_
    refine ax_then ?_
    refine At.regs (L' := [(1, _), (3, _), (4, _), (9, _), (10, _), (11, _), (12, _), (13, _), (16, _), (17, _), (18, _), (19, _), (20, _), (21, _), (22, _)]) (.cons rfl (.cons rfl (.cons rfl (.cons rfl (.cons rfl (.cons rfl (.cons rfl (.cons rfl (.cons rfl (.cons rfl (.cons rfl (.cons rfl (.cons rfl (.cons rfl (.cons rfl (.nil _)))))))))))))))) ?_
    refine cd_region ?_
    refine st (ev_move rfl) rfl rfl rfl ?_
    refine st (ev_add64 rfl rfl (by omega) (by omega)) rfl rfl rfl ?_
    refine st (ev_assign rfl) rfl rfl rfl ?_
    refine op_nil ?_
    refine ax_heq (i := 8) (v' := .own (v22) 5 1 (ints .u8 (Rr.num (ks.length : Nat) ++ (ks.take (x.1 + 1)).flatten))) rfl (by rw [flat_take6 hlt, List.append_assoc]) ?_
    exact at_again ((x.1 + 1, v22)) (by show x.1 + 1 ≤ ks.length; omega) (by omega) (.cons rfl (.cons rfl (.cons rfl (.nil _)))) (.cons rfl (.cons rfl (.nil _))) (.cons rfl (.nil _))
  ·
    obtain ⟨i, v⟩ := x
    dsimp only at hi hc13 hft hcur ⊢
    obtain rfl : i = ks.length := by omega
    refine cd_exit ?_
    refine ax_then_exit ?_
    refine ax_then_exit ?_
    refine ax_block_hit ?_
    refine ax_then ?_
    refine At.regs (L' := [(1, _), (3, _)]) (.cons rfl (.cons rfl (.nil _))) ?_
    refine cd_seq ?_
    refine cd_region ?_
    refine st (ev_move rfl) rfl rfl rfl ?_
    refine st (ev_fieldAddr (b := _) Try.underlying24 (f := _) rfl ty3 (by decide) rfl) rfl rfl rfl ?_
    refine st (ld_blk1 (h := 1) ty3 rfl rfl rfl rfl) rfl rfl rfl ?_
    refine st_call has103 rfl (fun w1 sw => rn 26 (qnum_any need w1)) nil_all rfl rfl (fun v26 _ => ?_)
    have hnl := Rr.num_len need
    refine st_appendi (h := 8) Try.underlying28 Try.underlying28 ty5 rfl rfl rfl rfl (fun w1 sw => sw.own_rd (h := 26) rfl) (by first | omega | (simp only [List.length_append, List.length_cons, List.length_nil, List.length_set, List.length_replicate, List.length_take, List.length_drop, ints_length, wr_length, sha_len, node_len, recov_len, Ky.named_len, Ky.keyPub_len, Ky.hashOf_len] <;> omega)) (by decide) rfl rfl (fun v27 => ?_)
    refine at_heq (i := 8) (v' := .own (v27) 5 1 (ints .u8 (Rt.encK (⟨ks, need⟩ : Rt.KD)))) rfl (by rw [Rt.encK, List.take_length, List.append_assoc]) ?_
    refine st (ev_assign rfl) rfl rfl rfl ?_
    refine op_nil ?_
    refine ax_then ?_
    refine At.regs (L' := [(2, _)]) (.cons rfl (.nil _)) ?_
    refine cd_ret ?_
    refine rt_tmp (.inl rfl) Try.results72 rfl ?_
    exact fun w1 sw => ⟨v27, trivial, rfl, (sw.gives (N := [(8, _)]) (.cons rfl (.nil _))).rn 0⟩
theorem enc_step {ver exp : Int} {l : List Rt.Rol} {i : Nat} (hi : i < l.length) : (Rr.num 1 ++ (Rr.num ver ++ (Rr.num exp ++ Rt.encRs (Rt.kds (l.take i))))) ++ Rt.encK ⟨(l.getD i Rt.rol0).2.ks, (l.getD i Rt.rol0).2.need⟩ = Rr.num 1 ++ (Rr.num ver ++ (Rr.num exp ++ Rt.encRs (Rt.kds (l.take (i + 1))))) := by
  have e : l.getD i Rt.rol0 = l[i] := by rw [List.getD_eq_getElem?_getD, List.getElem?_eq_getElem hi]; rfl
  rw [List.take_succ_eq_append_getElem hi, Rt.kds_snoc, Rt.encRs_snoc, e]
  simp only [List.append_assoc]
set_option maxRecDepth 20000 in
set_option maxHeartbeats 4000000 in
theorem qencroot_ok (ver exp : Int) (l : List Rt.Rol) (w : World) (hl : l.length = 4) (hu : ∀ k, k ∈ Rt.kds l → H32 k.ks) (hkl : ∀ k, k ∈ Rt.kds l → k.ks.length ≤ 1000000000) (h : ∀ y, y ∈ Rt.rowsR l → Rd w y.1 y.2.1 y.2.2) (hn : Rt.isRt (⟨ver, exp, Rt.kds l⟩ : Rt.RT)) : Calls Try.prog 39 #[.agg (List.toArray (Rt.rootC ver exp l))] w (Post (ι := Value) w [] (fun _ => True) (fun v => .tuple #[v, .int .i64 0]) (fun v => [(0, .own (v) 5 1 (ints .u8 (Rt.encR (⟨ver, exp, Rt.kds l⟩ : Rt.RT))))])) := by
  refine calls_at (vs := [.agg (List.toArray (Rt.rootC ver exp l))]) (X := []) (H := []) (F := [(200, .rows (Rt.rowsR l))]) 27 Try.func39 rfl rfl rfl ((Sat.start0 w).read (f := .rows (Rt.rowsR l)) 200 h off_nil) ?_
  refine cd_seq ?_
  refine cd_region ?_
  refine st_box (h := 1) rfl rfl rfl rfl (fun b1 => ?_)
  refine st (ev_assign rfl) rfl rfl rfl ?_
  refine at_own_nil 2 5 1 ?_
  refine at_heq (i := 2) (v' := .own (.slice none 0 0) 5 1 (ints .u8 [])) rfl rfl ?_
  refine st (ev_assign rfl) rfl rfl rfl ?_
  refine op_nil ?_
  refine ax_then ?_
  refine At.regs (L' := [(1, _), (2, _), (3, _)]) (.cons rfl (.cons rfl (.cons rfl (.nil _)))) ?_
  refine cd_seq ?_
  refine cd_seq ?_
  refine cd_region ?_
  refine st (ld_blk_all (h := 1) ty27 rfl rfl rfl (Rt.rootC_len _ _ (by omega))) rfl rfl rfl ?_
  refine st_callv has70 rfl (fun w1 sw => qisroot_any ver exp l w1 hl hu hkl (fun y hy => sw.rd 200 _ rfl y hy)) rfl rfl ?_
  refine st (ev_not_if rfl) rfl rfl rfl ?_
  refine op_nil ?_
  refine ax_then ?_
  refine At.regs (L' := [(1, _), (2, _), (3, _), (8, _)]) (.cons rfl (.cons rfl (.cons rfl (.cons rfl (.nil _))))) ?_
  refine cd_if_f rfl (fun h => h hn) ?_
  refine cd_skip ?_
  refine ax_then ?_
  refine At.regs (L' := [(1, _), (2, _), (3, _)]) (.cons rfl (.cons rfl (.cons rfl (.nil _)))) ?_
  refine cd_seq ?_
  refine cd_region ?_
  refine st (ev_fieldAddr (b := _) Try.underlying27 (f := _) rfl ty3 (by decide) rfl) rfl rfl rfl ?_
  refine st (ld_blk1 (h := 1) ty3 rfl rfl rfl rfl) rfl rfl rfl ?_
  refine st (ev_fieldAddr (b := _) Try.underlying27 (f := _) rfl ty3 (by decide) rfl) rfl rfl rfl ?_
  refine st (ld_blk1 (h := 1) ty3 rfl rfl rfl rfl) rfl rfl rfl ?_
  refine st_bsi (h := 13) (xs := [_, _, _]) Try.underlying49 ty3 (by decide) rfl rfl (by decide) rfl rfl (fun b13 => ?_)
  refine st_call has71 rfl (fun w1 sw => rn 14 (qnums_any (.slice (some ⟨b13, 0, none⟩) 3 3) [1, ver, exp] w1 (by simp) (sw.own_rd (h := 13) rfl))) nil_all rfl rfl (fun v14 _ => ?_)
  refine at_heq (i := 14) (v' := .own (v14) 5 1 (ints .u8 (Rr.num 1 ++ (Rr.num ver ++ (Rr.num exp ++ Rt.encRs (Rt.kds (l.take 0))))))) rfl (by simp [Rr.nums, Rt.encRs, Rt.kds]) ?_
  refine st (ev_assign rfl) rfl rfl rfl ?_
  refine op_nil ?_
  refine ax_then ?_
  refine At.regs (L' := [(1, _), (2, _), (3, _), (4, _)]) (.cons rfl (.cons rfl (.cons rfl (.cons rfl (.nil _))))) ?_
  refine cd_seq ?_
  refine cd_seq ?_
  refine cd_region ?_
  refine st (ev_assign rfl) rfl rfl rfl ?_
  refine op_nil ?_
  refine ax_then ?_
  refine At.regs (L' := [(1, _), (2, _), (3, _), (4, _), (5, _)]) (.cons rfl (.cons rfl (.cons rfl (.cons rfl (.cons rfl (.nil _)))))) ?_
  refine cd_block ?_
  refine cd_loop (ι := Nat × Value) (fun x => x.1 ≤ 4) (fun x => 4 - x.1)
      (fun x => [(1, .pointer (some ⟨b1, 0, none⟩)), (4, x.2), (5, .int .i64 (x.1 : Int))])
      (fun x => [(1, .blk (b1) (.cells (Rt.rootC ver exp l).toArray 27)), (14, .own (x.2) 5 1 (ints .u8 (Rr.num 1 ++ (Rr.num ver ++ (Rr.num exp ++ Rt.encRs (Rt.kds (l.take x.1)))))))])
      (fun x => [(200, .rows (Rt.rowsR l))])
      (0, v14) (Nat.zero_le _) (.cons rfl (.cons rfl (.cons rfl (.nil _)))) (.cons rfl (.cons rfl (.nil _))) (.cons rfl (.nil _)) (fun x hi => ?_)
  obtain ⟨i, u⟩ := x
  dsimp only at hi ⊢
  have e0 : (i : Int).toNat = i := by omega
  have hrl := Rt.encRs_len (l := Rt.kds (l.take i)) (fun k hk => hu k (by obtain ⟨x, hx, rfl⟩ := List.mem_map.1 hk; exact List.mem_map_of_mem (List.mem_of_mem_take hx))) 1000000000 (fun k hk => hkl k (by obtain ⟨x, hx, rfl⟩ := List.mem_map.1 hk; exact List.mem_map_of_mem (List.mem_of_mem_take hx)))
  have hktl : (Rt.kds (l.take i)).length ≤ 4 := by rw [Rt.kds_len, List.length_take]; omega
  have hmul : (Rt.kds (l.take i)).length * (18 + 32 * 1000000000) ≤ 4 * (18 + 32 * 1000000000) := Nat.mul_le_mul_right _ hktl
  have hn1 := Rr.num_len 1
  have hn2 := Rr.num_len ver
  have hn3 := Rr.num_len exp
  have hel : (Rr.num 1 ++ (Rr.num ver ++ (Rr.num exp ++ Rt.encRs (Rt.kds (l.take i))))).length ≤ 27 + 4 * (18 + 32 * 1000000000) := by simp only [List.length_append]; omega
  refine cd_seq ?_
  refine cd_seq ?_
  refine cd_region ?_
  refine st (ev_move rfl) rfl rfl rfl ?_
  refine st (ev_lss rfl rfl) rfl rfl rfl ?_
  refine op_nil ?_
  refine ax_then ?_
  refine At.regs (L' := [(1, _), (4, _), (5, _), (15, _), (16, _)]) (.cons rfl (.cons rfl (.cons rfl (.cons rfl (.cons rfl (.nil _)))))) ?_
  refine cd_if rfl (fun hc16 => ?_) (fun hc16 => ?_)
  ·
    have hlt : i < 4 := by omega
    refine cd_skip ?_
    refine ax_then ?_
    refine At.regs (L' := [(1, _), (4, _), (5, _), (15, _), (16, _)]) (.cons rfl (.cons rfl (.cons rfl (.cons rfl (.cons rfl (.nil _)))))) ?_
    refine cd_seq ?_
    refine cd_block ?_
    refine cd_region ?_
    refine st (ev_move rfl) rfl rfl rfl ?_
    refine st (ev_move rfl) rfl rfl rfl ?_
    refine st (ev_fieldAddr (b := _) Try.underlying27 (f := _) rfl ty25 (by decide) rfl) rfl rfl rfl ?_
    refine st (ev_indexAddr_arr Try.underlying25 ty24 rfl rfl (by omega) (by omega)) rfl rfl rfl ?_
    refine st (ld_blk (h := 1) ty24 rfl rfl rfl (by rw [Rt.rootC_len _ _ (by omega), e0]; show 0 + 2 + i * 2 + 2 ≤ 10; omega)) rfl rfl rfl ?_
    refine at_eq (i := 23) (v' := .agg (List.toArray [(l.getD i Rt.rol0).1, .int .i64 (l.getD i Rt.rol0).2.need])) rfl (congrArg (fun x => Value.agg (List.toArray x)) (by rw [e0]; exact Rt.rootC_get _ _ (l := l) (i := i) (by omega))) ?_
    refine st_call has72 rfl (fun w1 sw => rn 24 (qkeysb_any (l.getD i Rt.rol0).1 (l.getD i Rt.rol0).2.ks (l.getD i Rt.rol0).2.need w1 (hu _ (Rt.kds_get (by omega))) (hkl _ (Rt.kds_get (by omega))) (sw.row (i := 200) rfl (Rt.rowsR_mem (by omega))))) nil_all rfl rfl (fun v24 _ => ?_)
    have hkl2 : (Rt.encK ⟨(l.getD i Rt.rol0).2.ks, (l.getD i Rt.rol0).2.need⟩).length ≤ 18 + 32 * (l.getD i Rt.rol0).2.ks.length := Rt.encK_len (hu _ (Rt.kds_get (l := l) (i := i) (by omega)))
    have hkl3 := hkl _ (Rt.kds_get (l := l) (i := i) (by omega))
    refine st_appendi (h := 14) Try.underlying28 Try.underlying28 ty5 rfl rfl rfl rfl (fun w1 sw => sw.own_rd (h := 24) rfl) (by first | omega | (simp only [List.length_append, List.length_cons, List.length_nil, List.length_set, List.length_replicate, List.length_take, List.length_drop, ints_length, wr_length, sha_len, node_len, recov_len, Ky.named_len, Ky.keyPub_len, Ky.hashOf_len] <;> omega)) (by decide) rfl rfl (fun v25 => ?_)
    refine st (ev_assign rfl) rfl rfl rfl ?_
    refine op_nil ?_
    refine ax_block ?_
    refine ax_then ?_
    refine At.regs (L' := [(1, _), (4, _), (5, _), (15, _), (16, _), (19, _), (20, _), (21, _), (22, _), (23, _), (24, _), (25, _)]) (.cons rfl (.cons rfl (.cons rfl (.cons rfl (.cons rfl (.cons rfl (.cons rfl (.cons rfl (.cons rfl (.cons rfl (.cons rfl (.cons rfl (.nil _))))))))))))) ?_
    refine cd_region ?_
    refine st (ev_move rfl) rfl rfl rfl ?_
    refine st (ev_add64 rfl rfl (by omega) (by omega)) rfl rfl rfl ?_
    refine st (ev_assign rfl) rfl rfl rfl ?_
    refine op_nil ?_
    refine ax_heq (i := 14) (v' := .own (v25) 5 1 (ints .u8 (Rr.num 1 ++ (Rr.num ver ++ (Rr.num exp ++ Rt.encRs (Rt.kds (l.take (i + 1)))))))) rfl (by rw [enc_step (by omega)]) ?_
    exact at_again ((i + 1, v25)) (by show i + 1 ≤ 4; omega) (by omega) (.cons rfl (.cons rfl (.cons rfl (.nil _)))) (.cons rfl (.cons rfl (.nil _))) (.cons rfl (.nil _))
  ·
    obtain rfl : i = 4 := by omega
    refine at_heq (i := 14) (v' := .own (u) 5 1 (ints .u8 (Rt.encR (⟨ver, exp, Rt.kds l⟩ : Rt.RT)))) rfl (by rw [List.take_of_length_le (by omega)]; rfl) ?_
    refine cd_exit ?_
    refine ax_then_exit ?_
    refine ax_then_exit ?_
    refine ax_block_hit ?_
    refine ax_then ?_
    refine At.regs (L' := [(4, _)]) (.cons rfl (.nil _)) ?_
    refine cd_seq ?_
    refine cd_region ?_
    refine st (ev_move rfl) rfl rfl rfl ?_
    refine st (ev_assign rfl) rfl rfl rfl ?_
    refine st (ev_assign rfl) rfl rfl rfl ?_
    refine op_nil ?_
    refine ax_then ?_
    refine At.regs (L' := [(2, _), (3, _)]) (.cons rfl (.cons rfl (.nil _))) ?_
    refine cd_ret ?_
    refine rt_tmp2 (.inl rfl) Try.results39 rfl rfl ?_
    exact fun w1 sw => ⟨u, trivial, rfl, (sw.gives (N := [(14, _)]) (.cons rfl (.nil _))).rn 0⟩
end Go.Proofs.Ytgfnmolbagilmaa

namespace Go.Proofs.Ytgfnmolbagilmaa
open Go Go.RowKit Fw
open Sha
open Ots
open Mk
set_option linter.unusedVariables false
set_option linter.unusedSimpArgs false
set_option maxRecDepth 20000 in
set_option maxHeartbeats 4000000 in
theorem whash_any (b : Nat) (rv : Value) (bad : Bool) (r : List Int) (w : World) (hb : w.heap[b]? = some (.cells (List.toArray [rv, .bool bad]) 139)) (h : Rd w rv 1 (ints .u8 r)) (ho : FE.off b (.sl rv 1 (ints .u8 r))) (hr : r.length ≤ 140737488352000) : Calls Try.prog 114 #[.agg (List.toArray [.pointer (some ⟨b, 0, none⟩)])] w (Post (ι := Value) w [b] (fun x => Rr.Und rv r x (Ky.rawRest r)) (fun _ => .agg (ints .u8 (Ky.hashOf r)).toArray) (fun x => [(0, .blk (b) (.cells ([x, .bool (bad || decide (r.length < 32))]).toArray 139))])) := by
  have hro := Ky.rawOut_len r
  have hhl := Ky.hashOf_len r
  refine calls_at (vs := [.agg (List.toArray [.pointer (some ⟨b, 0, none⟩)])]) (X := [b]) (H := [(0, .blk (b) (.cells ([rv, .bool (bad)]).toArray 139))]) (F := [(1, .sl rv 1 (ints .u8 r))]) 9 Try.func114 rfl rfl rfl ((Sat.blkX 0 hb).readb (f := .sl rv 1 (ints .u8 r)) 1 h ho) ?_
  refine cd_seq ?_
  refine cd_region ?_
  refine st_box (h := 1) rfl rfl rfl rfl (fun b1 => ?_)
  refine st_alloc (h := 2) ty55 rfl rfl rfl (fun b2 => ?_)
  refine op_nil ?_
  refine ax_then ?_
  refine At.regs (L' := [(1, _), (2, _)]) (.cons rfl (.cons rfl (.nil _))) ?_
  refine cd_seq ?_
  refine at_freeze_blk (h := 1) (H' := [(0, _), (2, _)]) 5 rfl (.cons rfl (.cons rfl (.nil _))) rfl ?_
  refine cd_mix hmix ?_
  refine mx (i := 0) rfl (by decide +kernel) (by decide +kernel) (by decide +kernel) rfl (fun w0 => ev_slice_arr_all Try.underlying55 ty5 rfl) rfl rfl (Sub.refl _) ?_
  refine mx (i := 1) rfl (by decide +kernel) (by decide +kernel) (by decide +kernel) rfl (fun w0 => ev_fieldAddr (b := _) Try.underlying117 (f := _) rfl ty107 (by decide) rfl) rfl rfl (Sub.refl _) ?_
  refine mx (i := 2) rfl (by decide +kernel) (by decide +kernel) (by decide +kernel) rfl (fun w0 => ld_mem1 (h := 5) ty107 rfl rfl rfl (Nat.zero_add _).symm rfl) rfl rfl (Sub.refl _) ?_
  refine mx_one (i := 3) (by decide +kernel) (Sub.refl _) ?_
  refine wo (i := 3) rfl ?_
  refine st_call has128 rfl (fun w1 sw => rn2 0 6 (rraw_g b rv bad r w1 (sw.blk_eq (h := 0) rfl) (sw.sl_rd (h := 1) rfl) (sw.off 1 _ 0 _ rfl rfl _ (by simp [Ent.ids])) (by omega) 32)) (mod_blk2 rfl) rfl rfl (fun x6 hx6 => ?_)
  obtain ⟨vd, vo⟩ := x6
  dsimp only at hx6 ⊢
  rw [(Rr.rOut_32 r).2.1] at hx6
  refine at_heq (i := 6) (v' := .own (vo) 5 1 (ints .u8 (Ky.rawOut r))) rfl (by rw [(Rr.rOut_32 r).1]) ?_
  refine at_heq (i := 0) (v' := .blk (b) (.cells ([vd, .bool (bad || decide (r.length < 32))]).toArray 139)) rfl (by rw [(Rr.rOut_32 r).2.2]) ?_
  refine op_nil ?_
  refine ax_then ?_
  refine mx_one (i := 4) (by decide +kernel) (Sub.refl _) ?_
  refine wo (i := 4) rfl ?_
  refine st_copy (n := (Ky.rawOut r).length) 2 Try.underlying28 ty5 rfl rfl rfl (fun w1 sw => sw.own_rd (h := 6) rfl) (by decide) (by rw [ints_length, Nat.mul_one]) (by rw [ints_length, List.length_replicate]; decide) (ints_one _ _) rfl rfl ?_
  refine at_heq (i := 2) (v' := .blk b2 (.cells (ints .u8 (Ky.hashOf r)).toArray 55)) rfl (by rw [Ky.hash_copy]) ?_
  refine op_nil ?_
  refine ax_then ?_
  refine mx_done (by decide +kernel) (Sub.refl _) ?_
  refine ax_then ?_
  refine At.regs (L' := [(2, _)]) (.cons rfl (.nil _)) ?_
  refine cd_seq ?_
  refine cd_region ?_
  refine st (ld_blk_all (h := 2) ty55 rfl rfl rfl (by first | omega | (simp only [List.length_append, List.length_cons, List.length_nil, List.length_set, List.length_replicate, List.length_take, List.length_drop, ints_length, wr_length, sha_len, node_len, recov_len, Ky.named_len, Ky.keyPub_len, Ky.hashOf_len] <;> omega) | rfl)) rfl rfl rfl ?_
  refine st_store_all 2 ty55 rfl rfl rfl rfl (by first | omega | (simp only [List.length_append, List.length_cons, List.length_nil, List.length_set, List.length_replicate, List.length_take, List.length_drop, ints_length, wr_length, sha_len, node_len, recov_len, Ky.named_len, Ky.keyPub_len, Ky.hashOf_len] <;> omega) | rfl) (ints_one _ _) (by first | omega | (simp only [List.length_append, List.length_cons, List.length_nil, List.length_set, List.length_replicate, List.length_take, List.length_drop, ints_length, wr_length, sha_len, node_len, recov_len, Ky.named_len, Ky.keyPub_len, Ky.hashOf_len] <;> omega) | rfl) rfl ?_
  refine op_nil ?_
  refine ax_then ?_
  refine At.regs (L' := [(2, _)]) (.cons rfl (.nil _)) ?_
  refine cd_ret ?_
  refine rt_cell (h0 := 2) (.inl rfl) Try.results114 ty55 rfl rfl rfl (by first | omega | (simp only [List.length_append, List.length_cons, List.length_nil, List.length_set, List.length_replicate, List.length_take, List.length_drop, ints_length, wr_length, sha_len, node_len, recov_len, Ky.named_len, Ky.keyPub_len, Ky.hashOf_len] <;> omega) | rfl) ?_
  exact fun w1 sw => ⟨vd, hx6, rfl, (sw.gives (N := [(0, _)]) (.cons rfl (.nil _)))⟩
set_option maxRecDepth 20000 in
set_option maxHeartbeats 4000000 in
theorem taken_any (b : Nat) (rv : Value) (bad : Bool) (r : List Int) (w : World) (hb : w.heap[b]? = some (.cells (List.toArray [rv, .bool bad]) 139)) (h : Rd w rv 1 (ints .u8 r)) (ho : FE.off b (.sl rv 1 (ints .u8 r))) (hr : r.length ≤ 140737488352000) (hB : Byt r) : Calls Try.prog 113 #[.agg (List.toArray [.pointer (some ⟨b, 0, none⟩)]), .func (.func 114) #[] #[]] w (Post (ι := Bool × List Int × Value × List (List Int) × Value) w [b] (fun x => Rr.Und rv r x.2.2.1 x.2.1 ∧ Rt.TEnd false bad r x.1 x.2.1 x.2.2.2.1) (fun x => x.2.2.2.2) (fun x => [(0, .blk (b) (.cells ([x.2.2.1, .bool (x.1)]).toArray 139)), (1, .own (x.2.2.2.2) 55 32 (flat (x.2.2.2.1)))])) := by
  refine calls_at (vs := [.agg (List.toArray [.pointer (some ⟨b, 0, none⟩)]), .func (.func 114) #[] #[]]) (X := [b]) (H := [(0, .blk (b) (.cells ([rv, .bool (bad)]).toArray 139))]) (F := [(1, .sl rv 1 (ints .u8 r))]) 26 Try.func113 rfl rfl rfl ((Sat.blkX 0 hb).readb (f := .sl rv 1 (ints .u8 r)) 1 h ho) ?_
  refine cd_seq ?_
  refine cd_region ?_
  refine st_box (h := 2) rfl rfl rfl rfl (fun b2 => ?_)
  refine st (ev_assign rfl) rfl rfl rfl ?_
  refine at_own_nil 4 55 32 ?_
  refine at_heq (i := 4) (v' := .own (.slice none 0 0) 55 32 (flat [])) rfl rfl ?_
  have hu4 := H32.nil
  refine op_nil ?_
  refine ax_then ?_
  refine At.regs (L' := [(1, _), (2, _), (4, _)]) (.cons rfl (.cons rfl (.cons rfl (.nil _)))) ?_
  refine cd_seq ?_
  refine cd_region ?_
  refine st (ev_assign rfl) rfl rfl rfl ?_
  refine at_own_nil 5 55 32 ?_
  refine at_heq (i := 5) (v' := .own (.slice none 0 0) 55 32 (flat [])) rfl rfl ?_
  have hu5 := H32.nil
  refine op_nil ?_
  refine ax_then ?_
  refine At.regs (L' := [(1, _), (2, _), (4, _), (5, _)]) (.cons rfl (.cons rfl (.cons rfl (.cons rfl (.nil _))))) ?_
  refine cd_seq ?_
  refine cd_seq ?_
  refine at_freeze_blk (h := 2) (H' := [(0, _), (5, _)]) 5 rfl (.cons rfl (.cons rfl (.nil _))) rfl ?_
  refine cd_region ?_
  refine st (ev_fieldAddr (b := _) Try.underlying117 (f := _) rfl ty107 (by decide) rfl) rfl rfl rfl ?_
  refine st (ld_mem1 (h := 5) ty107 rfl rfl rfl (Nat.zero_add _).symm rfl) rfl rfl rfl ?_
  refine st_call has51 rfl (fun w1 sw => rn 0 (rnum_g b rv bad r w1 (sw.blk_eq (h := 0) rfl) (sw.sl_rd (h := 1) rfl) (sw.off 1 _ 0 _ rfl rfl _ (by simp [Ent.ids])) hr)) (mod_blk rfl) rfl rfl (fun x9 hx9 => ?_)
  refine at_fmap (h := 1) 1 rfl (fun w1 hh => hx9.rd w1 hh) hx9.blk hx9.nil ?_
  have hnr := Rr.nVal_rng r
  refine st (ev_assign rfl) rfl rfl rfl ?_
  refine op_nil ?_
  refine ax_then ?_
  refine At.regs (L' := [(1, _), (2, _), (4, _), (5, _), (6, _)]) (.cons rfl (.cons rfl (.cons rfl (.cons rfl (.cons rfl (.nil _)))))) ?_
  refine cd_block ?_
  refine cd_loop (ι := Int × Bool × List Int × Value × List (List Int) × Value) (fun x => Rr.Und rv r x.2.2.2.1 x.2.2.1 ∧ Rt.TRel (bad || Rr.nBad r) (Rr.nRest r) (Rr.nVal r) x.1 x.2.1 x.2.2.1 x.2.2.2.2.1) (fun x => x.2.2.1.length + (if x.2.1 = true then 0 else 1))
      (fun x => [(1, .func (.func 114) #[] #[]), (2, .pointer (some ⟨b2, 0, none⟩)), (5, x.2.2.2.2.2), (6, .int .i64 x.1)])
      (fun x => [(0, .blk (b) (.cells ([x.2.2.2.1, .bool (x.2.1)]).toArray 139)), (5, .own (x.2.2.2.2.2) 55 32 (flat (x.2.2.2.2.1)))])
      (fun x => [(1, .sl x.2.2.2.1 1 (ints .u8 x.2.2.1)), (5, .mem b2 0 [.pointer (some ⟨b, 0, none⟩)])])
      (Rr.nVal r, (bad || Rr.nBad r), (Rr.nRest r), x9, [], .slice none 0 0) (⟨hx9, Rt.TRel.init _ _ hnr.1⟩) (.cons rfl (.cons rfl (.cons rfl (.cons rfl (.nil _))))) (.cons rfl (.cons rfl (.nil _))) (.cons rfl (.cons rfl (.nil _))) (fun x hi => ?_)
  obtain ⟨n, bd, rc, v, hs, u⟩ := x
  dsimp only at hi ⊢
  have hti := hi.2
  have hul := hi.1.len
  have hl2 := hti.len2
  have hnl := Rr.nRest_len r
  have hcn := hti.cnt
  have hpo := hti.pos
  refine cd_seq ?_
  refine cd_seq ?_
  refine cd_region ?_
  refine st (ev_move rfl) rfl rfl rfl ?_
  refine st (ev_gtr rfl rfl) rfl rfl rfl ?_
  refine st (ev_move rfl) rfl rfl rfl ?_
  refine at_split_if (i := 12) rfl (fun hg12 => ?_) (fun hg12 => ?_)
  ·
    refine st (ev_fieldAddr (b := _) Try.underlying117 (f := _) rfl ty107 (by decide) rfl) rfl rfl rfl ?_
    refine st (ld_mem1 (h := 5) ty107 rfl rfl rfl (Nat.zero_add _).symm rfl) rfl rfl rfl ?_
    refine st_callv has82 rfl (fun w1 sw => rgood_any b v bd w1 (lies_blk (sw.blk_eq (h := 0) rfl))) rfl rfl ?_
    refine st (ev_pick_t rfl rfl) rfl rfl rfl ?_
    refine op_nil ?_
    refine ax_then ?_
    refine At.regs (L' := [(1, _), (2, _), (5, _), (6, _), (10, _), (11, _), (12, _), (13, _), (14, _), (15, _), (16, _)]) (.cons rfl (.cons rfl (.cons rfl (.cons rfl (.cons rfl (.cons rfl (.cons rfl (.cons rfl (.cons rfl (.cons rfl (.cons rfl (.nil _)))))))))))) ?_
    refine cd_cond rfl (fun hc16 => ?_) (fun hc16 => ?_)
    ·
      have hbd : bd = false := by revert hc16; cases bd <;> simp
      refine cd_skip ?_
      refine ax_then ?_
      refine At.regs (L' := [(1, _), (2, _), (5, _), (6, _), (10, _), (11, _), (12, _), (13, _), (14, _), (15, _), (16, _)]) (.cons rfl (.cons rfl (.cons rfl (.cons rfl (.cons rfl (.cons rfl (.cons rfl (.cons rfl (.cons rfl (.cons rfl (.cons rfl (.nil _)))))))))))) ?_
      refine cd_seq ?_
      refine cd_block ?_
      refine cd_region ?_
      refine st (ev_move rfl) rfl rfl rfl ?_
      refine st (ev_move rfl) rfl rfl rfl ?_
      refine st (ld_mem_all (h := 5) ty117 rfl rfl rfl rfl) rfl rfl rfl ?_
      refine st_call_fn has114 rfl rfl rfl (fun w1 sw => rn 0 (whash_any b v bd rc w1 (sw.blk_eq (h := 0) rfl) (sw.sl_rd (h := 1) rfl) (sw.off 1 _ 0 _ rfl rfl _ (by simp [Ent.ids])) (by omega))) (mod_blk rfl) rfl rfl (fun x22 hx22 => ?_)
      refine at_fmap (h := 1) 1 rfl (fun w1 hh => hx22.rd w1 hh) hx22.blk hx22.nil ?_
      have hho := Ky.hashOf_len rc
      refine st_bsh1 (h := 23) Try.underlying22 ty55 rfl (by assumption) rfl rfl (fun b23 hu23 => ?_)
      refine st_appendh (h := 5) Try.underlying22 Try.underlying22 ty55 rfl rfl rfl rfl (fun w1 sw => sw.own_rd (h := 23) rfl) hti.h32 hu23 (by simp only [List.length_cons, List.length_nil]; omega) (by decide) rfl rfl (fun v24 hu24 => ?_)
      refine st (ev_assign rfl) rfl rfl rfl ?_
      refine op_nil ?_
      refine ax_block ?_
      refine ax_then ?_
      refine At.regs (L' := [(1, _), (2, _), (5, _), (6, _), (10, _), (11, _), (12, _), (13, _), (14, _), (15, _), (16, _), (19, _), (20, _), (21, _), (22, _), (23, _), (24, _)]) (.cons rfl (.cons rfl (.cons rfl (.cons rfl (.cons rfl (.cons rfl (.cons rfl (.cons rfl (.cons rfl (.cons rfl (.cons rfl (.cons rfl (.cons rfl (.cons rfl (.cons rfl (.cons rfl (.cons rfl (.nil _)))))))))))))))))) ?_
      refine cd_region ?_
      refine st (ev_move rfl) rfl rfl rfl ?_
      refine st (ev_sub64 rfl rfl (by omega) (by omega)) rfl rfl rfl ?_
      refine st (ev_assign rfl) rfl rfl rfl ?_
      refine op_nil ?_
      exact at_again ((n - 1, (bd || decide (rc.length < 32)), Ky.rawRest rc, x22, hs ++ [Ky.hashOf rc], v24)) (⟨hi.1.trans hx22, hti.step (by omega) hbd⟩) (Rt.meas_lt hbd) (.cons rfl (.cons rfl (.cons rfl (.cons rfl (.nil _))))) (.cons rfl (.cons rfl (.nil _))) (.cons rfl (.cons rfl (.nil _)))
    ·
      have hend : n ≤ 0 ∨ bd = true ∨ (false = true ∧ hs.length = 5) := .inr (.inl (by revert hc16; cases bd <;> simp))
      refine cd_exit ?_
      refine ax_then_exit ?_
      refine ax_then_exit ?_
      refine ax_block_hit ?_
      refine ax_then ?_
      refine At.regs (L' := [(5, _)]) (.cons rfl (.nil _)) ?_
      refine cd_seq ?_
      refine cd_region ?_
      refine st (ev_move rfl) rfl rfl rfl ?_
      refine st (ev_assign rfl) rfl rfl rfl ?_
      refine op_nil ?_
      refine ax_then ?_
      refine At.regs (L' := [(4, _)]) (.cons rfl (.nil _)) ?_
      refine cd_ret ?_
      refine rt_tmp (.inl rfl) Try.results113 rfl ?_
      exact fun w1 sw => ⟨(bd, rc, v, hs, u), ⟨hi.1, Rt.tend hB hti hend (fun hh => by cases hh)⟩, rfl, (sw.gives (N := [(0, _), (5, _)]) (.cons rfl (.cons rfl (.nil _)))).rn2 (by decide) 0 1⟩
  ·
    have hend : n ≤ 0 ∨ bd = true ∨ (false = true ∧ hs.length = 5) := .inl (by omega)
    refine st_skip rfl rfl rfl ?_
    refine st_skip rfl rfl rfl ?_
    refine st_skip rfl rfl rfl ?_
    refine st (ev_pick_f rfl rfl) rfl rfl rfl ?_
    refine op_nil ?_
    refine ax_then ?_
    refine At.regs (L' := [(1, _), (2, _), (5, _), (6, _), (10, _), (11, _), (12, _), (13, _), (14, _), (15, _), (16, _)]) (.cons rfl (.cons rfl (.cons rfl (.cons rfl (.cons rfl (.cons rfl (.cons rfl (.cons rfl (.cons rfl (.cons rfl (.cons rfl (.nil _)))))))))))) ?_
    refine cd_false rfl ?_
    refine cd_exit ?_
    refine ax_then_exit ?_
    refine ax_then_exit ?_
    refine ax_block_hit ?_
    refine ax_then ?_
    refine At.regs (L' := [(5, _)]) (.cons rfl (.nil _)) ?_
    refine cd_seq ?_
    refine cd_region ?_
    refine st (ev_move rfl) rfl rfl rfl ?_
    refine st (ev_assign rfl) rfl rfl rfl ?_
    refine op_nil ?_
    refine ax_then ?_
    refine At.regs (L' := [(4, _)]) (.cons rfl (.nil _)) ?_
    refine cd_ret ?_
    refine rt_tmp (.inl rfl) Try.results113 rfl ?_
    exact fun w1 sw => ⟨(bd, rc, v, hs, u), ⟨hi.1, Rt.tend hB hti hend (fun hh => by cases hh)⟩, rfl, (sw.gives (N := [(0, _), (5, _)]) (.cons rfl (.cons rfl (.nil _)))).rn2 (by decide) 0 1⟩
set_option maxRecDepth 20000 in
set_option maxHeartbeats 4000000 in
theorem wkeys_any (b : Nat) (rv : Value) (bad : Bool) (r : List Int) (w : World) (hb : w.heap[b]? = some (.cells (List.toArray [rv, .bool bad]) 139)) (h : Rd w rv 1 (ints .u8 r)) (ho : FE.off b (.sl rv 1 (ints .u8 r))) (hr : r.length ≤ 140737488352000) (hB : Byt r) : Calls Try.prog 85 #[.agg (List.toArray [.pointer (some ⟨b, 0, none⟩)])] w (Post (ι := Bool × List Int × Value × Rt.KD × Value) w [b] (fun x => Rr.Und rv r x.2.2.1 x.2.1 ∧ Rt.KRel false bad r x.2.2.2.1 x.1 x.2.1) (fun x => .agg (List.toArray [x.2.2.2.2, .int .i64 x.2.2.2.1.need])) (fun x => [(0, .blk (b) (.cells ([x.2.2.1, .bool (x.1)]).toArray 139)), (1, .own (x.2.2.2.2) 55 32 (flat (x.2.2.2.1.ks)))])) := by
  refine calls_at (vs := [.agg (List.toArray [.pointer (some ⟨b, 0, none⟩)])]) (X := [b]) (H := [(0, .blk (b) (.cells ([rv, .bool (bad)]).toArray 139))]) (F := [(1, .sl rv 1 (ints .u8 r))]) 9 Try.func85 rfl rfl rfl ((Sat.blkX 0 hb).readb (f := .sl rv 1 (ints .u8 r)) 1 h ho) ?_
  refine cd_seq ?_
  refine cd_region ?_
  refine st_box (h := 1) rfl rfl rfl rfl (fun b1 => ?_)
  refine st_alloc (h := 2) ty24 rfl rfl rfl (fun b2 => ?_)
  refine op_nil ?_
  refine ax_then ?_
  refine At.regs (L' := [(1, _), (2, _)]) (.cons rfl (.cons rfl (.nil _))) ?_
  refine cd_seq ?_
  refine at_freeze_blk (h := 1) (H' := [(0, _), (2, _)]) 5 rfl (.cons rfl (.cons rfl (.nil _))) rfl ?_
  refine cd_mix hmix ?_
  refine mx (i := 0) rfl (by decide +kernel) (by decide +kernel) (by decide +kernel) rfl (fun w0 => ld_mem_all (h := 5) ty117 rfl rfl rfl rfl) rfl rfl (Sub.refl _) ?_
  refine mx (i := 2) rfl (by decide +kernel) (by decide +kernel) (by decide +kernel) rfl (fun w0 => ev_fieldAddr (b := _) Try.underlying117 (f := _) rfl ty107 (by decide) rfl) rfl rfl (Sub.refl _) ?_
  refine mx (i := 3) rfl (by decide +kernel) (by decide +kernel) (by decide +kernel) rfl (fun w0 => ld_mem1 (h := 5) ty107 rfl rfl rfl (Nat.zero_add _).symm rfl) rfl rfl (Sub.refl _) ?_
  refine mx_one (i := 1) (by decide +kernel) (Sub.refl _) ?_
  refine wo (i := 1) rfl ?_
  refine st_call has113 rfl (fun w1 sw => rn2 0 104 (taken_any b rv bad r w1 (sw.blk_eq (h := 0) rfl) (sw.sl_rd (h := 1) rfl) (sw.off 1 _ 0 _ rfl rfl _ (by simp [Ent.ids])) hr hB)) (mod_blk2 rfl) rfl rfl (fun x4 hx4 => ?_)
  obtain ⟨bd, rc, v, hs, u⟩ := x4
  dsimp only at hx4 ⊢
  have hul := hx4.1.len
  refine at_own_shape (h := 104) rfl (fun hs104 => ?_)
  refine op_nil ?_
  refine ax_then ?_
  refine mx_one (i := 4) (by decide +kernel) (Sub.refl _) ?_
  refine wo (i := 4) rfl ?_
  refine st_call has51 rfl (fun w1 sw => rn 0 (rnum_g b v bd rc w1 (sw.blk_eq (h := 0) rfl) (hx4.1.rd _ (sw.sl_rd (h := 1) rfl)) ((sw.off 1 _ 0 _ rfl rfl _ (by simp [Ent.ids])).elim (fun h0 => .inl (hx4.1.nil h0)) (fun h0 => .inr (fun hb => h0 (hx4.1.blk _ hb)))) (by omega))) (mod_blk rfl) rfl rfl (fun x7 hx7 => ?_)
  refine op_nil ?_
  refine ax_then ?_
  refine mx (i := 5) rfl (by decide +kernel) (by decide +kernel) (by decide +kernel) rfl (fun w0 => ev_build_struct ty24 rfl pl24 rfl ((fill_put (i := 0) (off := 0) (n := 1) (vs := [u]) rfl hs104.1 rfl (Nat.le_of_ble_eq_true rfl)).trans ((fill_put (i := 1) (off := 1) (n := 1) (vs := [.int .i64 (Rr.nVal rc)]) rfl rfl rfl (Nat.le_of_ble_eq_true rfl)).trans fill_nil))) rfl rfl (Sub.refl _) ?_
  refine at_eq (i := 8) (v' := .agg (List.toArray [u, .int .i64 (Rr.nVal rc)])) rfl rfl ?_
  refine mx_one (i := 6) (by decide +kernel) (Sub.refl _) ?_
  refine wo (i := 6) rfl ?_
  refine st_store_all 2 ty24 rfl rfl rfl rfl rfl (by intro u0 hu0; simp at hu0; rcases hu0 with rfl | rfl; exact hs104.2; rfl) rfl rfl ?_
  refine op_nil ?_
  refine ax_then ?_
  refine mx_done (by decide +kernel) (Sub.refl _) ?_
  refine ax_then ?_
  refine At.regs (L' := [(2, _)]) (.cons rfl (.nil _)) ?_
  refine cd_ret ?_
  refine rt_cell (h0 := 2) (.inl rfl) Try.results85 ty24 rfl rfl rfl (by first | omega | (simp only [List.length_append, List.length_cons, List.length_nil, List.length_set, List.length_replicate, List.length_take, List.length_drop, ints_length, wr_length, sha_len, node_len, recov_len, Ky.named_len, Ky.keyPub_len, Ky.hashOf_len] <;> omega) | rfl) ?_
  exact fun w1 sw => ⟨((bd || Rr.nBad rc), Rr.nRest rc, x7, ⟨hs, Rr.nVal rc⟩, u), ⟨hx4.1.trans hx7, Rt.krel (hx4.1.byt hB) hx4.2⟩, rfl, (sw.gives (N := [(0, _), (104, _)]) (.cons rfl (.cons rfl (.nil _)))).rn2 (by decide) 0 1⟩
end Go.Proofs.Ytgfnmolbagilmaa

namespace Go.Proofs.Ytgfnmolbagilmaa.Fw
open Go Go.RowKit Go.Proofs.Ytgfnmolbagilmaa
set_option linter.unusedSimpArgs false
set_option linter.unusedVariables false
section
variable {P : Program} {E : Env} {L : List (Nat × Value)} {H : List (Nat × Ent)} {F : List (Nat × FE)}
variable {dst : Option Tmp} {ty : TypeId} {pos : String} {af : Array Edge} {gd : Option (Nat × Bool)}
theorem ev_neq_bool {T T' : Nat} {x y : Operand} {b c : Bool} (hT : P.underlying T = some .bool) (hx : ev L x = some (.bool b)) (hy : ev L y = some (.bool c)) : Ev P ⟨dst, .binOp .neq T x y T', ty, pos, af, gd⟩ E L H F (.bool (!(b == c))) :=
  fun a w fa _ => by
    have e0 : ∀ d, (Op.equalIn (d + 1) T (.bool b) (.bool c)).run P w = .ok (b == c) w := fun d => by simp [Op.equalIn, run_und hT]
    have e4 : (Op.equalIn Op.maxDepth T (.bool b) (.bool c)).run P w = .ok (b == c) w := e0 9999
    simp only [execOp, fa.ev hx, fa.ev hy, eqGuard, binOp, Op.equal, Sem.run_bind]
    simp [e4]
end
end Go.Proofs.Ytgfnmolbagilmaa.Fw

namespace Go.Proofs.Ytgfnmolbagilmaa
open Go Go.RowKit Fw
open Sha
open Ots
open Mk
set_option linter.unusedVariables false
set_option linter.unusedSimpArgs false
set_option maxRecDepth 20000 in
set_option maxHeartbeats 8000000 in
theorem wroot_any (b : Nat) (rv : Value) (bad : Bool) (r : List Int) (w : World) (hb : w.heap[b]? = some (.cells (List.toArray [rv, .bool bad]) 139)) (h : Rd w rv 1 (ints .u8 r)) (ho : FE.off b (.sl rv 1 (ints .u8 r))) (hr : r.length ≤ 140737488352000) (hB : Byt r) : Calls Try.prog 56 #[.agg (List.toArray [.pointer (some ⟨b, 0, none⟩)])] w (PostRM (ι := List Rt.Rol × Bool × List Int × Value) w [b] (fun x => x.1.length = 4 ∧ (∀ y, y ∈ x.1 → y.1.oneCell' = true) ∧ Rr.Und rv r x.2.2.2 x.2.2.1 ∧ Rt.RRel false bad r ⟨(Rr.nVal r), (Rr.nVal (Rr.nRest r)), Rt.kds x.1⟩ x.2.1 x.2.2.1) (fun x => .agg (Rt.rootC (Rr.nVal r) (Rr.nVal (Rr.nRest r)) x.1).toArray) (fun x => [(0, .blk (b) (.cells ([x.2.2.2, .bool (x.2.1)]).toArray 139))]) (fun x => Rt.rowsR x.1)) := by
  have hl1 := Rr.nRest_len r
  have hl2 := Rr.nRest_len (Rr.nRest r)
  refine calls_at (vs := [.agg (List.toArray [.pointer (some ⟨b, 0, none⟩)])]) (X := [b]) (H := [(0, .blk (b) (.cells ([rv, .bool (bad)]).toArray 139))]) (F := [(1, .sl rv 1 (ints .u8 r))]) 22 Try.func56 rfl rfl rfl ((Sat.blkX 0 hb).readb (f := .sl rv 1 (ints .u8 r)) 1 h ho) ?_
  refine cd_seq ?_
  refine cd_region ?_
  refine st_box (h := 1) rfl rfl rfl rfl (fun b1 => ?_)
  refine st_alloc (h := 2) ty27 rfl rfl rfl (fun b2 => ?_)
  refine op_nil ?_
  refine ax_then ?_
  refine At.regs (L' := [(1, _), (2, _)]) (.cons rfl (.cons rfl (.nil _))) ?_
  refine cd_join (ι := Nat × Value) (fun x => Rr.Und rv r x.2 (Rr.nRest (Rr.nRest r))) (fun x => [(1, .pointer (some ⟨b1, 0, none⟩)), (2, .pointer (some ⟨b2, 0, none⟩)), (3, .pointer (some ⟨x.1, 0, none⟩))]) (fun x => [(0, .blk (b) (.cells ([x.2, .bool ((bad || Rr.nBad r || Rr.nBad (Rr.nRest r)))]).toArray 139)), (2, .blk (b2) (.cells ([.int .i64 0, .int .i64 0, .slice none 0 0, .int .i64 0, .slice none 0 0, .int .i64 0, .slice none 0 0, .int .i64 0, .slice none 0 0, .int .i64 0]).toArray 27)), (3, .blk (x.1) (.cells (Rt.rootC (Rr.nVal r) (Rr.nVal (Rr.nRest r)) []).toArray 27))]) (fun x => [(1, .sl x.2 1 (ints .u8 (Rr.nRest (Rr.nRest r)))), (5, .mem b1 0 [.pointer (some ⟨b, 0, none⟩)])]) ?_ (fun x hj => ?_)
  ·
    refine at_freeze_blk (h := 1) (H' := [(0, _), (2, _)]) 5 rfl (.cons rfl (.cons rfl (.nil _))) rfl ?_
    refine cd_mix hmix ?_
    refine mx (i := 0) rfl (by decide +kernel) (by decide +kernel) (by decide +kernel) rfl (fun w0 => ev_fieldAddr (b := _) Try.underlying117 (f := _) rfl ty107 (by decide) rfl) rfl rfl (Sub.refl _) ?_
    refine mx (i := 1) rfl (by decide +kernel) (by decide +kernel) (by decide +kernel) rfl (fun w0 => ld_mem1 (h := 5) ty107 rfl rfl rfl (Nat.zero_add _).symm rfl) rfl rfl (Sub.refl _) ?_
    refine mx (i := 3) rfl (by decide +kernel) (by decide +kernel) (by decide +kernel) rfl (fun w0 => ev_fieldAddr (b := _) Try.underlying117 (f := _) rfl ty107 (by decide) rfl) rfl rfl (Sub.refl _) ?_
    refine mx (i := 4) rfl (by decide +kernel) (by decide +kernel) (by decide +kernel) rfl (fun w0 => ld_mem1 (h := 5) ty107 rfl rfl rfl (Nat.zero_add _).symm rfl) rfl rfl (Sub.refl _) ?_
    refine mx_two (i := 2) (j := 7) (by decide +kernel) (Sub.refl _) ?_ ?_
    ·
      refine wo (i := 2) rfl ?_
      refine st_call has51 rfl (fun w1 sw => rn 0 (rnum_g b rv (bad) r w1 (sw.blk_eq (h := 0) rfl) (sw.sl_rd (h := 1) rfl) (sw.off 1 _ 0 _ rfl rfl _ (by simp [Ent.ids])) (by omega))) (mod_blk rfl) rfl rfl (fun x7 hx7 => ?_)
      refine op_nil ?_
      refine ax_then ?_
      refine mx_two (i := 5) (j := 7) (by decide +kernel) (Sub.refl _) ?_ ?_
      ·
        refine wo (i := 5) rfl ?_
        refine st_call has51 rfl (fun w1 sw => rn 0 (rnum_g b x7 (bad || Rr.nBad r) (Rr.nRest r) w1 (sw.blk_eq (h := 0) rfl) (hx7.rd _ (sw.sl_rd (h := 1) rfl)) ((sw.off 1 _ 0 _ rfl rfl _ (by simp [Ent.ids])).elim (fun h0 => .inl (hx7.nil h0)) (fun h0 => .inr (fun hb => h0 (hx7.blk _ hb)))) (by omega))) (mod_blk rfl) rfl rfl (fun x10 hx10 => ?_)
        refine op_nil ?_
        refine ax_then ?_
        refine mx (i := 6) rfl (by decide +kernel) (by decide +kernel) (by decide +kernel) rfl (fun w0 => ev_build_struct ty27 rfl pl27 rfl ((fill_put (i := 0) (off := 0) (n := 1) (vs := [.int .i64 (Rr.nVal r)]) rfl rfl rfl (Nat.le_of_ble_eq_true rfl)).trans ((fill_put (i := 1) (off := 1) (n := 1) (vs := [.int .i64 (Rr.nVal (Rr.nRest r))]) rfl rfl rfl (Nat.le_of_ble_eq_true rfl)).trans fill_nil))) rfl rfl (Sub.refl _) ?_
        refine at_eq (i := 11) (v' := .agg (Rt.rootC (Rr.nVal r) (Rr.nVal (Rr.nRest r)) []).toArray) rfl rfl ?_
        refine mx_one (i := 7) (by decide +kernel) (Sub.refl _) ?_
        refine wo (i := 7) rfl ?_
        refine st_alloc (h := 3) ty27 rfl rfl rfl (fun b3 => ?_)
        refine op_nil ?_
        refine ax_then ?_
        refine mx_one (i := 8) (by decide +kernel) (Sub.refl _) ?_
        refine wo (i := 8) rfl ?_
        refine st_store_all 3 ty27 rfl rfl rfl rfl rfl (Rt.rootC_one _ _ (fun x hx => by cases hx)) rfl rfl ?_
        refine op_nil ?_
        refine ax_then ?_
        refine mx_done (by decide +kernel) (Sub.refl _) ?_
        refine ax_fmap (h := 1) 1 rfl (fun w2 hh => (hx7.trans hx10).rd w2 hh) (hx7.trans hx10).blk (hx7.trans hx10).nil ?_
        exact at_met ((b3, x10)) (hx7.trans hx10) (.cons rfl (.cons rfl (.cons rfl (.nil _)))) (.cons rfl (.cons rfl (.cons rfl (.nil _)))) (.cons rfl (.cons rfl (.nil _)))
      ·
        refine wo (i := 7) rfl ?_
        refine st_alloc (h := 3) ty27 rfl rfl rfl (fun b3 => ?_)
        refine op_nil ?_
        refine ax_then ?_
        refine mx_one (i := 5) (by decide +kernel) (Sub.refl _) ?_
        refine wo (i := 5) rfl ?_
        refine st_call has51 rfl (fun w1 sw => rn 0 (rnum_g b x7 (bad || Rr.nBad r) (Rr.nRest r) w1 (sw.blk_eq (h := 0) rfl) (hx7.rd _ (sw.sl_rd (h := 1) rfl)) ((sw.off 1 _ 0 _ rfl rfl _ (by simp [Ent.ids])).elim (fun h0 => .inl (hx7.nil h0)) (fun h0 => .inr (fun hb => h0 (hx7.blk _ hb)))) (by omega))) (mod_blk rfl) rfl rfl (fun x10 hx10 => ?_)
        refine op_nil ?_
        refine ax_then ?_
        refine mx (i := 6) rfl (by decide +kernel) (by decide +kernel) (by decide +kernel) rfl (fun w0 => ev_build_struct ty27 rfl pl27 rfl ((fill_put (i := 0) (off := 0) (n := 1) (vs := [.int .i64 (Rr.nVal r)]) rfl rfl rfl (Nat.le_of_ble_eq_true rfl)).trans ((fill_put (i := 1) (off := 1) (n := 1) (vs := [.int .i64 (Rr.nVal (Rr.nRest r))]) rfl rfl rfl (Nat.le_of_ble_eq_true rfl)).trans fill_nil))) rfl rfl (Sub.refl _) ?_
        refine at_eq (i := 11) (v' := .agg (Rt.rootC (Rr.nVal r) (Rr.nVal (Rr.nRest r)) []).toArray) rfl rfl ?_
        refine mx_one (i := 8) (by decide +kernel) (Sub.refl _) ?_
        refine wo (i := 8) rfl ?_
        refine st_store_all 3 ty27 rfl rfl rfl rfl rfl (Rt.rootC_one _ _ (fun x hx => by cases hx)) rfl rfl ?_
        refine op_nil ?_
        refine ax_then ?_
        refine mx_done (by decide +kernel) (Sub.refl _) ?_
        refine ax_fmap (h := 1) 1 rfl (fun w2 hh => (hx7.trans hx10).rd w2 hh) (hx7.trans hx10).blk (hx7.trans hx10).nil ?_
        exact at_met ((b3, x10)) (hx7.trans hx10) (.cons rfl (.cons rfl (.cons rfl (.nil _)))) (.cons rfl (.cons rfl (.cons rfl (.nil _)))) (.cons rfl (.cons rfl (.nil _)))
    ·
      refine wo (i := 7) rfl ?_
      refine st_alloc (h := 3) ty27 rfl rfl rfl (fun b3 => ?_)
      refine op_nil ?_
      refine ax_then ?_
      refine mx_one (i := 2) (by decide +kernel) (Sub.refl _) ?_
      refine wo (i := 2) rfl ?_
      refine st_call has51 rfl (fun w1 sw => rn 0 (rnum_g b rv (bad) r w1 (sw.blk_eq (h := 0) rfl) (sw.sl_rd (h := 1) rfl) (sw.off 1 _ 0 _ rfl rfl _ (by simp [Ent.ids])) (by omega))) (mod_blk rfl) rfl rfl (fun x7 hx7 => ?_)
      refine op_nil ?_
      refine ax_then ?_
      refine mx_one (i := 5) (by decide +kernel) (Sub.refl _) ?_
      refine wo (i := 5) rfl ?_
      refine st_call has51 rfl (fun w1 sw => rn 0 (rnum_g b x7 (bad || Rr.nBad r) (Rr.nRest r) w1 (sw.blk_eq (h := 0) rfl) (hx7.rd _ (sw.sl_rd (h := 1) rfl)) ((sw.off 1 _ 0 _ rfl rfl _ (by simp [Ent.ids])).elim (fun h0 => .inl (hx7.nil h0)) (fun h0 => .inr (fun hb => h0 (hx7.blk _ hb)))) (by omega))) (mod_blk rfl) rfl rfl (fun x10 hx10 => ?_)
      refine op_nil ?_
      refine ax_then ?_
      refine mx (i := 6) rfl (by decide +kernel) (by decide +kernel) (by decide +kernel) rfl (fun w0 => ev_build_struct ty27 rfl pl27 rfl ((fill_put (i := 0) (off := 0) (n := 1) (vs := [.int .i64 (Rr.nVal r)]) rfl rfl rfl (Nat.le_of_ble_eq_true rfl)).trans ((fill_put (i := 1) (off := 1) (n := 1) (vs := [.int .i64 (Rr.nVal (Rr.nRest r))]) rfl rfl rfl (Nat.le_of_ble_eq_true rfl)).trans fill_nil))) rfl rfl (Sub.refl _) ?_
      refine at_eq (i := 11) (v' := .agg (Rt.rootC (Rr.nVal r) (Rr.nVal (Rr.nRest r)) []).toArray) rfl rfl ?_
      refine mx_one (i := 8) (by decide +kernel) (Sub.refl _) ?_
      refine wo (i := 8) rfl ?_
      refine st_store_all 3 ty27 rfl rfl rfl rfl rfl (Rt.rootC_one _ _ (fun x hx => by cases hx)) rfl rfl ?_
      refine op_nil ?_
      refine ax_then ?_
      refine mx_done (by decide +kernel) (Sub.refl _) ?_
      refine ax_fmap (h := 1) 1 rfl (fun w2 hh => (hx7.trans hx10).rd w2 hh) (hx7.trans hx10).blk (hx7.trans hx10).nil ?_
      exact at_met ((b3, x10)) (hx7.trans hx10) (.cons rfl (.cons rfl (.cons rfl (.nil _)))) (.cons rfl (.cons rfl (.cons rfl (.nil _)))) (.cons rfl (.cons rfl (.nil _)))
  ·
    obtain ⟨b3, x10⟩ := x
    dsimp only at hj ⊢
    refine cd_seq ?_
    refine cd_seq ?_
    refine cd_region ?_
    refine st (ev_move rfl) rfl rfl rfl ?_
    refine op_nil ?_
    refine ax_then ?_
    refine At.regs (L' := [(1, _), (2, _), (3, _), (12, _)]) (.cons rfl (.cons rfl (.cons rfl (.cons rfl (.nil _))))) ?_
    refine cd_block ?_
    refine at_rows_nil 200 ?_
    refine cd_loop (ι := List Rt.Rol × Bool × List Int × Value) (fun x => x.1.length ≤ 4 ∧ Rr.Und rv r x.2.2.2 x.2.2.1 ∧ Rt.RLoop false (bad || Rr.nBad r || Rr.nBad (Rr.nRest r)) (Rr.nRest (Rr.nRest r)) (Rt.kds x.1) x.2.1 x.2.2.1 ∧ (∀ y, y ∈ Rt.rowsR x.1 → ∀ b', b' ∈ blkOf y.1 → w.heap.size ≤ b') ∧ ∀ y, y ∈ x.1 → y.1.oneCell' = true) (fun x => 4 - x.1.length)
        (fun x => [(1, .pointer (some ⟨b1, 0, none⟩)), (2, .pointer (some ⟨b2, 0, none⟩)), (3, .pointer (some ⟨b3, 0, none⟩)), (12, .int .i64 (x.1.length : Nat))])
        (fun x => [(0, .blk (b) (.cells ([x.2.2.2, .bool (x.2.1)]).toArray 139)), (2, .blk (b2) (.cells ([.int .i64 0, .int .i64 0, .slice none 0 0, .int .i64 0, .slice none 0 0, .int .i64 0, .slice none 0 0, .int .i64 0, .slice none 0 0, .int .i64 0]).toArray 27)), (3, .blk (b3) (.cells (Rt.rootC (Rr.nVal r) (Rr.nVal (Rr.nRest r)) x.1).toArray 27))])
        (fun x => [(1, .sl x.2.2.2 1 (ints .u8 x.2.2.1)), (5, .mem b1 0 [.pointer (some ⟨b, 0, none⟩)]), (200, .rows (Rt.rowsR x.1))])
        ([], (bad || Rr.nBad r || Rr.nBad (Rr.nRest r)), (Rr.nRest (Rr.nRest r)), x10) (⟨Nat.zero_le _, hj, Rt.RLoop.init _ _ _, (fun y hy => by cases hy), (fun y hy => by cases hy)⟩) (.cons rfl (.cons rfl (.cons rfl (.cons rfl (.nil _))))) (.cons rfl (.cons rfl (.cons rfl (.nil _)))) (.cons rfl (.cons rfl (.cons rfl (.nil _)))) (fun x hi => ?_)
    obtain ⟨l, bd, rc, v⟩ := x
    dsimp only at hi ⊢
    have hi1 := hi.1
    have hul := hi.2.1.len
    refine cd_seq ?_
    refine cd_region ?_
    refine st (ev_lss rfl rfl) rfl rfl rfl ?_
    refine op_nil ?_
    refine ax_then ?_
    refine At.regs (L' := [(1, _), (2, _), (3, _), (12, _), (13, _)]) (.cons rfl (.cons rfl (.cons rfl (.cons rfl (.cons rfl (.nil _)))))) ?_
    refine cd_seq ?_
    refine cd_if rfl (fun hc13 => ?_) (fun hc13 => ?_)
    ·
      have hlt : l.length < 4 := by omega
      refine cd_skip ?_
      refine ax_then ?_
      refine At.regs (L' := [(1, _), (2, _), (3, _), (12, _), (13, _)]) (.cons rfl (.cons rfl (.cons rfl (.cons rfl (.cons rfl (.nil _)))))) ?_
      refine cd_seq ?_
      refine cd_block ?_
      refine cd_seq ?_
      refine cd_region ?_
      refine st (ev_move rfl) rfl rfl rfl ?_
      refine st (ev_assign rfl) rfl rfl rfl ?_
      refine op_nil ?_
      refine ax_then ?_
      refine At.regs (L' := [(1, _), (2, _), (3, _), (4, _), (12, _), (13, _), (14, _)]) (.cons rfl (.cons rfl (.cons rfl (.cons rfl (.cons rfl (.cons rfl (.cons rfl (.nil _)))))))) ?_
      refine cd_region ?_
      refine st (ev_move rfl) rfl rfl rfl ?_
      refine st (ld_mem_all (h := 5) ty117 rfl rfl rfl rfl) rfl rfl rfl ?_
      refine st_call has85 rfl (fun w1 sw => rn2 0 117 (wkeys_any b v bd rc w1 (sw.blk_eq (h := 0) rfl) (sw.sl_rd (h := 1) rfl) (sw.off 1 _ 0 _ rfl rfl _ (by simp [Ent.ids])) (by omega) (hi.2.1.byt hB))) (mod_blk2 rfl) rfl rfl (fun x17 hx17 => ?_)
      obtain ⟨bd2, rc2, v2, kd, u⟩ := x17
      dsimp only at hx17 ⊢
      refine at_fmap (h := 1) 1 rfl (fun w1 hh => hx17.1.rd w1 hh) hx17.1.blk hx17.1.nil ?_
      refine at_own_shape (h := 117) rfl (fun hs117 => ?_)
      refine st (ev_fieldAddr (b := _) Try.underlying27 (f := _) rfl ty25 (by decide) rfl) rfl rfl rfl ?_
      refine st (ev_indexAddr_arr Try.underlying25 ty24 rfl rfl (by omega) (by omega)) rfl rfl rfl ?_
      refine st_store 3 ty24 rfl rfl rfl rfl rfl (by intro u0 hu0; simp at hu0; rcases hu0 with rfl | rfl; exact hs117.2; rfl) (by rw [Rt.rootC_len _ _ (by omega), Int.toNat_natCast]; show 0 + 2 + l.length * 2 + 2 ≤ 10; omega) rfl ?_
      refine at_heq (i := 3) (v' := .blk (b3) (.cells (Rt.rootC (Rr.nVal r) (Rr.nVal (Rr.nRest r)) (l ++ [(u, kd)])).toArray 27)) rfl (by rw [← Rt.rootC_set _ _ (by omega) (u, kd), Int.toNat_natCast]; rfl) ?_
      refine op_nil ?_
      refine ax_block ?_
      refine ax_then ?_
      refine At.regs (L' := [(1, _), (2, _), (3, _), (4, _), (12, _), (13, _), (14, _), (15, _), (16, _), (17, _), (18, _), (19, _)]) (.cons rfl (.cons rfl (.cons rfl (.cons rfl (.cons rfl (.cons rfl (.cons rfl (.cons rfl (.cons rfl (.cons rfl (.cons rfl (.cons rfl (.nil _))))))))))))) ?_
      refine at_rows_own (h := 117) (i := 200) (H' := [(0, _), (2, _), (3, _)]) rfl rfl (.cons rfl (.cons rfl (.cons rfl (.nil _)))) rfl (fun b' hb' => ⟨0, _, rfl, by simpa [Ent.ids] using hb'⟩) (fun hf => ?_)
      refine cd_region ?_
      refine st (ev_add64 rfl rfl (by omega) (by omega)) rfl rfl rfl ?_
      refine st (ev_move rfl) rfl rfl rfl ?_
      refine op_nil ?_
      refine ax_eq (i := 12) (v' := .int .i64 ((l ++ [(u, kd)]).length : Nat)) rfl (by rw [List.length_append]; rfl) ?_
      refine ax_rows (i := 200) (rs' := Rt.rowsR (l ++ [(u, kd)])) rfl (fun y hy => ((Rt.rowsR_snoc l (u, kd) y).1 hy).elim (fun e => e ▸ List.mem_cons_self ..) (fun h => List.mem_cons_of_mem _ h)) ?_
      exact at_again ((l ++ [(u, kd)], bd2, rc2, v2)) (⟨by show (l ++ [(u, kd)]).length ≤ 4; rw [List.length_append]; simp; omega, hi.2.1.trans hx17.1, by show Rt.RLoop false (bad || Rr.nBad r || Rr.nBad (Rr.nRest r)) (Rr.nRest (Rr.nRest r)) (Rt.kds (l ++ [(u, kd)])) bd2 rc2; rw [Rt.kds_snoc]; exact hi.2.2.1.step hx17.2, (fun y hy => by rcases (Rt.rowsR_snoc l (u, kd) y).1 hy with rfl | hy; exact hf; exact hi.2.2.2.1 y hy), (fun y hy => by rcases List.mem_append.1 hy with hy | hy; exact hi.2.2.2.2 y hy; rw [List.mem_singleton.1 hy]; exact hs117.2)⟩) (by show 4 - (l ++ [(u, kd)]).length < 4 - l.length; rw [List.length_append]; simp; omega) (.cons rfl (.cons rfl (.cons rfl (.cons rfl (.nil _))))) (.cons rfl (.cons rfl (.cons rfl (.nil _)))) (.cons rfl (.cons rfl (.cons rfl (.nil _))))
    ·
      have hl4 : l.length = 4 := by omega
      refine cd_exit ?_
      refine ax_then_exit ?_
      refine ax_then_exit ?_
      refine ax_block_hit ?_
      refine ax_then ?_
      refine At.regs (L' := [(2, _), (3, _)]) (.cons rfl (.cons rfl (.nil _))) ?_
      refine cd_seq ?_
      refine cd_region ?_
      refine st (ld_blk_all (h := 3) ty27 rfl rfl rfl (Rt.rootC_len _ _ (by omega))) rfl rfl rfl ?_
      refine st_store_all 2 ty27 rfl rfl rfl rfl (Rt.rootC_len _ _ (by omega)) (Rt.rootC_one _ _ hi.2.2.2.2) rfl rfl ?_
      refine op_nil ?_
      refine ax_then ?_
      refine At.regs (L' := [(2, _)]) (.cons rfl (.nil _)) ?_
      refine cd_ret ?_
      refine rt_cell (h0 := 2) (.inl rfl) Try.results56 ty27 rfl rfl rfl (Rt.rootC_len _ _ (by omega)) ?_
      exact fun w1 sw => ⟨(l, bd, rc, v), ⟨hl4, hi.2.2.2.2, hi.2.1, Rt.rrel hB (by rw [Rt.kds_len]; exact hl4) hi.2.2.1⟩, rfl, sw.gives (N := [(0, _)]) (.cons rfl (.nil _)), (fun y hy => ⟨sw.rd 200 _ rfl y hy, hi.2.2.2.1 y hy⟩), fun h e hh b' hb' => by
        obtain ⟨rfl, rfl⟩ := lk_one hh
        exact sw.off 200 _ 0 _ rfl rfl b' hb'⟩
end Go.Proofs.Ytgfnmolbagilmaa

namespace Go.Proofs.Ytgfnmolbagilmaa
open Go Go.RowKit Fw
open Sha
open Ots
open Mk
set_option linter.unusedVariables false
set_option linter.unusedSimpArgs false
set_option maxRecDepth 20000 in
set_option maxHeartbeats 2000000 in
theorem wiskeys_any (sv : Value) (ks : List (List Int)) (need : Int) (w : World) (hu : H32 ks) (hs0 : ks.length ≤ 140737488352000) (h : Rd w sv 32 (flat ks)) : Calls Try.prog 86 #[.agg (List.toArray [sv, .int .i64 need])] w (PostV w (.bool (decide (isK ks need)))) := by
  refine calls_at (vs := [.agg (List.toArray [sv, .int .i64 need])]) (X := []) (H := []) (F := [(20, .sl (sv) 32 (flat (ks)))]) 43 Try.func86 rfl rfl rfl (Sat.rd0 20 h) ?_
  refine cd_seq ?_
  refine cd_region ?_
  refine st_box (h := 1) rfl rfl rfl rfl (fun b1 => ?_)
  refine st (ev_assign rfl) rfl rfl rfl ?_
  refine op_nil ?_
  refine ax_then ?_
  refine At.regs (L' := [(1, _), (2, _)]) (.cons rfl (.cons rfl (.nil _))) ?_
  refine cd_seq ?_
  refine cd_seq ?_
  refine cd_region ?_
  refine st (ev_fieldAddr (b := _) Try.underlying24 (f := _) rfl ty22 (by decide) rfl) rfl rfl rfl ?_
  refine st (ld_blk1 (h := 1) ty22 rfl rfl rfl rfl) rfl rfl rfl ?_
  refine st (ev_len_rdh (h := 20) Try.underlying22 rfl rfl (by assumption)) rfl rfl rfl ?_
  refine st (ev_lss rfl rfl) rfl rfl rfl ?_
  refine st (ev_move rfl) rfl rfl rfl ?_
  refine at_split_if (i := 9) rfl (fun hg9 => ?_) (fun hg9 => ?_)
  ·
    refine st_skip rfl rfl rfl ?_
    refine st_skip rfl rfl rfl ?_
    refine st_skip rfl rfl rfl ?_
    refine st_skip rfl rfl rfl ?_
    refine st (ev_pick_t rfl rfl) rfl rfl rfl ?_
    refine st (ev_move rfl) rfl rfl rfl ?_
    refine st_skip rfl rfl rfl ?_
    refine st_skip rfl rfl rfl ?_
    refine st_skip rfl rfl rfl ?_
    refine st (ev_pick_t rfl rfl) rfl rfl rfl ?_
    refine st (ev_move rfl) rfl rfl rfl ?_
    refine st_skip rfl rfl rfl ?_
    refine st_skip rfl rfl rfl ?_
    refine st_skip rfl rfl rfl ?_
    refine st_skip rfl rfl rfl ?_
    refine st_skip rfl rfl rfl ?_
    refine st_skip rfl rfl rfl ?_
    refine st (ev_pick_t rfl rfl) rfl rfl rfl ?_
    refine op_nil ?_
    refine ax_then ?_
    refine At.regs (L' := [(1, _), (2, _), (27, _)]) (.cons rfl (.cons rfl (.cons rfl (.nil _)))) ?_
    refine cd_true rfl ?_
    refine cd_seq ?_
    refine cd_region ?_
    refine st (ev_assign rfl) rfl rfl rfl ?_
    refine op_nil ?_
    refine ax_then ?_
    refine At.regs (L' := [(1, _), (2, _)]) (.cons rfl (.cons rfl (.nil _))) ?_
    refine cd_ret ?_
    refine ax_then_ret ?_
    refine rt_tmp (.inl rfl) Try.results86 rfl ?_
    exact fun w1 sw => ⟨congrArg (fun b => Ending.returned (Value.bool b)) (decide_eq_false (fun hh => by obtain ⟨_, a1, a2, a3, a4⟩ := hh; omega)).symm, sw.gives (.nil _)⟩
  ·
    refine st (ev_fieldAddr (b := _) Try.underlying24 (f := _) rfl ty22 (by decide) rfl) rfl rfl rfl ?_
    refine st (ld_blk1 (h := 1) ty22 rfl rfl rfl rfl) rfl rfl rfl ?_
    refine st (ev_len_rdh (h := 20) Try.underlying22 rfl rfl (by assumption)) rfl rfl rfl ?_
    refine st (ev_gtr rfl rfl) rfl rfl rfl ?_
    refine st (ev_pick_f rfl rfl) rfl rfl rfl ?_
    refine st (ev_move rfl) rfl rfl rfl ?_
    refine at_split_if (i := 15) rfl (fun hg15 => ?_) (fun hg15 => ?_)
    ·
      refine st_skip rfl rfl rfl ?_
      refine st_skip rfl rfl rfl ?_
      refine st_skip rfl rfl rfl ?_
      refine st (ev_pick_t rfl rfl) rfl rfl rfl ?_
      refine st (ev_move rfl) rfl rfl rfl ?_
      refine st_skip rfl rfl rfl ?_
      refine st_skip rfl rfl rfl ?_
      refine st_skip rfl rfl rfl ?_
      refine st_skip rfl rfl rfl ?_
      refine st_skip rfl rfl rfl ?_
      refine st_skip rfl rfl rfl ?_
      refine st (ev_pick_t rfl rfl) rfl rfl rfl ?_
      refine op_nil ?_
      refine ax_then ?_
      refine At.regs (L' := [(1, _), (2, _), (27, _)]) (.cons rfl (.cons rfl (.cons rfl (.nil _)))) ?_
      refine cd_true rfl ?_
      refine cd_seq ?_
      refine cd_region ?_
      refine st (ev_assign rfl) rfl rfl rfl ?_
      refine op_nil ?_
      refine ax_then ?_
      refine At.regs (L' := [(1, _), (2, _)]) (.cons rfl (.cons rfl (.nil _))) ?_
      refine cd_ret ?_
      refine ax_then_ret ?_
      refine rt_tmp (.inl rfl) Try.results86 rfl ?_
      exact fun w1 sw => ⟨congrArg (fun b => Ending.returned (Value.bool b)) (decide_eq_false (fun hh => by obtain ⟨_, a1, a2, a3, a4⟩ := hh; omega)).symm, sw.gives (.nil _)⟩
    ·
      refine st (ev_fieldAddr (b := _) Try.underlying24 (f := _) rfl ty3 (by decide) rfl) rfl rfl rfl ?_
      refine st (ld_blk1 (h := 1) ty3 rfl rfl rfl rfl) rfl rfl rfl ?_
      refine st (ev_lss rfl rfl) rfl rfl rfl ?_
      refine st (ev_pick_f rfl rfl) rfl rfl rfl ?_
      refine st (ev_move rfl) rfl rfl rfl ?_
      refine at_split_if (i := 20) rfl (fun hg20 => ?_) (fun hg20 => ?_)
      ·
        refine st_skip rfl rfl rfl ?_
        refine st_skip rfl rfl rfl ?_
        refine st_skip rfl rfl rfl ?_
        refine st_skip rfl rfl rfl ?_
        refine st_skip rfl rfl rfl ?_
        refine st_skip rfl rfl rfl ?_
        refine st (ev_pick_t rfl rfl) rfl rfl rfl ?_
        refine op_nil ?_
        refine ax_then ?_
        refine At.regs (L' := [(1, _), (2, _), (27, _)]) (.cons rfl (.cons rfl (.cons rfl (.nil _)))) ?_
        refine cd_true rfl ?_
        refine cd_seq ?_
        refine cd_region ?_
        refine st (ev_assign rfl) rfl rfl rfl ?_
        refine op_nil ?_
        refine ax_then ?_
        refine At.regs (L' := [(1, _), (2, _)]) (.cons rfl (.cons rfl (.nil _))) ?_
        refine cd_ret ?_
        refine ax_then_ret ?_
        refine rt_tmp (.inl rfl) Try.results86 rfl ?_
        exact fun w1 sw => ⟨congrArg (fun b => Ending.returned (Value.bool b)) (decide_eq_false (fun hh => by obtain ⟨_, a1, a2, a3, a4⟩ := hh; omega)).symm, sw.gives (.nil _)⟩
      ·
        refine st (ev_fieldAddr (b := _) Try.underlying24 (f := _) rfl ty3 (by decide) rfl) rfl rfl rfl ?_
        refine st (ld_blk1 (h := 1) ty3 rfl rfl rfl rfl) rfl rfl rfl ?_
        refine st (ev_fieldAddr (b := _) Try.underlying24 (f := _) rfl ty22 (by decide) rfl) rfl rfl rfl ?_
        refine st (ld_blk1 (h := 1) ty22 rfl rfl rfl rfl) rfl rfl rfl ?_
        refine st (ev_len_rdh (h := 20) Try.underlying22 rfl rfl (by assumption)) rfl rfl rfl ?_
        refine st (ev_gtr rfl rfl) rfl rfl rfl ?_
        refine st (ev_pick_f rfl rfl) rfl rfl rfl ?_
        refine op_nil ?_
        refine ax_then ?_
        refine At.regs (L' := [(1, _), (2, _), (27, _)]) (.cons rfl (.cons rfl (.cons rfl (.nil _)))) ?_
        refine cd_if rfl (fun hc27 => ?_) (fun hc27 => ?_)
        ·
          refine cd_seq ?_
          refine cd_region ?_
          refine st (ev_assign rfl) rfl rfl rfl ?_
          refine op_nil ?_
          refine ax_then ?_
          refine At.regs (L' := [(1, _), (2, _)]) (.cons rfl (.cons rfl (.nil _))) ?_
          refine cd_ret ?_
          refine ax_then_ret ?_
          refine rt_tmp (.inl rfl) Try.results86 rfl ?_
          exact fun w1 sw => ⟨congrArg (fun b => Ending.returned (Value.bool b)) (decide_eq_false (fun hh => by obtain ⟨_, a1, a2, a3, a4⟩ := hh; omega)).symm, sw.gives (.nil _)⟩
        ·
          have hbas : bas ks need := ⟨by omega, by omega, by omega, by omega⟩
          refine cd_skip ?_
          refine ax_then ?_
          refine At.regs (L' := [(1, _), (2, _)]) (.cons rfl (.cons rfl (.nil _))) ?_
          refine cd_seq ?_
          refine cd_seq ?_
          refine cd_region ?_
          refine st (ev_fieldAddr (b := _) Try.underlying24 (f := _) rfl ty22 (by decide) rfl) rfl rfl rfl ?_
          refine st (ld_blk1 (h := 1) ty22 rfl rfl rfl rfl) rfl rfl rfl ?_
          refine st (ev_len_rdh (h := 20) Try.underlying22 rfl rfl (by assumption)) rfl rfl rfl ?_
          refine st (ev_move rfl) rfl rfl rfl ?_
          refine op_nil ?_
          refine ax_then ?_
          refine At.regs (L' := [(1, _), (2, _), (29, _), (30, _), (31, _)]) (.cons rfl (.cons rfl (.cons rfl (.cons rfl (.cons rfl (.nil _)))))) ?_
          refine cd_block ?_
          refine cd_loop (ι := Nat) (fun i => i ≤ ks.length ∧ ∀ a, a < i → ¬ 0 ≤ idx (ks.take a) (ks.getD a [])) (fun i => ks.length - i)
              (fun i => [(1, .pointer (some ⟨b1, 0, none⟩)), (29, sv), (30, .int .i64 (ks.length : Nat)), (31, .int .i64 (i : Int))])
              (fun i => [(1, .blk b1 (.cells ([sv, .int .i64 need]).toArray 24))])
              (fun i => [(20, .sl (sv) 32 (flat (ks)))])
              0 (⟨by omega, fun j hj => by omega⟩) (.cons rfl (.cons rfl (.cons rfl (.cons rfl (.nil _))))) (.cons rfl (.nil _)) (.cons rfl (.nil _)) (fun i hi => ?_)
          have hi1 := hi.1
          have e0 : (i : Int).toNat = i := by omega
          refine cd_seq ?_
          refine cd_region ?_
          refine st (ev_lss rfl rfl) rfl rfl rfl ?_
          refine op_nil ?_
          refine ax_then ?_
          refine At.regs (L' := [(1, _), (29, _), (30, _), (31, _), (32, _)]) (.cons rfl (.cons rfl (.cons rfl (.cons rfl (.cons rfl (.nil _)))))) ?_
          refine cd_seq ?_
          refine cd_if rfl (fun hc32 => ?_) (fun hc32 => ?_)
          ·
            refine cd_skip ?_
            refine ax_then ?_
            refine At.regs (L' := [(1, _), (29, _), (30, _), (31, _), (32, _)]) (.cons rfl (.cons rfl (.cons rfl (.cons rfl (.cons rfl (.nil _)))))) ?_
            refine cd_seq ?_
            refine cd_block ?_
            refine cd_seq ?_
            refine cd_region ?_
            refine st (ev_move rfl) rfl rfl rfl ?_
            refine st (ev_indexAddr_rdh (h := 20) Try.underlying22 ty55 rfl rfl rfl (by assumption) (by omega) (by omega)) rfl rfl rfl ?_
            refine st (ld_rdh (h := 20) ty55 rfl rfl rfl (by assumption) (by omega)) rfl rfl rfl ?_
            refine at_eq (i := 35) (v' := .agg (ints .u8 (ks.getD i [])).toArray) rfl (by rw [e0]) ?_
            have hgl := hu.get (i := i) (by omega)
            refine st_alloc (h := 4) ty55 rfl rfl rfl (fun b4 => ?_)
            refine st (ev_assign rfl) rfl rfl rfl ?_
            refine st_store_all 4 ty55 rfl rfl rfl rfl (by first | omega | (simp only [List.length_append, List.length_cons, List.length_nil, List.length_set, List.length_replicate, List.length_take, List.length_drop, ints_length, wr_length, sha_len, node_len, recov_len, Ky.named_len, Ky.keyPub_len, Ky.hashOf_len] <;> omega) | rfl) (ints_one _ _) (by first | omega | (simp only [List.length_append, List.length_cons, List.length_nil, List.length_set, List.length_replicate, List.length_take, List.length_drop, ints_length, wr_length, sha_len, node_len, recov_len, Ky.named_len, Ky.keyPub_len, Ky.hashOf_len] <;> omega) | rfl) rfl ?_
            refine op_nil ?_
            refine ax_then ?_
            refine At.regs (L' := [(1, _), (3, _), (4, _), (29, _), (30, _), (31, _), (32, _), (33, _), (34, _), (35, _)]) (.cons rfl (.cons rfl (.cons rfl (.cons rfl (.cons rfl (.cons rfl (.cons rfl (.cons rfl (.cons rfl (.cons rfl (.nil _))))))))))) ?_
            refine cd_seq ?_
            refine cd_open hmix (by decide +kernel) ?_
            refine qt (ev_fieldAddr (b := _) Try.underlying24 (f := _) rfl ty22 (by decide) rfl) rfl rfl rfl ?_
            refine qt (ld_blk1 (h := 1) ty22 rfl rfl rfl rfl) rfl rfl rfl ?_
            refine qt (ev_move rfl) rfl rfl rfl ?_
            refine qt (ev_sliceh_hi Try.underlying22 ty55 rfl rfl (fun w1 sw => sw.sl_rd (h := 20) rfl) (by assumption) (by omega) (by first | omega | (simp only [List.length_append, List.length_cons, List.length_nil, List.length_set, List.length_replicate, List.length_take, List.length_drop, ints_length, wr_length, sha_len, node_len, recov_len, Ky.named_len, Ky.keyPub_len, Ky.hashOf_len] <;> omega))) rfl rfl rfl ?_
            refine qt_eq (i := 39) (v' := cutAt 32 sv 0 i) rfl (by rw [e0]) ?_
            refine qt (ld_blk_all (h := 4) ty55 rfl rfl rfl (by first | omega | (simp only [List.length_append, List.length_cons, List.length_nil, List.length_set, List.length_replicate, List.length_take, List.length_drop, ints_length, wr_length, sha_len, node_len, recov_len, Ky.named_len, Ky.keyPub_len, Ky.hashOf_len] <;> omega) | rfl)) rfl rfl rfl ?_
            refine qt_callv has89 rfl (fun w1 sw => contains_any (cutAt 32 sv 0 i) (ks.take i) (ks.getD i []) w1 (hu.take i) hgl (by rw [List.length_take]; omega) (takeh (sw.sl_rd (h := 20) rfl) hu (by omega))) rfl rfl ?_
            refine qt_end ?_
            refine op_nil ?_
            refine ax_then ?_
            refine At.regs (L' := [(1, _), (3, _), (4, _), (29, _), (30, _), (31, _), (32, _), (33, _), (34, _), (35, _), (36, _), (37, _), (38, _), (39, _), (40, _), (41, _)]) (.cons rfl (.cons rfl (.cons rfl (.cons rfl (.cons rfl (.cons rfl (.cons rfl (.cons rfl (.cons rfl (.cons rfl (.cons rfl (.cons rfl (.cons rfl (.cons rfl (.cons rfl (.cons rfl (.nil _))))))))))))))))) ?_
            refine cd_if rfl (fun hc41 => ?_) (fun hc41 => ?_)
            ·
              refine cd_seq ?_
              refine cd_region ?_
              refine st (ev_assign rfl) rfl rfl rfl ?_
              refine op_nil ?_
              refine ax_then ?_
              refine At.regs (L' := [(1, _), (2, _), (3, _), (4, _), (29, _), (30, _), (31, _), (32, _), (33, _), (34, _), (35, _), (36, _), (37, _), (38, _), (39, _), (40, _), (41, _)]) (.cons rfl (.cons rfl (.cons rfl (.cons rfl (.cons rfl (.cons rfl (.cons rfl (.cons rfl (.cons rfl (.cons rfl (.cons rfl (.cons rfl (.cons rfl (.cons rfl (.cons rfl (.cons rfl (.cons rfl (.nil _)))))))))))))))))) ?_
              refine cd_ret ?_
              refine ax_block_ret ?_
              refine ax_then_ret ?_
              refine ax_then_ret ?_
              refine ax_block_ret ?_
              refine ax_then_ret ?_
              refine rt_tmp (.inl rfl) Try.results86 rfl ?_
              exact fun w1 sw => ⟨congrArg (fun b => Ending.returned (Value.bool b)) (decide_eq_false (fun hh => hh.1 i (by omega) hc41)).symm, sw.gives (.nil _)⟩
            ·
              refine cd_skip ?_
              refine ax_block ?_
              refine ax_then ?_
              refine At.regs (L' := [(1, _), (3, _), (4, _), (29, _), (30, _), (31, _), (32, _), (33, _), (34, _), (35, _), (36, _), (37, _), (38, _), (39, _), (40, _), (41, _)]) (.cons rfl (.cons rfl (.cons rfl (.cons rfl (.cons rfl (.cons rfl (.cons rfl (.cons rfl (.cons rfl (.cons rfl (.cons rfl (.cons rfl (.cons rfl (.cons rfl (.cons rfl (.cons rfl (.nil _))))))))))))))))) ?_
              refine cd_region ?_
              refine st (ev_add64 rfl rfl (by omega) (by omega)) rfl rfl rfl ?_
              refine st (ev_move rfl) rfl rfl rfl ?_
              refine op_nil ?_
              exact at_again (i + 1) (⟨by omega, fun j hj => (Nat.lt_succ_iff_lt_or_eq.1 hj).elim (hi.2 j) (fun e => by subst e; exact hc41)⟩) (by omega) (.cons rfl (.cons rfl (.cons rfl (.cons rfl (.nil _))))) (.cons rfl (.nil _)) (.cons rfl (.nil _))
          ·
            obtain rfl : i = ks.length := by omega
            refine cd_exit ?_
            refine ax_then_exit ?_
            refine ax_then_exit ?_
            refine ax_block_hit ?_
            refine ax_then ?_
            refine At.regs (L' := []) (.nil _) ?_
            refine cd_seq ?_
            refine cd_region ?_
            refine st (ev_assign rfl) rfl rfl rfl ?_
            refine op_nil ?_
            refine ax_then ?_
            refine At.regs (L' := [(2, _)]) (.cons rfl (.nil _)) ?_
            refine cd_ret ?_
            refine rt_tmp (.inl rfl) Try.results86 rfl ?_
            exact fun w1 sw => ⟨congrArg (fun b => Ending.returned (Value.bool b)) (decide_eq_true ⟨hi.2, hbas.1, hbas.2.1, hbas.2.2.1, hbas.2.2.2⟩).symm, sw.gives (.nil _)⟩
set_option maxRecDepth 20000 in
set_option maxHeartbeats 1000000 in
theorem wver_any (n : Int) (w : World) : Calls Try.prog 87 #[.int .i64 n] w (PostV w (.bool (decide (1 ≤ n ∧ n ≤ 1073741824)))) := by
  refine calls_at (vs := [.int .i64 n]) (X := []) (H := []) (F := []) 9 Try.func87 rfl rfl rfl (Sat.start0 w) ?_
  refine cd_seq ?_
  refine cd_region ?_
  refine st (ev_assign rfl) rfl rfl rfl ?_
  refine op_nil ?_
  refine ax_then ?_
  refine At.regs (L' := [(0, _), (2, _)]) (.cons rfl (.cons rfl (.nil _))) ?_
  refine cd_seq ?_
  refine cd_region ?_
  refine st (ev_move rfl) rfl rfl rfl ?_
  refine st (ev_geq rfl rfl) rfl rfl rfl ?_
  refine st (ev_move rfl) rfl rfl rfl ?_
  refine at_split_if (i := 5) rfl (fun hg5 => ?_) (fun hg5 => ?_)
  ·
    refine st (ev_move rfl) rfl rfl rfl ?_
    refine st (ev_leq rfl rfl) rfl rfl rfl ?_
    refine st (ev_pick_t rfl rfl) rfl rfl rfl ?_
    refine st (ev_assign rfl) rfl rfl rfl ?_
    refine op_nil ?_
    refine ax_then ?_
    refine At.regs (L' := [(2, _)]) (.cons rfl (.nil _)) ?_
    refine cd_ret ?_
    refine rt_tmp (.inl rfl) Try.results87 rfl ?_
    exact fun w1 sw => ⟨congrArg (fun b => Ending.returned (Value.bool b)) (by first | exact (decide_eq_false (fun hh => hg5 hh.1)).symm | exact decide_eq_decide.2 ⟨fun hh => ⟨hg5, hh⟩, fun hh => hh.2⟩), sw.gives (.nil _)⟩
  ·
    refine st_skip rfl rfl rfl ?_
    refine st_skip rfl rfl rfl ?_
    refine st (ev_pick_f rfl rfl) rfl rfl rfl ?_
    refine st (ev_assign rfl) rfl rfl rfl ?_
    refine op_nil ?_
    refine ax_then ?_
    refine At.regs (L' := [(2, _)]) (.cons rfl (.nil _)) ?_
    refine cd_ret ?_
    refine rt_tmp (.inl rfl) Try.results87 rfl ?_
    exact fun w1 sw => ⟨congrArg (fun b => Ending.returned (Value.bool b)) (by first | exact (decide_eq_false (fun hh => hg5 hh.1)).symm | exact decide_eq_decide.2 ⟨fun hh => ⟨hg5, hh⟩, fun hh => hh.2⟩), sw.gives (.nil _)⟩
set_option maxRecDepth 20000 in
set_option maxHeartbeats 1000000 in
theorem wnum0_any (n : Int) (w : World) : Calls Try.prog 88 #[.int .i64 n] w (PostV w (.bool (decide (0 ≤ n ∧ n ≤ 1073741824)))) := by
  refine calls_at (vs := [.int .i64 n]) (X := []) (H := []) (F := []) 9 Try.func88 rfl rfl rfl (Sat.start0 w) ?_
  refine cd_seq ?_
  refine cd_region ?_
  refine st (ev_assign rfl) rfl rfl rfl ?_
  refine op_nil ?_
  refine ax_then ?_
  refine At.regs (L' := [(0, _), (2, _)]) (.cons rfl (.cons rfl (.nil _))) ?_
  refine cd_seq ?_
  refine cd_region ?_
  refine st (ev_move rfl) rfl rfl rfl ?_
  refine st (ev_geq rfl rfl) rfl rfl rfl ?_
  refine st (ev_move rfl) rfl rfl rfl ?_
  refine at_split_if (i := 5) rfl (fun hg5 => ?_) (fun hg5 => ?_)
  ·
    refine st (ev_move rfl) rfl rfl rfl ?_
    refine st (ev_leq rfl rfl) rfl rfl rfl ?_
    refine st (ev_pick_t rfl rfl) rfl rfl rfl ?_
    refine st (ev_assign rfl) rfl rfl rfl ?_
    refine op_nil ?_
    refine ax_then ?_
    refine At.regs (L' := [(2, _)]) (.cons rfl (.nil _)) ?_
    refine cd_ret ?_
    refine rt_tmp (.inl rfl) Try.results88 rfl ?_
    exact fun w1 sw => ⟨congrArg (fun b => Ending.returned (Value.bool b)) (by first | exact (decide_eq_false (fun hh => hg5 hh.1)).symm | exact decide_eq_decide.2 ⟨fun hh => ⟨hg5, hh⟩, fun hh => hh.2⟩), sw.gives (.nil _)⟩
  ·
    refine st_skip rfl rfl rfl ?_
    refine st_skip rfl rfl rfl ?_
    refine st (ev_pick_f rfl rfl) rfl rfl rfl ?_
    refine st (ev_assign rfl) rfl rfl rfl ?_
    refine op_nil ?_
    refine ax_then ?_
    refine At.regs (L' := [(2, _)]) (.cons rfl (.nil _)) ?_
    refine cd_ret ?_
    refine rt_tmp (.inl rfl) Try.results88 rfl ?_
    exact fun w1 sw => ⟨congrArg (fun b => Ending.returned (Value.bool b)) (by first | exact (decide_eq_false (fun hh => hg5 hh.1)).symm | exact decide_eq_decide.2 ⟨fun hh => ⟨hg5, hh⟩, fun hh => hh.2⟩), sw.gives (.nil _)⟩
theorem ext_rols {l : List Rt.Rol} {i : Nat} (hi : i < l.length) : (Rt.rolsC l).toArray.extract (i * 2) (i * 2 + 2) = (List.toArray [(l.getD i Rt.rol0).1, .int .i64 (l.getD i Rt.rol0).2.need]) := by
  have h := Rt.rolsC_get hi
  have e : (Rt.rolsC l).toArray.extract (i * 2) (i * 2 + 2) = (((Rt.rolsC l).drop (i * 2)).take 2).toArray := by
    apply Array.ext'
    rw [Array.toList_extract]
    simp [List.extract]
  rw [e, h]
  rfl
set_option maxRecDepth 20000 in
set_option maxHeartbeats 4000000 in
theorem wisroot_any (ver exp : Int) (l : List Rt.Rol) (w : World) (hl : l.length = 4) (hone : ∀ x, x ∈ l → x.1.oneCell' = true) (hu : ∀ k, k ∈ Rt.kds l → H32 k.ks) (hkl : ∀ k, k ∈ Rt.kds l → k.ks.length ≤ 140737488352000) (h : ∀ y, y ∈ Rt.rowsR l → Rd w y.1 y.2.1 y.2.2) : Calls Try.prog 57 #[.agg (List.toArray (Rt.rootC ver exp l))] w (PostV w (.bool (decide (Rt.isRt (⟨ver, exp, Rt.kds l⟩ : Rt.RT))))) := by
  refine calls_at (vs := [.agg (List.toArray (Rt.rootC ver exp l))]) (X := []) (H := []) (F := [(200, .rows (Rt.rowsR l))]) 22 Try.func57 rfl rfl rfl ((Sat.start0 w).read (f := .rows (Rt.rowsR l)) 200 h off_nil) ?_
  refine cd_seq ?_
  refine cd_region ?_
  refine st_box (h := 1) rfl rfl rfl rfl (fun b1 => ?_)
  refine st (ev_assign rfl) rfl rfl rfl ?_
  refine op_nil ?_
  refine ax_then ?_
  refine At.regs (L' := [(1, _), (2, _)]) (.cons rfl (.cons rfl (.nil _))) ?_
  refine cd_seq ?_
  refine cd_seq ?_
  refine cd_region ?_
  refine st (ev_fieldAddr (b := _) Try.underlying27 (f := _) rfl ty25 (by decide) rfl) rfl rfl rfl ?_
  refine st (ld_blk (h := 1) ty25 rfl rfl rfl (by rw [Rt.rootC_len _ _ (by omega)]; decide)) rfl rfl rfl ?_
  refine at_eq (i := 6) (v' := .agg (List.toArray (Rt.rolsC l))) rfl (congrArg (fun x => Value.agg (List.toArray x)) (Rt.rootC_rols _ _ hl)) ?_
  refine st (ev_move rfl) rfl rfl rfl ?_
  refine op_nil ?_
  refine ax_then ?_
  refine At.regs (L' := [(1, _), (2, _), (6, _), (7, _)]) (.cons rfl (.cons rfl (.cons rfl (.cons rfl (.nil _))))) ?_
  refine cd_block ?_
  refine cd_loop (ι := Nat) (fun i => i ≤ 4 ∧ ∀ j, j < i → isK (l.getD j Rt.rol0).2.ks (l.getD j Rt.rol0).2.need) (fun i => 4 - i)
      (fun i => [(1, .pointer (some ⟨b1, 0, none⟩)), (6, .agg (List.toArray (Rt.rolsC l))), (7, .int .i64 (i : Int))])
      (fun i => [(1, .blk (b1) (.cells (Rt.rootC ver exp l).toArray 27))])
      (fun i => [(200, .rows (Rt.rowsR l))])
      0 (⟨by omega, fun j hj => by omega⟩) (.cons rfl (.cons rfl (.cons rfl (.nil _)))) (.cons rfl (.nil _)) (.cons rfl (.nil _)) (fun i hi => ?_)
  have hi1 := hi.1
  have e0 : (i : Int).toNat = i := by omega
  refine cd_seq ?_
  refine cd_region ?_
  refine st (ev_lss rfl rfl) rfl rfl rfl ?_
  refine op_nil ?_
  refine ax_then ?_
  refine At.regs (L' := [(1, _), (6, _), (7, _), (8, _)]) (.cons rfl (.cons rfl (.cons rfl (.cons rfl (.nil _))))) ?_
  refine cd_seq ?_
  refine cd_if rfl (fun hc8 => ?_) (fun hc8 => ?_)
  ·
    have hlt : i < 4 := by omega
    have hoi : (l.getD i Rt.rol0).1.oneCell' = true := hone _ (by rw [List.getD_eq_getElem?_getD, List.getElem?_eq_getElem (by omega)]; exact List.getElem_mem _)
    refine cd_skip ?_
    refine ax_then ?_
    refine At.regs (L' := [(1, _), (6, _), (7, _), (8, _)]) (.cons rfl (.cons rfl (.cons rfl (.cons rfl (.nil _))))) ?_
    refine cd_seq ?_
    refine cd_block ?_
    refine cd_seq ?_
    refine cd_region ?_
    refine st (ev_index Try.underlying25 ty24 rfl rfl rfl (by omega) (by omega)) rfl rfl rfl ?_
    refine at_eq (i := 9) (v' := .agg (List.toArray [(l.getD i Rt.rol0).1, .int .i64 (l.getD i Rt.rol0).2.need])) rfl (congrArg Value.agg (by rw [e0]; exact ext_rols (by omega))) ?_
    refine st_alloc (h := 4) ty24 rfl rfl rfl (fun b4 => ?_)
    refine st_store_all 4 ty24 rfl rfl rfl rfl rfl (by intro u0 hu0; simp at hu0; rcases hu0 with rfl | rfl; simpa using hoi; rfl) rfl rfl ?_
    refine op_nil ?_
    refine ax_then ?_
    refine At.regs (L' := [(1, _), (4, _), (6, _), (7, _), (8, _), (9, _)]) (.cons rfl (.cons rfl (.cons rfl (.cons rfl (.cons rfl (.cons rfl (.nil _))))))) ?_
    refine cd_seq ?_
    refine cd_region ?_
    refine st (ld_blk_all (h := 4) ty24 rfl rfl rfl (by first | omega | (simp only [List.length_append, List.length_cons, List.length_nil, List.length_set, List.length_replicate, List.length_take, List.length_drop, ints_length, wr_length, sha_len, node_len, recov_len, Ky.named_len, Ky.keyPub_len, Ky.hashOf_len] <;> omega) | rfl)) rfl rfl rfl ?_
    refine st_callv has86 rfl (fun w1 sw => wiskeys_any (l.getD i Rt.rol0).1 (l.getD i Rt.rol0).2.ks (l.getD i Rt.rol0).2.need w1 (hu _ (Rt.kds_get (by omega))) (hkl _ (Rt.kds_get (by omega))) (sw.row (i := 200) rfl (Rt.rowsR_mem (by omega)))) rfl rfl ?_
    refine st (ev_not_if rfl) rfl rfl rfl ?_
    refine op_nil ?_
    refine ax_then ?_
    refine At.regs (L' := [(1, _), (4, _), (6, _), (7, _), (8, _), (9, _), (10, _), (11, _), (12, _)]) (.cons rfl (.cons rfl (.cons rfl (.cons rfl (.cons rfl (.cons rfl (.cons rfl (.cons rfl (.cons rfl (.nil _)))))))))) ?_
    refine cd_if rfl (fun hc12 => ?_) (fun hc12 => ?_)
    ·
      refine cd_seq ?_
      refine cd_region ?_
      refine st (ev_assign rfl) rfl rfl rfl ?_
      refine op_nil ?_
      refine ax_then ?_
      refine At.regs (L' := [(1, _), (2, _), (4, _), (6, _), (7, _), (8, _), (9, _), (10, _), (11, _), (12, _)]) (.cons rfl (.cons rfl (.cons rfl (.cons rfl (.cons rfl (.cons rfl (.cons rfl (.cons rfl (.cons rfl (.cons rfl (.nil _))))))))))) ?_
      refine cd_ret ?_
      refine ax_block_ret ?_
      refine ax_then_ret ?_
      refine ax_then_ret ?_
      refine ax_block_ret ?_
      refine ax_then_ret ?_
      refine rt_tmp (.inl rfl) Try.results57 rfl ?_
      exact fun w1 sw => ⟨congrArg (fun b => Ending.returned (Value.bool b)) (by exact (decide_eq_false (fun hh => hc12 (hh.1 _ (Rt.kds_get (by omega))))).symm), sw.gives (.nil _)⟩
    ·
      refine cd_skip ?_
      refine ax_block ?_
      refine ax_then ?_
      refine At.regs (L' := [(1, _), (4, _), (6, _), (7, _), (8, _), (9, _), (10, _), (11, _), (12, _)]) (.cons rfl (.cons rfl (.cons rfl (.cons rfl (.cons rfl (.cons rfl (.cons rfl (.cons rfl (.cons rfl (.nil _)))))))))) ?_
      refine cd_region ?_
      refine st (ev_add64 rfl rfl (by omega) (by omega)) rfl rfl rfl ?_
      refine st (ev_move rfl) rfl rfl rfl ?_
      refine op_nil ?_
      exact at_again (i + 1) (⟨by omega, fun j hj => (Nat.lt_succ_iff_lt_or_eq.1 hj).elim (hi.2 j) (fun e => by subst e; exact Classical.not_not.1 hc12)⟩) (by omega) (.cons rfl (.cons rfl (.cons rfl (.nil _)))) (.cons rfl (.nil _)) (.cons rfl (.nil _))
  ·
    obtain rfl : i = 4 := by omega
    have hall : ∀ k, k ∈ Rt.kds l → isK k.ks k.need := fun k hk => by
      obtain ⟨x, hx, rfl⟩ := List.mem_map.1 hk
      obtain ⟨j, hj, rfl⟩ := List.getElem_of_mem hx
      have := hi.2 j (by omega)
      rwa [List.getD_eq_getElem?_getD, List.getElem?_eq_getElem hj] at this
    refine cd_exit ?_
    refine ax_then_exit ?_
    refine ax_then_exit ?_
    refine ax_block_hit ?_
    refine ax_then ?_
    refine At.regs (L' := [(1, _)]) (.cons rfl (.nil _)) ?_
    refine cd_seq ?_
    refine cd_region ?_
    refine st (ev_fieldAddr (b := _) Try.underlying27 (f := _) rfl ty3 (by decide) rfl) rfl rfl rfl ?_
    refine st (ld_blk1 (h := 1) ty3 rfl rfl rfl rfl) rfl rfl rfl ?_
    refine st_callv has87 rfl (fun w1 sw => wver_any ver w1) rfl rfl ?_
    refine st (ev_move rfl) rfl rfl rfl ?_
    refine at_split_if (i := 17) rfl (fun hg17 => ?_) (fun hg17 => ?_)
    ·
      refine st (ev_fieldAddr (b := _) Try.underlying27 (f := _) rfl ty3 (by decide) rfl) rfl rfl rfl ?_
      refine st (ld_blk1 (h := 1) ty3 rfl rfl rfl rfl) rfl rfl rfl ?_
      refine st_callv has88 rfl (fun w1 sw => wnum0_any exp w1) rfl rfl ?_
      refine st (ev_pick_t rfl rfl) rfl rfl rfl ?_
      refine st (ev_assign rfl) rfl rfl rfl ?_
      refine op_nil ?_
      refine ax_then ?_
      refine At.regs (L' := [(2, _)]) (.cons rfl (.nil _)) ?_
      refine cd_ret ?_
      refine rt_tmp (.inl rfl) Try.results57 rfl ?_
      exact fun w1 sw => ⟨congrArg (fun b => Ending.returned (Value.bool b)) (by exact decide_eq_decide.2 ⟨fun hh => ⟨hall, hg17.1, hg17.2, hh.1, hh.2⟩, fun hh => hh.2.2.2⟩), sw.gives (.nil _)⟩
    ·
      refine st_skip rfl rfl rfl ?_
      refine st_skip rfl rfl rfl ?_
      refine st_skip rfl rfl rfl ?_
      refine st (ev_pick_f rfl rfl) rfl rfl rfl ?_
      refine st (ev_assign rfl) rfl rfl rfl ?_
      refine op_nil ?_
      refine ax_then ?_
      refine At.regs (L' := [(2, _)]) (.cons rfl (.nil _)) ?_
      refine cd_ret ?_
      refine rt_tmp (.inl rfl) Try.results57 rfl ?_
      exact fun w1 sw => ⟨congrArg (fun b => Ending.returned (Value.bool b)) (by exact (decide_eq_false (fun hh => hg17 ⟨hh.2.1, hh.2.2.1⟩)).symm), sw.gives (.nil _)⟩
end Go.Proofs.Ytgfnmolbagilmaa

namespace Go.Proofs.Ytgfnmolbagilmaa
open Go Go.RowKit Fw
open Sha
open Ots
open Mk
set_option linter.unusedVariables false
set_option linter.unusedSimpArgs false
set_option maxRecDepth 20000 in
set_option maxHeartbeats 8000000 in
theorem wdecoded_any (pb : Value) (body : List Int) (w : World) (hbl : body.length ≤ 140737488351232) (hB : Byt body) (hbody : Rd w pb 1 (ints .u8 body)) : Calls Try.prog 55 #[pb, .int .i64 1, .func (.func 56) #[] #[], .func (.func 57) #[] #[]] w (PostR (ι := List Rt.Rol) w (fun l => l.length = 4 ∧ Rt.kds l = (Rt.dec body).1.roles ∧ ∀ x, x ∈ l → x.1.oneCell' = true) (fun l => .tuple #[.agg (List.toArray (Rt.rootC (Rt.dec body).1.ver (Rt.dec body).1.exp l)), .int .i64 (Rt.dec body).2]) (fun _ => []) (fun l => Rt.rowsR l)) := by
  have hl1 := Rr.nRest_len body
  refine calls_at (vs := [pb, .int .i64 1, .func (.func 56) #[] #[], .func (.func 57) #[] #[]]) (X := []) (H := []) (F := [(22, .sl (pb) 1 (ints .u8 (body)))]) 37 Try.func55 rfl rfl rfl (Sat.rd0 22 hbody) ?_
  refine cd_seq ?_
  refine cd_region ?_
  refine st_alloc (h := 8) ty27 rfl rfl rfl (fun b8 => ?_)
  refine st (ev_assign rfl) rfl rfl rfl ?_
  refine op_nil ?_
  refine ax_then ?_
  refine At.regs (L' := [(0, _), (1, _), (2, _), (3, _), (8, _), (9, _)]) (.cons rfl (.cons rfl (.cons rfl (.cons rfl (.cons rfl (.cons rfl (.nil _))))))) ?_
  refine cd_seq ?_
  refine cd_region ?_
  refine st (ev_move rfl) rfl rfl rfl ?_
  refine st_call has50 rfl (fun w1 sw => rn2 14 114 (newreader_any pb body w1 (by omega) (sw.sl_rd (h := 22) rfl))) nil_all rfl rfl (fun x14 _ => ?_)
  obtain ⟨b14, lv14⟩ := x14
  dsimp only
  refine at_freeze (h := 114) (H' := [(8, _), (14, _)]) 21 rfl (.cons rfl (.cons rfl (.nil _))) rfl ?_
  refine st (ev_build_struct ty117 rfl pl117 rfl ((fill_put (i := 0) (off := 0) (n := 1) (vs := [.pointer (some ⟨b14, 0, none⟩)]) rfl rfl rfl (Nat.le_of_ble_eq_true rfl)).trans fill_nil)) rfl rfl rfl ?_
  refine at_eq (i := 15) (v' := .agg (List.toArray [.pointer (some ⟨b14, 0, none⟩)])) rfl rfl ?_
  refine st_alloc (h := 10) ty117 rfl rfl rfl (fun b10 => ?_)
  refine st_store_all 10 ty117 rfl rfl rfl rfl rfl (by intro u0 hu0; simp at hu0; rw [hu0]; rfl) rfl rfl ?_
  refine op_nil ?_
  refine ax_then ?_
  refine At.regs (L' := [(1, _), (2, _), (3, _), (8, _), (9, _), (10, _)]) (.cons rfl (.cons rfl (.cons rfl (.cons rfl (.cons rfl (.cons rfl (.nil _))))))) ?_
  refine cd_seq ?_
  refine cd_region ?_
  refine st_alloc (h := 11) ty27 rfl rfl rfl (fun b11 => ?_)
  refine op_nil ?_
  refine ax_then ?_
  refine At.regs (L' := [(1, _), (2, _), (3, _), (8, _), (9, _), (10, _), (11, _)]) (.cons rfl (.cons rfl (.cons rfl (.cons rfl (.cons rfl (.cons rfl (.cons rfl (.nil _)))))))) ?_
  refine cd_seq ?_
  refine cd_seq ?_
  refine cd_region ?_
  refine st (ev_fieldAddr (b := _) Try.underlying117 (f := _) rfl ty107 (by decide) rfl) rfl rfl rfl ?_
  refine st (ld_blk1 (h := 10) ty107 rfl rfl rfl rfl) rfl rfl rfl ?_
  refine st_call has51 rfl (fun w1 sw => rn 14 (rnum_g b14 lv14 false body w1 (sw.blk_eq (h := 14) rfl) (sw.sl_rd (h := 21) rfl) (sw.off 21 _ 14 _ rfl rfl _ (by simp [Ent.ids])) (by omega))) (mod_blk rfl) rfl rfl (fun x18 hx18 => ?_)
  refine at_fmap (h := 21) 21 rfl (fun w1 hh => hx18.rd w1 hh) hx18.blk hx18.nil ?_
  refine st (ev_move rfl) rfl rfl rfl ?_
  refine st (ev_neq rfl rfl) rfl rfl rfl ?_
  refine op_nil ?_
  refine ax_then ?_
  refine At.regs (L' := [(2, _), (3, _), (8, _), (9, _), (10, _), (11, _), (20, _)]) (.cons rfl (.cons rfl (.cons rfl (.cons rfl (.cons rfl (.cons rfl (.cons rfl (.nil _)))))))) ?_
  refine cd_if rfl (fun hc20 => ?_) (fun hc20 => ?_)
  ·
    refine cd_seq ?_
    refine cd_region ?_
    refine st (ld_blk_all (h := 11) ty27 rfl rfl rfl rfl) rfl rfl rfl ?_
    refine st_store_all 8 ty27 rfl rfl rfl rfl (by first | omega | (simp only [List.length_append, List.length_cons, List.length_nil, List.length_set, List.length_replicate, List.length_take, List.length_drop, ints_length, wr_length, sha_len, node_len, recov_len, Ky.named_len, Ky.keyPub_len, Ky.hashOf_len] <;> omega) | rfl) (by first | (intro u hu; simp at hu; rcases hu with rfl | rfl <;> rfl) | (simp [Value.oneCell'])) (by first | omega | (simp only [List.length_append, List.length_cons, List.length_nil, List.length_set, List.length_replicate, List.length_take, List.length_drop, ints_length, wr_length, sha_len, node_len, recov_len, Ky.named_len, Ky.keyPub_len, Ky.hashOf_len] <;> omega) | rfl) rfl ?_
    refine st (ev_assign rfl) rfl rfl rfl ?_
    refine op_nil ?_
    refine ax_then ?_
    refine At.regs (L' := [(2, _), (3, _), (8, _), (9, _), (10, _), (11, _)]) (.cons rfl (.cons rfl (.cons rfl (.cons rfl (.cons rfl (.cons rfl (.nil _))))))) ?_
    refine cd_ret ?_
    refine ax_then_ret ?_
    refine rt_cell_tmp (h0 := 8) (.inl rfl) Try.results55 ty27 rfl rfl rfl (by first | omega | (simp only [List.length_append, List.length_cons, List.length_nil, List.length_set, List.length_replicate, List.length_take, List.length_drop, ints_length, wr_length, sha_len, node_len, recov_len, Ky.named_len, Ky.keyPub_len, Ky.hashOf_len] <;> omega) | rfl) rfl ?_
    exact fun w1 sw => ⟨Rt.zeros, ⟨rfl, by rw [Rt.dec_kind hc20]; rfl, Rt.zeros_one⟩, by rw [Rt.dec_kind hc20]; rfl, sw.gives (.nil _), Rt.zeros_rd, fun h e hh => (lk_nil hh).elim⟩
  ·
    refine cd_skip ?_
    refine ax_then ?_
    refine At.regs (L' := [(2, _), (3, _), (8, _), (9, _), (10, _), (11, _)]) (.cons rfl (.cons rfl (.cons rfl (.cons rfl (.cons rfl (.cons rfl (.nil _))))))) ?_
    refine cd_seq ?_
    refine cd_region ?_
    refine st (ev_move rfl) rfl rfl rfl ?_
    refine st (ld_blk_all (h := 10) ty117 rfl rfl rfl rfl) rfl rfl rfl ?_
    refine st_callRM_fn 200 has56 rfl rfl rfl (fun w1 sw => rnRM 14 (wroot_any b14 x18 (false || Rr.nBad body) (Rr.nRest body) w1 (sw.blk_eq (h := 14) rfl) (sw.sl_rd (h := 21) rfl) (sw.off 21 _ 14 _ rfl rfl _ (by simp [Ent.ids])) (by omega) (hx18.byt hB))) (mod_blk rfl) rfl rfl (fun x24 hx24 hf24 => ?_)
    obtain ⟨l, bd, rc, v⟩ := x24
    dsimp only at hx24 hf24 ⊢
    have hl4 := hx24.1
    have hrr := hx24.2.2.2
    refine st_alloc (h := 12) ty27 rfl rfl rfl (fun b12 => ?_)
    refine st_store_all 12 ty27 rfl rfl rfl rfl (Rt.rootC_len _ _ (by omega)) (Rt.rootC_one _ _ hx24.2.1) rfl rfl ?_
    refine op_nil ?_
    refine ax_then ?_
    refine At.regs (L' := [(3, _), (8, _), (9, _), (10, _), (11, _), (12, _)]) (.cons rfl (.cons rfl (.cons rfl (.cons rfl (.cons rfl (.cons rfl (.nil _))))))) ?_
    refine cd_seq ?_
    refine cd_seq ?_
    refine cd_region ?_
    refine st (ev_fieldAddr (b := _) Try.underlying117 (f := _) rfl ty107 (by decide) rfl) rfl rfl rfl ?_
    refine st (ld_blk1 (h := 10) ty107 rfl rfl rfl rfl) rfl rfl rfl ?_
    refine st_callv has52 rfl (fun w1 sw => rwhole_any b14 v bd rc w1 (lies_blk (sw.blk_eq (h := 14) rfl)) (hx24.2.2.1.rd _ (sw.sl_rd (h := 21) rfl))) rfl rfl ?_
    refine at_eq (i := 27) (v' := .bool (decide (bd = false ∧ rc.length = 0))) rfl (by cases bd <;> simp) ?_
    refine st (ev_not_if rfl) rfl rfl rfl ?_
    refine st (ev_move rfl) rfl rfl rfl ?_
    refine at_split_if (i := 29) rfl (fun hg29 => ?_) (fun hg29 => ?_)
    ·
      refine st_skip rfl rfl rfl ?_
      refine st_skip rfl rfl rfl ?_
      refine st_skip rfl rfl rfl ?_
      refine st_skip rfl rfl rfl ?_
      refine st (ev_pick_t rfl rfl) rfl rfl rfl ?_
      refine op_nil ?_
      refine ax_then ?_
      refine At.regs (L' := [(8, _), (9, _), (11, _), (12, _), (34, _)]) (.cons rfl (.cons rfl (.cons rfl (.cons rfl (.cons rfl (.nil _)))))) ?_
      refine cd_true rfl ?_
      refine cd_seq ?_
      refine cd_region ?_
      refine st (ld_blk_all (h := 11) ty27 rfl rfl rfl rfl) rfl rfl rfl ?_
      refine st_store_all 8 ty27 rfl rfl rfl rfl (by first | omega | (simp only [List.length_append, List.length_cons, List.length_nil, List.length_set, List.length_replicate, List.length_take, List.length_drop, ints_length, wr_length, sha_len, node_len, recov_len, Ky.named_len, Ky.keyPub_len, Ky.hashOf_len] <;> omega) | rfl) (by first | (intro u hu; simp at hu; rcases hu with rfl | rfl <;> rfl) | (simp [Value.oneCell'])) (by first | omega | (simp only [List.length_append, List.length_cons, List.length_nil, List.length_set, List.length_replicate, List.length_take, List.length_drop, ints_length, wr_length, sha_len, node_len, recov_len, Ky.named_len, Ky.keyPub_len, Ky.hashOf_len] <;> omega) | rfl) rfl ?_
      refine st (ev_assign rfl) rfl rfl rfl ?_
      refine op_nil ?_
      refine ax_then ?_
      refine At.regs (L' := [(8, _), (9, _), (12, _)]) (.cons rfl (.cons rfl (.cons rfl (.nil _)))) ?_
      refine cd_ret ?_
      refine ax_then_ret ?_
      refine rt_cell_tmp (h0 := 8) (.inl rfl) Try.results55 ty27 rfl rfl rfl (by first | omega | (simp only [List.length_append, List.length_cons, List.length_nil, List.length_set, List.length_replicate, List.length_take, List.length_drop, ints_length, wr_length, sha_len, node_len, recov_len, Ky.named_len, Ky.keyPub_len, Ky.hashOf_len] <;> omega) | rfl) rfl ?_
      exact fun w1 sw => ⟨Rt.zeros, ⟨rfl, by rw [Rt.dec_prog_no hrr (fun hh => hg29 hh.2.1)]; rfl, Rt.zeros_one⟩, by rw [Rt.dec_prog_no hrr (fun hh => hg29 hh.2.1)]; rfl, sw.gives (.nil _), Rt.zeros_rd, fun h e hh => (lk_nil hh).elim⟩
    ·
      refine st (ev_move rfl) rfl rfl rfl ?_
      refine st (ld_blk_all (h := 12) ty27 rfl rfl rfl (Rt.rootC_len _ _ (by omega))) rfl rfl rfl ?_
      refine st_callv_fn has57 rfl rfl rfl (fun w1 sw => wisroot_any (Rr.nVal (Rr.nRest body)) (Rr.nVal (Rr.nRest (Rr.nRest body))) l w1 hl4 hx24.2.1 hrr.h32 (fun k hk => by have := hrr.lens k hk; omega) (fun y hy => sw.rd 200 _ rfl y hy)) rfl rfl ?_
      refine st (ev_not_if rfl) rfl rfl rfl ?_
      refine st (ev_pick_f rfl rfl) rfl rfl rfl ?_
      refine op_nil ?_
      refine ax_then ?_
      refine At.regs (L' := [(8, _), (9, _), (11, _), (12, _), (34, _)]) (.cons rfl (.cons rfl (.cons rfl (.cons rfl (.cons rfl (.nil _)))))) ?_
      refine cd_if rfl (fun hc34 => ?_) (fun hc34 => ?_)
      ·
        refine cd_seq ?_
        refine cd_region ?_
        refine st (ld_blk_all (h := 11) ty27 rfl rfl rfl rfl) rfl rfl rfl ?_
        refine st_store_all 8 ty27 rfl rfl rfl rfl (by first | omega | (simp only [List.length_append, List.length_cons, List.length_nil, List.length_set, List.length_replicate, List.length_take, List.length_drop, ints_length, wr_length, sha_len, node_len, recov_len, Ky.named_len, Ky.keyPub_len, Ky.hashOf_len] <;> omega) | rfl) (by first | (intro u hu; simp at hu; rcases hu with rfl | rfl <;> rfl) | (simp [Value.oneCell'])) (by first | omega | (simp only [List.length_append, List.length_cons, List.length_nil, List.length_set, List.length_replicate, List.length_take, List.length_drop, ints_length, wr_length, sha_len, node_len, recov_len, Ky.named_len, Ky.keyPub_len, Ky.hashOf_len] <;> omega) | rfl) rfl ?_
        refine st (ev_assign rfl) rfl rfl rfl ?_
        refine op_nil ?_
        refine ax_then ?_
        refine At.regs (L' := [(8, _), (9, _), (12, _)]) (.cons rfl (.cons rfl (.cons rfl (.nil _)))) ?_
        refine cd_ret ?_
        refine ax_then_ret ?_
        refine rt_cell_tmp (h0 := 8) (.inl rfl) Try.results55 ty27 rfl rfl rfl (by first | omega | (simp only [List.length_append, List.length_cons, List.length_nil, List.length_set, List.length_replicate, List.length_take, List.length_drop, ints_length, wr_length, sha_len, node_len, recov_len, Ky.named_len, Ky.keyPub_len, Ky.hashOf_len] <;> omega) | rfl) rfl ?_
        exact fun w1 sw => ⟨Rt.zeros, ⟨rfl, by rw [Rt.dec_prog_no hrr (fun hh => hc34 hh.2.2)]; rfl, Rt.zeros_one⟩, by rw [Rt.dec_prog_no hrr (fun hh => hc34 hh.2.2)]; rfl, sw.gives (.nil _), Rt.zeros_rd, fun h e hh => (lk_nil hh).elim⟩
      ·
        refine cd_skip ?_
        refine ax_then ?_
        refine At.regs (L' := [(8, _), (9, _), (12, _)]) (.cons rfl (.cons rfl (.cons rfl (.nil _)))) ?_
        refine cd_seq ?_
        refine cd_region ?_
        refine st (ld_blk_all (h := 12) ty27 rfl rfl rfl (Rt.rootC_len _ _ (by omega))) rfl rfl rfl ?_
        refine st_store_all 8 ty27 rfl rfl rfl rfl (Rt.rootC_len _ _ (by omega)) (Rt.rootC_one _ _ hx24.2.1) rfl rfl ?_
        refine st (ev_assign rfl) rfl rfl rfl ?_
        refine op_nil ?_
        refine ax_then ?_
        refine At.regs (L' := [(8, _), (9, _)]) (.cons rfl (.cons rfl (.nil _))) ?_
        refine cd_ret ?_
        have hd := Rt.dec_prog hB hx24.2.2.2 (Classical.not_not.1 hc20) (Classical.not_not.1 hg29) (Classical.not_not.1 hc34)
        refine rt_cell_tmp (h0 := 8) (.inl rfl) Try.results55 ty27 rfl rfl rfl (Rt.rootC_len _ _ (by omega)) rfl ?_
        exact fun w1 sw => ⟨l, ⟨hl4, by rw [hd], hx24.2.1⟩, by rw [hd], sw.gives (.nil _), (fun y hy => ⟨sw.rd 200 _ rfl y hy, hf24 y hy⟩), fun h e hh => (lk_nil hh).elim⟩
set_option maxRecDepth 20000 in
set_option maxHeartbeats 4000000 in
theorem wdecode_any (pb : Value) (body : List Int) (w : World) (hbl : body.length ≤ 140737488351232) (hB : Byt body) (hbody : Rd w pb 1 (ints .u8 body)) : Calls Try.prog 31 #[pb] w (PostR (ι := List Rt.Rol) w (fun l => l.length = 4 ∧ Rt.kds l = (Rt.dec body).1.roles ∧ ∀ x, x ∈ l → x.1.oneCell' = true) (fun l => .tuple #[.agg (List.toArray (Rt.rootC (Rt.dec body).1.ver (Rt.dec body).1.exp l)), .int .i64 (Rt.dec body).2]) (fun _ => []) (fun l => Rt.rowsR l)) := by
  refine calls_at (vs := [pb]) (X := []) (H := []) (F := [(22, .sl (pb) 1 (ints .u8 (body)))]) 8 Try.func31 rfl rfl rfl (Sat.rd0 22 hbody) ?_
  refine cd_seq ?_
  refine cd_region ?_
  refine st_alloc (h := 2) ty27 rfl rfl rfl (fun b2 => ?_)
  refine st (ev_assign rfl) rfl rfl rfl ?_
  refine op_nil ?_
  refine ax_then ?_
  refine At.regs (L' := [(0, _), (2, _), (3, _)]) (.cons rfl (.cons rfl (.cons rfl (.nil _)))) ?_
  refine cd_seq ?_
  refine cd_region ?_
  refine st (ev_move rfl) rfl rfl rfl ?_
  refine st_callR 200 has55 rfl (fun w1 sw => wdecoded_any pb body w1 hbl hB (sw.sl_rd (h := 22) rfl)) rfl rfl (fun l hx hf => ?_)
  refine st (ev_extract rfl rfl) rfl rfl rfl ?_
  refine st (ev_extract rfl rfl) rfl rfl rfl ?_
  refine st_store_all 2 ty27 rfl rfl rfl rfl (Rt.rootC_len _ _ (by have := hx.1; omega)) (Rt.rootC_one _ _ hx.2.2) rfl rfl ?_
  refine st (ev_assign rfl) rfl rfl rfl ?_
  refine op_nil ?_
  refine ax_then ?_
  refine At.regs (L' := [(2, _), (3, _)]) (.cons rfl (.cons rfl (.nil _))) ?_
  refine cd_ret ?_
  refine rt_cell_tmp (h0 := 2) (.inl rfl) Try.results31 ty27 rfl rfl rfl (Rt.rootC_len _ _ (by have := hx.1; omega)) rfl ?_
  exact fun w1 sw => ⟨l, hx, rfl, sw.gives (.nil _), (fun y hy => ⟨sw.rd 200 _ rfl y hy, hf y hy⟩), fun h e hh => (lk_nil hh).elim⟩
end Go.Proofs.Ytgfnmolbagilmaa

namespace Go.Proofs.Ytgfnmolbagilmaa.Qm
open Go Fw Sha Ots Mk Go.Proofs.Ytgfnmolbagilmaa
set_option linter.unusedSimpArgs false
set_option linter.unusedVariables false
def mrows (ms : List Mark) : List (Value × Nat × List Value) := ms.flatMap fun x => [(x.vc, 32, flat x.cs), (x.vp, 32, flat x.ps)]
theorem mrows_rd {w : World} {ms : List Mark} (h : ∀ x, x ∈ ms → MRd w x) : ∀ y, y ∈ mrows ms → Rd w y.1 y.2.1 y.2.2 := fun y hy => by
  obtain ⟨x, hx, hy⟩ := List.mem_flatMap.1 hy
  have := h x hx
  simp only [List.mem_cons, List.not_mem_nil, or_false] at hy
  rcases hy with rfl | rfl
  · exact this.1
  · exact this.2
theorem mrows_vc {ms : List Mark} {x : Mark} (hx : x ∈ ms) : (x.vc, 32, flat x.cs) ∈ mrows ms := List.mem_flatMap.2 ⟨x, hx, by simp⟩
theorem mrows_vp {ms : List Mark} {x : Mark} (hx : x ∈ ms) : (x.vp, 32, flat x.ps) ∈ mrows ms := List.mem_flatMap.2 ⟨x, hx, by simp⟩
end Go.Proofs.Ytgfnmolbagilmaa.Qm

namespace Go.Proofs.Ytgfnmolbagilmaa.Fw
open Go Go.RowKit Go.Proofs.Ytgfnmolbagilmaa
set_option linter.unusedSimpArgs false
set_option linter.unusedVariables false
def PostE {ι : Type} (w : World) (rs : List (Value × Nat × List Value)) (Φ : ι → Prop) (v : ι → Value) (R : ι → List (Value × Nat × List Value)) (e : Ending) (w' : World) : Prop :=
  ∃ x, Φ x ∧ e = .returned (v x) ∧ Gives w w' [] [] ∧ ∀ y, y ∈ R x → Rd w' y.1 y.2.1 y.2.2 ∧ (y ∈ rs ∨ ∀ b, b ∈ blkOf y.1 → w.heap.size ≤ b)
section
variable {P : Program} {Q : Exit → Act → World → Prop} {ops : Array Oper} {rest : List Oper} {E : Env} {L : List (Nat × Value)} {H : List (Nat × Ent)} {F : List (Nat × FE)}
variable {ty : TypeId} {pos : String} {af : Array Edge} {gd : Option (Nat × Bool)}
theorem st_callE {dst f : Nat} {args : Array Operand} {Ts : Array TypeId} {vs : List Value} {ι : Type} {Φ : ι → Prop} {v : ι → Value} {rs : List (Value × Nat × List Value)} {R : ι → List (Value × Nat × List Value)} (i i0 : Nat) (hf : Has P f) (ha : evs L args.toList = some vs) (hr : lk F i0 = some (.rows rs))
    (hc : ∀ w, Sat E.w0 E.X H F w → Calls P f vs.toArray w (PostE w rs Φ v R)) (hg : wants ops L gd = some true) (hn : Nat.ble (dst + 1) E.n = true)
    (k : ∀ x, Φ x → (∀ y, y ∈ R x → y ∈ rs ∨ ∀ b, b ∈ blkOf y.1 → E.w0.heap.size ≤ b) → At (wpList P ops Q rest) E ((dst, v x) :: L) H ((i, .rows (R x)) :: F)) :
    At (wpList P ops Q (⟨some dst, .call { callee := .value (.func f), args := args, argTypes := Ts }, ty, pos, af, gd⟩ :: rest)) E L H F := by
  refine st_run hg fun a w fa sw => ?_
  unfold Oper.wp
  rw [run_call hf ha fa w]
  refine (hc w sw).mono ?_
  rintro e w' ⟨x, hx, rfl, hG, hR⟩
  show wpList P ops Q rest (a.put (some dst) (v x)) w'
  have s2 := sw.step hG (fun b hb => by cases hb)
  refine k x hx (fun y hy => (hR y hy).2.elim .inl fun h => .inr fun b hb => Nat.le_trans sw.size (h b hb)) _ _ (fa.put (Nat.le_of_ble_eq_true hn) _) (s2.read i (f := .rows (R x)) (fun y hy => (hR y hy).1) (fun h' e hh b hb y hy => ?_))
  have hh2 : lk H h' = some e := by simpa using hh
  rcases (hR y hy).2 with h1 | h1
  · exact s2.off _ _ _ _ hr hh b hb y h1
  · refine .inr fun hb' => ?_
    have h1 := h1 b hb'
    have h2 := Ent.lt (sw.hold _ _ hh2) hb
    omega
end
section
variable {P : Program} {fn : Func} {R : Ending → World → Prop} {E : Env} {L : List (Nat × Value)} {H : List (Nat × Ent)} {F : List (Nat × FE)}
theorem rt_cell_tmp2 {ta T h0 b sz bytes : Nat} {u u2 : Tmp} {v' v2 : Value} {d : TypeDesc} {z : Value} {l : List Value} {TT : TypeId} {fz : Nat × Nat} {e : Exit} (he : e = .ret ∨ e = .normal) (hr : fn.results = #[.cell ta T, .tmp u, .tmp u2]) (ht : Ty P T d sz bytes z) (hd : aggD d = true)
    (hv : lk L ta = some (.pointer (some ⟨b, 0, none⟩))) (hh : lk H h0 = some (.blk b (.cells l.toArray TT fz))) (hl : l.length = sz) (hv' : lk L u = some v') (hv2 : lk L u2 = some v2) (h : ∀ w, Sat E.w0 E.X H F w → R (.returned (.tuple #[.agg l.toArray, v', v2])) w) : AtX (bodyPost P fn R) e E L H F := by
  intro a w fa sw
  have hx := fa.2.2 ta _ hv
  have hx' := fa.2.2 u v' hv'
  have hx2 := fa.2.2 u2 v2 hv2
  have : (results fn a.tmps).run P w = .ok (.tuple #[.agg l.toArray, v', v2]) w := by
    have h2 := run_loadVar_agg (P := P) ht hd (lies_blk (sw.blk_eq hh)) hl
    have h3 : (a.tmps[ta]?.getD undef) = .pointer (some ⟨b, 0, none⟩) := by rw [← Array.getD_eq_getD_getElem?]; exact hx
    have h4 : (a.tmps[u]?.getD undef) = v' := by rw [← Array.getD_eq_getD_getElem?]; exact hx'
    have h5 : (a.tmps[u2]?.getD undef) = v2 := by rw [← Array.getD_eq_getD_getElem?]; exact hx2
    simp [results, hr, h3, h4, h5, asAddr, h2]
  rcases he with rfl | rfl <;> exact ⟨fa.1, _, this, h w sw⟩
end
end Go.Proofs.Ytgfnmolbagilmaa.Fw

namespace Go.Proofs.Ytgfnmolbagilmaa.Rt
open Go Fw Sha Ky Go.Proofs.Ytgfnmolbagilmaa
set_option linter.unusedSimpArgs false
set_option linter.unusedVariables false
structure Ev where
  pb : Value
  mv : Value
  body : List Int
  ms : List Qm.Mark
def ecells (x : Ev) : List Value := [x.pb, x.mv]
def eflat (es : List Ev) : List Value := es.flatMap ecells
def EvOk (x : Ev) : Prop := x.body.length ≤ 140737488351232 ∧ Byt x.body ∧ Qm.AOk x.ms ∧ x.ms.length ≤ 2000000000000
def EvRd (w : World) (x : Ev) : Prop := Rd w x.pb 1 (ints .u8 x.body) ∧ Rd w x.mv 35 (Qm.mflat x.ms) ∧ ∀ m, m ∈ x.ms → Qm.MRd w m
def erow (x : Ev) : List (Value × Nat × List Value) := (x.pb, 1, ints .u8 x.body) :: (x.mv, 35, Qm.mflat x.ms) :: Qm.mrows x.ms
def erows (es : List Ev) : List (Value × Nat × List Value) := es.flatMap erow
theorem erow_rd {w : World} {x : Ev} (h : EvRd w x) : ∀ y, y ∈ erow x → Rd w y.1 y.2.1 y.2.2 := fun y hy => by
  rcases List.mem_cons.1 hy with rfl | hy
  · exact h.1
  · rcases List.mem_cons.1 hy with rfl | hy
    · exact h.2.1
    · exact Qm.mrows_rd h.2.2 y hy
theorem erows_rd {w : World} {es : List Ev} (h : ∀ x, x ∈ es → EvRd w x) : ∀ y, y ∈ erows es → Rd w y.1 y.2.1 y.2.2 := fun y hy => by
  obtain ⟨x, hx, hy⟩ := List.mem_flatMap.1 hy
  exact erow_rd (h x hx) y hy
theorem ev_of_row {w : World} {x : Ev} (h : ∀ y, y ∈ erow x → Rd w y.1 y.2.1 y.2.2) : EvRd w x :=
  ⟨h (x.pb, 1, ints .u8 x.body) (List.mem_cons_self ..), h (x.mv, 35, Qm.mflat x.ms) (List.mem_cons_of_mem _ (List.mem_cons_self ..)),
    fun m hm => ⟨h (m.vc, 32, flat m.cs) (List.mem_cons_of_mem _ (List.mem_cons_of_mem _ (Qm.mrows_vc hm))), h (m.vp, 32, flat m.ps) (List.mem_cons_of_mem _ (List.mem_cons_of_mem _ (Qm.mrows_vp hm)))⟩⟩
theorem ev_of_rows {w : World} {es : List Ev} (h : ∀ y, y ∈ erows es → Rd w y.1 y.2.1 y.2.2) {x : Ev} (hx : x ∈ es) : EvRd w x :=
  ev_of_row fun y hy => h y (List.mem_flatMap.2 ⟨x, hx, hy⟩)
theorem eflat_len : ∀ (es : List Ev), (eflat es).length = es.length * 2
  | [] => rfl
  | x :: es => by
    have := eflat_len es
    rw [eflat] at this
    rw [eflat, List.flatMap_cons, List.length_append, List.length_cons, this]
    simp [ecells]
    omega
theorem eflat_drop : ∀ (l : List Ev) (i : Nat), (eflat l).drop (i * 2) = eflat (l.drop i)
  | l, 0 => by simp
  | [], i + 1 => by simp [eflat]
  | x :: l, i + 1 => by
    rw [eflat, List.flatMap_cons, show (i + 1) * 2 = 2 + i * 2 by omega, ← List.drop_drop, List.drop_left' (by rfl), List.drop_succ_cons]
    exact eflat_drop l i
theorem eflat_get {l : List Ev} {i : Nat} (hi : i < l.length) : ((eflat l).drop (i * 2)).take 2 = [l[i].pb, l[i].mv] := by
  rw [eflat_drop, List.drop_eq_getElem_cons hi, eflat, List.flatMap_cons, List.take_left' (by rfl)]
  rfl
def k0 (r : RT) : KD := r.roles.getD 0 ⟨[], 0⟩
open Classical in
noncomputable def next (r : RT) (b : List Int) (ms : List Qm.Mark) : RT × Int :=
  if (dec b).2 ≠ 0 then (zeroR, 2) else if (dec b).1.ver - 1 ≠ r.ver then (zeroR, 6)
  else if ¬ meets b ms (k0 r).ks (k0 r).need ∨ ¬ meets b ms (k0 (dec b).1).ks (k0 (dec b).1).need then (zeroR, 4) else ((dec b).1, 0)
/-- a root as it comes out of reading, or of nothing -/
structure RTok (r : RT) : Prop where
  len : r.roles.length = 4
  h32 : ∀ k, k ∈ r.roles → H32 k.ks
  few : ∀ k, k ∈ r.roles → k.ks.length ≤ 1000000
theorem zero_ok : RTok zeroR := ⟨rfl, fun k hk => by rw [(List.mem_replicate.1 hk).2]; exact H32.nil, fun k hk => by rw [(List.mem_replicate.1 hk).2]; exact Nat.zero_le _⟩
theorem dec_two (b : List Int) : (decOK b (dec b).1 ∧ (dec b).2 = 0) ∨ dec b = (zeroR, 2) := by
  unfold dec
  split
  · next h => exact .inl ⟨Classical.choose_spec h, rfl⟩
  · exact .inr rfl
theorem dec_ok (b : List Int) : RTok (dec b).1 := by
  rcases dec_two b with ⟨h, _⟩ | h
  · exact ⟨h.1, h.2.1, fun k hk => by have := (h.2.2.1.1 k hk).2.2.1; omega⟩
  · rw [h]; exact zero_ok
theorem dec_ver (b : List Int) : 0 ≤ (dec b).1.ver ∧ (dec b).1.ver ≤ 1073741824 := by
  rcases dec_two b with ⟨h, _⟩ | h
  · have := h.2.2.1.2.1
    have := h.2.2.1.2.2.1
    omega
  · rw [h]; exact ⟨by decide, by decide⟩
theorem next_ok (r : RT) (b : List Int) (ms : List Qm.Mark) : RTok (next r b ms).1 := by
  unfold next
  repeat' split
  · exact zero_ok
  · exact zero_ok
  · exact zero_ok
  · exact dec_ok b
theorem k0_get {ver exp : Int} {l : List Rol} (hl : l.length = 4) : k0 ⟨ver, exp, kds l⟩ = (l.getD 0 rol0).2 := by
  match l, hl with
  | [a, b, c, d], _ => rfl
theorem rootC_rol0 (ver exp : Int) {l : List Rol} (hl : l.length = 4) : ((rootC ver exp l).drop 2).take 2 = [(l.getD 0 rol0).1, .int .i64 (l.getD 0 rol0).2.need] := by
  match l, hl with
  | [a, b, c, d], _ => rfl
noncomputable def follow (r : RT) : List Ev → RT × Nat × Int
  | [] => (r, 0, 0)
  | x :: es => if (next r x.body x.ms).2 ≠ 0 then (r, 0, (next r x.body x.ms).2) else ((follow (next r x.body x.ms).1 es).1, (follow (next r x.body x.ms).1 es).2.1 + 1, (follow (next r x.body x.ms).1 es).2.2)
/-- where the walk stands: i roots have followed -/
def At (r0 : RT) (es : List Ev) (i : Nat) (r : RT) : Prop := (follow r0 es).1 = (follow r (es.drop i)).1 ∧ (follow r0 es).2.1 = (follow r (es.drop i)).2.1 + i ∧ (follow r0 es).2.2 = (follow r (es.drop i)).2.2
theorem At.init (r : RT) (es : List Ev) : At r es 0 r := ⟨rfl, rfl, rfl⟩
theorem At.stop {r0 r : RT} {es : List Ev} {i : Nat} (h : At r0 es i r) (hi : i < es.length) (hn : (next r es[i].body es[i].ms).2 ≠ 0) : follow r0 es = (r, i, (next r es[i].body es[i].ms).2) := by
  obtain ⟨h1, h2, h3⟩ := h
  rw [List.drop_eq_getElem_cons hi, follow, if_pos hn] at h1 h2 h3
  refine Prod.ext h1 (Prod.ext ?_ h3)
  show (follow r0 es).2.1 = i
  rw [h2]
  exact Nat.zero_add _
theorem At.step {r0 r : RT} {es : List Ev} {i : Nat} (h : At r0 es i r) (hi : i < es.length) (hn : ¬ (next r es[i].body es[i].ms).2 ≠ 0) : At r0 es (i + 1) (next r es[i].body es[i].ms).1 := by
  obtain ⟨h1, h2, h3⟩ := h
  rw [List.drop_eq_getElem_cons hi, follow, if_neg hn] at h1 h2 h3
  exact ⟨h1, by rw [h2]; show _ + 1 + i = _ + (i + 1); omega, h3⟩
theorem At.done {r0 r : RT} {es : List Ev} (h : At r0 es es.length r) : follow r0 es = (r, es.length, 0) := by
  obtain ⟨h1, h2, h3⟩ := h
  rw [List.drop_length, follow] at h1 h2 h3
  refine Prod.ext h1 (Prod.ext ?_ h3)
  show (follow r0 es).2.1 = _
  rw [h2]
  exact Nat.zero_add _
end Go.Proofs.Ytgfnmolbagilmaa.Rt

namespace Go.Proofs.Ytgfnmolbagilmaa
open Go Go.RowKit Fw
open Sha
open Ots
open Mk
set_option linter.unusedVariables false
set_option linter.unusedSimpArgs false
set_option maxRecDepth 20000 in
set_option maxHeartbeats 4000000 in
theorem next_any (pb mv : Value) (ver exp : Int) (l : List Rt.Rol) (body : List Int) (ms : List Qm.Mark) (w : World) (hl : l.length = 4) (hone : ∀ x, x ∈ l → x.1.oneCell' = true) (hk : Rt.RTok (⟨ver, exp, Rt.kds l⟩ : Rt.RT)) (hbl : body.length ≤ 140737488351232) (hB : Byt body) (ha : Qm.AOk ms) (hml : ms.length ≤ 2000000000000) (h : ∀ y, y ∈ Rt.rowsR l → Rd w y.1 y.2.1 y.2.2) (hbody : Rd w pb 1 (ints .u8 body)) (hm : Rd w mv 35 (Qm.mflat ms)) (hmr : ∀ x, x ∈ ms → Qm.MRd w x) : Calls Try.prog 14 #[.agg (List.toArray (Rt.rootC ver exp l)), .agg (List.toArray [pb, mv])] w (PostR (ι := List Rt.Rol) w (fun l' => l'.length = 4 ∧ Rt.kds l' = (Rt.next (⟨ver, exp, Rt.kds l⟩ : Rt.RT) body ms).1.roles ∧ ∀ x, x ∈ l' → x.1.oneCell' = true) (fun l' => .tuple #[.agg (List.toArray (Rt.rootC (Rt.next (⟨ver, exp, Rt.kds l⟩ : Rt.RT) body ms).1.ver (Rt.next (⟨ver, exp, Rt.kds l⟩ : Rt.RT) body ms).1.exp l')), .int .i64 (Rt.next (⟨ver, exp, Rt.kds l⟩ : Rt.RT) body ms).2]) (fun _ => []) (fun l' => Rt.rowsR l')) := by
  have hdv := Rt.dec_ver body
  have hdk := Rt.dec_ok body
  refine calls_at (vs := [.agg (List.toArray (Rt.rootC ver exp l)), .agg (List.toArray [pb, mv])]) (X := []) (H := []) (F := [(200, .rows (Rt.rowsR l)), (22, .sl (pb) 1 (ints .u8 (body))), (21, .sl (mv) 35 (Qm.mflat (ms)))]) 43 Try.func14 rfl rfl rfl (((Sat.rd0 21 hm).more 22 hbody).read (f := .rows (Rt.rowsR l)) 200 h off_nil) ?_
  refine cd_seq ?_
  refine cd_region ?_
  refine st_box (h := 2) rfl rfl rfl rfl (fun b2 => ?_)
  refine st_box (h := 3) rfl rfl rfl rfl (fun b3 => ?_)
  refine st_alloc (h := 4) ty27 rfl rfl rfl (fun b4 => ?_)
  refine st (ev_assign rfl) rfl rfl rfl ?_
  refine op_nil ?_
  refine ax_then ?_
  refine At.regs (L' := [(2, _), (3, _), (4, _), (5, _)]) (.cons rfl (.cons rfl (.cons rfl (.cons rfl (.nil _))))) ?_
  refine cd_seq ?_
  refine at_freeze_blk (h := 2) (H' := [(3, _), (4, _)]) 2 rfl (.cons rfl (.cons rfl (.nil _))) rfl ?_
  refine at_freeze_blk (h := 3) (H' := [(4, _)]) 3 rfl (.cons rfl (.nil _)) rfl ?_
  refine cd_region ?_
  refine st (ev_fieldAddr (b := _) Try.underlying31 (f := _) rfl ty28 (by decide) rfl) rfl rfl rfl ?_
  refine st (ld_mem1 (h := 3) ty28 rfl rfl rfl (Nat.zero_add _).symm rfl) rfl rfl rfl ?_
  refine st_callR 201 has31 rfl (fun w1 sw => wdecode_any pb body w1 hbl hB (sw.sl_rd (h := 22) rfl)) rfl rfl (fun l' hx11 hf11 => ?_)
  have hl4' := hx11.1
  have hk1 := hk.h32 _ (Rt.kds_get (l := l) (i := 0) (by omega))
  have hk2 := hk.few _ (Rt.kds_get (l := l) (i := 0) (by omega))
  have hk3 := hdk.h32 _ (hx11.2.1 ▸ Rt.kds_get (l := l') (i := 0) (by omega))
  have hk4 := hdk.few _ (hx11.2.1 ▸ Rt.kds_get (l := l') (i := 0) (by omega))
  have e1 : Rt.k0 (⟨ver, exp, Rt.kds l⟩ : Rt.RT) = (l.getD 0 Rt.rol0).2 := Rt.k0_get hl
  have e2 : Rt.k0 (Rt.dec body).1 = (l'.getD 0 Rt.rol0).2 := by rw [← Rt.k0_get (ver := (Rt.dec body).1.ver) (exp := (Rt.dec body).1.exp) hx11.1, hx11.2.1]
  refine st (ev_move rfl) rfl rfl rfl ?_
  refine st (ev_extract rfl rfl) rfl rfl rfl ?_
  refine st (ev_extract rfl rfl) rfl rfl rfl ?_
  refine st_alloc (h := 6) ty27 rfl rfl rfl (fun b6 => ?_)
  refine st_store_all 6 ty27 rfl rfl rfl rfl (Rt.rootC_len _ _ (by omega)) (Rt.rootC_one _ _ hx11.2.2) rfl rfl ?_
  refine st (ev_assign rfl) rfl rfl rfl ?_
  refine op_nil ?_
  refine ax_then ?_
  refine At.regs (L' := [(2, _), (3, _), (4, _), (5, _), (6, _), (7, _)]) (.cons rfl (.cons rfl (.cons rfl (.cons rfl (.cons rfl (.cons rfl (.nil _))))))) ?_
  refine cd_seq ?_
  refine cd_block ?_
  refine cd_seq ?_
  refine at_freeze_blk (h := 6) (H' := [(4, _)]) 6 rfl (.cons rfl (.nil _)) rfl ?_
  refine cd_region ?_
  refine st (ev_move rfl) rfl rfl rfl ?_
  refine st (ev_neq rfl rfl) rfl rfl rfl ?_
  refine st (ev_assign rfl) rfl rfl rfl ?_
  refine op_nil ?_
  refine ax_then ?_
  refine At.regs (L' := [(2, _), (3, _), (4, _), (5, _), (6, _), (14, _)]) (.cons rfl (.cons rfl (.cons rfl (.cons rfl (.cons rfl (.cons rfl (.nil _))))))) ?_
  refine cd_if rfl (fun hc14 => ?_) (fun hc14 => ?_)
  ·
    refine cd_seq ?_
    refine cd_region ?_
    refine st (ev_build_struct ty27 rfl pl27 rfl rfl) rfl rfl rfl ?_
    refine st_store_all 4 ty27 rfl rfl rfl rfl (by first | omega | (simp only [List.length_append, List.length_cons, List.length_nil, List.length_set, List.length_replicate, List.length_take, List.length_drop, ints_length, wr_length, sha_len, node_len, recov_len, Ky.named_len, Ky.keyPub_len, Ky.hashOf_len] <;> omega) | rfl) (by first | (intro u hu; simp at hu; rcases hu with rfl | rfl <;> rfl) | (simp [Value.oneCell'])) (by first | omega | (simp only [List.length_append, List.length_cons, List.length_nil, List.length_set, List.length_replicate, List.length_take, List.length_drop, ints_length, wr_length, sha_len, node_len, recov_len, Ky.named_len, Ky.keyPub_len, Ky.hashOf_len] <;> omega) | rfl) rfl ?_
    refine st (ev_assign rfl) rfl rfl rfl ?_
    refine op_nil ?_
    refine ax_then ?_
    refine At.regs (L' := [(4, _), (5, _), (6, _)]) (.cons rfl (.cons rfl (.cons rfl (.nil _)))) ?_
    refine cd_ret ?_
    refine ax_block_ret ?_
    refine ax_then_ret ?_
    refine rt_cell_tmp (h0 := 4) (.inl rfl) Try.results14 ty27 rfl rfl rfl (by first | omega | (simp only [List.length_append, List.length_cons, List.length_nil, List.length_set, List.length_replicate, List.length_take, List.length_drop, ints_length, wr_length, sha_len, node_len, recov_len, Ky.named_len, Ky.keyPub_len, Ky.hashOf_len] <;> omega) | rfl) rfl ?_
    exact fun w1 sw => ⟨Rt.zeros, ⟨rfl, by rw [Rt.next, if_pos hc14]; rfl, Rt.zeros_one⟩, by rw [Rt.next, if_pos hc14]; rfl, sw.gives (.nil _), Rt.zeros_rd, fun h e hh => (lk_nil hh).elim⟩
  ·
    refine cd_seq ?_
    refine cd_region ?_
    refine st (ev_fieldAddr (b := _) Try.underlying27 (f := _) rfl ty3 (by decide) rfl) rfl rfl rfl ?_
    refine st (ld_mem1 (h := 6) ty3 rfl rfl rfl (Nat.zero_add _).symm rfl) rfl rfl rfl ?_
    refine st (ev_sub64 rfl rfl (by omega) (by omega)) rfl rfl rfl ?_
    refine st (ev_fieldAddr (b := _) Try.underlying27 (f := _) rfl ty3 (by decide) rfl) rfl rfl rfl ?_
    refine st (ld_mem1 (h := 2) ty3 rfl rfl rfl (Nat.zero_add _).symm rfl) rfl rfl rfl ?_
    refine st (ev_neq rfl rfl) rfl rfl rfl ?_
    refine st (ev_assign rfl) rfl rfl rfl ?_
    refine op_nil ?_
    refine ax_then ?_
    refine At.regs (L' := [(2, _), (3, _), (4, _), (5, _), (6, _), (18, _)]) (.cons rfl (.cons rfl (.cons rfl (.cons rfl (.cons rfl (.cons rfl (.nil _))))))) ?_
    refine cd_if rfl (fun hc18 => ?_) (fun hc18 => ?_)
    ·
      refine cd_seq ?_
      refine cd_region ?_
      refine st (ev_build_struct ty27 rfl pl27 rfl rfl) rfl rfl rfl ?_
      refine st_store_all 4 ty27 rfl rfl rfl rfl (by first | omega | (simp only [List.length_append, List.length_cons, List.length_nil, List.length_set, List.length_replicate, List.length_take, List.length_drop, ints_length, wr_length, sha_len, node_len, recov_len, Ky.named_len, Ky.keyPub_len, Ky.hashOf_len] <;> omega) | rfl) (by first | (intro u hu; simp at hu; rcases hu with rfl | rfl <;> rfl) | (simp [Value.oneCell'])) (by first | omega | (simp only [List.length_append, List.length_cons, List.length_nil, List.length_set, List.length_replicate, List.length_take, List.length_drop, ints_length, wr_length, sha_len, node_len, recov_len, Ky.named_len, Ky.keyPub_len, Ky.hashOf_len] <;> omega) | rfl) rfl ?_
      refine st (ev_assign rfl) rfl rfl rfl ?_
      refine op_nil ?_
      refine ax_then ?_
      refine At.regs (L' := [(4, _), (5, _), (6, _)]) (.cons rfl (.cons rfl (.cons rfl (.nil _)))) ?_
      refine cd_ret ?_
      refine ax_block_ret ?_
      refine ax_then_ret ?_
      refine rt_cell_tmp (h0 := 4) (.inl rfl) Try.results14 ty27 rfl rfl rfl (by first | omega | (simp only [List.length_append, List.length_cons, List.length_nil, List.length_set, List.length_replicate, List.length_take, List.length_drop, ints_length, wr_length, sha_len, node_len, recov_len, Ky.named_len, Ky.keyPub_len, Ky.hashOf_len] <;> omega) | rfl) rfl ?_
      exact fun w1 sw => ⟨Rt.zeros, ⟨rfl, by rw [Rt.next, if_neg hc14, if_pos hc18]; rfl, Rt.zeros_one⟩, by rw [Rt.next, if_neg hc14, if_pos hc18]; rfl, sw.gives (.nil _), Rt.zeros_rd, fun h e hh => (lk_nil hh).elim⟩
    ·
      refine cd_seq ?_
      refine cd_region ?_
      refine st (ld_mem_all (h := 3) ty31 rfl rfl rfl rfl) rfl rfl rfl ?_
      refine st (ev_fieldAddr (b := _) Try.underlying27 (f := _) rfl ty25 (by decide) rfl) rfl rfl rfl ?_
      refine st (ev_indexAddr_arr Try.underlying25 ty24 rfl rfl (by omega) (by omega)) rfl rfl rfl ?_
      refine st (ld_mem (h := 2) (k := 2) ty24 rfl rfl rfl rfl (by rw [Rt.rootC_len _ _ (by omega)]; decide)) rfl rfl rfl ?_
      refine at_eq (i := 30) (v' := .agg (List.toArray [(l.getD 0 Rt.rol0).1, .int .i64 (l.getD 0 Rt.rol0).2.need])) rfl (congrArg (fun x => Value.agg (List.toArray x)) (Rt.rootC_rol0 _ _ hl)) ?_
      refine st_callv has32 rfl (fun w1 sw => meets_any pb mv (l.getD 0 Rt.rol0).1 (l.getD 0 Rt.rol0).2.need body ms (l.getD 0 Rt.rol0).2.ks w1 (sw.sl_rd (h := 22) rfl) (by omega) ha hml (sw.sl_rd (h := 21) rfl) (fun x hx => (Qm.Keeps.of sw).mrd (hmr x hx)) hk1 (by omega) (sw.row (i := 200) rfl (Rt.rowsR_mem (by omega)))) rfl rfl ?_
      refine st (ev_not_if rfl) rfl rfl rfl ?_
      refine st (ev_move rfl) rfl rfl rfl ?_
      refine at_split_if (i := 33) rfl (fun hg33 => ?_) (fun hg33 => ?_)
      ·
        refine st_skip rfl rfl rfl ?_
        refine st_skip rfl rfl rfl ?_
        refine st_skip rfl rfl rfl ?_
        refine st_skip rfl rfl rfl ?_
        refine st_skip rfl rfl rfl ?_
        refine st_skip rfl rfl rfl ?_
        refine st (ev_pick_t rfl rfl) rfl rfl rfl ?_
        refine st (ev_assign rfl) rfl rfl rfl ?_
        refine op_nil ?_
        refine ax_then ?_
        refine At.regs (L' := [(4, _), (5, _), (6, _), (26, _)]) (.cons rfl (.cons rfl (.cons rfl (.cons rfl (.nil _))))) ?_
        refine cd_true rfl ?_
        refine cd_seq ?_
        refine cd_region ?_
        refine st (ev_build_struct ty27 rfl pl27 rfl rfl) rfl rfl rfl ?_
        refine st_store_all 4 ty27 rfl rfl rfl rfl (by first | omega | (simp only [List.length_append, List.length_cons, List.length_nil, List.length_set, List.length_replicate, List.length_take, List.length_drop, ints_length, wr_length, sha_len, node_len, recov_len, Ky.named_len, Ky.keyPub_len, Ky.hashOf_len] <;> omega) | rfl) (by first | (intro u hu; simp at hu; rcases hu with rfl | rfl <;> rfl) | (simp [Value.oneCell'])) (by first | omega | (simp only [List.length_append, List.length_cons, List.length_nil, List.length_set, List.length_replicate, List.length_take, List.length_drop, ints_length, wr_length, sha_len, node_len, recov_len, Ky.named_len, Ky.keyPub_len, Ky.hashOf_len] <;> omega) | rfl) rfl ?_
        refine st (ev_assign rfl) rfl rfl rfl ?_
        refine op_nil ?_
        refine ax_then ?_
        refine At.regs (L' := [(4, _), (5, _), (6, _)]) (.cons rfl (.cons rfl (.cons rfl (.nil _)))) ?_
        refine cd_ret ?_
        refine ax_block_ret ?_
        refine ax_then_ret ?_
        refine rt_cell_tmp (h0 := 4) (.inl rfl) Try.results14 ty27 rfl rfl rfl (by first | omega | (simp only [List.length_append, List.length_cons, List.length_nil, List.length_set, List.length_replicate, List.length_take, List.length_drop, ints_length, wr_length, sha_len, node_len, recov_len, Ky.named_len, Ky.keyPub_len, Ky.hashOf_len] <;> omega) | rfl) rfl ?_
        exact fun w1 sw => ⟨Rt.zeros, ⟨rfl, by rw [Rt.next, if_neg hc14, if_neg hc18, if_pos (by rw [e1, e2]; exact .inl hg33)]; rfl, Rt.zeros_one⟩, by rw [Rt.next, if_neg hc14, if_neg hc18, if_pos (by rw [e1, e2]; exact .inl hg33)]; rfl, sw.gives (.nil _), Rt.zeros_rd, fun h e hh => (lk_nil hh).elim⟩
      ·
        refine st (ld_mem_all (h := 3) ty31 rfl rfl rfl rfl) rfl rfl rfl ?_
        refine st (ev_fieldAddr (b := _) Try.underlying27 (f := _) rfl ty25 (by decide) rfl) rfl rfl rfl ?_
        refine st (ev_indexAddr_arr Try.underlying25 ty24 rfl rfl (by omega) (by omega)) rfl rfl rfl ?_
        refine st (ld_mem (h := 6) (k := 2) ty24 rfl rfl rfl rfl (by rw [Rt.rootC_len _ _ (by omega)]; decide)) rfl rfl rfl ?_
        refine at_eq (i := 37) (v' := .agg (List.toArray [(l'.getD 0 Rt.rol0).1, .int .i64 (l'.getD 0 Rt.rol0).2.need])) rfl (congrArg (fun x => Value.agg (List.toArray x)) (Rt.rootC_rol0 _ _ hx11.1)) ?_
        refine st_callv has32 rfl (fun w1 sw => meets_any pb mv (l'.getD 0 Rt.rol0).1 (l'.getD 0 Rt.rol0).2.need body ms (l'.getD 0 Rt.rol0).2.ks w1 (sw.sl_rd (h := 22) rfl) (by omega) ha hml (sw.sl_rd (h := 21) rfl) (fun x hx => (Qm.Keeps.of sw).mrd (hmr x hx)) hk3 (by omega) (sw.row (i := 201) rfl (Rt.rowsR_mem (by omega)))) rfl rfl ?_
        refine st (ev_not_if rfl) rfl rfl rfl ?_
        refine st (ev_pick_f rfl rfl) rfl rfl rfl ?_
        refine st (ev_assign rfl) rfl rfl rfl ?_
        refine op_nil ?_
        refine ax_then ?_
        refine At.regs (L' := [(4, _), (5, _), (6, _), (26, _)]) (.cons rfl (.cons rfl (.cons rfl (.cons rfl (.nil _))))) ?_
        refine cd_if rfl (fun hc26 => ?_) (fun hc26 => ?_)
        ·
          refine cd_seq ?_
          refine cd_region ?_
          refine st (ev_build_struct ty27 rfl pl27 rfl rfl) rfl rfl rfl ?_
          refine st_store_all 4 ty27 rfl rfl rfl rfl (by first | omega | (simp only [List.length_append, List.length_cons, List.length_nil, List.length_set, List.length_replicate, List.length_take, List.length_drop, ints_length, wr_length, sha_len, node_len, recov_len, Ky.named_len, Ky.keyPub_len, Ky.hashOf_len] <;> omega) | rfl) (by first | (intro u hu; simp at hu; rcases hu with rfl | rfl <;> rfl) | (simp [Value.oneCell'])) (by first | omega | (simp only [List.length_append, List.length_cons, List.length_nil, List.length_set, List.length_replicate, List.length_take, List.length_drop, ints_length, wr_length, sha_len, node_len, recov_len, Ky.named_len, Ky.keyPub_len, Ky.hashOf_len] <;> omega) | rfl) rfl ?_
          refine st (ev_assign rfl) rfl rfl rfl ?_
          refine op_nil ?_
          refine ax_then ?_
          refine At.regs (L' := [(4, _), (5, _), (6, _)]) (.cons rfl (.cons rfl (.cons rfl (.nil _)))) ?_
          refine cd_ret ?_
          refine ax_block_ret ?_
          refine ax_then_ret ?_
          refine rt_cell_tmp (h0 := 4) (.inl rfl) Try.results14 ty27 rfl rfl rfl (by first | omega | (simp only [List.length_append, List.length_cons, List.length_nil, List.length_set, List.length_replicate, List.length_take, List.length_drop, ints_length, wr_length, sha_len, node_len, recov_len, Ky.named_len, Ky.keyPub_len, Ky.hashOf_len] <;> omega) | rfl) rfl ?_
          exact fun w1 sw => ⟨Rt.zeros, ⟨rfl, by rw [Rt.next, if_neg hc14, if_neg hc18, if_pos (by rw [e1, e2]; exact .inr hc26)]; rfl, Rt.zeros_one⟩, by rw [Rt.next, if_neg hc14, if_neg hc18, if_pos (by rw [e1, e2]; exact .inr hc26)]; rfl, sw.gives (.nil _), Rt.zeros_rd, fun h e hh => (lk_nil hh).elim⟩
        ·
          refine cd_skip ?_
          refine ax_block ?_
          refine ax_then ?_
          refine At.regs (L' := [(4, _), (5, _), (6, _)]) (.cons rfl (.cons rfl (.cons rfl (.nil _)))) ?_
          refine cd_seq ?_
          refine cd_region ?_
          refine st (ld_mem_all (h := 6) ty27 rfl rfl rfl (Rt.rootC_len _ _ (by omega))) rfl rfl rfl ?_
          refine st_store_all 4 ty27 rfl rfl rfl rfl (Rt.rootC_len _ _ (by omega)) (Rt.rootC_one _ _ hx11.2.2) rfl rfl ?_
          refine st (ev_assign rfl) rfl rfl rfl ?_
          refine op_nil ?_
          refine ax_then ?_
          refine At.regs (L' := [(4, _), (5, _)]) (.cons rfl (.cons rfl (.nil _))) ?_
          refine cd_ret ?_
          have hd : (Rt.next (⟨ver, exp, Rt.kds l⟩ : Rt.RT) body ms) = ((Rt.dec body).1, 0) := by rw [Rt.next, if_neg hc14, if_neg hc18, if_neg (by rw [e1, e2]; exact fun hh => hh.elim hg33 hc26)]
          refine rt_cell_tmp (h0 := 4) (.inl rfl) Try.results14 ty27 rfl rfl rfl (Rt.rootC_len _ _ (by omega)) rfl ?_
          exact fun w1 sw => ⟨l', ⟨hx11.1, by rw [hd]; exact hx11.2.1, hx11.2.2⟩, by rw [hd], sw.gives (.nil _), (fun y hy => ⟨sw.rd 201 _ rfl y hy, hf11 y hy⟩), fun h e hh => (lk_nil hh).elim⟩
end Go.Proofs.Ytgfnmolbagilmaa

namespace Go.Proofs.Ytgfnmolbagilmaa.Fw
open Go Go.RowKit Go.Proofs.Ytgfnmolbagilmaa
section
variable {K : Act → World → Prop} {E : Env} {L : List (Nat × Value)} {H : List (Nat × Ent)} {F : List (Nat × FE)}
/-- one of the rows, by itself -/
theorem at_rowsl {i sz : Nat} {v : Value} {l : List Value} {rs : List (Value × Nat × List Value)} (j : Nat) (hf : lk F i = some (.rows rs)) (hx : (v, sz, l) ∈ rs) (k : At K E L H ((j, .sl v sz l) :: F)) : At K E L H F := fun a w fa sw =>
  k a w fa (sw.read j (f := .sl v sz l) (sw.rd _ _ hf _ hx) (fun h' e hh b hb => sw.off _ _ _ _ hf hh b hb _ hx))
end
end Go.Proofs.Ytgfnmolbagilmaa.Fw
namespace Go.Proofs.Ytgfnmolbagilmaa.Rt
open Go Fw Sha Ky Go.Proofs.Ytgfnmolbagilmaa
set_option linter.unusedSimpArgs false
set_option linter.unusedVariables false
instance instKD : DecidableEq KD := fun a b => decidable_of_iff (a.ks = b.ks ∧ a.need = b.need) ⟨fun h => by cases a; cases b; simp_all, fun h => by rw [h]; exact ⟨rfl, rfl⟩⟩
instance instRT : DecidableEq RT := fun a b => decidable_of_iff (a.ver = b.ver ∧ a.exp = b.exp ∧ a.roles = b.roles) ⟨fun h => by cases a; cases b; simp_all, fun h => by rw [h]; exact ⟨rfl, rfl, rfl⟩⟩
theorem kds_take (l : List Rol) {i : Nat} (hi : i < l.length) : kds (l.take (i + 1)) = kds (l.take i) ++ [(l.getD i rol0).2] := by
  rw [List.take_succ_eq_append_getElem hi, kds_snoc, List.getD_eq_getElem?_getD, List.getElem?_eq_getElem hi]
  rfl
theorem set_mid {α : Type} (a : List α) (x v : α) (b : List α) : (a ++ x :: b).set a.length v = a ++ v :: b := by
  induction a with
  | nil => rfl
  | cons y a ih => simp [ih]
theorem rolsC_mid (m : List Rol) (x : Rol) (t : List Rol) : rolsC (m ++ x :: t) = rolsC m ++ x.1 :: (.int .i64 x.2.need :: rolsC t) := by simp [rolsC, rolC]
/-- the first i slots are laid anew -/
theorem rootC_put (ver exp : Int) {m l : List Rol} {i : Nat} (hm : m.length = i) (hi : i < l.length) (hl : l.length = 4) (v : Value) : (rootC ver exp (m ++ l.drop i)).set (2 + i * 2) v = rootC ver exp ((m ++ [(v, (l.getD i rol0).2)]) ++ l.drop (i + 1)) := by
  have e1 : l.getD i rol0 = l[i] := by rw [List.getD_eq_getElem?_getD, List.getElem?_eq_getElem hi]; rfl
  have e2 : rootC ver exp (m ++ l.drop i) = ([.int .i64 ver, .int .i64 exp] ++ rolsC m) ++ l[i].1 :: (.int .i64 l[i].2.need :: (rolsC (l.drop (i + 1)) ++ zC (4 - (m ++ l.drop i).length))) := by
    have e0 : rolsC (m ++ l.drop i) = rolsC m ++ l[i].1 :: (.int .i64 l[i].2.need :: rolsC (l.drop (i + 1))) := by
      rw [List.drop_eq_getElem_cons hi]
      exact rolsC_mid m l[i] _
    rw [rootC, e0]
    simp only [List.append_assoc, List.cons_append]
  have e3 : ([Value.int .i64 ver, .int .i64 exp] ++ rolsC m).length = 2 + i * 2 := by rw [List.length_append, rolsC_len, hm]; rfl
  have e4 : (m ++ l.drop i).length = 4 := by rw [List.length_append, List.length_drop]; omega
  have e5 : ((m ++ [(v, l[i].2)]) ++ l.drop (i + 1)).length = 4 := by simp; omega
  rw [e2, ← e3, set_mid, e1]
  show _ = [Value.int .i64 ver, .int .i64 exp] ++ (rolsC ((m ++ [(v, l[i].2)]) ++ l.drop (i + 1)) ++ zC (4 - ((m ++ [(v, l[i].2)]) ++ l.drop (i + 1)).length))
  rw [e4, e5]
  simp [rolsC, rolC]
end Go.Proofs.Ytgfnmolbagilmaa.Rt

namespace Go.Proofs.Ytgfnmolbagilmaa
open Go Go.RowKit Fw
open Sha
open Ots
open Mk
set_option linter.unusedVariables false
set_option linter.unusedSimpArgs false
set_option maxRecDepth 20000 in
set_option maxHeartbeats 1000000 in
theorem cloneh_nil (w : World) : Calls Try.prog 66 #[.slice none 0 0] w (Post (ι := Value) w [] (fun _ => True) (fun v => v) (fun v => [(0, .own (v) 55 32 (flat ([])))])) := by
  refine calls_at (vs := [.slice none 0 0]) (X := []) (H := []) (F := []) 8 Try.func66 rfl rfl rfl (Sat.start0 w) ?_
  refine cd_seq ?_
  refine cd_region ?_
  refine st (ev_assign rfl) rfl rfl rfl ?_
  refine at_own_nil 2 55 32 ?_
  refine at_heq (i := 2) (v' := .own (.slice none 0 0) 55 32 (flat [])) rfl rfl ?_
  have hu2 := H32.nil
  refine op_nil ?_
  refine ax_then ?_
  refine At.regs (L' := [(0, _), (2, _)]) (.cons rfl (.cons rfl (.nil _))) ?_
  refine cd_seq ?_
  refine cd_seq ?_
  refine cd_region ?_
  refine st (ev_move rfl) rfl rfl rfl ?_
  refine st (ev_eql_slice_nil Try.underlying22 rfl rfl) rfl rfl rfl ?_
  refine op_nil ?_
  refine ax_then ?_
  refine At.regs (L' := [(0, _), (2, _), (4, _)]) (.cons rfl (.cons rfl (.cons rfl (.nil _)))) ?_
  refine cd_true rfl ?_
  refine cd_seq ?_
  refine cd_region ?_
  refine st (ev_assign rfl) rfl rfl rfl ?_
  refine at_own_nil 2 55 32 ?_
  refine at_heq (i := 2) (v' := .own (.slice none 0 0) 55 32 (flat [])) rfl rfl ?_
  have hu2 := H32.nil
  refine op_nil ?_
  refine ax_then ?_
  refine At.regs (L' := [(0, _), (2, _)]) (.cons rfl (.cons rfl (.nil _))) ?_
  refine cd_ret ?_
  refine ax_then_ret ?_
  refine rt_tmp (.inl rfl) Try.results66 rfl ?_
  exact fun w1 sw => ⟨_, trivial, rfl, (sw.gives (N := [(2, _)]) (.cons rfl (.nil _))).rn 0⟩
set_option maxRecDepth 20000 in
set_option maxHeartbeats 1000000 in
theorem cloneh_some (x : Addr) (n c : Nat) (l : List (List Int)) (w : World) (hu : H32 l) (hl : l.length ≤ 4398046510000) (h : Rd w (.slice (some x) n c) 32 (flat l)) : Calls Try.prog 66 #[.slice (some x) n c] w (Post (ι := Value) w [] (fun _ => True) (fun v => v) (fun v => [(0, .own (v) 55 32 (flat (l)))])) := by
  refine calls_at (vs := [.slice (some x) n c]) (X := []) (H := []) (F := [(0, .sl (.slice (some x) n c) 32 (flat (l)))]) 8 Try.func66 rfl rfl rfl (Sat.rd0 0 h) ?_
  refine cd_seq ?_
  refine cd_region ?_
  refine st (ev_assign rfl) rfl rfl rfl ?_
  refine at_own_nil 2 55 32 ?_
  refine at_heq (i := 2) (v' := .own (.slice none 0 0) 55 32 (flat [])) rfl rfl ?_
  have hu2 := H32.nil
  refine op_nil ?_
  refine ax_then ?_
  refine At.regs (L' := [(0, _), (2, _)]) (.cons rfl (.cons rfl (.nil _))) ?_
  refine cd_seq ?_
  refine cd_seq ?_
  refine cd_region ?_
  refine st (ev_move rfl) rfl rfl rfl ?_
  refine st (ev_eql_slice_nil Try.underlying22 rfl rfl) rfl rfl rfl ?_
  refine op_nil ?_
  refine ax_then ?_
  refine At.regs (L' := [(0, _), (2, _), (4, _)]) (.cons rfl (.cons rfl (.cons rfl (.nil _)))) ?_
  refine cd_false rfl ?_
  refine cd_skip ?_
  refine ax_then ?_
  refine At.regs (L' := [(0, _), (2, _)]) (.cons rfl (.cons rfl (.nil _))) ?_
  refine cd_seq ?_
  refine cd_region ?_
  refine st_buildSlice (h := 5) (cells := []) Try.underlying22 ty55 rfl (by decide) (fill_nil.trans (by simp)) rfl rfl rfl (fun b5 => ?_)
  refine st (ev_move rfl) rfl rfl rfl ?_
  refine st_appendh (h := 5) (l := []) (cs := l) Try.underlying22 Try.underlying22 ty55 rfl rfl rfl rfl (fun w1 sw => sw.sl_rd (h := 0) rfl) H32.nil hu (by simp; omega) (by decide) rfl rfl (fun v7 _ => ?_)
  refine at_heq (i := 5) (v' := .own (v7) 55 32 (flat (l))) rfl (by rw [List.nil_append]) ?_
  refine st (ev_assign rfl) rfl rfl rfl ?_
  refine op_nil ?_
  refine ax_then ?_
  refine At.regs (L' := [(2, _)]) (.cons rfl (.nil _)) ?_
  refine cd_ret ?_
  refine rt_tmp (.inl rfl) Try.results66 rfl ?_
  exact fun w1 sw => ⟨_, trivial, rfl, (sw.gives (N := [(5, _)]) (.cons rfl (.nil _))).rn 0⟩
theorem cloneh_any (p : Value) (l : List (List Int)) (w : World) (hu : H32 l) (hl : l.length ≤ 4398046510000) (h : Rd w p 32 (flat l)) : Calls Try.prog 66 #[p] w (Post (ι := Value) w [] (fun _ => True) (fun v => v) (fun v => [(0, .own (v) 55 32 (flat (l)))])) := by
  have h' := h
  obtain ⟨a, len, cap, rfl, h1, h2, h3, h4⟩ := h
  cases a with
  | some x => exact cloneh_some x len cap l w hu hl h'
  | none =>
    have hc := h3 rfl
    have hn : len = 0 := by omega
    subst hc; subst hn
    have : l = [] := List.length_eq_zero_iff.1 (by rw [flat_len hu] at h1; omega)
    subst this
    exact cloneh_nil w
set_option maxRecDepth 20000 in
set_option maxHeartbeats 1000000 in
theorem fresh_any (v e x : Int) (r : List Value) (hr : r.length = 8) (w : World) : Calls Try.prog 17 #[.agg (Value.int .i64 v :: Value.int .i64 e :: r).toArray, .int .i64 x] w (PostV w (.bool (decide (x < e)))) := by
  refine calls_at (vs := [.agg (Value.int .i64 v :: Value.int .i64 e :: r).toArray, .int .i64 x]) (X := []) (H := []) (F := []) 9 Try.func17 rfl rfl rfl (Sat.start0 w) ?_
  refine cd_seq ?_
  refine cd_region ?_
  refine st_box (h := 2) rfl rfl rfl rfl (fun b2 => ?_)
  refine st (ev_assign rfl) rfl rfl rfl ?_
  refine op_nil ?_
  refine ax_then ?_
  refine At.regs (L' := [(1, _), (2, _), (4, _)]) (.cons rfl (.cons rfl (.cons rfl (.nil _)))) ?_
  refine cd_seq ?_
  refine cd_region ?_
  refine st (ev_fieldAddr (b := _) Try.underlying27 (f := _) rfl ty3 (by decide) rfl) rfl rfl rfl ?_
  refine st (ld_blk1 (h := 2) ty3 rfl rfl rfl rfl) rfl rfl rfl ?_
  refine st (ev_move rfl) rfl rfl rfl ?_
  refine st (ev_gtr rfl rfl) rfl rfl rfl ?_
  refine st (ev_assign rfl) rfl rfl rfl ?_
  refine op_nil ?_
  refine ax_then ?_
  refine At.regs (L' := [(4, _)]) (.cons rfl (.nil _)) ?_
  refine cd_ret ?_
  refine rt_tmp (.inl rfl) Try.results17 rfl ?_
  exact fun w1 sw => ⟨rfl, sw.gives (.nil _)⟩
set_option maxRecDepth 20000 in
set_option maxHeartbeats 1000000 in
theorem known8_any (w : World) : Calls Try.prog 18 #[] w (PostV w (.bool true)) := by
  refine calls_at (vs := []) (X := []) (H := []) (F := []) 8 Try.func18 rfl rfl rfl (Sat.start0 w) ?_
  refine cd_seq ?_
  refine cd_region ?_
  refine st (ev_assign rfl) rfl rfl rfl ?_
  refine op_nil ?_
  refine ax_then ?_
  refine At.regs (L' := [(0, _)]) (.cons rfl (.nil _)) ?_
  refine cd_seq ?_
  refine cd_region ?_
  refine st (ev_build_struct ty27 rfl pl27 rfl rfl) rfl rfl rfl ?_
  refine st_callv has17 rfl (fun w1 sw => fresh_any (0) (5) (4) ([.slice none 0 0, .int .i64 0, .slice none 0 0, .int .i64 0, .slice none 0 0, .int .i64 0, .slice none 0 0, .int .i64 0]) rfl w1) rfl rfl ?_
  refine st (ev_move rfl) rfl rfl rfl ?_
  refine at_eq (i := 3) (v' := .bool true) rfl (by simp only [Value.bool.injEq, decide_eq_true_eq, decide_eq_false_iff_not]; decide) ?_
  refine st (ev_build_struct ty27 rfl pl27 rfl rfl) rfl rfl rfl ?_
  refine st_callv has17 rfl (fun w1 sw => fresh_any (0) (5) (5) ([.slice none 0 0, .int .i64 0, .slice none 0 0, .int .i64 0, .slice none 0 0, .int .i64 0, .slice none 0 0, .int .i64 0]) rfl w1) rfl rfl ?_
  refine st (ev_not_if rfl) rfl rfl rfl ?_
  refine st (ev_pick_t rfl rfl) rfl rfl rfl ?_
  refine st (ev_assign rfl) rfl rfl rfl ?_
  refine op_nil ?_
  refine ax_then ?_
  refine At.regs (L' := [(0, _)]) (.cons rfl (.nil _)) ?_
  refine cd_ret ?_
  refine rt_tmp (.inl rfl) Try.results18 rfl ?_
  exact fun w1 sw => ⟨rfl, sw.gives (.nil _)⟩
end Go.Proofs.Ytgfnmolbagilmaa

namespace Go.Proofs.Ytgfnmolbagilmaa
open Go Go.RowKit Fw
open Sha
open Ots
open Mk
set_option linter.unusedVariables false
set_option linter.unusedSimpArgs false
set_option maxRecDepth 20000 in
set_option maxHeartbeats 4000000 in
theorem copied_any (ver exp : Int) (l : List Rt.Rol) (w : World) (hl : l.length = 4) (hone : ∀ x, x ∈ l → x.1.oneCell' = true) (hk : Rt.RTok (⟨ver, exp, Rt.kds l⟩ : Rt.RT)) (h : ∀ y, y ∈ Rt.rowsR l → Rd w y.1 y.2.1 y.2.2) : Calls Try.prog 36 #[.agg (List.toArray (Rt.rootC ver exp l))] w (PostR (ι := List Rt.Rol) w (fun l' => l'.length = 4 ∧ Rt.kds l' = Rt.kds l ∧ ∀ x, x ∈ l' → x.1.oneCell' = true) (fun l' => .agg (List.toArray (Rt.rootC ver exp l'))) (fun _ => []) (fun l' => Rt.rowsR l')) := by
  refine calls_at (vs := [.agg (List.toArray (Rt.rootC ver exp l))]) (X := []) (H := []) (F := [(200, .rows (Rt.rowsR (l)))]) 20 Try.func36 rfl rfl rfl ((Sat.start0 w).read (f := .rows (Rt.rowsR (l))) 200 h off_nil) ?_
  refine cd_seq ?_
  refine cd_region ?_
  refine st_box (h := 1) rfl rfl rfl rfl (fun b1 => ?_)
  refine st_alloc (h := 2) ty27 rfl rfl rfl (fun b2 => ?_)
  refine op_nil ?_
  refine ax_then ?_
  refine At.regs (L' := [(1, _), (2, _)]) (.cons rfl (.cons rfl (.nil _))) ?_
  refine cd_seq ?_
  refine cd_seq ?_
  refine cd_region ?_
  refine st (ev_fieldAddr (b := _) Try.underlying27 (f := _) rfl ty25 (by decide) rfl) rfl rfl rfl ?_
  refine st (ld_blk (h := 1) ty25 rfl rfl rfl (by rw [Rt.rootC_len _ _ (by omega)]; decide)) rfl rfl rfl ?_
  refine at_eq (i := 6) (v' := .agg (List.toArray (Rt.rolsC l))) rfl (congrArg (fun x => Value.agg (List.toArray x)) (Rt.rootC_rols _ _ hl)) ?_
  refine st (ev_move rfl) rfl rfl rfl ?_
  refine op_nil ?_
  refine ax_then ?_
  refine At.regs (L' := [(1, _), (2, _), (6, _), (7, _)]) (.cons rfl (.cons rfl (.cons rfl (.cons rfl (.nil _))))) ?_
  refine cd_block ?_
  refine at_rows_nil 201 ?_
  refine cd_loop (ι := List Rt.Rol) (fun m => m.length ≤ 4 ∧ Rt.kds m = Rt.kds (l.take m.length) ∧ (∀ y, y ∈ Rt.rowsR m → ∀ b', b' ∈ blkOf y.1 → w.heap.size ≤ b') ∧ ∀ y, y ∈ m → y.1.oneCell' = true) (fun m => 4 - m.length)
      (fun m => [(1, .pointer (some ⟨b1, 0, none⟩)), (2, .pointer (some ⟨b2, 0, none⟩)), (6, .agg (List.toArray (Rt.rolsC l))), (7, .int .i64 (m.length : Nat))])
      (fun m => [(1, .blk (b1) (.cells (Rt.rootC ver exp (m ++ l.drop (m).length)).toArray 27)), (2, .blk (b2) (.cells ([.int .i64 0, .int .i64 0, .slice none 0 0, .int .i64 0, .slice none 0 0, .int .i64 0, .slice none 0 0, .int .i64 0, .slice none 0 0, .int .i64 0]).toArray 27))])
      (fun m => [(200, .rows (Rt.rowsR (l))), (201, .rows (Rt.rowsR (m)))])
      [] (⟨Nat.zero_le _, rfl, (fun y hy => by cases hy), (fun y hy => by cases hy)⟩) (.cons rfl (.cons rfl (.cons rfl (.cons rfl (.nil _))))) (.cons rfl (.cons rfl (.nil _))) (.cons rfl (.cons rfl (.nil _))) (fun m hi => ?_)
  have hi1 := hi.1
  have e0 : (m.length : Int).toNat = m.length := by omega
  have hml : (m ++ l.drop m.length).length = 4 := by rw [List.length_append, List.length_drop]; omega
  refine cd_seq ?_
  refine cd_region ?_
  refine st (ev_lss rfl rfl) rfl rfl rfl ?_
  refine op_nil ?_
  refine ax_then ?_
  refine At.regs (L' := [(1, _), (2, _), (6, _), (7, _), (8, _)]) (.cons rfl (.cons rfl (.cons rfl (.cons rfl (.cons rfl (.nil _)))))) ?_
  refine cd_seq ?_
  refine cd_if rfl (fun hc8 => ?_) (fun hc8 => ?_)
  ·
    have hlt : m.length < 4 := by omega
    have hku := hk.h32 _ (Rt.kds_get (l := l) (i := m.length) (by omega))
    have hkm := hk.few _ (Rt.kds_get (l := l) (i := m.length) (by omega))
    have hoi : (l.getD m.length Rt.rol0).1.oneCell' = true := hone _ (by rw [List.getD_eq_getElem?_getD, List.getElem?_eq_getElem (by omega)]; exact List.getElem_mem _)
    have hput := fun v => (Rt.rootC_put ver exp (m := m) (l := l) rfl (by omega) hl v).trans (show _ = Rt.rootC ver exp ((m ++ [(v, (l.getD m.length Rt.rol0).2)]) ++ l.drop (m ++ [(v, (l.getD m.length Rt.rol0).2)]).length) by rw [List.length_append]; rfl)
    refine cd_skip ?_
    refine ax_then ?_
    refine At.regs (L' := [(1, _), (2, _), (6, _), (7, _), (8, _)]) (.cons rfl (.cons rfl (.cons rfl (.cons rfl (.cons rfl (.nil _)))))) ?_
    refine cd_seq ?_
    refine cd_block ?_
    refine cd_seq ?_
    refine cd_region ?_
    refine st (ev_move rfl) rfl rfl rfl ?_
    refine st (ev_index Try.underlying25 ty24 rfl rfl rfl (by omega) (by omega)) rfl rfl rfl ?_
    refine at_eq (i := 10) (v' := .agg (List.toArray [(l.getD m.length Rt.rol0).1, .int .i64 (l.getD m.length Rt.rol0).2.need])) rfl (congrArg Value.agg (by rw [e0]; exact ext_rols (by omega))) ?_
    refine st_alloc (h := 4) ty24 rfl rfl rfl (fun b4 => ?_)
    refine st (ev_assign rfl) rfl rfl rfl ?_
    refine st_store_all 4 ty24 rfl rfl rfl rfl rfl (by intro u0 hu0; simp at hu0; rcases hu0 with rfl | rfl; simpa using hoi; rfl) rfl rfl ?_
    refine op_nil ?_
    refine ax_then ?_
    refine At.regs (L' := [(1, _), (2, _), (3, _), (4, _), (6, _), (7, _), (8, _), (9, _), (10, _)]) (.cons rfl (.cons rfl (.cons rfl (.cons rfl (.cons rfl (.cons rfl (.cons rfl (.cons rfl (.cons rfl (.nil _)))))))))) ?_
    refine cd_region ?_
    refine st (ev_move rfl) rfl rfl rfl ?_
    refine st (ev_fieldAddr (b := _) Try.underlying24 (f := _) rfl ty22 (by decide) rfl) rfl rfl rfl ?_
    refine st (ld_blk1 (h := 4) ty22 rfl rfl rfl rfl) rfl rfl rfl ?_
    refine st_call has66 rfl (fun w1 sw => rn 14 (cloneh_any (l.getD m.length Rt.rol0).1 (l.getD m.length Rt.rol0).2.ks w1 hku (by omega) (sw.row (i := 200) rfl (Rt.rowsR_mem (by omega))))) nil_all rfl rfl (fun v14 _ => ?_)
    refine at_own_shape (h := 14) rfl (fun hs14 => ?_)
    refine st (ev_fieldAddr (b := _) Try.underlying27 (f := _) rfl ty25 (by decide) rfl) rfl rfl rfl ?_
    refine st (ev_indexAddr_arr Try.underlying25 ty24 rfl rfl (by omega) (by omega)) rfl rfl rfl ?_
    refine st (ev_fieldAddr (b := _) Try.underlying24 (f := _) rfl ty22 (by decide) rfl) rfl rfl rfl ?_
    refine st_store1 1 ty22 rfl rfl rfl hs14.2 (by rw [Rt.rootC_len _ _ (by omega), Int.toNat_natCast]; show 0 + 2 + m.length * 2 + 0 < 10; omega) rfl ?_
    refine at_heq (i := 1) (v' := .blk (b1) (.cells (Rt.rootC ver exp ((m ++ [(v14, (l.getD m.length Rt.rol0).2)]) ++ l.drop ((m ++ [(v14, (l.getD m.length Rt.rol0).2)])).length)).toArray 27)) rfl (by rw [← hput v14, Int.toNat_natCast]; rfl) ?_
    refine op_nil ?_
    refine ax_block ?_
    refine ax_then ?_
    refine At.regs (L' := [(1, _), (2, _), (3, _), (4, _), (6, _), (7, _), (8, _), (9, _), (10, _), (11, _), (12, _), (13, _), (14, _), (15, _), (16, _), (17, _)]) (.cons rfl (.cons rfl (.cons rfl (.cons rfl (.cons rfl (.cons rfl (.cons rfl (.cons rfl (.cons rfl (.cons rfl (.cons rfl (.cons rfl (.cons rfl (.cons rfl (.cons rfl (.cons rfl (.nil _))))))))))))))))) ?_
    refine at_rows_own (h := 14) (i := 201) (H' := [(1, _), (2, _)]) rfl rfl (.cons rfl (.cons rfl (.nil _))) rfl (fun b' hb' => by cases hb') (fun hf => ?_)
    refine cd_region ?_
    refine st (ev_add64 rfl rfl (by omega) (by omega)) rfl rfl rfl ?_
    refine st (ev_move rfl) rfl rfl rfl ?_
    refine op_nil ?_
    refine ax_eq (i := 7) (v' := .int .i64 ((m ++ [(v14, (l.getD m.length Rt.rol0).2)]).length : Nat)) rfl (by rw [List.length_append]; rfl) ?_
    refine ax_rows (i := 201) (rs' := Rt.rowsR (m ++ [(v14, (l.getD m.length Rt.rol0).2)])) rfl (fun y hy => ((Rt.rowsR_snoc m _ y).1 hy).elim (fun e => e ▸ List.mem_cons_self ..) (fun h => List.mem_cons_of_mem _ h)) ?_
    exact at_again ((m ++ [(v14, (l.getD m.length Rt.rol0).2)])) (⟨by rw [List.length_append]; simp; omega, by rw [Rt.kds_snoc, List.length_append, List.length_singleton, Rt.kds_take l (by omega), hi.2.1], (fun y hy => by rcases (Rt.rowsR_snoc m _ y).1 hy with rfl | hy; exact hf; exact hi.2.2.1 y hy), (fun y hy => by rcases List.mem_append.1 hy with hy | hy; exact hi.2.2.2 y hy; rw [List.mem_singleton.1 hy]; exact hs14.2)⟩) (by rw [List.length_append]; simp; omega) (.cons rfl (.cons rfl (.cons rfl (.cons rfl (.nil _))))) (.cons rfl (.cons rfl (.nil _))) (.cons rfl (.cons rfl (.nil _)))
  ·
    have hm4 : m.length = 4 := by omega
    have hdn : m ++ l.drop m.length = m := by rw [List.drop_eq_nil_of_le (by omega), List.append_nil]
    refine at_heq (i := 1) (v' := .blk (b1) (.cells (Rt.rootC ver exp m).toArray 27)) rfl (by rw [hdn]) ?_
    refine cd_exit ?_
    refine ax_then_exit ?_
    refine ax_then_exit ?_
    refine ax_block_hit ?_
    refine ax_then ?_
    refine At.regs (L' := [(1, _), (2, _)]) (.cons rfl (.cons rfl (.nil _))) ?_
    refine cd_seq ?_
    refine cd_region ?_
    refine st (ld_blk_all (h := 1) ty27 rfl rfl rfl (Rt.rootC_len _ _ (by omega))) rfl rfl rfl ?_
    refine st_store_all 2 ty27 rfl rfl rfl rfl (Rt.rootC_len _ _ (by omega)) (Rt.rootC_one _ _ hi.2.2.2) rfl rfl ?_
    refine op_nil ?_
    refine ax_then ?_
    refine At.regs (L' := [(2, _)]) (.cons rfl (.nil _)) ?_
    refine cd_ret ?_
    refine rt_cell (h0 := 2) (.inl rfl) Try.results36 ty27 rfl rfl rfl (Rt.rootC_len _ _ (by omega)) ?_
    exact fun w1 sw => ⟨m, ⟨hm4, by rw [hi.2.1, List.take_of_length_le (by omega)], hi.2.2.2⟩, rfl, sw.gives (.nil _), (fun y hy => ⟨sw.rd 201 _ rfl y hy, hi.2.2.1 y hy⟩), fun h e hh => (lk_nil hh).elim⟩
set_option maxRecDepth 20000 in
set_option maxHeartbeats 8000000 in
theorem follow_any (ver exp : Int) (l : List Rt.Rol) (lv : Value) (es : List Rt.Ev) (w : World) (hl : l.length = 4) (hone : ∀ x, x ∈ l → x.1.oneCell' = true) (hk : Rt.RTok (⟨ver, exp, Rt.kds l⟩ : Rt.RT)) (h : ∀ y, y ∈ Rt.rowsR l → Rd w y.1 y.2.1 y.2.2) (he : ∀ x, x ∈ es → Rt.EvOk x) (hel : es.length ≤ 4398046511104) (hlv : Rd w lv 2 (Rt.eflat es)) (hev : ∀ x, x ∈ es → Rt.EvRd w x) : Calls Try.prog 19 #[.agg (List.toArray (Rt.rootC ver exp l)), lv] w (PostE (ι := List Rt.Rol) w (Rt.rowsR l) (fun l' => l'.length = 4 ∧ Rt.kds l' = (Rt.follow (⟨ver, exp, Rt.kds l⟩ : Rt.RT) es).1.roles ∧ ∀ x, x ∈ l' → x.1.oneCell' = true) (fun l' => .tuple #[.agg (List.toArray (Rt.rootC (Rt.follow (⟨ver, exp, Rt.kds l⟩ : Rt.RT) es).1.ver (Rt.follow (⟨ver, exp, Rt.kds l⟩ : Rt.RT) es).1.exp l')), .int .i64 ((Rt.follow (⟨ver, exp, Rt.kds l⟩ : Rt.RT) es).2.1 : Nat), .int .i64 (Rt.follow (⟨ver, exp, Rt.kds l⟩ : Rt.RT) es).2.2]) (fun l' => Rt.rowsR l')) := by
  refine calls_at (vs := [.agg (List.toArray (Rt.rootC ver exp l)), lv]) (X := []) (H := []) (F := [(25, .rows (Rt.erows es)), (24, .sl lv 2 (Rt.eflat es)), (200, .rows (Rt.rowsR (l)))]) 36 Try.func19 rfl rfl rfl (((((Sat.start0 w).read (f := .rows (Rt.rowsR (l))) 200 h off_nil).read (f := .sl lv 2 (Rt.eflat es)) 24 hlv off_nil).read (f := .rows (Rt.erows es)) 25 (Rt.erows_rd hev) off_nil)) ?_
  refine cd_seq ?_
  refine cd_region ?_
  refine st_box (h := 2) rfl rfl rfl rfl (fun b2 => ?_)
  refine st_alloc (h := 4) ty27 rfl rfl rfl (fun b4 => ?_)
  refine st (ev_assign rfl) rfl rfl rfl ?_
  refine st (ev_assign rfl) rfl rfl rfl ?_
  refine op_nil ?_
  refine ax_then ?_
  refine At.regs (L' := [(1, _), (2, _), (4, _), (5, _), (6, _)]) (.cons rfl (.cons rfl (.cons rfl (.cons rfl (.cons rfl (.nil _)))))) ?_
  refine cd_seq ?_
  refine cd_region ?_
  refine st (ld_blk_all (h := 2) ty27 rfl rfl rfl (Rt.rootC_len _ _ (by omega))) rfl rfl rfl ?_
  refine st_callR 201 has36 rfl (fun w1 sw => copied_any ver exp l w1 hl hone hk (fun y hy => sw.rd 200 _ rfl y hy)) rfl rfl (fun l1 hx12 hf12 => ?_)
  have hl41 := hx12.1
  refine st_store_all 2 ty27 rfl rfl rfl rfl (Rt.rootC_len _ _ (by omega)) (Rt.rootC_one _ _ hx12.2.2) (Rt.rootC_len _ _ (by omega)) rfl ?_
  refine op_nil ?_
  refine ax_then ?_
  refine At.regs (L' := [(1, _), (2, _), (4, _), (5, _), (6, _)]) (.cons rfl (.cons rfl (.cons rfl (.cons rfl (.cons rfl (.nil _)))))) ?_
  refine cd_seq ?_
  refine cd_seq ?_
  refine cd_region ?_
  refine st (ev_move rfl) rfl rfl rfl ?_
  refine st (ev_len_rd (h := 24) (n := es.length) Try.underlying43 rfl rfl (Rt.eflat_len es) (by decide)) rfl rfl rfl ?_
  refine st (ev_move rfl) rfl rfl rfl ?_
  refine op_nil ?_
  refine ax_then ?_
  refine At.regs (L' := [(1, _), (2, _), (4, _), (5, _), (6, _), (13, _), (14, _), (15, _)]) (.cons rfl (.cons rfl (.cons rfl (.cons rfl (.cons rfl (.cons rfl (.cons rfl (.cons rfl (.nil _))))))))) ?_
  refine cd_block ?_
  refine cd_loop (ι := Nat × Int × Int × List Rt.Rol) (fun p => p.1 ≤ es.length ∧ p.2.2.2.length = 4 ∧ (∀ y, y ∈ p.2.2.2 → y.1.oneCell' = true) ∧ Rt.RTok ⟨p.2.1, p.2.2.1, Rt.kds p.2.2.2⟩ ∧ Rt.At (⟨ver, exp, Rt.kds l⟩ : Rt.RT) es p.1 ⟨p.2.1, p.2.2.1, Rt.kds p.2.2.2⟩ ∧ ∀ y, y ∈ Rt.rowsR p.2.2.2 → y ∈ Rt.rowsR l ∨ ∀ b', b' ∈ blkOf y.1 → w.heap.size ≤ b') (fun p => es.length - p.1)
      (fun p => [(1, lv), (2, .pointer (some ⟨b2, 0, none⟩)), (4, .pointer (some ⟨b4, 0, none⟩)), (13, lv), (14, .int .i64 (es.length : Nat)), (15, .int .i64 (p.1 : Nat))])
      (fun p => [(2, .blk (b2) (.cells (Rt.rootC p.2.1 p.2.2.1 p.2.2.2).toArray 27)), (4, .blk (b4) (.cells ([.int .i64 0, .int .i64 0, .slice none 0 0, .int .i64 0, .slice none 0 0, .int .i64 0, .slice none 0 0, .int .i64 0, .slice none 0 0, .int .i64 0]).toArray 27))])
      (fun p => [(24, .sl lv 2 (Rt.eflat es)), (25, .rows (Rt.erows es)), (201, .rows (Rt.rowsR (p.2.2.2)))])
      (0, ver, exp, l1) (⟨Nat.zero_le _, hl41, hx12.2.2, hx12.2.1 ▸ hk, hx12.2.1 ▸ Rt.At.init _ _, fun y hy => .inr (hf12 y hy)⟩) (.cons rfl (.cons rfl (.cons rfl (.cons rfl (.cons rfl (.cons rfl (.nil _))))))) (.cons rfl (.cons rfl (.nil _))) (.cons rfl (.cons rfl (.cons rfl (.nil _)))) (fun p hi => ?_)
  obtain ⟨i, v, x, r⟩ := p
  dsimp only at hi ⊢
  have hi1 := hi.1
  have hr4 := hi.2.1
  have e0 : (i : Int).toNat = i := by omega
  refine cd_seq ?_
  refine cd_region ?_
  refine st (ev_lss rfl rfl) rfl rfl rfl ?_
  refine op_nil ?_
  refine ax_then ?_
  refine At.regs (L' := [(1, _), (2, _), (4, _), (13, _), (14, _), (15, _), (16, _)]) (.cons rfl (.cons rfl (.cons rfl (.cons rfl (.cons rfl (.cons rfl (.cons rfl (.nil _)))))))) ?_
  refine cd_seq ?_
  refine cd_if rfl (fun hc16 => ?_) (fun hc16 => ?_)
  ·
    have hlt : i < es.length := by omega
    have hxo := he es[i] (List.getElem_mem hlt)
    have hp1 := rd_shape (hev es[i] (List.getElem_mem hlt)).1
    have hp2 := rd_shape (hev es[i] (List.getElem_mem hlt)).2.1
    refine cd_skip ?_
    refine ax_then ?_
    refine At.regs (L' := [(1, _), (2, _), (4, _), (13, _), (14, _), (15, _), (16, _)]) (.cons rfl (.cons rfl (.cons rfl (.cons rfl (.cons rfl (.cons rfl (.cons rfl (.nil _)))))))) ?_
    refine cd_seq ?_
    refine cd_block ?_
    refine cd_seq ?_
    refine cd_region ?_
    refine st (ev_move rfl) rfl rfl rfl ?_
    refine st (ev_indexAddr_rd (h := 24) (n := es.length) Try.underlying43 ty31 rfl rfl rfl (Rt.eflat_len es) (by decide) (by omega) (by omega)) rfl rfl rfl ?_
    refine st (ld_rd (k := (i : Int).toNat * 2) (h := 24) ty31 rfl rfl rfl (by decide) (by rw [Rt.eflat_len, e0]; omega)) rfl rfl rfl ?_
    refine at_eq (i := 19) (v' := .agg (List.toArray [es[i].pb, es[i].mv])) rfl (congrArg (fun x => Value.agg (List.toArray x)) (by rw [e0]; exact Rt.eflat_get hlt)) ?_
    refine st_alloc (h := 8) ty31 rfl rfl rfl (fun b8 => ?_)
    refine st (ev_assign rfl) rfl rfl rfl ?_
    refine st_store_all 8 ty31 rfl rfl rfl rfl rfl (by intro u0 hu0; simp only [List.mem_cons, List.not_mem_nil, or_false] at hu0; rcases hu0 with rfl | rfl; exact hp1.2; exact hp2.2) rfl rfl ?_
    refine op_nil ?_
    refine ax_then ?_
    refine At.regs (L' := [(1, _), (2, _), (4, _), (7, _), (8, _), (13, _), (14, _), (15, _), (16, _), (17, _), (18, _), (19, _)]) (.cons rfl (.cons rfl (.cons rfl (.cons rfl (.cons rfl (.cons rfl (.cons rfl (.cons rfl (.cons rfl (.cons rfl (.cons rfl (.cons rfl (.nil _))))))))))))) ?_
    refine cd_seq ?_
    refine cd_region ?_
    refine st (ld_blk_all (h := 2) ty27 rfl rfl rfl (Rt.rootC_len _ _ (by omega))) rfl rfl rfl ?_
    refine st (ld_blk_all (h := 8) ty31 rfl rfl rfl (by first | omega | (simp only [List.length_append, List.length_cons, List.length_nil, List.length_set, List.length_replicate, List.length_take, List.length_drop, ints_length, wr_length, sha_len, node_len, recov_len, Ky.named_len, Ky.keyPub_len, Ky.hashOf_len] <;> omega) | rfl)) rfl rfl rfl ?_
    refine st_callR 202 has14 rfl (fun w1 sw => next_any es[i].pb es[i].mv v x r es[i].body es[i].ms w1 hr4 hi.2.2.1 hi.2.2.2.1 hxo.1 hxo.2.1 hxo.2.2.1 hxo.2.2.2 (fun y hy => sw.rd 201 _ rfl y hy) (Rt.ev_of_rows (fun y hy => sw.rd 25 _ rfl y hy) (List.getElem_mem hlt)).1 (Rt.ev_of_rows (fun y hy => sw.rd 25 _ rfl y hy) (List.getElem_mem hlt)).2.1 (Rt.ev_of_rows (fun y hy => sw.rd 25 _ rfl y hy) (List.getElem_mem hlt)).2.2) rfl rfl (fun r' hx hf => ?_)
    have hr4' := hx.1
    refine st (ev_move rfl) rfl rfl rfl ?_
    refine st (ev_extract rfl rfl) rfl rfl rfl ?_
    refine st (ev_extract rfl rfl) rfl rfl rfl ?_
    refine st_alloc (h := 9) ty27 rfl rfl rfl (fun b9 => ?_)
    refine st_store_all 9 ty27 rfl rfl rfl rfl (Rt.rootC_len _ _ (by omega)) (Rt.rootC_one _ _ hx.2.2) rfl rfl ?_
    refine st (ev_assign rfl) rfl rfl rfl ?_
    refine op_nil ?_
    refine ax_then ?_
    refine At.regs (L' := [(1, _), (2, _), (4, _), (7, _), (8, _), (9, _), (10, _), (13, _), (14, _), (15, _), (16, _), (17, _), (18, _), (19, _), (20, _), (21, _), (22, _), (23, _), (24, _), (25, _)]) (.cons rfl (.cons rfl (.cons rfl (.cons rfl (.cons rfl (.cons rfl (.cons rfl (.cons rfl (.cons rfl (.cons rfl (.cons rfl (.cons rfl (.cons rfl (.cons rfl (.cons rfl (.cons rfl (.cons rfl (.cons rfl (.cons rfl (.cons rfl (.nil _))))))))))))))))))))) ?_
    refine cd_seq ?_
    refine cd_seq ?_
    refine cd_region ?_
    refine st (ev_move rfl) rfl rfl rfl ?_
    refine st (ev_neq rfl rfl) rfl rfl rfl ?_
    refine op_nil ?_
    refine ax_then ?_
    refine At.regs (L' := [(1, _), (2, _), (4, _), (7, _), (8, _), (9, _), (10, _), (13, _), (14, _), (15, _), (16, _), (17, _), (18, _), (19, _), (20, _), (21, _), (22, _), (23, _), (24, _), (25, _), (26, _), (27, _)]) (.cons rfl (.cons rfl (.cons rfl (.cons rfl (.cons rfl (.cons rfl (.cons rfl (.cons rfl (.cons rfl (.cons rfl (.cons rfl (.cons rfl (.cons rfl (.cons rfl (.cons rfl (.cons rfl (.cons rfl (.cons rfl (.cons rfl (.cons rfl (.cons rfl (.cons rfl (.nil _))))))))))))))))))))))) ?_
    refine cd_if rfl (fun hc27 => ?_) (fun hc27 => ?_)
    ·
      refine cd_seq ?_
      refine cd_region ?_
      refine st (ld_blk_all (h := 2) ty27 rfl rfl rfl (Rt.rootC_len _ _ (by omega))) rfl rfl rfl ?_
      refine st (ev_move rfl) rfl rfl rfl ?_
      refine st (ev_move rfl) rfl rfl rfl ?_
      refine st_store_all 4 ty27 rfl rfl rfl rfl (Rt.rootC_len _ _ (by omega)) (Rt.rootC_one _ _ hi.2.2.1) rfl rfl ?_
      refine st (ev_assign rfl) rfl rfl rfl ?_
      refine st (ev_assign rfl) rfl rfl rfl ?_
      refine op_nil ?_
      refine ax_then ?_
      refine At.regs (L' := [(1, _), (2, _), (4, _), (5, _), (6, _), (7, _), (8, _), (9, _), (10, _), (13, _), (14, _), (15, _), (16, _), (17, _), (18, _), (19, _), (20, _), (21, _), (22, _), (23, _), (24, _), (25, _), (26, _), (27, _), (28, _), (29, _), (30, _)]) (.cons rfl (.cons rfl (.cons rfl (.cons rfl (.cons rfl (.cons rfl (.cons rfl (.cons rfl (.cons rfl (.cons rfl (.cons rfl (.cons rfl (.cons rfl (.cons rfl (.cons rfl (.cons rfl (.cons rfl (.cons rfl (.cons rfl (.cons rfl (.cons rfl (.cons rfl (.cons rfl (.cons rfl (.cons rfl (.cons rfl (.cons rfl (.nil _)))))))))))))))))))))))))))) ?_
      refine cd_ret ?_
      refine ax_then_ret ?_
      refine ax_block_ret ?_
      refine ax_then_ret ?_
      refine ax_then_ret ?_
      refine ax_block_ret ?_
      refine ax_then_ret ?_
      have hd := hi.2.2.2.2.1.stop hlt hc27
      refine rt_cell_tmp2 (h0 := 4) (.inl rfl) Try.results19 ty27 rfl rfl rfl (Rt.rootC_len _ _ (by omega)) rfl rfl ?_
      exact fun w1 sw => ⟨r, ⟨hr4, by rw [hd], hi.2.2.1⟩, by rw [hd] <;> rfl, sw.gives (.nil _), fun y hy => ⟨sw.rd 201 _ rfl y hy, hi.2.2.2.2.2 y hy⟩⟩
    ·
      refine cd_skip ?_
      refine ax_then ?_
      refine At.regs (L' := [(1, _), (2, _), (4, _), (7, _), (8, _), (9, _), (10, _), (13, _), (14, _), (15, _), (16, _), (17, _), (18, _), (19, _), (20, _), (21, _), (22, _), (23, _), (24, _), (25, _), (26, _), (27, _)]) (.cons rfl (.cons rfl (.cons rfl (.cons rfl (.cons rfl (.cons rfl (.cons rfl (.cons rfl (.cons rfl (.cons rfl (.cons rfl (.cons rfl (.cons rfl (.cons rfl (.cons rfl (.cons rfl (.cons rfl (.cons rfl (.cons rfl (.cons rfl (.cons rfl (.cons rfl (.nil _))))))))))))))))))))))) ?_
      refine cd_region ?_
      refine st (ld_blk_all (h := 9) ty27 rfl rfl rfl (Rt.rootC_len _ _ (by omega))) rfl rfl rfl ?_
      refine st_store_all 2 ty27 rfl rfl rfl rfl (Rt.rootC_len _ _ (by omega)) (Rt.rootC_one _ _ hx.2.2) (Rt.rootC_len _ _ (by omega)) rfl ?_
      refine op_nil ?_
      refine ax_block ?_
      refine ax_then ?_
      refine At.regs (L' := [(1, _), (2, _), (4, _), (7, _), (8, _), (9, _), (10, _), (13, _), (14, _), (15, _), (16, _), (17, _), (18, _), (19, _), (20, _), (21, _), (22, _), (23, _), (24, _), (25, _), (26, _), (27, _), (31, _)]) (.cons rfl (.cons rfl (.cons rfl (.cons rfl (.cons rfl (.cons rfl (.cons rfl (.cons rfl (.cons rfl (.cons rfl (.cons rfl (.cons rfl (.cons rfl (.cons rfl (.cons rfl (.cons rfl (.cons rfl (.cons rfl (.cons rfl (.cons rfl (.cons rfl (.cons rfl (.cons rfl (.nil _)))))))))))))))))))))))) ?_
      refine at_rowsub (i := 202) 201 rfl (fun y hy => hy) ?_
      refine cd_region ?_
      refine st (ev_add64 rfl rfl (by omega) (by omega)) rfl rfl rfl ?_
      refine st (ev_move rfl) rfl rfl rfl ?_
      refine op_nil ?_
      exact at_again ((i + 1, (Rt.next (⟨v, x, Rt.kds r⟩ : Rt.RT) es[i].body es[i].ms).1.ver, (Rt.next (⟨v, x, Rt.kds r⟩ : Rt.RT) es[i].body es[i].ms).1.exp, r')) (⟨by show i + 1 ≤ es.length; omega, hx.1, hx.2.2, (by show Rt.RTok ⟨_, _, Rt.kds r'⟩; rw [hx.2.1]; exact Rt.next_ok _ _ _), (by show Rt.At _ _ _ ⟨_, _, Rt.kds r'⟩; rw [hx.2.1]; exact hi.2.2.2.2.1.step hlt hc27), fun y hy => .inr (hf y hy)⟩) (by show es.length - (i + 1) < es.length - i; omega) (.cons rfl (.cons rfl (.cons rfl (.cons rfl (.cons rfl (.cons rfl (.nil _))))))) (.cons rfl (.cons rfl (.nil _))) (.cons rfl (.cons rfl (.cons rfl (.nil _))))
  ·
    obtain rfl : i = es.length := by omega
    have hd := hi.2.2.2.2.1.done
    refine cd_exit ?_
    refine ax_then_exit ?_
    refine ax_then_exit ?_
    refine ax_block_hit ?_
    refine ax_then ?_
    refine At.regs (L' := [(1, _), (2, _), (4, _)]) (.cons rfl (.cons rfl (.cons rfl (.nil _)))) ?_
    refine cd_seq ?_
    refine cd_region ?_
    refine st (ld_blk_all (h := 2) ty27 rfl rfl rfl (Rt.rootC_len _ _ (by omega))) rfl rfl rfl ?_
    refine st (ev_move rfl) rfl rfl rfl ?_
    refine st (ev_len_rd (h := 24) (n := es.length) Try.underlying43 rfl rfl (Rt.eflat_len es) (by decide)) rfl rfl rfl ?_
    refine st_store_all 4 ty27 rfl rfl rfl rfl (Rt.rootC_len _ _ (by omega)) (Rt.rootC_one _ _ hi.2.2.1) rfl rfl ?_
    refine st (ev_assign rfl) rfl rfl rfl ?_
    refine st (ev_assign rfl) rfl rfl rfl ?_
    refine op_nil ?_
    refine ax_then ?_
    refine At.regs (L' := [(4, _), (5, _), (6, _)]) (.cons rfl (.cons rfl (.cons rfl (.nil _)))) ?_
    refine cd_ret ?_
    refine rt_cell_tmp2 (h0 := 4) (.inl rfl) Try.results19 ty27 rfl rfl rfl (Rt.rootC_len _ _ (by omega)) rfl rfl ?_
    exact fun w1 sw => ⟨r, ⟨hr4, by rw [hd], hi.2.2.1⟩, by rw [hd] <;> rfl, sw.gives (.nil _), fun y hy => ⟨sw.rd 201 _ rfl y hy, hi.2.2.2.2.2 y hy⟩⟩
end Go.Proofs.Ytgfnmolbagilmaa

namespace Go.Proofs.Ytgfnmolbagilmaa
open Go Go.RowKit Fw
open Sha
open Ots
open Mk
set_option linter.unusedVariables false
set_option linter.unusedSimpArgs false
theorem rd_nil0 {w : World} {sz : Nat} : Rd w (.slice none 0 0) sz [] := ⟨none, 0, 0, rfl, (Nat.zero_mul _).symm, Nat.le_refl _, fun _ => rfl, fun x hx => by cases hx⟩
end Go.Proofs.Ytgfnmolbagilmaa

namespace Go.Proofs.Ytgfnmolbagilmaa.Ck
open Go Fw Sha Ots Mk Go.Proofs.Ytgfnmolbagilmaa
set_option linter.unusedSimpArgs false
set_option linter.unusedVariables false
def body (nonce now : Int) : List Int := Rr.nums [7, nonce, now]
def r1 (b : List Int) : List Int := Rr.nRest b
def r2 (b : List Int) : List Int := Rr.nRest (r1 b)
def r3 (b : List Int) : List Int := Rr.nRest (r2 b)
theorem len1 (b : List Int) : (r1 b).length ≤ b.length := Rr.nRest_len b
theorem len2 (b : List Int) : (r2 b).length ≤ b.length := Nat.le_trans (Rr.nRest_len _) (len1 b)
theorem isK_one (p : List Int) : isK [p] 1 := by
  refine ⟨fun a ha => ?_, by simp, by simp, by decide, by simp⟩
  have : a = 0 := by simpa using ha
  subst this
  exact idx_neg.2 fun j hj => by simp at hj
/-- what a clock signs -/
def mk (s : List Int) (n : Nat) (b : List Int) (va vb : Value) : Qm.Mark := ⟨Ky.keyPub s, (n : Int), va, vb, sign s n b 36, path (Ky.leaves s 16) n⟩
theorem mk_ok (s : List Int) {n : Nat} (hn : n < 16) (b : List Int) (va vb : Value) : Qm.AOk [mk s n b va vb] := fun x hx => by
  obtain rfl := List.mem_singleton.1 hx
  have hp := (Ky.way_up s hn).1
  refine ⟨Ky.keyPub_len _, sign_h32 _ _ _ _, path_h32 _ _ _ (Nat.le_refl _) (Ky.leaves_h32 _ _), ?_, ?_⟩
  · show (sign s n b 36).length ≤ _
    rw [sign_len]; decide
  · show (path (Ky.leaves s 16) n).length ≤ _
    rw [hp]; decide
theorem who_one (b p : List Int) (ms : List Qm.Mark) : Qm.who b ms [p] = if Qm.some4 b ms p then [p] else [] := by
  show (if p ∉ ([] : List (List Int)) ∧ Qm.some4 b ms p then [] ++ [p] else []) = _
  by_cases h : Qm.some4 b ms p
  · rw [if_pos ⟨by simp, h⟩, if_pos h]; rfl
  · rw [if_neg (fun hh => h hh.2), if_neg h]
theorem meets_no {b p : List Int} {ms : List Qm.Mark} (h : ∀ x, x ∈ ms → x.key ≠ p) : ¬ meets b ms [p] 1 := fun ⟨_, hm⟩ => by
  have h : ¬ Qm.some4 b ms p := fun ⟨x, hx, hh⟩ => h x (List.mem_of_mem_take hx) hh.1
  rw [who_one, if_neg h] at hm
  simp at hm
end Go.Proofs.Ytgfnmolbagilmaa.Ck

namespace Go.Proofs.Ytgfnmolbagilmaa.Qm
open Go Fw Sha Ots Mk Go.Proofs.Ytgfnmolbagilmaa
set_option linter.unusedSimpArgs false
set_option linter.unusedVariables false
def sd (i : Nat) : List Int := (i : Int) :: List.replicate 31 0
theorem sd_len (i : Nat) : (sd i).length = 32 := by simp [sd]
abbrev Sp := List Int × Int × List (List Int) × List (List Int)
def exp1 (body : List Int) (i n : Nat) : Sp := (Ky.keyPub (sd i), (n : Int), sign (sd i) n body 36, path (Ky.leaves (sd i) 16) n)
def bit (which : Int) (i : Nat) : Prop := iand .i64 (ishr .i64 which (i : Int)) 1 = 1
instance (which : Int) (i : Nat) : Decidable (bit which i) := by unfold bit; infer_instance
def step (body : List Int) (which : Int) (tw : Bool) (i : Nat) : List Sp := if bit which i then [exp1 body i 0] ++ (if tw = true ∧ i = 0 then [exp1 body i 1] else []) else []
def covers (R : List (Value × Nat × List Value)) (ms : List Mark) : Prop := ∀ m, m ∈ ms → (m.vc, 32, flat m.cs) ∈ R ∧ (m.vp, 32, flat m.ps) ∈ R
def FR (w : World) (R : List (Value × Nat × List Value)) : Prop := ∀ y, y ∈ R → ∀ b, b ∈ blkOf y.1 → w.heap.size ≤ b
theorem covers.snoc {R : List (Value × Nat × List Value)} {ms : List Mark} (h : covers R ms) (m : Mark) : covers ((m.vp, 32, flat m.ps) :: (m.vc, 32, flat m.cs) :: R) (ms ++ [m]) := fun x hx => by
  rcases List.mem_append.1 hx with hx | hx
  · exact ⟨List.mem_cons_of_mem _ (List.mem_cons_of_mem _ (h x hx).1), List.mem_cons_of_mem _ (List.mem_cons_of_mem _ (h x hx).2)⟩
  · obtain rfl := List.mem_singleton.1 hx
    exact ⟨List.mem_cons_of_mem _ (List.mem_cons_self ..), List.mem_cons_self ..⟩
theorem FR.cons {w : World} {R : List (Value × Nat × List Value)} (h : FR w R) {v : Value} {sz : Nat} {l : List Value} (hv : ∀ b, b ∈ blkOf v → w.heap.size ≤ b ∨ b ∈ ([] : List Nat)) : FR w ((v, sz, l) :: R) := fun y hy => by
  rcases List.mem_cons.1 hy with rfl | hy
  · exact fun b hb => (hv b hb).resolve_right (by simp)
  · exact h y hy
theorem mflat_snoc (ms : List Mark) (m : Mark) : mflat ms ++ mcells m = mflat (ms ++ [m]) := by simp [mflat]
theorem mone {m : Mark} (h1 : m.vc.oneCell' = true) (h2 : m.vp.oneCell' = true) : ∀ u, u ∈ mcells m → u.oneCell' = true := fun u hu => by
  rcases List.mem_append.1 hu with hu | hu
  · exact ints_one _ _ u hu
  · simp at hu
    rcases hu with rfl | rfl | rfl
    · rfl
    · exact h1
    · exact h2
theorem mark_new {k : List Int} (hk : k.length = 32) (a b c : Value) : wr (wr (ints .u8 (List.replicate 32 0) ++ [.int .i64 0, .slice none 0 0, .slice none 0 0]) 0 (ints .u8 k)) 32 [a, b, c] = ints .u8 k ++ [a, b, c] := by
  have h1 : wr (ints .u8 (List.replicate 32 0) ++ [Value.int .i64 0, .slice none 0 0, .slice none 0 0]) 0 (ints .u8 k) = ints .u8 k ++ [.int .i64 0, .slice none 0 0, .slice none 0 0] := by
    rw [wr, List.take_zero, List.nil_append, ints_length, hk, Nat.zero_add, List.drop_left' (by simp [ints_length])]
  rw [h1, wr, List.take_left' (by rw [ints_length, hk]), List.drop_eq_nil_of_le (by simp [ints_length, hk]), List.append_nil]
theorem sd_new (i : Nat) : wr (ints .u8 (List.replicate 32 0)) 0 [.int .u8 (i : Int)] = ints .u8 (sd i) := by
  rw [wr_one (by simp [ints_length]), ints_set]
  rfl
end Go.Proofs.Ytgfnmolbagilmaa.Qm

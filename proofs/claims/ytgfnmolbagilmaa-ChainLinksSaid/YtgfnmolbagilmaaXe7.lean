/- The statement's proof, part 7: what its walks and its plain laws need. -/
import Derived.Test.YtgfnmolbagilmaaRows
import Derived.Tactics
import Derived.Deep.Quiet
import Derived.StillTail
import Derived.Laws.World
import Derived.Laws.Sem
import Derived.Laws.Entries
import Derived.Below
import Derived.Deep.LoopGhost
import Derived.Laws.BytesString
import Derived.Laws.IdiomStrings
import Derived.KernelRfl
import Derived.Carry
import Derived.OpenShut
import Derived.ProofKit
import Derived.ChangeSame
import Derived.HandedShaped
import Derived.SizedLaws
import Derived.Test.YtgfnmolbagilmaaProg
import Derived.Laws.Strings
import Derived.Test.YtgfnmolbagilmaaXe6
namespace Go.Proofs.Ytgfnmolbagilmaa
open Go Go.RowKit Fw
open Sha
open Ots
open Mk
set_option linter.unusedVariables false
set_option linter.unusedSimpArgs false
set_option maxRecDepth 20000 in
set_option maxHeartbeats 16000000 in
theorem chainLinks_any (bv : Value) (bs : List Int) (gone : Int) (w : World) (hbl : bs.length ≤ 140737488351232) (hb : Rd w bv 1 (ints .i64 bs)) : Calls Try.prog 5 #[bv, .int .i64 gone] w (PostV w (.bool true)) := by
  refine calls_at (vs := [bv, .int .i64 gone]) (X := []) (H := []) (F := [(0, .sl bv 1 (ints .i64 bs))]) 111 Try.func5 rfl rfl rfl (Sat.rd0 0 hb) ?_
  refine cd_seq ?_
  refine cd_region ?_
  refine st (ev_assign rfl) rfl rfl rfl ?_
  refine op_nil ?_
  refine ax_then ?_
  refine At.regs (L' := [(0, _), (1, _), (4, _)]) (.cons rfl (.cons rfl (.cons rfl (.nil _)))) ?_
  refine cd_seq ?_
  refine cd_seq ?_
  refine cd_region ?_
  refine st (ev_move rfl) rfl rfl rfl ?_
  refine st (ev_len_rdi (h := 0) Try.underlying49 rfl rfl) rfl rfl rfl ?_
  refine st (ev_gtr rfl rfl) rfl rfl rfl ?_
  refine op_nil ?_
  refine ax_then ?_
  refine At.regs (L' := [(0, _), (1, _), (4, _), (17, _)]) (.cons rfl (.cons rfl (.cons rfl (.cons rfl (.nil _))))) ?_
  refine cd_if rfl (fun hc17 => ?_) (fun hc17 => ?_)
  ·
    refine cd_seq ?_
    refine cd_region ?_
    refine st (ev_assign rfl) rfl rfl rfl ?_
    refine op_nil ?_
    refine ax_then ?_
    refine At.regs (L' := [(0, _), (1, _), (4, _)]) (.cons rfl (.cons rfl (.cons rfl (.nil _)))) ?_
    refine cd_ret ?_
    refine ax_then_ret ?_
    refine rt_tmp (.inl rfl) Try.results5 rfl ?_
    exact fun w1 sw => ⟨rfl, sw.gives (.nil _)⟩
  ·
    refine cd_skip ?_
    refine ax_then ?_
    refine At.regs (L' := [(0, _), (1, _), (4, _)]) (.cons rfl (.cons rfl (.cons rfl (.nil _)))) ?_
    refine cd_seq ?_
    refine cd_region ?_
    refine st (ev_move rfl) rfl rfl rfl ?_
    refine st_callR 201 has21 rfl (fun w1 sw => links_any bv bs w1 (by omega) (sw.sl_rd (h := 0) rfl)) rfl rfl (fun x20 hx20 hf20 => ?_)
    obtain ⟨l0, lv, es, R⟩ := x20
    dsimp only at hx20 ⊢
    have hl04 := hx20.1.1
    have hlk := hx20.2.1
    have hok := hx20.2.2.1
    have hes := hlk.len
    have h00 : (⟨1, 9, Rt.kds l0⟩ : Rt.RT) = Rt.rt1 1 0 := by rw [hx20.1.2.1]; rfl
    have hrt0 : Rt.RTok (⟨1, 9, Rt.kds l0⟩ : Rt.RT) := by rw [h00]; exact Rt.rt1_ok 1 0
    refine at_freeze (h := 0) (H' := []) 24 rfl (.nil _) rfl ?_
    refine at_rowsub (i := 201) (rs' := Rt.rowsR l0) 200 rfl (fun y hy => List.mem_append_left _ hy) ?_
    refine at_rowsub (i := 201) (rs' := Rt.erows es) 25 rfl (fun y hy => List.mem_append_right _ (hx20.2.2.2 y hy)) ?_
    refine st (ev_move rfl) rfl rfl rfl ?_
    refine st (ev_extract rfl rfl) rfl rfl rfl ?_
    refine st (ev_extract rfl rfl) rfl rfl rfl ?_
    refine st_alloc (h := 5) ty27 rfl rfl rfl (fun b5 => ?_)
    refine st_store_all 5 ty27 rfl rfl rfl rfl (Rt.rootC_len _ _ (by omega)) (Rt.rootC_one _ _ hx20.1.2.2) rfl rfl ?_
    refine st (ev_assign rfl) rfl rfl rfl ?_
    refine op_nil ?_
    refine ax_then ?_
    refine At.regs (L' := [(0, _), (1, _), (4, _), (5, _), (6, _)]) (.cons rfl (.cons rfl (.cons rfl (.cons rfl (.cons rfl (.nil _)))))) ?_
    refine cd_seq ?_
    refine at_freeze_blk (h := 5) (H' := []) 5 rfl (.nil _) rfl ?_
    refine cd_region ?_
    refine st (ev_assign rfl) rfl rfl rfl ?_
    refine op_nil ?_
    refine ax_then ?_
    refine At.regs (L' := [(0, _), (1, _), (4, _), (5, _), (6, _), (7, _)]) (.cons rfl (.cons rfl (.cons rfl (.cons rfl (.cons rfl (.cons rfl (.nil _))))))) ?_
    refine cd_join (ι := Nat) (fun n => n ≤ bs.length ∧ (∀ j, j < n → Rt.good (bs.getD j 0)) ∧ (n = bs.length ∨ ¬ Rt.good (bs.getD n 0))) (fun n => [(0, bv), (1, .int .i64 gone), (5, .pointer (some ⟨b5, 0, none⟩)), (6, lv), (7, .int .i64 (n : Nat))]) (fun n => []) (fun n => [(0, .sl bv 1 (ints .i64 bs)), (5, .mem b5 0 (Rt.rootC 1 9 l0)), (24, .sl lv 2 (Rt.eflat es)), (25, .rows (Rt.erows es)), (200, .rows (Rt.rowsR l0))]) ?_ (fun n hj => ?_)
    ·
      refine cd_block ?_
      refine cd_loop (ι := Nat) (fun n => n ≤ bs.length ∧ ∀ j, j < n → Rt.good (bs.getD j 0)) (fun n => bs.length - n)
          (fun n => [(0, bv), (1, .int .i64 gone), (5, .pointer (some ⟨b5, 0, none⟩)), (6, lv), (7, .int .i64 (n : Nat))])
          (fun n => [])
          (fun n => [(0, .sl bv 1 (ints .i64 bs)), (5, .mem b5 0 (Rt.rootC 1 9 l0)), (24, .sl lv 2 (Rt.eflat es)), (25, .rows (Rt.erows es)), (200, .rows (Rt.rowsR l0))])
          0 (⟨Nat.zero_le _, fun j hj => by omega⟩) (.cons rfl (.cons rfl (.cons rfl (.cons rfl (.cons rfl (.nil _)))))) (.nil _) (.cons rfl (.cons rfl (.cons rfl (.cons rfl (.cons rfl (.nil _)))))) (fun n hi => ?_)
      have hi1 := hi.1
      have e0 : (n : Int).toNat = n := by omega
      refine cd_seq ?_
      refine cd_seq ?_
      refine cd_region ?_
      refine st (ev_move rfl) rfl rfl rfl ?_
      refine st (ev_move rfl) rfl rfl rfl ?_
      refine st (ev_len_rdi (h := 0) Try.underlying49 rfl rfl) rfl rfl rfl ?_
      refine st (ev_lss rfl rfl) rfl rfl rfl ?_
      refine st (ev_move rfl) rfl rfl rfl ?_
      refine at_split_if (i := 27) rfl (fun hg27 => ?_) (fun hg27 => ?_)
      ·
        refine st (ev_move rfl) rfl rfl rfl ?_
        refine st (ev_move rfl) rfl rfl rfl ?_
        refine st (ev_indexAddr_rdi (h := 0) Try.underlying49 ty3 rfl rfl rfl (by omega) (by first | omega | (simp only [List.length_append, List.length_cons, List.length_nil, List.length_set, List.length_replicate, List.length_take, List.length_drop, ints_length, wr_length, sha_len, node_len, recov_len, Ky.named_len, Ky.keyPub_len, Ky.hashOf_len] <;> omega))) rfl rfl rfl ?_
        refine st (ld_rd1 (h := 0) ty3 rfl rfl rfl (ints_get _ _ _ (by first | omega | (simp only [List.length_append, List.length_cons, List.length_nil, List.length_set, List.length_replicate, List.length_take, List.length_drop, ints_length, wr_length, sha_len, node_len, recov_len, Ky.named_len, Ky.keyPub_len, Ky.hashOf_len] <;> omega) | rfl))) rfl rfl rfl ?_
        refine at_eq (i := 31) (v' := .int .i64 (bs.getD n 0)) rfl (by rw [Int.toNat_natCast]) ?_
        refine st (ev_and rfl rfl) rfl rfl rfl ?_
        refine st (ev_eql rfl rfl) rfl rfl rfl ?_
        refine st (ev_pick_t rfl rfl) rfl rfl rfl ?_
        refine op_nil ?_
        refine ax_then ?_
        refine At.regs (L' := [(0, _), (1, _), (5, _), (6, _), (7, _), (23, _), (24, _), (25, _), (26, _), (27, _), (28, _), (29, _), (30, _), (31, _), (32, _), (33, _), (34, _)]) (.cons rfl (.cons rfl (.cons rfl (.cons rfl (.cons rfl (.cons rfl (.cons rfl (.cons rfl (.cons rfl (.cons rfl (.cons rfl (.cons rfl (.cons rfl (.cons rfl (.cons rfl (.cons rfl (.cons rfl (.nil _)))))))))))))))))) ?_
        refine cd_if rfl (fun hc34 => ?_) (fun hc34 => ?_)
        ·
          refine cd_skip ?_
          refine ax_then ?_
          refine At.regs (L' := [(0, _), (1, _), (5, _), (6, _), (7, _), (23, _), (24, _), (25, _), (26, _), (27, _), (28, _), (29, _), (30, _), (31, _), (32, _), (33, _), (34, _)]) (.cons rfl (.cons rfl (.cons rfl (.cons rfl (.cons rfl (.cons rfl (.cons rfl (.cons rfl (.cons rfl (.cons rfl (.cons rfl (.cons rfl (.cons rfl (.cons rfl (.cons rfl (.cons rfl (.cons rfl (.nil _)))))))))))))))))) ?_
          refine cd_block ?_
          refine cd_region ?_
          refine st (ev_move rfl) rfl rfl rfl ?_
          refine st (ev_add64 rfl rfl (by omega) (by omega)) rfl rfl rfl ?_
          refine st (ev_assign rfl) rfl rfl rfl ?_
          refine op_nil ?_
          refine ax_block ?_
          exact at_again (n + 1) (⟨by omega, fun j hj => (Nat.lt_succ_iff_lt_or_eq.1 hj).elim (hi.2 j) (fun e => by subst e; exact hc34)⟩) (by omega) (.cons rfl (.cons rfl (.cons rfl (.cons rfl (.cons rfl (.nil _)))))) (.nil _) (.cons rfl (.cons rfl (.cons rfl (.cons rfl (.cons rfl (.nil _))))))
        ·
          refine cd_exit ?_
          refine ax_then_exit ?_
          refine ax_then_exit ?_
          refine ax_block_hit ?_
          first | exact at_met (n) (⟨hi1, hi.2, .inr hc34⟩) (.cons rfl (.cons rfl (.cons rfl (.cons rfl (.cons rfl (.nil _)))))) (.nil _) (.cons rfl (.cons rfl (.cons rfl (.cons rfl (.cons rfl (.nil _)))))) | exact at_met (n) (⟨hi1, hi.2, .inl (by omega)⟩) (.cons rfl (.cons rfl (.cons rfl (.cons rfl (.cons rfl (.nil _)))))) (.nil _) (.cons rfl (.cons rfl (.cons rfl (.cons rfl (.cons rfl (.nil _))))))
      ·
        refine st_skip rfl rfl rfl ?_
        refine st_skip rfl rfl rfl ?_
        refine st_skip rfl rfl rfl ?_
        refine st_skip rfl rfl rfl ?_
        refine st_skip rfl rfl rfl ?_
        refine st_skip rfl rfl rfl ?_
        refine st (ev_pick_f rfl rfl) rfl rfl rfl ?_
        refine op_nil ?_
        refine ax_then ?_
        refine At.regs (L' := [(0, _), (1, _), (5, _), (6, _), (7, _), (23, _), (24, _), (25, _), (26, _), (27, _), (28, _), (29, _), (30, _), (31, _), (32, _), (33, _), (34, _)]) (.cons rfl (.cons rfl (.cons rfl (.cons rfl (.cons rfl (.cons rfl (.cons rfl (.cons rfl (.cons rfl (.cons rfl (.cons rfl (.cons rfl (.cons rfl (.cons rfl (.cons rfl (.cons rfl (.cons rfl (.nil _)))))))))))))))))) ?_
        refine cd_false rfl ?_
        refine cd_exit ?_
        refine ax_then_exit ?_
        refine ax_then_exit ?_
        refine ax_block_hit ?_
        first | exact at_met (n) (⟨hi1, hi.2, .inr hc34⟩) (.cons rfl (.cons rfl (.cons rfl (.cons rfl (.cons rfl (.nil _)))))) (.nil _) (.cons rfl (.cons rfl (.cons rfl (.cons rfl (.cons rfl (.nil _)))))) | exact at_met (n) (⟨hi1, hi.2, .inl (by omega)⟩) (.cons rfl (.cons rfl (.cons rfl (.cons rfl (.cons rfl (.nil _)))))) (.nil _) (.cons rfl (.cons rfl (.cons rfl (.cons rfl (.cons rfl (.nil _))))))
    ·
      obtain ⟨hj1, hj2, hj3⟩ := hj
      have hfo0 := Rt.links_follow hlk hj1 hj2 hj3
      obtain ⟨e, he⟩ : ∃ e : Int, e = if n = bs.length then 0 else 4 := ⟨_, rfl⟩
      have hfo : Rt.follow (Rt.rt1 1 0) es = (Rt.rt1 (1 + n) n, n, e) := by rw [hfo0, he]
      have hee : e = 0 ↔ (n : Int) = (bs.length : Nat) := by rw [he]; split <;> simp <;> omega
      have he4 : ¬ e = 0 → e = 4 := by rw [he]; split <;> simp
      refine cd_seq ?_
      refine cd_region ?_
      refine st (ld_mem_all (h := 5) ty27 rfl rfl rfl (Rt.rootC_len _ _ (by omega))) rfl rfl rfl ?_
      refine st (ev_move rfl) rfl rfl rfl ?_
      refine st_callE 202 200 has19 rfl rfl (fun w1 sw => follow_any 1 9 l0 lv es w1 hl04 hx20.1.2.2 hrt0 (fun y hy => sw.rd 200 _ rfl y hy) hok (by omega) (sw.sl_rd (h := 24) rfl) (fun x hx => Rt.ev_of_rows (fun y hy => sw.rd 25 _ rfl y hy) hx)) rfl rfl (fun l1 hx40 hf40 => ?_)
      have hl14 := hx40.1
      refine at_eq (i := 40) (v' := .tuple #[.agg (List.toArray (Rt.rootC (1 + (n : Int)) 9 l1)), .int .i64 (n : Nat), .int .i64 e]) rfl (by rw [h00, hfo]; rfl) ?_
      refine st (ev_move rfl) rfl rfl rfl ?_
      refine st (ev_extract rfl rfl) rfl rfl rfl ?_
      refine st (ev_extract rfl rfl) rfl rfl rfl ?_
      refine st (ev_extract rfl rfl) rfl rfl rfl ?_
      refine st_alloc (h := 8) ty27 rfl rfl rfl (fun b8 => ?_)
      refine st_store_all 8 ty27 rfl rfl rfl rfl (Rt.rootC_len _ _ (by omega)) (Rt.rootC_one _ _ hx40.2.2) rfl rfl ?_
      refine st (ev_assign rfl) rfl rfl rfl ?_
      refine st (ev_assign rfl) rfl rfl rfl ?_
      refine op_nil ?_
      refine ax_then ?_
      refine At.regs (L' := [(0, _), (1, _), (5, _), (6, _), (7, _), (8, _), (9, _), (10, _)]) (.cons rfl (.cons rfl (.cons rfl (.cons rfl (.cons rfl (.cons rfl (.cons rfl (.cons rfl (.nil _))))))))) ?_
      refine cd_seq ?_
      refine cd_seq ?_
      refine cd_region ?_
      refine st (ev_fieldAddr (b := _) Try.underlying27 (f := _) rfl ty3 (by decide) rfl) rfl rfl rfl ?_
      refine st (ld_blk1 (h := 8) ty3 rfl rfl rfl rfl) rfl rfl rfl ?_
      refine st (ev_move rfl) rfl rfl rfl ?_
      refine st (ev_add64 rfl rfl (by omega) (by omega)) rfl rfl rfl ?_
      refine st (ev_neq rfl rfl) rfl rfl rfl ?_
      refine st (ev_move rfl) rfl rfl rfl ?_
      refine at_eq (i := 49) (v' := .bool false) rfl (by simp) ?_
      refine st (ev_move rfl) rfl rfl rfl ?_
      refine st (ev_move rfl) rfl rfl rfl ?_
      refine st (ev_neq rfl rfl) rfl rfl rfl ?_
      refine st (ev_pick_f rfl rfl) rfl rfl rfl ?_
      refine st (ev_move rfl) rfl rfl rfl ?_
      refine at_eq (i := 54) (v' := .bool false) rfl (by simp) ?_
      refine st (ev_move rfl) rfl rfl rfl ?_
      refine st (ev_eql rfl rfl) rfl rfl rfl ?_
      refine st (ev_move rfl) rfl rfl rfl ?_
      refine st (ev_move rfl) rfl rfl rfl ?_
      refine st (ev_len_rdi (h := 0) Try.underlying49 rfl rfl) rfl rfl rfl ?_
      refine st (ev_eql rfl rfl) rfl rfl rfl ?_
      refine st (ev_neq_bool Try.underlying4 rfl rfl) rfl rfl rfl ?_
      refine st (ev_pick_f rfl rfl) rfl rfl rfl ?_
      refine st (ev_move rfl) rfl rfl rfl ?_
      refine at_eq (i := 63) (v' := .bool false) rfl (by rw [show decide (e = 0) = decide ((n : Int) = (bs.length : Nat)) from decide_eq_decide.2 hee, beq_self_eq_true]; rfl) ?_
      refine st (ev_move rfl) rfl rfl rfl ?_
      refine st (ev_neq rfl rfl) rfl rfl rfl ?_
      refine st (ev_move rfl) rfl rfl rfl ?_
      refine at_split_if (i := 66) rfl (fun hg66 => ?_) (fun hg66 => ?_)
      ·
        refine st (ev_move rfl) rfl rfl rfl ?_
        refine st (ev_neq rfl rfl) rfl rfl rfl ?_
        refine st (ev_pick_t rfl rfl) rfl rfl rfl ?_
        refine st (ev_pick_f rfl rfl) rfl rfl rfl ?_
        refine op_nil ?_
        refine ax_then ?_
        refine At.regs (L' := [(1, _), (5, _), (6, _), (7, _), (70, _)]) (.cons rfl (.cons rfl (.cons rfl (.cons rfl (.cons rfl (.nil _)))))) ?_
        refine cd_if_f rfl (fun h => h (he4 hg66)) ?_
        refine cd_skip ?_
        refine ax_then ?_
        refine At.regs (L' := [(1, _), (5, _), (6, _), (7, _)]) (.cons rfl (.cons rfl (.cons rfl (.cons rfl (.nil _))))) ?_
        refine cd_seq ?_
        refine cd_seq ?_
        refine cd_region ?_
        refine st (ev_move rfl) rfl rfl rfl ?_
        refine st (ev_len_rd (h := 24) (n := es.length) Try.underlying43 rfl rfl (Rt.eflat_len es) (by decide)) rfl rfl rfl ?_
        refine st (ev_lss rfl rfl) rfl rfl rfl ?_
        refine op_nil ?_
        refine ax_then ?_
        refine At.regs (L' := [(1, _), (5, _), (6, _), (7, _), (73, _)]) (.cons rfl (.cons rfl (.cons rfl (.cons rfl (.cons rfl (.nil _)))))) ?_
        refine cd_if rfl (fun hc73 => ?_) (fun hc73 => ?_)
        ·
          refine cd_seq ?_
          refine cd_region ?_
          refine st_callv has18 rfl (fun w1 sw => known8_any w1) rfl rfl ?_
          refine st (ev_assign rfl) rfl rfl rfl ?_
          refine op_nil ?_
          refine ax_then ?_
          refine At.regs (L' := [(1, _), (4, _), (5, _), (6, _), (7, _)]) (.cons rfl (.cons rfl (.cons rfl (.cons rfl (.cons rfl (.nil _)))))) ?_
          refine cd_ret ?_
          refine ax_then_ret ?_
          refine rt_tmp (.inl rfl) Try.results5 rfl ?_
          exact fun w1 sw => ⟨rfl, sw.gives (.nil _)⟩
        ·
          refine cd_skip ?_
          refine ax_then ?_
          refine At.regs (L' := [(1, _), (5, _), (6, _), (7, _)]) (.cons rfl (.cons rfl (.cons rfl (.cons rfl (.nil _))))) ?_
          refine cd_seq ?_
          have h1023 := Rt.and1023 gone
          obtain ⟨k, hk0, hk⟩ : ∃ k : Nat, Rt.iandM gone % ((es.length : Int) - 1) = (k : Nat) ∧ k + 1 < es.length := Rt.gone_k h1023 (by omega)
          have hgf := Rt.gone_follow hlk hj1 hj2 hj3 hk
          have hsub : ∀ x, x ∈ (es.take k ++ es.drop (k + 1)) → x ∈ es := fun x hx => (List.mem_append.1 hx).elim List.mem_of_mem_take List.mem_of_mem_drop
          refine at_one (i := 25) (P := ∀ u, u ∈ Rt.eflat es → u.oneCell' = true) rfl (fun w1 hh => Rt.eflat_one (fun x hx => Rt.ev_of_rows hh hx)) (fun hone => ?_)
          refine cd_region ?_
          refine st (ev_move rfl) rfl rfl rfl ?_
          refine st (ev_and rfl rfl) rfl rfl rfl ?_
          refine st (ev_move rfl) rfl rfl rfl ?_
          refine st (ev_len_rd (h := 24) (n := es.length) Try.underlying43 rfl rfl (Rt.eflat_len es) (by decide)) rfl rfl rfl ?_
          refine st (ev_sub64 rfl rfl (by omega) (by omega)) rfl rfl rfl ?_
          refine st (ev_rem64 rfl rfl h1023.1 (by omega)) rfl rfl rfl ?_
          refine at_eq (i := 80) (v' := .int .i64 (k : Nat)) rfl (congrArg (Value.int .i64) hk0) ?_
          refine st (ev_assign rfl) rfl rfl rfl ?_
          refine op_nil ?_
          refine ax_then ?_
          refine At.regs (L' := [(5, _), (6, _), (7, _), (11, _)]) (.cons rfl (.cons rfl (.cons rfl (.cons rfl (.nil _))))) ?_
          refine cd_join (ι := Nat × List Rt.Rol) (fun x => x.2.length = 4) (fun x => [(7, .int .i64 (n : Nat)), (11, .int .i64 (k : Nat)), (12, .pointer (some ⟨x.1, 0, none⟩)), (14, .int .i64 (Rt.follow (Rt.rt1 1 0) (es.take k ++ es.drop (k + 1))).2.2)]) (fun x => [(12, .blk (x.1) (.cells (Rt.rootC (Rt.follow (Rt.rt1 1 0) (es.take k ++ es.drop (k + 1))).1.ver (Rt.follow (Rt.rt1 1 0) (es.take k ++ es.drop (k + 1))).1.exp x.2).toArray 27))]) (fun x => []) ?_ (fun x hj => ?_)
          ·
            refine cd_mixp [(5, .mem b5 0 (Rt.rootC 1 9 l0)), (24, .sl lv 2 (Rt.eflat es))] hmix ?_
            refine mxp (i := 0) rfl (by decide +kernel) (by decide +kernel) (by decide +kernel) rfl (fun w0 => ld_mem_all (h := 5) ty27 rfl rfl rfl (Rt.rootC_len _ _ (by omega))) rfl rfl (fun w sw => sw.cf (.cons rfl (.cons rfl (.nil _)))) ?_
            refine mxp (i := 2) rfl (by decide +kernel) (by decide +kernel) (by decide +kernel) rfl (fun w0 => ev_move rfl) rfl rfl (fun w sw => sw.cf (.cons rfl (.cons rfl (.nil _)))) ?_
            refine mxp (i := 3) rfl (by decide +kernel) (by decide +kernel) (by decide +kernel) rfl (fun w0 => ev_move rfl) rfl rfl (fun w sw => sw.cf (.cons rfl (.cons rfl (.nil _)))) ?_
            refine mxp (i := 4) rfl (by decide +kernel) (by decide +kernel) (by decide +kernel) rfl (fun w0 => ev_slice_rd_hi (n := es.length) Try.underlying43 ty31 rfl rfl (fun w1 sw => sw.sl_rd (h := 24) rfl) (by decide) (Rt.eflat_len es) (by omega) (by omega)) rfl rfl (fun w sw => sw.cf (.cons rfl (.cons rfl (.nil _)))) ?_
            refine at_eq (i := 86) (v' := cutAt 2 lv 0 k) rfl (by rw [Int.toNat_natCast]) ?_
            refine mxp (i := 6) rfl (by decide +kernel) (by decide +kernel) (by decide +kernel) rfl (fun w0 => ev_move rfl) rfl rfl (fun w sw => sw.cf (.cons rfl (.cons rfl (.nil _)))) ?_
            refine mxp (i := 7) rfl (by decide +kernel) (by decide +kernel) (by decide +kernel) rfl (fun w0 => ev_move rfl) rfl rfl (fun w sw => sw.cf (.cons rfl (.cons rfl (.nil _)))) ?_
            refine mxp (i := 8) rfl (by decide +kernel) (by decide +kernel) (by decide +kernel) rfl (fun w0 => ev_add64 rfl rfl (by omega) (by omega)) rfl rfl (fun w sw => sw.cf (.cons rfl (.cons rfl (.nil _)))) ?_
            refine mxp (i := 9) rfl (by decide +kernel) (by decide +kernel) (by decide +kernel) rfl (fun w0 => ev_slice_rd_lo (n := es.length) Try.underlying43 ty31 rfl rfl (fun w1 sw => sw.sl_rd (h := 24) rfl) (by decide) (Rt.eflat_len es) (by omega) (by omega)) rfl rfl (fun w sw => sw.cf (.cons rfl (.cons rfl (.nil _)))) ?_
            refine at_eq (i := 91) (v' := cutAt 2 lv (k + 1) es.length) rfl (congrArg (fun z => cutAt 2 lv z es.length) (by omega)) ?_
            refine mxp_two (i := 1) (j := 16) (by decide +kernel) (fun w sw => sw.cf (.cons rfl (.cons rfl (.nil _)))) ?_ ?_
            ·
              refine wo (i := 1) rfl ?_
              refine st_buildSlice (h := 83) (cells := []) Try.underlying43 ty31 rfl (by decide) (fill_nil.trans (by simp)) rfl rfl rfl (fun b83 => ?_)
              refine op_nil ?_
              refine ax_then ?_
              refine mxp_two (i := 5) (j := 16) (by decide +kernel) (fun w sw => sw.cf (.cons rfl (.cons rfl (.nil _)))) ?_ ?_
              ·
                refine wo (i := 5) rfl ?_
                refine st_append (n := 0) (m := (es.take k).length) (h := 83) (cs := Rt.eflat (es.take k)) Try.underlying43 Try.underlying43 ty31 rfl rfl rfl rfl (fun w1 sw => Rt.cut_lo (sw.sl_rd (h := 24) rfl) (by omega)) (by decide) rfl (Rt.eflat_len _) (by rw [List.length_take]; omega) (by decide) (fun u hu => hone u (by obtain ⟨x, hx, hu⟩ := List.mem_flatMap.1 hu; exact List.mem_flatMap.2 ⟨x, List.mem_of_mem_take hx, hu⟩)) rfl rfl (fun v87 => ?_)
                refine at_heq (i := 83) (v' := .own v87 31 2 (Rt.eflat (es.take k))) rfl (by rw [List.nil_append]) ?_
                refine op_nil ?_
                refine ax_then ?_
                refine mxp_two (i := 10) (j := 16) (by decide +kernel) (fun w sw => sw.cf (.cons rfl (.cons rfl (.nil _)))) ?_ ?_
                ·
                  refine wo (i := 10) rfl ?_
                  refine st_append (n := (es.take k).length) (m := (es.drop (k + 1)).length) (h := 83) (cs := Rt.eflat (es.drop (k + 1))) Try.underlying43 Try.underlying43 ty31 rfl rfl rfl rfl (fun w1 sw => Rt.cut_hi (sw.sl_rd (h := 24) rfl) (by omega)) (by decide) (Rt.eflat_len _) (Rt.eflat_len _) (by rw [List.length_take, List.length_drop]; omega) (by decide) (fun u hu => hone u (by obtain ⟨x, hx, hu⟩ := List.mem_flatMap.1 hu; exact List.mem_flatMap.2 ⟨x, List.mem_of_mem_drop hx, hu⟩)) rfl rfl (fun v92 => ?_)
                  refine at_heq (i := 83) (v' := .own v92 31 2 (Rt.eflat (es.take k ++ es.drop (k + 1)))) rfl (by rw [Rt.eflat_append]) ?_
                  refine op_nil ?_
                  refine ax_then ?_
                  refine mxp_two (i := 11) (j := 16) (by decide +kernel) (fun w sw => sw.cf (.cons rfl (.cons rfl (.nil _)))) ?_ ?_
                  ·
                    refine wo (i := 11) rfl ?_
                    refine st_callE 203 200 has19 rfl rfl (fun w1 sw => follow_any 1 9 l0 v92 (es.take k ++ es.drop (k + 1)) w1 hl04 hx20.1.2.2 hrt0 (fun y hy => sw.rd 200 _ rfl y hy) (fun x hx => hok x (hsub x hx)) (by simp only [List.length_append, List.length_take, List.length_drop]; omega) (sw.own_rd (h := 83) rfl) (fun x hx => Rt.ev_of_rows (fun y hy => sw.rd 25 _ rfl y hy) (hsub x hx))) rfl rfl (fun l2 hx93 hf93 => ?_)
                    have hl24 := hx93.1
                    refine at_eq (i := 93) (v' := .tuple #[.agg (List.toArray (Rt.rootC (Rt.follow (Rt.rt1 1 0) (es.take k ++ es.drop (k + 1))).1.ver (Rt.follow (Rt.rt1 1 0) (es.take k ++ es.drop (k + 1))).1.exp l2)), .int .i64 ((Rt.follow (Rt.rt1 1 0) (es.take k ++ es.drop (k + 1))).2.1 : Nat), .int .i64 (Rt.follow (Rt.rt1 1 0) (es.take k ++ es.drop (k + 1))).2.2]) rfl (by rw [h00]) ?_
                    refine op_nil ?_
                    refine ax_then ?_
                    refine mxp (i := 12) rfl (by decide +kernel) (by decide +kernel) (by decide +kernel) rfl (fun w0 => ev_move rfl) rfl rfl (fun w sw => sw.cf (.cons rfl (.cons rfl (.nil _)))) ?_
                    refine mxp (i := 13) rfl (by decide +kernel) (by decide +kernel) (by decide +kernel) rfl (fun w0 => ev_extract rfl rfl) rfl rfl (fun w sw => sw.cf (.cons rfl (.cons rfl (.nil _)))) ?_
                    refine mxp (i := 14) rfl (by decide +kernel) (by decide +kernel) (by decide +kernel) rfl (fun w0 => ev_extract rfl rfl) rfl rfl (fun w sw => sw.cf (.cons rfl (.cons rfl (.nil _)))) ?_
                    refine mxp (i := 15) rfl (by decide +kernel) (by decide +kernel) (by decide +kernel) rfl (fun w0 => ev_extract rfl rfl) rfl rfl (fun w sw => sw.cf (.cons rfl (.cons rfl (.nil _)))) ?_
                    refine mxp_one (i := 16) (by decide +kernel) (fun w sw => sw.cf (.cons rfl (.cons rfl (.nil _)))) ?_
                    refine wo (i := 16) rfl ?_
                    refine st_alloc (h := 12) ty27 rfl rfl rfl (fun b12 => ?_)
                    refine op_nil ?_
                    refine ax_then ?_
                    refine mxp_one (i := 17) (by decide +kernel) (fun w sw => sw.cf (.cons rfl (.cons rfl (.nil _)))) ?_
                    refine wo (i := 17) rfl ?_
                    refine st_store_all 12 ty27 rfl rfl rfl rfl (Rt.rootC_len _ _ (by omega)) (Rt.rootC_one _ _ hx93.2.2) rfl rfl ?_
                    refine op_nil ?_
                    refine ax_then ?_
                    refine mxp (i := 18) rfl (by decide +kernel) (by decide +kernel) (by decide +kernel) rfl (fun w0 => ev_assign rfl) rfl rfl (fun w sw => sw.cf (.cons rfl (.cons rfl (.nil _)))) ?_
                    refine mxp (i := 19) rfl (by decide +kernel) (by decide +kernel) (by decide +kernel) rfl (fun w0 => ev_assign rfl) rfl rfl (fun w sw => sw.cf (.cons rfl (.cons rfl (.nil _)))) ?_
                    refine mxp_done (by decide +kernel) (fun w sw => sw.cf (.cons rfl (.cons rfl (.nil _)))) ?_
                    exact at_met ((b12, l2)) (hl24) (.cons rfl (.cons rfl (.cons rfl (.cons rfl (.nil _))))) (.cons rfl (.nil _)) (.nil _)
                  ·
                    refine wo (i := 16) rfl ?_
                    refine st_alloc (h := 12) ty27 rfl rfl rfl (fun b12 => ?_)
                    refine op_nil ?_
                    refine ax_then ?_
                    refine mxp_one (i := 11) (by decide +kernel) (fun w sw => sw.cf (.cons rfl (.cons rfl (.nil _)))) ?_
                    refine wo (i := 11) rfl ?_
                    refine st_callE 203 200 has19 rfl rfl (fun w1 sw => follow_any 1 9 l0 v92 (es.take k ++ es.drop (k + 1)) w1 hl04 hx20.1.2.2 hrt0 (fun y hy => sw.rd 200 _ rfl y hy) (fun x hx => hok x (hsub x hx)) (by simp only [List.length_append, List.length_take, List.length_drop]; omega) (sw.own_rd (h := 83) rfl) (fun x hx => Rt.ev_of_rows (fun y hy => sw.rd 25 _ rfl y hy) (hsub x hx))) rfl rfl (fun l2 hx93 hf93 => ?_)
                    have hl24 := hx93.1
                    refine at_eq (i := 93) (v' := .tuple #[.agg (List.toArray (Rt.rootC (Rt.follow (Rt.rt1 1 0) (es.take k ++ es.drop (k + 1))).1.ver (Rt.follow (Rt.rt1 1 0) (es.take k ++ es.drop (k + 1))).1.exp l2)), .int .i64 ((Rt.follow (Rt.rt1 1 0) (es.take k ++ es.drop (k + 1))).2.1 : Nat), .int .i64 (Rt.follow (Rt.rt1 1 0) (es.take k ++ es.drop (k + 1))).2.2]) rfl (by rw [h00]) ?_
                    refine op_nil ?_
                    refine ax_then ?_
                    refine mxp (i := 12) rfl (by decide +kernel) (by decide +kernel) (by decide +kernel) rfl (fun w0 => ev_move rfl) rfl rfl (fun w sw => sw.cf (.cons rfl (.cons rfl (.nil _)))) ?_
                    refine mxp (i := 13) rfl (by decide +kernel) (by decide +kernel) (by decide +kernel) rfl (fun w0 => ev_extract rfl rfl) rfl rfl (fun w sw => sw.cf (.cons rfl (.cons rfl (.nil _)))) ?_
                    refine mxp (i := 14) rfl (by decide +kernel) (by decide +kernel) (by decide +kernel) rfl (fun w0 => ev_extract rfl rfl) rfl rfl (fun w sw => sw.cf (.cons rfl (.cons rfl (.nil _)))) ?_
                    refine mxp (i := 15) rfl (by decide +kernel) (by decide +kernel) (by decide +kernel) rfl (fun w0 => ev_extract rfl rfl) rfl rfl (fun w sw => sw.cf (.cons rfl (.cons rfl (.nil _)))) ?_
                    refine mxp_one (i := 17) (by decide +kernel) (fun w sw => sw.cf (.cons rfl (.cons rfl (.nil _)))) ?_
                    refine wo (i := 17) rfl ?_
                    refine st_store_all 12 ty27 rfl rfl rfl rfl (Rt.rootC_len _ _ (by omega)) (Rt.rootC_one _ _ hx93.2.2) rfl rfl ?_
                    refine op_nil ?_
                    refine ax_then ?_
                    refine mxp (i := 18) rfl (by decide +kernel) (by decide +kernel) (by decide +kernel) rfl (fun w0 => ev_assign rfl) rfl rfl (fun w sw => sw.cf (.cons rfl (.cons rfl (.nil _)))) ?_
                    refine mxp (i := 19) rfl (by decide +kernel) (by decide +kernel) (by decide +kernel) rfl (fun w0 => ev_assign rfl) rfl rfl (fun w sw => sw.cf (.cons rfl (.cons rfl (.nil _)))) ?_
                    refine mxp_done (by decide +kernel) (fun w sw => sw.cf (.cons rfl (.cons rfl (.nil _)))) ?_
                    exact at_met ((b12, l2)) (hl24) (.cons rfl (.cons rfl (.cons rfl (.cons rfl (.nil _))))) (.cons rfl (.nil _)) (.nil _)
                ·
                  refine wo (i := 16) rfl ?_
                  refine st_alloc (h := 12) ty27 rfl rfl rfl (fun b12 => ?_)
                  refine op_nil ?_
                  refine ax_then ?_
                  refine mxp_one (i := 10) (by decide +kernel) (fun w sw => sw.cf (.cons rfl (.cons rfl (.nil _)))) ?_
                  refine wo (i := 10) rfl ?_
                  refine st_append (n := (es.take k).length) (m := (es.drop (k + 1)).length) (h := 83) (cs := Rt.eflat (es.drop (k + 1))) Try.underlying43 Try.underlying43 ty31 rfl rfl rfl rfl (fun w1 sw => Rt.cut_hi (sw.sl_rd (h := 24) rfl) (by omega)) (by decide) (Rt.eflat_len _) (Rt.eflat_len _) (by rw [List.length_take, List.length_drop]; omega) (by decide) (fun u hu => hone u (by obtain ⟨x, hx, hu⟩ := List.mem_flatMap.1 hu; exact List.mem_flatMap.2 ⟨x, List.mem_of_mem_drop hx, hu⟩)) rfl rfl (fun v92 => ?_)
                  refine at_heq (i := 83) (v' := .own v92 31 2 (Rt.eflat (es.take k ++ es.drop (k + 1)))) rfl (by rw [Rt.eflat_append]) ?_
                  refine op_nil ?_
                  refine ax_then ?_
                  refine mxp_one (i := 11) (by decide +kernel) (fun w sw => sw.cf (.cons rfl (.cons rfl (.nil _)))) ?_
                  refine wo (i := 11) rfl ?_
                  refine st_callE 203 200 has19 rfl rfl (fun w1 sw => follow_any 1 9 l0 v92 (es.take k ++ es.drop (k + 1)) w1 hl04 hx20.1.2.2 hrt0 (fun y hy => sw.rd 200 _ rfl y hy) (fun x hx => hok x (hsub x hx)) (by simp only [List.length_append, List.length_take, List.length_drop]; omega) (sw.own_rd (h := 83) rfl) (fun x hx => Rt.ev_of_rows (fun y hy => sw.rd 25 _ rfl y hy) (hsub x hx))) rfl rfl (fun l2 hx93 hf93 => ?_)
                  have hl24 := hx93.1
                  refine at_eq (i := 93) (v' := .tuple #[.agg (List.toArray (Rt.rootC (Rt.follow (Rt.rt1 1 0) (es.take k ++ es.drop (k + 1))).1.ver (Rt.follow (Rt.rt1 1 0) (es.take k ++ es.drop (k + 1))).1.exp l2)), .int .i64 ((Rt.follow (Rt.rt1 1 0) (es.take k ++ es.drop (k + 1))).2.1 : Nat), .int .i64 (Rt.follow (Rt.rt1 1 0) (es.take k ++ es.drop (k + 1))).2.2]) rfl (by rw [h00]) ?_
                  refine op_nil ?_
                  refine ax_then ?_
                  refine mxp (i := 12) rfl (by decide +kernel) (by decide +kernel) (by decide +kernel) rfl (fun w0 => ev_move rfl) rfl rfl (fun w sw => sw.cf (.cons rfl (.cons rfl (.nil _)))) ?_
                  refine mxp (i := 13) rfl (by decide +kernel) (by decide +kernel) (by decide +kernel) rfl (fun w0 => ev_extract rfl rfl) rfl rfl (fun w sw => sw.cf (.cons rfl (.cons rfl (.nil _)))) ?_
                  refine mxp (i := 14) rfl (by decide +kernel) (by decide +kernel) (by decide +kernel) rfl (fun w0 => ev_extract rfl rfl) rfl rfl (fun w sw => sw.cf (.cons rfl (.cons rfl (.nil _)))) ?_
                  refine mxp (i := 15) rfl (by decide +kernel) (by decide +kernel) (by decide +kernel) rfl (fun w0 => ev_extract rfl rfl) rfl rfl (fun w sw => sw.cf (.cons rfl (.cons rfl (.nil _)))) ?_
                  refine mxp_one (i := 17) (by decide +kernel) (fun w sw => sw.cf (.cons rfl (.cons rfl (.nil _)))) ?_
                  refine wo (i := 17) rfl ?_
                  refine st_store_all 12 ty27 rfl rfl rfl rfl (Rt.rootC_len _ _ (by omega)) (Rt.rootC_one _ _ hx93.2.2) rfl rfl ?_
                  refine op_nil ?_
                  refine ax_then ?_
                  refine mxp (i := 18) rfl (by decide +kernel) (by decide +kernel) (by decide +kernel) rfl (fun w0 => ev_assign rfl) rfl rfl (fun w sw => sw.cf (.cons rfl (.cons rfl (.nil _)))) ?_
                  refine mxp (i := 19) rfl (by decide +kernel) (by decide +kernel) (by decide +kernel) rfl (fun w0 => ev_assign rfl) rfl rfl (fun w sw => sw.cf (.cons rfl (.cons rfl (.nil _)))) ?_
                  refine mxp_done (by decide +kernel) (fun w sw => sw.cf (.cons rfl (.cons rfl (.nil _)))) ?_
                  exact at_met ((b12, l2)) (hl24) (.cons rfl (.cons rfl (.cons rfl (.cons rfl (.nil _))))) (.cons rfl (.nil _)) (.nil _)
              ·
                refine wo (i := 16) rfl ?_
                refine st_alloc (h := 12) ty27 rfl rfl rfl (fun b12 => ?_)
                refine op_nil ?_
                refine ax_then ?_
                refine mxp_one (i := 5) (by decide +kernel) (fun w sw => sw.cf (.cons rfl (.cons rfl (.nil _)))) ?_
                refine wo (i := 5) rfl ?_
                refine st_append (n := 0) (m := (es.take k).length) (h := 83) (cs := Rt.eflat (es.take k)) Try.underlying43 Try.underlying43 ty31 rfl rfl rfl rfl (fun w1 sw => Rt.cut_lo (sw.sl_rd (h := 24) rfl) (by omega)) (by decide) rfl (Rt.eflat_len _) (by rw [List.length_take]; omega) (by decide) (fun u hu => hone u (by obtain ⟨x, hx, hu⟩ := List.mem_flatMap.1 hu; exact List.mem_flatMap.2 ⟨x, List.mem_of_mem_take hx, hu⟩)) rfl rfl (fun v87 => ?_)
                refine at_heq (i := 83) (v' := .own v87 31 2 (Rt.eflat (es.take k))) rfl (by rw [List.nil_append]) ?_
                refine op_nil ?_
                refine ax_then ?_
                refine mxp_one (i := 10) (by decide +kernel) (fun w sw => sw.cf (.cons rfl (.cons rfl (.nil _)))) ?_
                refine wo (i := 10) rfl ?_
                refine st_append (n := (es.take k).length) (m := (es.drop (k + 1)).length) (h := 83) (cs := Rt.eflat (es.drop (k + 1))) Try.underlying43 Try.underlying43 ty31 rfl rfl rfl rfl (fun w1 sw => Rt.cut_hi (sw.sl_rd (h := 24) rfl) (by omega)) (by decide) (Rt.eflat_len _) (Rt.eflat_len _) (by rw [List.length_take, List.length_drop]; omega) (by decide) (fun u hu => hone u (by obtain ⟨x, hx, hu⟩ := List.mem_flatMap.1 hu; exact List.mem_flatMap.2 ⟨x, List.mem_of_mem_drop hx, hu⟩)) rfl rfl (fun v92 => ?_)
                refine at_heq (i := 83) (v' := .own v92 31 2 (Rt.eflat (es.take k ++ es.drop (k + 1)))) rfl (by rw [Rt.eflat_append]) ?_
                refine op_nil ?_
                refine ax_then ?_
                refine mxp_one (i := 11) (by decide +kernel) (fun w sw => sw.cf (.cons rfl (.cons rfl (.nil _)))) ?_
                refine wo (i := 11) rfl ?_
                refine st_callE 203 200 has19 rfl rfl (fun w1 sw => follow_any 1 9 l0 v92 (es.take k ++ es.drop (k + 1)) w1 hl04 hx20.1.2.2 hrt0 (fun y hy => sw.rd 200 _ rfl y hy) (fun x hx => hok x (hsub x hx)) (by simp only [List.length_append, List.length_take, List.length_drop]; omega) (sw.own_rd (h := 83) rfl) (fun x hx => Rt.ev_of_rows (fun y hy => sw.rd 25 _ rfl y hy) (hsub x hx))) rfl rfl (fun l2 hx93 hf93 => ?_)
                have hl24 := hx93.1
                refine at_eq (i := 93) (v' := .tuple #[.agg (List.toArray (Rt.rootC (Rt.follow (Rt.rt1 1 0) (es.take k ++ es.drop (k + 1))).1.ver (Rt.follow (Rt.rt1 1 0) (es.take k ++ es.drop (k + 1))).1.exp l2)), .int .i64 ((Rt.follow (Rt.rt1 1 0) (es.take k ++ es.drop (k + 1))).2.1 : Nat), .int .i64 (Rt.follow (Rt.rt1 1 0) (es.take k ++ es.drop (k + 1))).2.2]) rfl (by rw [h00]) ?_
                refine op_nil ?_
                refine ax_then ?_
                refine mxp (i := 12) rfl (by decide +kernel) (by decide +kernel) (by decide +kernel) rfl (fun w0 => ev_move rfl) rfl rfl (fun w sw => sw.cf (.cons rfl (.cons rfl (.nil _)))) ?_
                refine mxp (i := 13) rfl (by decide +kernel) (by decide +kernel) (by decide +kernel) rfl (fun w0 => ev_extract rfl rfl) rfl rfl (fun w sw => sw.cf (.cons rfl (.cons rfl (.nil _)))) ?_
                refine mxp (i := 14) rfl (by decide +kernel) (by decide +kernel) (by decide +kernel) rfl (fun w0 => ev_extract rfl rfl) rfl rfl (fun w sw => sw.cf (.cons rfl (.cons rfl (.nil _)))) ?_
                refine mxp (i := 15) rfl (by decide +kernel) (by decide +kernel) (by decide +kernel) rfl (fun w0 => ev_extract rfl rfl) rfl rfl (fun w sw => sw.cf (.cons rfl (.cons rfl (.nil _)))) ?_
                refine mxp_one (i := 17) (by decide +kernel) (fun w sw => sw.cf (.cons rfl (.cons rfl (.nil _)))) ?_
                refine wo (i := 17) rfl ?_
                refine st_store_all 12 ty27 rfl rfl rfl rfl (Rt.rootC_len _ _ (by omega)) (Rt.rootC_one _ _ hx93.2.2) rfl rfl ?_
                refine op_nil ?_
                refine ax_then ?_
                refine mxp (i := 18) rfl (by decide +kernel) (by decide +kernel) (by decide +kernel) rfl (fun w0 => ev_assign rfl) rfl rfl (fun w sw => sw.cf (.cons rfl (.cons rfl (.nil _)))) ?_
                refine mxp (i := 19) rfl (by decide +kernel) (by decide +kernel) (by decide +kernel) rfl (fun w0 => ev_assign rfl) rfl rfl (fun w sw => sw.cf (.cons rfl (.cons rfl (.nil _)))) ?_
                refine mxp_done (by decide +kernel) (fun w sw => sw.cf (.cons rfl (.cons rfl (.nil _)))) ?_
                exact at_met ((b12, l2)) (hl24) (.cons rfl (.cons rfl (.cons rfl (.cons rfl (.nil _))))) (.cons rfl (.nil _)) (.nil _)
            ·
              refine wo (i := 16) rfl ?_
              refine st_alloc (h := 12) ty27 rfl rfl rfl (fun b12 => ?_)
              refine op_nil ?_
              refine ax_then ?_
              refine mxp_one (i := 1) (by decide +kernel) (fun w sw => sw.cf (.cons rfl (.cons rfl (.nil _)))) ?_
              refine wo (i := 1) rfl ?_
              refine st_buildSlice (h := 83) (cells := []) Try.underlying43 ty31 rfl (by decide) (fill_nil.trans (by simp)) rfl rfl rfl (fun b83 => ?_)
              refine op_nil ?_
              refine ax_then ?_
              refine mxp_one (i := 5) (by decide +kernel) (fun w sw => sw.cf (.cons rfl (.cons rfl (.nil _)))) ?_
              refine wo (i := 5) rfl ?_
              refine st_append (n := 0) (m := (es.take k).length) (h := 83) (cs := Rt.eflat (es.take k)) Try.underlying43 Try.underlying43 ty31 rfl rfl rfl rfl (fun w1 sw => Rt.cut_lo (sw.sl_rd (h := 24) rfl) (by omega)) (by decide) rfl (Rt.eflat_len _) (by rw [List.length_take]; omega) (by decide) (fun u hu => hone u (by obtain ⟨x, hx, hu⟩ := List.mem_flatMap.1 hu; exact List.mem_flatMap.2 ⟨x, List.mem_of_mem_take hx, hu⟩)) rfl rfl (fun v87 => ?_)
              refine at_heq (i := 83) (v' := .own v87 31 2 (Rt.eflat (es.take k))) rfl (by rw [List.nil_append]) ?_
              refine op_nil ?_
              refine ax_then ?_
              refine mxp_one (i := 10) (by decide +kernel) (fun w sw => sw.cf (.cons rfl (.cons rfl (.nil _)))) ?_
              refine wo (i := 10) rfl ?_
              refine st_append (n := (es.take k).length) (m := (es.drop (k + 1)).length) (h := 83) (cs := Rt.eflat (es.drop (k + 1))) Try.underlying43 Try.underlying43 ty31 rfl rfl rfl rfl (fun w1 sw => Rt.cut_hi (sw.sl_rd (h := 24) rfl) (by omega)) (by decide) (Rt.eflat_len _) (Rt.eflat_len _) (by rw [List.length_take, List.length_drop]; omega) (by decide) (fun u hu => hone u (by obtain ⟨x, hx, hu⟩ := List.mem_flatMap.1 hu; exact List.mem_flatMap.2 ⟨x, List.mem_of_mem_drop hx, hu⟩)) rfl rfl (fun v92 => ?_)
              refine at_heq (i := 83) (v' := .own v92 31 2 (Rt.eflat (es.take k ++ es.drop (k + 1)))) rfl (by rw [Rt.eflat_append]) ?_
              refine op_nil ?_
              refine ax_then ?_
              refine mxp_one (i := 11) (by decide +kernel) (fun w sw => sw.cf (.cons rfl (.cons rfl (.nil _)))) ?_
              refine wo (i := 11) rfl ?_
              refine st_callE 203 200 has19 rfl rfl (fun w1 sw => follow_any 1 9 l0 v92 (es.take k ++ es.drop (k + 1)) w1 hl04 hx20.1.2.2 hrt0 (fun y hy => sw.rd 200 _ rfl y hy) (fun x hx => hok x (hsub x hx)) (by simp only [List.length_append, List.length_take, List.length_drop]; omega) (sw.own_rd (h := 83) rfl) (fun x hx => Rt.ev_of_rows (fun y hy => sw.rd 25 _ rfl y hy) (hsub x hx))) rfl rfl (fun l2 hx93 hf93 => ?_)
              have hl24 := hx93.1
              refine at_eq (i := 93) (v' := .tuple #[.agg (List.toArray (Rt.rootC (Rt.follow (Rt.rt1 1 0) (es.take k ++ es.drop (k + 1))).1.ver (Rt.follow (Rt.rt1 1 0) (es.take k ++ es.drop (k + 1))).1.exp l2)), .int .i64 ((Rt.follow (Rt.rt1 1 0) (es.take k ++ es.drop (k + 1))).2.1 : Nat), .int .i64 (Rt.follow (Rt.rt1 1 0) (es.take k ++ es.drop (k + 1))).2.2]) rfl (by rw [h00]) ?_
              refine op_nil ?_
              refine ax_then ?_
              refine mxp (i := 12) rfl (by decide +kernel) (by decide +kernel) (by decide +kernel) rfl (fun w0 => ev_move rfl) rfl rfl (fun w sw => sw.cf (.cons rfl (.cons rfl (.nil _)))) ?_
              refine mxp (i := 13) rfl (by decide +kernel) (by decide +kernel) (by decide +kernel) rfl (fun w0 => ev_extract rfl rfl) rfl rfl (fun w sw => sw.cf (.cons rfl (.cons rfl (.nil _)))) ?_
              refine mxp (i := 14) rfl (by decide +kernel) (by decide +kernel) (by decide +kernel) rfl (fun w0 => ev_extract rfl rfl) rfl rfl (fun w sw => sw.cf (.cons rfl (.cons rfl (.nil _)))) ?_
              refine mxp (i := 15) rfl (by decide +kernel) (by decide +kernel) (by decide +kernel) rfl (fun w0 => ev_extract rfl rfl) rfl rfl (fun w sw => sw.cf (.cons rfl (.cons rfl (.nil _)))) ?_
              refine mxp_one (i := 17) (by decide +kernel) (fun w sw => sw.cf (.cons rfl (.cons rfl (.nil _)))) ?_
              refine wo (i := 17) rfl ?_
              refine st_store_all 12 ty27 rfl rfl rfl rfl (Rt.rootC_len _ _ (by omega)) (Rt.rootC_one _ _ hx93.2.2) rfl rfl ?_
              refine op_nil ?_
              refine ax_then ?_
              refine mxp (i := 18) rfl (by decide +kernel) (by decide +kernel) (by decide +kernel) rfl (fun w0 => ev_assign rfl) rfl rfl (fun w sw => sw.cf (.cons rfl (.cons rfl (.nil _)))) ?_
              refine mxp (i := 19) rfl (by decide +kernel) (by decide +kernel) (by decide +kernel) rfl (fun w0 => ev_assign rfl) rfl rfl (fun w sw => sw.cf (.cons rfl (.cons rfl (.nil _)))) ?_
              refine mxp_done (by decide +kernel) (fun w sw => sw.cf (.cons rfl (.cons rfl (.nil _)))) ?_
              exact at_met ((b12, l2)) (hl24) (.cons rfl (.cons rfl (.cons rfl (.cons rfl (.nil _))))) (.cons rfl (.nil _)) (.nil _)
          ·
            obtain ⟨b12, l2⟩ := x
            dsimp only at hj ⊢
            refine cd_seq ?_
            refine cd_region ?_
            refine st (ev_fieldAddr (b := _) Try.underlying27 (f := _) rfl ty3 (by decide) rfl) rfl rfl rfl ?_
            refine st (ld_blk1 (h := 12) ty3 rfl rfl rfl rfl) rfl rfl rfl ?_
            refine st (ev_move rfl) rfl rfl rfl ?_
            refine st (ev_move rfl) rfl rfl rfl ?_
            refine st (ev_min2 rfl rfl) rfl rfl rfl ?_
            refine at_eq (i := 101) (v' := .int .i64 ((min n k : Nat) : Int)) rfl (congrArg (Value.int .i64) (by omega)) ?_
            refine st (ev_add64 rfl rfl (by omega) (by omega)) rfl rfl rfl ?_
            refine st (ev_eql rfl rfl) rfl rfl rfl ?_
            refine st (ev_move rfl) rfl rfl rfl ?_
            refine at_eq (i := 104) (v' := .bool true) rfl (by simp only [Value.bool.injEq, decide_eq_true_eq, decide_eq_false_iff_not]; exact hgf.1) ?_
            refine st (ev_move rfl) rfl rfl rfl ?_
            refine st (ev_neq rfl rfl) rfl rfl rfl ?_
            refine st (ev_pick_t rfl rfl) rfl rfl rfl ?_
            refine st (ev_move rfl) rfl rfl rfl ?_
            refine at_eq (i := 108) (v' := .bool true) rfl (by simp only [Value.bool.injEq, decide_eq_true_eq, decide_eq_false_iff_not]; exact hgf.2) ?_
            refine st_callv has18 rfl (fun w1 sw => known8_any w1) rfl rfl ?_
            refine st (ev_pick_t rfl rfl) rfl rfl rfl ?_
            refine st (ev_assign rfl) rfl rfl rfl ?_
            refine op_nil ?_
            refine ax_then ?_
            refine At.regs (L' := [(4, _)]) (.cons rfl (.nil _)) ?_
            refine cd_ret ?_
            refine rt_tmp (.inl rfl) Try.results5 rfl ?_
            exact fun w1 sw => ⟨rfl, sw.gives (.nil _)⟩
      ·
        refine st_skip rfl rfl rfl ?_
        refine st_skip rfl rfl rfl ?_
        refine st (ev_pick_f rfl rfl) rfl rfl rfl ?_
        refine st (ev_pick_f rfl rfl) rfl rfl rfl ?_
        refine op_nil ?_
        refine ax_then ?_
        refine At.regs (L' := [(1, _), (5, _), (6, _), (7, _), (70, _)]) (.cons rfl (.cons rfl (.cons rfl (.cons rfl (.cons rfl (.nil _)))))) ?_
        refine cd_false rfl ?_
        refine cd_skip ?_
        refine ax_then ?_
        refine At.regs (L' := [(1, _), (5, _), (6, _), (7, _)]) (.cons rfl (.cons rfl (.cons rfl (.cons rfl (.nil _))))) ?_
        refine cd_seq ?_
        refine cd_seq ?_
        refine cd_region ?_
        refine st (ev_move rfl) rfl rfl rfl ?_
        refine st (ev_len_rd (h := 24) (n := es.length) Try.underlying43 rfl rfl (Rt.eflat_len es) (by decide)) rfl rfl rfl ?_
        refine st (ev_lss rfl rfl) rfl rfl rfl ?_
        refine op_nil ?_
        refine ax_then ?_
        refine At.regs (L' := [(1, _), (5, _), (6, _), (7, _), (73, _)]) (.cons rfl (.cons rfl (.cons rfl (.cons rfl (.cons rfl (.nil _)))))) ?_
        refine cd_if rfl (fun hc73 => ?_) (fun hc73 => ?_)
        ·
          refine cd_seq ?_
          refine cd_region ?_
          refine st_callv has18 rfl (fun w1 sw => known8_any w1) rfl rfl ?_
          refine st (ev_assign rfl) rfl rfl rfl ?_
          refine op_nil ?_
          refine ax_then ?_
          refine At.regs (L' := [(1, _), (4, _), (5, _), (6, _), (7, _)]) (.cons rfl (.cons rfl (.cons rfl (.cons rfl (.cons rfl (.nil _)))))) ?_
          refine cd_ret ?_
          refine ax_then_ret ?_
          refine rt_tmp (.inl rfl) Try.results5 rfl ?_
          exact fun w1 sw => ⟨rfl, sw.gives (.nil _)⟩
        ·
          refine cd_skip ?_
          refine ax_then ?_
          refine At.regs (L' := [(1, _), (5, _), (6, _), (7, _)]) (.cons rfl (.cons rfl (.cons rfl (.cons rfl (.nil _))))) ?_
          refine cd_seq ?_
          have h1023 := Rt.and1023 gone
          obtain ⟨k, hk0, hk⟩ : ∃ k : Nat, Rt.iandM gone % ((es.length : Int) - 1) = (k : Nat) ∧ k + 1 < es.length := Rt.gone_k h1023 (by omega)
          have hgf := Rt.gone_follow hlk hj1 hj2 hj3 hk
          have hsub : ∀ x, x ∈ (es.take k ++ es.drop (k + 1)) → x ∈ es := fun x hx => (List.mem_append.1 hx).elim List.mem_of_mem_take List.mem_of_mem_drop
          refine at_one (i := 25) (P := ∀ u, u ∈ Rt.eflat es → u.oneCell' = true) rfl (fun w1 hh => Rt.eflat_one (fun x hx => Rt.ev_of_rows hh hx)) (fun hone => ?_)
          refine cd_region ?_
          refine st (ev_move rfl) rfl rfl rfl ?_
          refine st (ev_and rfl rfl) rfl rfl rfl ?_
          refine st (ev_move rfl) rfl rfl rfl ?_
          refine st (ev_len_rd (h := 24) (n := es.length) Try.underlying43 rfl rfl (Rt.eflat_len es) (by decide)) rfl rfl rfl ?_
          refine st (ev_sub64 rfl rfl (by omega) (by omega)) rfl rfl rfl ?_
          refine st (ev_rem64 rfl rfl h1023.1 (by omega)) rfl rfl rfl ?_
          refine at_eq (i := 80) (v' := .int .i64 (k : Nat)) rfl (congrArg (Value.int .i64) hk0) ?_
          refine st (ev_assign rfl) rfl rfl rfl ?_
          refine op_nil ?_
          refine ax_then ?_
          refine At.regs (L' := [(5, _), (6, _), (7, _), (11, _)]) (.cons rfl (.cons rfl (.cons rfl (.cons rfl (.nil _))))) ?_
          refine cd_join (ι := Nat × List Rt.Rol) (fun x => x.2.length = 4) (fun x => [(7, .int .i64 (n : Nat)), (11, .int .i64 (k : Nat)), (12, .pointer (some ⟨x.1, 0, none⟩)), (14, .int .i64 (Rt.follow (Rt.rt1 1 0) (es.take k ++ es.drop (k + 1))).2.2)]) (fun x => [(12, .blk (x.1) (.cells (Rt.rootC (Rt.follow (Rt.rt1 1 0) (es.take k ++ es.drop (k + 1))).1.ver (Rt.follow (Rt.rt1 1 0) (es.take k ++ es.drop (k + 1))).1.exp x.2).toArray 27))]) (fun x => []) ?_ (fun x hj => ?_)
          ·
            refine cd_mixp [(5, .mem b5 0 (Rt.rootC 1 9 l0)), (24, .sl lv 2 (Rt.eflat es))] hmix ?_
            refine mxp (i := 0) rfl (by decide +kernel) (by decide +kernel) (by decide +kernel) rfl (fun w0 => ld_mem_all (h := 5) ty27 rfl rfl rfl (Rt.rootC_len _ _ (by omega))) rfl rfl (fun w sw => sw.cf (.cons rfl (.cons rfl (.nil _)))) ?_
            refine mxp (i := 2) rfl (by decide +kernel) (by decide +kernel) (by decide +kernel) rfl (fun w0 => ev_move rfl) rfl rfl (fun w sw => sw.cf (.cons rfl (.cons rfl (.nil _)))) ?_
            refine mxp (i := 3) rfl (by decide +kernel) (by decide +kernel) (by decide +kernel) rfl (fun w0 => ev_move rfl) rfl rfl (fun w sw => sw.cf (.cons rfl (.cons rfl (.nil _)))) ?_
            refine mxp (i := 4) rfl (by decide +kernel) (by decide +kernel) (by decide +kernel) rfl (fun w0 => ev_slice_rd_hi (n := es.length) Try.underlying43 ty31 rfl rfl (fun w1 sw => sw.sl_rd (h := 24) rfl) (by decide) (Rt.eflat_len es) (by omega) (by omega)) rfl rfl (fun w sw => sw.cf (.cons rfl (.cons rfl (.nil _)))) ?_
            refine at_eq (i := 86) (v' := cutAt 2 lv 0 k) rfl (by rw [Int.toNat_natCast]) ?_
            refine mxp (i := 6) rfl (by decide +kernel) (by decide +kernel) (by decide +kernel) rfl (fun w0 => ev_move rfl) rfl rfl (fun w sw => sw.cf (.cons rfl (.cons rfl (.nil _)))) ?_
            refine mxp (i := 7) rfl (by decide +kernel) (by decide +kernel) (by decide +kernel) rfl (fun w0 => ev_move rfl) rfl rfl (fun w sw => sw.cf (.cons rfl (.cons rfl (.nil _)))) ?_
            refine mxp (i := 8) rfl (by decide +kernel) (by decide +kernel) (by decide +kernel) rfl (fun w0 => ev_add64 rfl rfl (by omega) (by omega)) rfl rfl (fun w sw => sw.cf (.cons rfl (.cons rfl (.nil _)))) ?_
            refine mxp (i := 9) rfl (by decide +kernel) (by decide +kernel) (by decide +kernel) rfl (fun w0 => ev_slice_rd_lo (n := es.length) Try.underlying43 ty31 rfl rfl (fun w1 sw => sw.sl_rd (h := 24) rfl) (by decide) (Rt.eflat_len es) (by omega) (by omega)) rfl rfl (fun w sw => sw.cf (.cons rfl (.cons rfl (.nil _)))) ?_
            refine at_eq (i := 91) (v' := cutAt 2 lv (k + 1) es.length) rfl (congrArg (fun z => cutAt 2 lv z es.length) (by omega)) ?_
            refine mxp_two (i := 1) (j := 16) (by decide +kernel) (fun w sw => sw.cf (.cons rfl (.cons rfl (.nil _)))) ?_ ?_
            ·
              refine wo (i := 1) rfl ?_
              refine st_buildSlice (h := 83) (cells := []) Try.underlying43 ty31 rfl (by decide) (fill_nil.trans (by simp)) rfl rfl rfl (fun b83 => ?_)
              refine op_nil ?_
              refine ax_then ?_
              refine mxp_two (i := 5) (j := 16) (by decide +kernel) (fun w sw => sw.cf (.cons rfl (.cons rfl (.nil _)))) ?_ ?_
              ·
                refine wo (i := 5) rfl ?_
                refine st_append (n := 0) (m := (es.take k).length) (h := 83) (cs := Rt.eflat (es.take k)) Try.underlying43 Try.underlying43 ty31 rfl rfl rfl rfl (fun w1 sw => Rt.cut_lo (sw.sl_rd (h := 24) rfl) (by omega)) (by decide) rfl (Rt.eflat_len _) (by rw [List.length_take]; omega) (by decide) (fun u hu => hone u (by obtain ⟨x, hx, hu⟩ := List.mem_flatMap.1 hu; exact List.mem_flatMap.2 ⟨x, List.mem_of_mem_take hx, hu⟩)) rfl rfl (fun v87 => ?_)
                refine at_heq (i := 83) (v' := .own v87 31 2 (Rt.eflat (es.take k))) rfl (by rw [List.nil_append]) ?_
                refine op_nil ?_
                refine ax_then ?_
                refine mxp_two (i := 10) (j := 16) (by decide +kernel) (fun w sw => sw.cf (.cons rfl (.cons rfl (.nil _)))) ?_ ?_
                ·
                  refine wo (i := 10) rfl ?_
                  refine st_append (n := (es.take k).length) (m := (es.drop (k + 1)).length) (h := 83) (cs := Rt.eflat (es.drop (k + 1))) Try.underlying43 Try.underlying43 ty31 rfl rfl rfl rfl (fun w1 sw => Rt.cut_hi (sw.sl_rd (h := 24) rfl) (by omega)) (by decide) (Rt.eflat_len _) (Rt.eflat_len _) (by rw [List.length_take, List.length_drop]; omega) (by decide) (fun u hu => hone u (by obtain ⟨x, hx, hu⟩ := List.mem_flatMap.1 hu; exact List.mem_flatMap.2 ⟨x, List.mem_of_mem_drop hx, hu⟩)) rfl rfl (fun v92 => ?_)
                  refine at_heq (i := 83) (v' := .own v92 31 2 (Rt.eflat (es.take k ++ es.drop (k + 1)))) rfl (by rw [Rt.eflat_append]) ?_
                  refine op_nil ?_
                  refine ax_then ?_
                  refine mxp_two (i := 11) (j := 16) (by decide +kernel) (fun w sw => sw.cf (.cons rfl (.cons rfl (.nil _)))) ?_ ?_
                  ·
                    refine wo (i := 11) rfl ?_
                    refine st_callE 203 200 has19 rfl rfl (fun w1 sw => follow_any 1 9 l0 v92 (es.take k ++ es.drop (k + 1)) w1 hl04 hx20.1.2.2 hrt0 (fun y hy => sw.rd 200 _ rfl y hy) (fun x hx => hok x (hsub x hx)) (by simp only [List.length_append, List.length_take, List.length_drop]; omega) (sw.own_rd (h := 83) rfl) (fun x hx => Rt.ev_of_rows (fun y hy => sw.rd 25 _ rfl y hy) (hsub x hx))) rfl rfl (fun l2 hx93 hf93 => ?_)
                    have hl24 := hx93.1
                    refine at_eq (i := 93) (v' := .tuple #[.agg (List.toArray (Rt.rootC (Rt.follow (Rt.rt1 1 0) (es.take k ++ es.drop (k + 1))).1.ver (Rt.follow (Rt.rt1 1 0) (es.take k ++ es.drop (k + 1))).1.exp l2)), .int .i64 ((Rt.follow (Rt.rt1 1 0) (es.take k ++ es.drop (k + 1))).2.1 : Nat), .int .i64 (Rt.follow (Rt.rt1 1 0) (es.take k ++ es.drop (k + 1))).2.2]) rfl (by rw [h00]) ?_
                    refine op_nil ?_
                    refine ax_then ?_
                    refine mxp (i := 12) rfl (by decide +kernel) (by decide +kernel) (by decide +kernel) rfl (fun w0 => ev_move rfl) rfl rfl (fun w sw => sw.cf (.cons rfl (.cons rfl (.nil _)))) ?_
                    refine mxp (i := 13) rfl (by decide +kernel) (by decide +kernel) (by decide +kernel) rfl (fun w0 => ev_extract rfl rfl) rfl rfl (fun w sw => sw.cf (.cons rfl (.cons rfl (.nil _)))) ?_
                    refine mxp (i := 14) rfl (by decide +kernel) (by decide +kernel) (by decide +kernel) rfl (fun w0 => ev_extract rfl rfl) rfl rfl (fun w sw => sw.cf (.cons rfl (.cons rfl (.nil _)))) ?_
                    refine mxp (i := 15) rfl (by decide +kernel) (by decide +kernel) (by decide +kernel) rfl (fun w0 => ev_extract rfl rfl) rfl rfl (fun w sw => sw.cf (.cons rfl (.cons rfl (.nil _)))) ?_
                    refine mxp_one (i := 16) (by decide +kernel) (fun w sw => sw.cf (.cons rfl (.cons rfl (.nil _)))) ?_
                    refine wo (i := 16) rfl ?_
                    refine st_alloc (h := 12) ty27 rfl rfl rfl (fun b12 => ?_)
                    refine op_nil ?_
                    refine ax_then ?_
                    refine mxp_one (i := 17) (by decide +kernel) (fun w sw => sw.cf (.cons rfl (.cons rfl (.nil _)))) ?_
                    refine wo (i := 17) rfl ?_
                    refine st_store_all 12 ty27 rfl rfl rfl rfl (Rt.rootC_len _ _ (by omega)) (Rt.rootC_one _ _ hx93.2.2) rfl rfl ?_
                    refine op_nil ?_
                    refine ax_then ?_
                    refine mxp (i := 18) rfl (by decide +kernel) (by decide +kernel) (by decide +kernel) rfl (fun w0 => ev_assign rfl) rfl rfl (fun w sw => sw.cf (.cons rfl (.cons rfl (.nil _)))) ?_
                    refine mxp (i := 19) rfl (by decide +kernel) (by decide +kernel) (by decide +kernel) rfl (fun w0 => ev_assign rfl) rfl rfl (fun w sw => sw.cf (.cons rfl (.cons rfl (.nil _)))) ?_
                    refine mxp_done (by decide +kernel) (fun w sw => sw.cf (.cons rfl (.cons rfl (.nil _)))) ?_
                    exact at_met ((b12, l2)) (hl24) (.cons rfl (.cons rfl (.cons rfl (.cons rfl (.nil _))))) (.cons rfl (.nil _)) (.nil _)
                  ·
                    refine wo (i := 16) rfl ?_
                    refine st_alloc (h := 12) ty27 rfl rfl rfl (fun b12 => ?_)
                    refine op_nil ?_
                    refine ax_then ?_
                    refine mxp_one (i := 11) (by decide +kernel) (fun w sw => sw.cf (.cons rfl (.cons rfl (.nil _)))) ?_
                    refine wo (i := 11) rfl ?_
                    refine st_callE 203 200 has19 rfl rfl (fun w1 sw => follow_any 1 9 l0 v92 (es.take k ++ es.drop (k + 1)) w1 hl04 hx20.1.2.2 hrt0 (fun y hy => sw.rd 200 _ rfl y hy) (fun x hx => hok x (hsub x hx)) (by simp only [List.length_append, List.length_take, List.length_drop]; omega) (sw.own_rd (h := 83) rfl) (fun x hx => Rt.ev_of_rows (fun y hy => sw.rd 25 _ rfl y hy) (hsub x hx))) rfl rfl (fun l2 hx93 hf93 => ?_)
                    have hl24 := hx93.1
                    refine at_eq (i := 93) (v' := .tuple #[.agg (List.toArray (Rt.rootC (Rt.follow (Rt.rt1 1 0) (es.take k ++ es.drop (k + 1))).1.ver (Rt.follow (Rt.rt1 1 0) (es.take k ++ es.drop (k + 1))).1.exp l2)), .int .i64 ((Rt.follow (Rt.rt1 1 0) (es.take k ++ es.drop (k + 1))).2.1 : Nat), .int .i64 (Rt.follow (Rt.rt1 1 0) (es.take k ++ es.drop (k + 1))).2.2]) rfl (by rw [h00]) ?_
                    refine op_nil ?_
                    refine ax_then ?_
                    refine mxp (i := 12) rfl (by decide +kernel) (by decide +kernel) (by decide +kernel) rfl (fun w0 => ev_move rfl) rfl rfl (fun w sw => sw.cf (.cons rfl (.cons rfl (.nil _)))) ?_
                    refine mxp (i := 13) rfl (by decide +kernel) (by decide +kernel) (by decide +kernel) rfl (fun w0 => ev_extract rfl rfl) rfl rfl (fun w sw => sw.cf (.cons rfl (.cons rfl (.nil _)))) ?_
                    refine mxp (i := 14) rfl (by decide +kernel) (by decide +kernel) (by decide +kernel) rfl (fun w0 => ev_extract rfl rfl) rfl rfl (fun w sw => sw.cf (.cons rfl (.cons rfl (.nil _)))) ?_
                    refine mxp (i := 15) rfl (by decide +kernel) (by decide +kernel) (by decide +kernel) rfl (fun w0 => ev_extract rfl rfl) rfl rfl (fun w sw => sw.cf (.cons rfl (.cons rfl (.nil _)))) ?_
                    refine mxp_one (i := 17) (by decide +kernel) (fun w sw => sw.cf (.cons rfl (.cons rfl (.nil _)))) ?_
                    refine wo (i := 17) rfl ?_
                    refine st_store_all 12 ty27 rfl rfl rfl rfl (Rt.rootC_len _ _ (by omega)) (Rt.rootC_one _ _ hx93.2.2) rfl rfl ?_
                    refine op_nil ?_
                    refine ax_then ?_
                    refine mxp (i := 18) rfl (by decide +kernel) (by decide +kernel) (by decide +kernel) rfl (fun w0 => ev_assign rfl) rfl rfl (fun w sw => sw.cf (.cons rfl (.cons rfl (.nil _)))) ?_
                    refine mxp (i := 19) rfl (by decide +kernel) (by decide +kernel) (by decide +kernel) rfl (fun w0 => ev_assign rfl) rfl rfl (fun w sw => sw.cf (.cons rfl (.cons rfl (.nil _)))) ?_
                    refine mxp_done (by decide +kernel) (fun w sw => sw.cf (.cons rfl (.cons rfl (.nil _)))) ?_
                    exact at_met ((b12, l2)) (hl24) (.cons rfl (.cons rfl (.cons rfl (.cons rfl (.nil _))))) (.cons rfl (.nil _)) (.nil _)
                ·
                  refine wo (i := 16) rfl ?_
                  refine st_alloc (h := 12) ty27 rfl rfl rfl (fun b12 => ?_)
                  refine op_nil ?_
                  refine ax_then ?_
                  refine mxp_one (i := 10) (by decide +kernel) (fun w sw => sw.cf (.cons rfl (.cons rfl (.nil _)))) ?_
                  refine wo (i := 10) rfl ?_
                  refine st_append (n := (es.take k).length) (m := (es.drop (k + 1)).length) (h := 83) (cs := Rt.eflat (es.drop (k + 1))) Try.underlying43 Try.underlying43 ty31 rfl rfl rfl rfl (fun w1 sw => Rt.cut_hi (sw.sl_rd (h := 24) rfl) (by omega)) (by decide) (Rt.eflat_len _) (Rt.eflat_len _) (by rw [List.length_take, List.length_drop]; omega) (by decide) (fun u hu => hone u (by obtain ⟨x, hx, hu⟩ := List.mem_flatMap.1 hu; exact List.mem_flatMap.2 ⟨x, List.mem_of_mem_drop hx, hu⟩)) rfl rfl (fun v92 => ?_)
                  refine at_heq (i := 83) (v' := .own v92 31 2 (Rt.eflat (es.take k ++ es.drop (k + 1)))) rfl (by rw [Rt.eflat_append]) ?_
                  refine op_nil ?_
                  refine ax_then ?_
                  refine mxp_one (i := 11) (by decide +kernel) (fun w sw => sw.cf (.cons rfl (.cons rfl (.nil _)))) ?_
                  refine wo (i := 11) rfl ?_
                  refine st_callE 203 200 has19 rfl rfl (fun w1 sw => follow_any 1 9 l0 v92 (es.take k ++ es.drop (k + 1)) w1 hl04 hx20.1.2.2 hrt0 (fun y hy => sw.rd 200 _ rfl y hy) (fun x hx => hok x (hsub x hx)) (by simp only [List.length_append, List.length_take, List.length_drop]; omega) (sw.own_rd (h := 83) rfl) (fun x hx => Rt.ev_of_rows (fun y hy => sw.rd 25 _ rfl y hy) (hsub x hx))) rfl rfl (fun l2 hx93 hf93 => ?_)
                  have hl24 := hx93.1
                  refine at_eq (i := 93) (v' := .tuple #[.agg (List.toArray (Rt.rootC (Rt.follow (Rt.rt1 1 0) (es.take k ++ es.drop (k + 1))).1.ver (Rt.follow (Rt.rt1 1 0) (es.take k ++ es.drop (k + 1))).1.exp l2)), .int .i64 ((Rt.follow (Rt.rt1 1 0) (es.take k ++ es.drop (k + 1))).2.1 : Nat), .int .i64 (Rt.follow (Rt.rt1 1 0) (es.take k ++ es.drop (k + 1))).2.2]) rfl (by rw [h00]) ?_
                  refine op_nil ?_
                  refine ax_then ?_
                  refine mxp (i := 12) rfl (by decide +kernel) (by decide +kernel) (by decide +kernel) rfl (fun w0 => ev_move rfl) rfl rfl (fun w sw => sw.cf (.cons rfl (.cons rfl (.nil _)))) ?_
                  refine mxp (i := 13) rfl (by decide +kernel) (by decide +kernel) (by decide +kernel) rfl (fun w0 => ev_extract rfl rfl) rfl rfl (fun w sw => sw.cf (.cons rfl (.cons rfl (.nil _)))) ?_
                  refine mxp (i := 14) rfl (by decide +kernel) (by decide +kernel) (by decide +kernel) rfl (fun w0 => ev_extract rfl rfl) rfl rfl (fun w sw => sw.cf (.cons rfl (.cons rfl (.nil _)))) ?_
                  refine mxp (i := 15) rfl (by decide +kernel) (by decide +kernel) (by decide +kernel) rfl (fun w0 => ev_extract rfl rfl) rfl rfl (fun w sw => sw.cf (.cons rfl (.cons rfl (.nil _)))) ?_
                  refine mxp_one (i := 17) (by decide +kernel) (fun w sw => sw.cf (.cons rfl (.cons rfl (.nil _)))) ?_
                  refine wo (i := 17) rfl ?_
                  refine st_store_all 12 ty27 rfl rfl rfl rfl (Rt.rootC_len _ _ (by omega)) (Rt.rootC_one _ _ hx93.2.2) rfl rfl ?_
                  refine op_nil ?_
                  refine ax_then ?_
                  refine mxp (i := 18) rfl (by decide +kernel) (by decide +kernel) (by decide +kernel) rfl (fun w0 => ev_assign rfl) rfl rfl (fun w sw => sw.cf (.cons rfl (.cons rfl (.nil _)))) ?_
                  refine mxp (i := 19) rfl (by decide +kernel) (by decide +kernel) (by decide +kernel) rfl (fun w0 => ev_assign rfl) rfl rfl (fun w sw => sw.cf (.cons rfl (.cons rfl (.nil _)))) ?_
                  refine mxp_done (by decide +kernel) (fun w sw => sw.cf (.cons rfl (.cons rfl (.nil _)))) ?_
                  exact at_met ((b12, l2)) (hl24) (.cons rfl (.cons rfl (.cons rfl (.cons rfl (.nil _))))) (.cons rfl (.nil _)) (.nil _)
              ·
                refine wo (i := 16) rfl ?_
                refine st_alloc (h := 12) ty27 rfl rfl rfl (fun b12 => ?_)
                refine op_nil ?_
                refine ax_then ?_
                refine mxp_one (i := 5) (by decide +kernel) (fun w sw => sw.cf (.cons rfl (.cons rfl (.nil _)))) ?_
                refine wo (i := 5) rfl ?_
                refine st_append (n := 0) (m := (es.take k).length) (h := 83) (cs := Rt.eflat (es.take k)) Try.underlying43 Try.underlying43 ty31 rfl rfl rfl rfl (fun w1 sw => Rt.cut_lo (sw.sl_rd (h := 24) rfl) (by omega)) (by decide) rfl (Rt.eflat_len _) (by rw [List.length_take]; omega) (by decide) (fun u hu => hone u (by obtain ⟨x, hx, hu⟩ := List.mem_flatMap.1 hu; exact List.mem_flatMap.2 ⟨x, List.mem_of_mem_take hx, hu⟩)) rfl rfl (fun v87 => ?_)
                refine at_heq (i := 83) (v' := .own v87 31 2 (Rt.eflat (es.take k))) rfl (by rw [List.nil_append]) ?_
                refine op_nil ?_
                refine ax_then ?_
                refine mxp_one (i := 10) (by decide +kernel) (fun w sw => sw.cf (.cons rfl (.cons rfl (.nil _)))) ?_
                refine wo (i := 10) rfl ?_
                refine st_append (n := (es.take k).length) (m := (es.drop (k + 1)).length) (h := 83) (cs := Rt.eflat (es.drop (k + 1))) Try.underlying43 Try.underlying43 ty31 rfl rfl rfl rfl (fun w1 sw => Rt.cut_hi (sw.sl_rd (h := 24) rfl) (by omega)) (by decide) (Rt.eflat_len _) (Rt.eflat_len _) (by rw [List.length_take, List.length_drop]; omega) (by decide) (fun u hu => hone u (by obtain ⟨x, hx, hu⟩ := List.mem_flatMap.1 hu; exact List.mem_flatMap.2 ⟨x, List.mem_of_mem_drop hx, hu⟩)) rfl rfl (fun v92 => ?_)
                refine at_heq (i := 83) (v' := .own v92 31 2 (Rt.eflat (es.take k ++ es.drop (k + 1)))) rfl (by rw [Rt.eflat_append]) ?_
                refine op_nil ?_
                refine ax_then ?_
                refine mxp_one (i := 11) (by decide +kernel) (fun w sw => sw.cf (.cons rfl (.cons rfl (.nil _)))) ?_
                refine wo (i := 11) rfl ?_
                refine st_callE 203 200 has19 rfl rfl (fun w1 sw => follow_any 1 9 l0 v92 (es.take k ++ es.drop (k + 1)) w1 hl04 hx20.1.2.2 hrt0 (fun y hy => sw.rd 200 _ rfl y hy) (fun x hx => hok x (hsub x hx)) (by simp only [List.length_append, List.length_take, List.length_drop]; omega) (sw.own_rd (h := 83) rfl) (fun x hx => Rt.ev_of_rows (fun y hy => sw.rd 25 _ rfl y hy) (hsub x hx))) rfl rfl (fun l2 hx93 hf93 => ?_)
                have hl24 := hx93.1
                refine at_eq (i := 93) (v' := .tuple #[.agg (List.toArray (Rt.rootC (Rt.follow (Rt.rt1 1 0) (es.take k ++ es.drop (k + 1))).1.ver (Rt.follow (Rt.rt1 1 0) (es.take k ++ es.drop (k + 1))).1.exp l2)), .int .i64 ((Rt.follow (Rt.rt1 1 0) (es.take k ++ es.drop (k + 1))).2.1 : Nat), .int .i64 (Rt.follow (Rt.rt1 1 0) (es.take k ++ es.drop (k + 1))).2.2]) rfl (by rw [h00]) ?_
                refine op_nil ?_
                refine ax_then ?_
                refine mxp (i := 12) rfl (by decide +kernel) (by decide +kernel) (by decide +kernel) rfl (fun w0 => ev_move rfl) rfl rfl (fun w sw => sw.cf (.cons rfl (.cons rfl (.nil _)))) ?_
                refine mxp (i := 13) rfl (by decide +kernel) (by decide +kernel) (by decide +kernel) rfl (fun w0 => ev_extract rfl rfl) rfl rfl (fun w sw => sw.cf (.cons rfl (.cons rfl (.nil _)))) ?_
                refine mxp (i := 14) rfl (by decide +kernel) (by decide +kernel) (by decide +kernel) rfl (fun w0 => ev_extract rfl rfl) rfl rfl (fun w sw => sw.cf (.cons rfl (.cons rfl (.nil _)))) ?_
                refine mxp (i := 15) rfl (by decide +kernel) (by decide +kernel) (by decide +kernel) rfl (fun w0 => ev_extract rfl rfl) rfl rfl (fun w sw => sw.cf (.cons rfl (.cons rfl (.nil _)))) ?_
                refine mxp_one (i := 17) (by decide +kernel) (fun w sw => sw.cf (.cons rfl (.cons rfl (.nil _)))) ?_
                refine wo (i := 17) rfl ?_
                refine st_store_all 12 ty27 rfl rfl rfl rfl (Rt.rootC_len _ _ (by omega)) (Rt.rootC_one _ _ hx93.2.2) rfl rfl ?_
                refine op_nil ?_
                refine ax_then ?_
                refine mxp (i := 18) rfl (by decide +kernel) (by decide +kernel) (by decide +kernel) rfl (fun w0 => ev_assign rfl) rfl rfl (fun w sw => sw.cf (.cons rfl (.cons rfl (.nil _)))) ?_
                refine mxp (i := 19) rfl (by decide +kernel) (by decide +kernel) (by decide +kernel) rfl (fun w0 => ev_assign rfl) rfl rfl (fun w sw => sw.cf (.cons rfl (.cons rfl (.nil _)))) ?_
                refine mxp_done (by decide +kernel) (fun w sw => sw.cf (.cons rfl (.cons rfl (.nil _)))) ?_
                exact at_met ((b12, l2)) (hl24) (.cons rfl (.cons rfl (.cons rfl (.cons rfl (.nil _))))) (.cons rfl (.nil _)) (.nil _)
            ·
              refine wo (i := 16) rfl ?_
              refine st_alloc (h := 12) ty27 rfl rfl rfl (fun b12 => ?_)
              refine op_nil ?_
              refine ax_then ?_
              refine mxp_one (i := 1) (by decide +kernel) (fun w sw => sw.cf (.cons rfl (.cons rfl (.nil _)))) ?_
              refine wo (i := 1) rfl ?_
              refine st_buildSlice (h := 83) (cells := []) Try.underlying43 ty31 rfl (by decide) (fill_nil.trans (by simp)) rfl rfl rfl (fun b83 => ?_)
              refine op_nil ?_
              refine ax_then ?_
              refine mxp_one (i := 5) (by decide +kernel) (fun w sw => sw.cf (.cons rfl (.cons rfl (.nil _)))) ?_
              refine wo (i := 5) rfl ?_
              refine st_append (n := 0) (m := (es.take k).length) (h := 83) (cs := Rt.eflat (es.take k)) Try.underlying43 Try.underlying43 ty31 rfl rfl rfl rfl (fun w1 sw => Rt.cut_lo (sw.sl_rd (h := 24) rfl) (by omega)) (by decide) rfl (Rt.eflat_len _) (by rw [List.length_take]; omega) (by decide) (fun u hu => hone u (by obtain ⟨x, hx, hu⟩ := List.mem_flatMap.1 hu; exact List.mem_flatMap.2 ⟨x, List.mem_of_mem_take hx, hu⟩)) rfl rfl (fun v87 => ?_)
              refine at_heq (i := 83) (v' := .own v87 31 2 (Rt.eflat (es.take k))) rfl (by rw [List.nil_append]) ?_
              refine op_nil ?_
              refine ax_then ?_
              refine mxp_one (i := 10) (by decide +kernel) (fun w sw => sw.cf (.cons rfl (.cons rfl (.nil _)))) ?_
              refine wo (i := 10) rfl ?_
              refine st_append (n := (es.take k).length) (m := (es.drop (k + 1)).length) (h := 83) (cs := Rt.eflat (es.drop (k + 1))) Try.underlying43 Try.underlying43 ty31 rfl rfl rfl rfl (fun w1 sw => Rt.cut_hi (sw.sl_rd (h := 24) rfl) (by omega)) (by decide) (Rt.eflat_len _) (Rt.eflat_len _) (by rw [List.length_take, List.length_drop]; omega) (by decide) (fun u hu => hone u (by obtain ⟨x, hx, hu⟩ := List.mem_flatMap.1 hu; exact List.mem_flatMap.2 ⟨x, List.mem_of_mem_drop hx, hu⟩)) rfl rfl (fun v92 => ?_)
              refine at_heq (i := 83) (v' := .own v92 31 2 (Rt.eflat (es.take k ++ es.drop (k + 1)))) rfl (by rw [Rt.eflat_append]) ?_
              refine op_nil ?_
              refine ax_then ?_
              refine mxp_one (i := 11) (by decide +kernel) (fun w sw => sw.cf (.cons rfl (.cons rfl (.nil _)))) ?_
              refine wo (i := 11) rfl ?_
              refine st_callE 203 200 has19 rfl rfl (fun w1 sw => follow_any 1 9 l0 v92 (es.take k ++ es.drop (k + 1)) w1 hl04 hx20.1.2.2 hrt0 (fun y hy => sw.rd 200 _ rfl y hy) (fun x hx => hok x (hsub x hx)) (by simp only [List.length_append, List.length_take, List.length_drop]; omega) (sw.own_rd (h := 83) rfl) (fun x hx => Rt.ev_of_rows (fun y hy => sw.rd 25 _ rfl y hy) (hsub x hx))) rfl rfl (fun l2 hx93 hf93 => ?_)
              have hl24 := hx93.1
              refine at_eq (i := 93) (v' := .tuple #[.agg (List.toArray (Rt.rootC (Rt.follow (Rt.rt1 1 0) (es.take k ++ es.drop (k + 1))).1.ver (Rt.follow (Rt.rt1 1 0) (es.take k ++ es.drop (k + 1))).1.exp l2)), .int .i64 ((Rt.follow (Rt.rt1 1 0) (es.take k ++ es.drop (k + 1))).2.1 : Nat), .int .i64 (Rt.follow (Rt.rt1 1 0) (es.take k ++ es.drop (k + 1))).2.2]) rfl (by rw [h00]) ?_
              refine op_nil ?_
              refine ax_then ?_
              refine mxp (i := 12) rfl (by decide +kernel) (by decide +kernel) (by decide +kernel) rfl (fun w0 => ev_move rfl) rfl rfl (fun w sw => sw.cf (.cons rfl (.cons rfl (.nil _)))) ?_
              refine mxp (i := 13) rfl (by decide +kernel) (by decide +kernel) (by decide +kernel) rfl (fun w0 => ev_extract rfl rfl) rfl rfl (fun w sw => sw.cf (.cons rfl (.cons rfl (.nil _)))) ?_
              refine mxp (i := 14) rfl (by decide +kernel) (by decide +kernel) (by decide +kernel) rfl (fun w0 => ev_extract rfl rfl) rfl rfl (fun w sw => sw.cf (.cons rfl (.cons rfl (.nil _)))) ?_
              refine mxp (i := 15) rfl (by decide +kernel) (by decide +kernel) (by decide +kernel) rfl (fun w0 => ev_extract rfl rfl) rfl rfl (fun w sw => sw.cf (.cons rfl (.cons rfl (.nil _)))) ?_
              refine mxp_one (i := 17) (by decide +kernel) (fun w sw => sw.cf (.cons rfl (.cons rfl (.nil _)))) ?_
              refine wo (i := 17) rfl ?_
              refine st_store_all 12 ty27 rfl rfl rfl rfl (Rt.rootC_len _ _ (by omega)) (Rt.rootC_one _ _ hx93.2.2) rfl rfl ?_
              refine op_nil ?_
              refine ax_then ?_
              refine mxp (i := 18) rfl (by decide +kernel) (by decide +kernel) (by decide +kernel) rfl (fun w0 => ev_assign rfl) rfl rfl (fun w sw => sw.cf (.cons rfl (.cons rfl (.nil _)))) ?_
              refine mxp (i := 19) rfl (by decide +kernel) (by decide +kernel) (by decide +kernel) rfl (fun w0 => ev_assign rfl) rfl rfl (fun w sw => sw.cf (.cons rfl (.cons rfl (.nil _)))) ?_
              refine mxp_done (by decide +kernel) (fun w sw => sw.cf (.cons rfl (.cons rfl (.nil _)))) ?_
              exact at_met ((b12, l2)) (hl24) (.cons rfl (.cons rfl (.cons rfl (.cons rfl (.nil _))))) (.cons rfl (.nil _)) (.nil _)
          ·
            obtain ⟨b12, l2⟩ := x
            dsimp only at hj ⊢
            refine cd_seq ?_
            refine cd_region ?_
            refine st (ev_fieldAddr (b := _) Try.underlying27 (f := _) rfl ty3 (by decide) rfl) rfl rfl rfl ?_
            refine st (ld_blk1 (h := 12) ty3 rfl rfl rfl rfl) rfl rfl rfl ?_
            refine st (ev_move rfl) rfl rfl rfl ?_
            refine st (ev_move rfl) rfl rfl rfl ?_
            refine st (ev_min2 rfl rfl) rfl rfl rfl ?_
            refine at_eq (i := 101) (v' := .int .i64 ((min n k : Nat) : Int)) rfl (congrArg (Value.int .i64) (by omega)) ?_
            refine st (ev_add64 rfl rfl (by omega) (by omega)) rfl rfl rfl ?_
            refine st (ev_eql rfl rfl) rfl rfl rfl ?_
            refine st (ev_move rfl) rfl rfl rfl ?_
            refine at_eq (i := 104) (v' := .bool true) rfl (by simp only [Value.bool.injEq, decide_eq_true_eq, decide_eq_false_iff_not]; exact hgf.1) ?_
            refine st (ev_move rfl) rfl rfl rfl ?_
            refine st (ev_neq rfl rfl) rfl rfl rfl ?_
            refine st (ev_pick_t rfl rfl) rfl rfl rfl ?_
            refine st (ev_move rfl) rfl rfl rfl ?_
            refine at_eq (i := 108) (v' := .bool true) rfl (by simp only [Value.bool.injEq, decide_eq_true_eq, decide_eq_false_iff_not]; exact hgf.2) ?_
            refine st_callv has18 rfl (fun w1 sw => known8_any w1) rfl rfl ?_
            refine st (ev_pick_t rfl rfl) rfl rfl rfl ?_
            refine st (ev_assign rfl) rfl rfl rfl ?_
            refine op_nil ?_
            refine ax_then ?_
            refine At.regs (L' := [(4, _)]) (.cons rfl (.nil _)) ?_
            refine cd_ret ?_
            refine rt_tmp (.inl rfl) Try.results5 rfl ?_
            exact fun w1 sw => ⟨rfl, sw.gives (.nil _)⟩
end Go.Proofs.Ytgfnmolbagilmaa

namespace Go.Proofs.Ytgfnmolbagilmaa
open Go Go.ChangeShapes Go.WideShapes Go.ChangeAt Go.RowKit Fw
set_option linter.unusedVariables false
theorem laid : laidOutB Try.prog = true := by kernel_rfl
namespace chainLinks
theorem own : ownKnob Try.prog.godebug = none := by kernel_rfl
set_option maxRecDepth 100000 in
theorem lifted (os : Os) (started : os.Started) (H : Type) (enc : TypeId × Value → H) :
    ReturnsInHanded {} Try.checked os 5 .any (Rows.chainLinksSpec.pre6 enc Try.prog Try.f5 Rows.chainLinksRow.domain false) (Rows.chainLinksSpec.post enc Try.prog Try.f5 false true false false) := by
  refine returnsInHanded_of_change_sized (C := Try.checked) own started (by kernel_rfl) Try.func5
    (ChangeSpec.witness6 (enc := enc) (C := Try.checked) false ⟨#[], #[.slice none 0 0, .int .i64 0], []⟩ 8 (by kernel_rfl) (by kernel_rfl) (by kernel_rfl) (by kernel_rfl)) ?_
  intro W base args ds gs before hval0 hW hcnd hsz _
  have hval : ∀ (j : Nat) t v, Try.f5.params[j]? = some t → args[j]? = some v → Value.okWide Try.prog W .any base t v := hval0
  have hW' := hW
  obtain ⟨p, q, hA0, hV, rfl, hfz, hnd⟩ := hW
  have hA : DataW.TrodAll enc Try.prog W 0 (fun _ => true) true Try.f5.params.toList args.toList ds p := hA0
  have hk := hA
  have hlt : ∀ x ∈ p, x.block < W.heap.size := fun x hx => hW'.lt x (List.mem_append.2 (.inl hx))
  rw [Try.params5] at hA hval hk
  obtain ⟨v0, vs0, d0, ds0, p0, q0, hargs, rfl, rfl, h0, r0⟩ := trodAll_cons hA
  obtain ⟨v1, vs1, d1, ds1, p1, q1, rfl, rfl, rfl, h1, r1⟩ := trodAll_cons r0
  obtain ⟨rfl, rfl, rfl⟩ := trodAll_nil r1
  obtain rfl : args = #[v0, v1] := by cases args; simp_all
  obtain ⟨rfl, rfl⟩ := trodVars_none hV
  obtain ⟨l0, rd0, m0, b0⟩ := rd_ints Try.underlying49 Try.underlying3 (by kernel_rfl) (hval 0 49 v0 rfl rfl) h0 (light_of (j := 0) hsz rfl rfl)
  have len0 : l0.length ≤ 140737488351232 := by
    have h := m0
    rw [show Try.prog.bytesOf 3 = 8 from by kernel_rfl] at h
    have hr : reachBytes = 140737488351232 := rfl
    omega
  obtain ⟨a1, rfl, _, _, w1⟩ := open_int Try.underlying3 (hval 1 3 v1 rfl rfl) h1
  refine (chainLinks_any v0 l0 a1 W len0 rd0).mono fun e W' ⟨he, g⟩ => ?_
  subst he
  have bel := g.below
  exact ⟨_, rfl, _, _, _, [], _, [], hW', trodAll_mk1 (shut_bool Try.underlying4 _), all_below laid bel _ _ _ _ (all_rows (by kernel_rfl)) hk hlt (fun x hx => by simpa using hlt x hx), rfl, bel.frame _, fun h => by cases h⟩
theorem over : Rows.chainLinksRow.holds Try.pinned (OpenSpec.ofChange Rows.chainLinksSpec) :=
  OpenClaim.holds_of_wide 5 Try.f5 rfl rfl rfl rfl rfl rfl rfl ⟨rfl, rfl, rfl, rfl, rfl⟩ rfl rfl rfl rfl rfl (by kernel_rfl) Try.func5 (by kernel_rfl)
    (of_decide_eq_true (by kernel_rfl)) (by unfold Func.isWrapper; first | (rw [if_pos (by decide +kernel)]; kernel_rfl) | (rw [if_neg (by decide +kernel)]; exact ⟨rfl, rfl⟩))
    (fun os started H enc _ => lifted os started H enc)
/-- The statement. -/
theorem proved : Rows.ChainLinksSaid := over
end chainLinks
end Go.Proofs.Ytgfnmolbagilmaa

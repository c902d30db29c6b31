/- Walks: Link, Mac. -/
import Derived.Test.YtcglackbpfnfdaaD4
namespace Go.Proofs.Ytcglackbpfnfdaa
open Go Go.RowKit Fw
open Sha
set_option linter.unusedVariables false
set_option linter.unusedSimpArgs false

set_option maxRecDepth 20000 in
set_option maxHeartbeats 1000000 in
theorem stands_any (p q : Value) (b : List Int) (w : World) (hl : b.length ≤ 1000000) (h : Rd w p 1 (ints .u8 (b ++ [171]))) (h' : Rd w q 1 (ints .u8 b)) : Calls Try.prog 16 #[p, q] w (PostV w (.bool true)) := by
  refine calls_at (vs := [p, q]) (X := []) (H := []) (F := [(1, .sl q 1 (ints .u8 (b))), (0, .sl p 1 (ints .u8 (b ++ [171])))]) 27 Try.func16 rfl rfl rfl ((Sat.rd0 0 h).more 1 h') ?_
  refine cd_seq ?_
  refine cd_region ?_
  refine st (ev_assign rfl) rfl rfl rfl ?_
  refine op_nil ?_
  refine ax_then ?_
  refine At.regs (L' := [(0, _), (1, _), (4, _)]) (.cons rfl (.cons rfl (.cons rfl (.nil _)))) ?_
  refine cd_seq ?_
  refine cd_region ?_
  refine st (ev_move rfl) rfl rfl rfl ?_
  refine st (ev_len_rdi (h := 0) Try.underlying34 rfl rfl) rfl rfl rfl ?_
  refine st (ev_move rfl) rfl rfl rfl ?_
  refine st (ev_len_rdi (h := 1) Try.underlying34 rfl rfl) rfl rfl rfl ?_
  refine st (ev_add64 rfl rfl (by omega) (by omega)) rfl rfl rfl ?_
  refine st (ev_eql rfl rfl) rfl rfl rfl ?_
  refine st (ev_move rfl) rfl rfl rfl ?_
  refine at_eq (i := 11) (v' := .bool true) rfl (by simp only [Value.bool.injEq, decide_eq_true_eq, decide_eq_false_iff_not]; simp) ?_
  refine st (ev_move rfl) rfl rfl rfl ?_
  refine st (ev_move rfl) rfl rfl rfl ?_
  refine st (ev_len_rdi (h := 1) Try.underlying34 rfl rfl) rfl rfl rfl ?_
  refine st (ev_slicei_hi Try.underlying34 ty5 rfl rfl (fun w1 sw => sw.sl_rd (h := 0) rfl) (by omega) (by first | omega | (simp only [List.length_append, List.length_cons, List.length_nil, List.length_set, List.length_replicate, List.length_take, List.length_drop, ints_length, wr_length, comp_len, absorb_len, S0_len, hexL_len, sha_len, xorl_len, fit_len] <;> omega))) rfl rfl rfl ?_
  refine at_eq (i := 15) (v' := cutAt 1 p 0 b.length) rfl (by rw [Int.toNat_natCast]) ?_
  have hcut : ∀ w1, Rd w1 p 1 (ints .u8 (b ++ [171])) → Rd w1 (cutAt 1 p 0 b.length) 1 (ints .u8 b) := fun w1 hr => by have := hr.cuti (lo := 0) (hi := b.length) (by omega) (by simp); simpa using this
  refine st (ev_move rfl) rfl rfl rfl ?_
  refine st_callv has29 rfl (fun w1 sw => same_any (cutAt 1 p 0 b.length) q b b w1 hl hl (hcut w1 (sw.sl_rd (h := 0) rfl)) (sw.sl_rd (h := 1) rfl)) rfl rfl ?_
  refine st (ev_pick_t rfl rfl) rfl rfl rfl ?_
  refine st (ev_move rfl) rfl rfl rfl ?_
  refine at_eq (i := 19) (v' := .bool true) rfl (by simp) ?_
  refine st (ev_move rfl) rfl rfl rfl ?_
  refine st (ev_move rfl) rfl rfl rfl ?_
  refine st (ev_len_rdi (h := 1) Try.underlying34 rfl rfl) rfl rfl rfl ?_
  refine st (ev_indexAddr_rdi (h := 0) Try.underlying34 ty5 rfl rfl rfl (by omega) (by first | omega | (simp only [List.length_append, List.length_cons, List.length_nil, List.length_set, List.length_replicate, List.length_take, List.length_drop, ints_length, wr_length, comp_len, absorb_len, S0_len, hexL_len, sha_len, xorl_len, fit_len] <;> omega))) rfl rfl rfl ?_
  refine st (ld_rd1 (h := 0) ty5 rfl rfl rfl (ints_get _ _ _ (by simp))) rfl rfl rfl ?_
  refine at_eq (i := 24) (v' := .int .u8 171) rfl (by simp [List.getD_eq_getElem?_getD]) ?_
  refine st (ev_eql rfl rfl) rfl rfl rfl ?_
  refine at_eq (i := 25) (v' := .bool true) rfl (by simp) ?_
  refine st (ev_pick_t rfl rfl) rfl rfl rfl ?_
  refine st (ev_assign rfl) rfl rfl rfl ?_
  refine op_nil ?_
  refine ax_then ?_
  refine At.regs (L' := [(4, _)]) (.cons rfl (.nil _)) ?_
  refine cd_ret ?_
  refine rt_tmp (.inl rfl) Try.results16 rfl ?_
  exact fun w1 sw => ⟨rfl, sw.gives (.nil _)⟩

set_option maxRecDepth 20000 in
set_option maxHeartbeats 1000000 in
theorem link_none (h0 : List Int) (p : Value) (l : List Int) (w : World) (hl : h0.length = 32) (hl2 : l.length ≤ 900000000) (hz : l = []) (h : Rd w p 1 (ints .u8 l)) : Calls Try.prog 20 #[.agg (ints .u8 (h0)).toArray, p] w (PostV w (.agg (ints .u8 (sha (h0 ++ l))).toArray)) := by
  have e0 : sha (h0 ++ l) = sha h0 := by rw [hz, List.append_nil]
  rw [e0]
  refine calls_at (vs := [.agg (ints .u8 (h0)).toArray, p]) (X := []) (H := []) (F := [(1, .sl p 1 (ints .u8 (l)))]) 9 Try.func20 rfl rfl rfl (Sat.rd0 1 h) ?_
  refine cd_seq ?_
  refine cd_region ?_
  refine st_box (h := 2) rfl rfl rfl rfl (fun b2 => ?_)
  refine st_alloc (h := 4) ty32 rfl rfl rfl (fun b4 => ?_)
  refine op_nil ?_
  refine ax_then ?_
  refine At.regs (L' := [(1, _), (2, _), (4, _)]) (.cons rfl (.cons rfl (.cons rfl (.nil _)))) ?_
  refine cd_seq ?_
  refine cd_region ?_
  refine st (ev_slice_arr_all Try.underlying32 ty5 rfl) rfl rfl rfl ?_
  refine st (ev_move rfl) rfl rfl rfl ?_
  refine st (ev_append_none (n := 32) (c := 32) Try.underlying34 Try.underlying34 ty5 rfl rfl (fun w1 sw => by have := sw.sl_rd (h := 1) rfl; rw [hz] at this; exact this) (by decide) (by decide)) rfl rfl rfl ?_
  refine st_callv has14 rfl (fun w1 sw => sum_any (.slice (some ⟨b2, 0, none⟩) 32 32) h0 w1 (by omega) (rd_blk_all sw (h := 2) rfl (by rw [ints_length, hl]))) rfl rfl ?_
  refine st_store_all 4 ty32 rfl rfl rfl rfl (by first | omega | (simp only [List.length_append, List.length_cons, List.length_nil, List.length_set, List.length_replicate, List.length_take, List.length_drop, ints_length, wr_length, comp_len, absorb_len, S0_len, hexL_len, sha_len, xorl_len, fit_len] <;> omega) | rfl) (ints_one _ _) (by first | omega | (simp only [List.length_append, List.length_cons, List.length_nil, List.length_set, List.length_replicate, List.length_take, List.length_drop, ints_length, wr_length, comp_len, absorb_len, S0_len, hexL_len, sha_len, xorl_len, fit_len] <;> omega) | rfl) rfl ?_
  refine op_nil ?_
  refine ax_then ?_
  refine At.regs (L' := [(4, _)]) (.cons rfl (.nil _)) ?_
  refine cd_ret ?_
  refine rt_cell (h0 := 4) (.inl rfl) Try.results20 ty32 rfl rfl rfl (by first | omega | (simp only [List.length_append, List.length_cons, List.length_nil, List.length_set, List.length_replicate, List.length_take, List.length_drop, ints_length, wr_length, comp_len, absorb_len, S0_len, hexL_len, sha_len, xorl_len, fit_len] <;> omega) | rfl) ?_
  exact fun w1 sw => ⟨rfl, sw.gives (.nil _)⟩

set_option maxRecDepth 20000 in
set_option maxHeartbeats 1000000 in
theorem link_some (h0 : List Int) (p : Value) (l : List Int) (w : World) (hl : h0.length = 32) (hl2 : l.length ≤ 900000000) (hz : 0 < l.length) (h : Rd w p 1 (ints .u8 l)) : Calls Try.prog 20 #[.agg (ints .u8 (h0)).toArray, p] w (PostV w (.agg (ints .u8 (sha (h0 ++ l))).toArray)) := by
  refine calls_at (vs := [.agg (ints .u8 (h0)).toArray, p]) (X := []) (H := []) (F := [(1, .sl p 1 (ints .u8 (l)))]) 9 Try.func20 rfl rfl rfl (Sat.rd0 1 h) ?_
  refine cd_seq ?_
  refine cd_region ?_
  refine st_box (h := 2) rfl rfl rfl rfl (fun b2 => ?_)
  refine st_alloc (h := 4) ty32 rfl rfl rfl (fun b4 => ?_)
  refine op_nil ?_
  refine ax_then ?_
  refine At.regs (L' := [(1, _), (2, _), (4, _)]) (.cons rfl (.cons rfl (.cons rfl (.nil _)))) ?_
  refine cd_seq ?_
  refine cd_region ?_
  refine st (ev_slice_arr_all Try.underlying32 ty5 rfl) rfl rfl rfl ?_
  refine st (ev_move rfl) rfl rfl rfl ?_
  refine st_append_full (h := 7) (n := 32) (m := l.length) Try.underlying34 Try.underlying34 ty5 rfl rfl rfl (fun w1 sw => rd_blk_all sw (h := 2) rfl (by rw [ints_length, hl])) (fun w1 sw => sw.sl_rd (h := 1) rfl) (by decide) (by rw [ints_length, hl]) (by rw [ints_length, Nat.mul_one]) hz (by omega) (by decide) rfl rfl (fun v7 => ?_)
  refine at_heq (i := 7) (v' := .own v7 5 1 (ints .u8 (h0 ++ l))) rfl (by rw [ints_append]) ?_
  refine st_callv has14 rfl (fun w1 sw => sum_any v7 (h0 ++ l) w1 (by rw [List.length_append]; omega) (sw.own_rd (h := 7) rfl)) rfl rfl ?_
  refine st_store_all 4 ty32 rfl rfl rfl rfl (by first | omega | (simp only [List.length_append, List.length_cons, List.length_nil, List.length_set, List.length_replicate, List.length_take, List.length_drop, ints_length, wr_length, comp_len, absorb_len, S0_len, hexL_len, sha_len, xorl_len, fit_len] <;> omega) | rfl) (ints_one _ _) (by first | omega | (simp only [List.length_append, List.length_cons, List.length_nil, List.length_set, List.length_replicate, List.length_take, List.length_drop, ints_length, wr_length, comp_len, absorb_len, S0_len, hexL_len, sha_len, xorl_len, fit_len] <;> omega) | rfl) rfl ?_
  refine op_nil ?_
  refine ax_then ?_
  refine At.regs (L' := [(4, _)]) (.cons rfl (.nil _)) ?_
  refine cd_ret ?_
  refine rt_cell (h0 := 4) (.inl rfl) Try.results20 ty32 rfl rfl rfl (by first | omega | (simp only [List.length_append, List.length_cons, List.length_nil, List.length_set, List.length_replicate, List.length_take, List.length_drop, ints_length, wr_length, comp_len, absorb_len, S0_len, hexL_len, sha_len, xorl_len, fit_len] <;> omega) | rfl) ?_
  exact fun w1 sw => ⟨rfl, sw.gives (.nil _)⟩

theorem link_any (h0 : List Int) (p : Value) (l : List Int) (w : World) (hl : h0.length = 32) (hl2 : l.length ≤ 900000000) (h : Rd w p 1 (ints .u8 l)) : Calls Try.prog 20 #[.agg (ints .u8 (h0)).toArray, p] w (PostV w (.agg (ints .u8 (sha (h0 ++ l))).toArray)) := by
  by_cases hz : l.length = 0
  · exact link_none h0 p l w hl hl2 (List.length_eq_zero_iff.1 hz) h
  · exact link_some h0 p l w hl hl2 (by omega) h

set_option maxRecDepth 20000 in
set_option maxHeartbeats 1000000 in
theorem rlink_any (h0 : List Int) (p : Value) (l : List Int) (w : World) (hl : h0.length = 32) (hl2 : l.length ≤ 900000000) (h : Rd w p 1 (ints .u8 l)) : Calls Try.prog 21 #[.agg (ints .u8 (h0)).toArray, p] w (PostV w (.agg (ints .u8 (sha (h0 ++ l))).toArray)) := by
  refine calls_at (vs := [.agg (ints .u8 (h0)).toArray, p]) (X := []) (H := []) (F := [(1, .sl p 1 (ints .u8 (l)))]) 11 Try.func21 rfl rfl rfl (Sat.rd0 1 h) ?_
  refine cd_seq ?_
  refine cd_region ?_
  refine st_box (h := 2) rfl rfl rfl rfl (fun b2 => ?_)
  refine st_alloc (h := 4) ty32 rfl rfl rfl (fun b4 => ?_)
  refine op_nil ?_
  refine ax_then ?_
  refine At.regs (L' := [(1, _), (2, _), (4, _)]) (.cons rfl (.cons rfl (.cons rfl (.nil _)))) ?_
  refine cd_seq ?_
  refine cd_region ?_
  refine st_bsi (h := 5) (xs := []) Try.underlying34 ty5 (by decide) rfl rfl (by decide) rfl rfl (fun b5 => ?_)
  refine st (ev_slice_arr_all Try.underlying32 ty5 rfl) rfl rfl rfl ?_
  refine st_appendi (h := 5) Try.underlying34 Try.underlying34 ty5 rfl rfl rfl rfl (fun w1 sw => rd_blk_all sw (h := 2) rfl (by first | omega | (simp only [List.length_append, List.length_cons, List.length_nil, List.length_set, List.length_replicate, List.length_take, List.length_drop, ints_length, wr_length, comp_len, absorb_len, S0_len, hexL_len, sha_len, xorl_len, fit_len] <;> omega) | rfl)) (by first | omega | (simp only [List.length_append, List.length_cons, List.length_nil, List.length_set, List.length_replicate, List.length_take, List.length_drop, ints_length, wr_length, comp_len, absorb_len, S0_len, hexL_len, sha_len, xorl_len, fit_len] <;> omega)) (by decide) rfl rfl (fun v7 => ?_)
  refine st (ev_move rfl) rfl rfl rfl ?_
  refine st_appendi (h := 5) Try.underlying34 Try.underlying34 ty5 rfl rfl rfl rfl (fun w1 sw => sw.sl_rd (h := 1) rfl) (by first | omega | (simp only [List.length_append, List.length_cons, List.length_nil, List.length_set, List.length_replicate, List.length_take, List.length_drop, ints_length, wr_length, comp_len, absorb_len, S0_len, hexL_len, sha_len, xorl_len, fit_len] <;> omega)) (by decide) rfl rfl (fun v9 => ?_)
  refine st_callv has15 rfl (fun w1 sw => rsum_any v9 ([] ++ h0 ++ l) w1 (by simp only [List.length_append, List.length_nil]; omega) (sw.own_rd (h := 5) rfl)) rfl rfl ?_
  refine at_eq (i := 10) (v' := .agg (ints .u8 (sha (h0 ++ l))).toArray) rfl (by rw [List.nil_append]) ?_
  refine st_store_all 4 ty32 rfl rfl rfl rfl (by first | omega | (simp only [List.length_append, List.length_cons, List.length_nil, List.length_set, List.length_replicate, List.length_take, List.length_drop, ints_length, wr_length, comp_len, absorb_len, S0_len, hexL_len, sha_len, xorl_len, fit_len] <;> omega) | rfl) (ints_one _ _) (by first | omega | (simp only [List.length_append, List.length_cons, List.length_nil, List.length_set, List.length_replicate, List.length_take, List.length_drop, ints_length, wr_length, comp_len, absorb_len, S0_len, hexL_len, sha_len, xorl_len, fit_len] <;> omega) | rfl) rfl ?_
  refine op_nil ?_
  refine ax_then ?_
  refine At.regs (L' := [(4, _)]) (.cons rfl (.nil _)) ?_
  refine cd_ret ?_
  refine rt_cell (h0 := 4) (.inl rfl) Try.results21 ty32 rfl rfl rfl (by first | omega | (simp only [List.length_append, List.length_cons, List.length_nil, List.length_set, List.length_replicate, List.length_take, List.length_drop, ints_length, wr_length, comp_len, absorb_len, S0_len, hexL_len, sha_len, xorl_len, fit_len] <;> omega) | rfl) ?_
  exact fun w1 sw => ⟨rfl, sw.gives (.nil _)⟩

set_option maxRecDepth 20000 in
set_option maxHeartbeats 2000000 in
theorem mac1_any (m : Int) (p : Value) (bk : Nat) (k l : List Int) (w : World) (hk : k.length = 64) (hl : l.length ≤ 900000000) (h : Rd w p 1 (ints .u8 l)) (hb : w.heap[bk]? = some (.cells (ints .u8 k).toArray 56)) : Calls Try.prog 30 #[.int .u8 m, p, .pointer (some ⟨bk, 0, none⟩)] w (PostV w (.agg (ints .u8 (sha (xorl k m ++ l))).toArray)) := by
  refine calls_at (vs := [.int .u8 m, p, .pointer (some ⟨bk, 0, none⟩)]) (X := []) (H := []) (F := [(2, .mem bk 0 (ints .u8 k)), (1, .sl p 1 (ints .u8 (l)))]) 28 Try.func30 rfl rfl rfl ((Sat.rd0 1 h).read 2 (lies_blk hb) off_nil) ?_
  refine cd_seq ?_
  refine cd_region ?_
  refine st_alloc (h := 5) ty32 rfl rfl rfl (fun b5 => ?_)
  refine op_nil ?_
  refine ax_then ?_
  refine At.regs (L' := [(0, _), (1, _), (2, _), (5, _)]) (.cons rfl (.cons rfl (.cons rfl (.cons rfl (.nil _))))) ?_
  refine cd_seq ?_
  refine cd_region ?_
  refine st (ev_move rfl) rfl rfl rfl ?_
  refine st (ev_len_rdi (h := 1) Try.underlying34 rfl rfl) rfl rfl rfl ?_
  refine st (ev_add64 rfl rfl (by omega) (by omega)) rfl rfl rfl ?_
  refine at_eq (i := 11) (v' := .int .i64 ((64 + l.length : Nat) : Int)) rfl (by simp) ?_
  refine st_makeSlice (h := 12) (n := 0) (c := 64 + l.length) Try.underlying34 ty5 rfl rfl rfl (by omega) (by omega) (by omega) rfl rfl (fun b12 => ?_)
  refine at_heq (i := 12) (v' := .own (.slice (some ⟨b12, 0, none⟩) 0 (64 + l.length)) 5 1 (ints .u8 ([]))) rfl rfl ?_
  refine st (ev_assign rfl) rfl rfl rfl ?_
  refine op_nil ?_
  refine ax_then ?_
  refine At.regs (L' := [(0, _), (1, _), (2, _), (5, _), (6, _)]) (.cons rfl (.cons rfl (.cons rfl (.cons rfl (.cons rfl (.nil _)))))) ?_
  refine cd_seq ?_
  refine cd_seq ?_
  refine cd_region ?_
  refine st (ld_mem (h := 2) (k := 0) ty56 rfl rfl rfl rfl (by rw [ints_length, hk]; decide)) rfl rfl rfl ?_
  refine at_eq (i := 13) (v' := .agg (ints .u8 (k)).toArray) rfl (by rw [List.drop_zero, List.take_of_length_le (by rw [ints_length, hk]; decide)]) ?_
  refine st (ev_move rfl) rfl rfl rfl ?_
  refine op_nil ?_
  refine ax_then ?_
  refine At.regs (L' := [(0, _), (1, _), (5, _), (6, _), (13, _), (14, _)]) (.cons rfl (.cons rfl (.cons rfl (.cons rfl (.cons rfl (.cons rfl (.nil _))))))) ?_
  refine cd_block ?_
  refine cd_loop (ι := Nat × Value) (fun x => x.1 ≤ 64) (fun x => 64 - x.1)
      (fun x => [(0, .int .u8 m), (1, p), (5, .pointer (some ⟨b5, 0, none⟩)), (6, x.2), (13, .agg (ints .u8 (k)).toArray), (14, .int .i64 (x.1 : Int))])
      (fun x => [(5, .blk b5 (.cells (ints .u8 (List.replicate 32 0)).toArray 32)), (12, .own (x.2) 5 1 (ints .u8 (xorl (k.take x.1) m)))])
      (fun x => [(1, .sl p 1 (ints .u8 (l)))])
      (0, _) (by omega) (.cons rfl (.cons rfl (.cons rfl (.cons rfl (.cons rfl (.cons rfl (.nil _))))))) (.cons rfl (.cons rfl (.nil _))) (.cons rfl (.nil _)) (fun x hi => ?_)
  have htk : (xorl (k.take x.1) m).length ≤ 64 := by rw [xorl_len, List.length_take]; omega
  have e0 : (x.1 : Int).toNat = x.1 := by omega
  refine cd_seq ?_
  refine cd_region ?_
  refine st (ev_lss rfl rfl) rfl rfl rfl ?_
  refine op_nil ?_
  refine ax_then ?_
  refine At.regs (L' := [(0, _), (1, _), (5, _), (6, _), (13, _), (14, _), (15, _)]) (.cons rfl (.cons rfl (.cons rfl (.cons rfl (.cons rfl (.cons rfl (.cons rfl (.nil _)))))))) ?_
  refine cd_seq ?_
  refine cd_if rfl (fun hc15 => ?_) (fun hc15 => ?_)
  ·
    refine cd_skip ?_
    refine ax_then ?_
    refine At.regs (L' := [(0, _), (1, _), (5, _), (6, _), (13, _), (14, _), (15, _)]) (.cons rfl (.cons rfl (.cons rfl (.cons rfl (.cons rfl (.cons rfl (.cons rfl (.nil _)))))))) ?_
    refine cd_seq ?_
    refine cd_block ?_
    refine cd_seq ?_
    refine cd_region ?_
    refine st (ev_indexi Try.underlying56 ty5 rfl rfl (by omega) (by omega) (by first | omega | (simp only [List.length_append, List.length_cons, List.length_nil, List.length_set, List.length_replicate, List.length_take, List.length_drop, ints_length, wr_length, comp_len, absorb_len, S0_len, hexL_len, sha_len, xorl_len, fit_len] <;> omega) | rfl)) rfl rfl rfl ?_
    refine st (ev_assign rfl) rfl rfl rfl ?_
    refine op_nil ?_
    refine ax_then ?_
    refine At.regs (L' := [(0, _), (1, _), (5, _), (6, _), (8, _), (13, _), (14, _), (15, _), (16, _)]) (.cons rfl (.cons rfl (.cons rfl (.cons rfl (.cons rfl (.cons rfl (.cons rfl (.cons rfl (.cons rfl (.nil _)))))))))) ?_
    refine cd_region ?_
    refine st (ev_move rfl) rfl rfl rfl ?_
    refine st (ev_move rfl) rfl rfl rfl ?_
    refine st (ev_move rfl) rfl rfl rfl ?_
    refine st (ev_xor rfl rfl) rfl rfl rfl ?_
    refine st_bsi (h := 21) (xs := [_]) Try.underlying34 ty5 (by decide) rfl rfl (by decide) rfl rfl (fun b21 => ?_)
    refine st_appendi (h := 12) Try.underlying34 Try.underlying34 ty5 rfl rfl rfl rfl (fun w1 sw => sw.own_rd (h := 21) rfl) (by first | omega | (simp only [List.length_append, List.length_cons, List.length_nil, List.length_set, List.length_replicate, List.length_take, List.length_drop, ints_length, wr_length, comp_len, absorb_len, S0_len, hexL_len, sha_len, xorl_len, fit_len] <;> omega)) (by decide) rfl rfl (fun v22 => ?_)
    refine st (ev_assign rfl) rfl rfl rfl ?_
    refine op_nil ?_
    refine ax_block ?_
    refine ax_then ?_
    refine At.regs (L' := [(0, _), (1, _), (5, _), (6, _), (8, _), (13, _), (14, _), (15, _), (16, _), (17, _), (18, _), (19, _), (20, _), (21, _), (22, _)]) (.cons rfl (.cons rfl (.cons rfl (.cons rfl (.cons rfl (.cons rfl (.cons rfl (.cons rfl (.cons rfl (.cons rfl (.cons rfl (.cons rfl (.cons rfl (.cons rfl (.cons rfl (.nil _)))))))))))))))) ?_
    refine cd_region ?_
    refine st (ev_add64 rfl rfl (by omega) (by omega)) rfl rfl rfl ?_
    refine st (ev_move rfl) rfl rfl rfl ?_
    refine op_nil ?_
    refine ax_heq (i := 12) (v' := .own (v22) 5 1 (ints .u8 (xorl (k.take (x.1 + 1)) m))) rfl (by simp only [e0]; rw [xorl_snoc (by omega)]) ?_
    exact at_again ((x.1 + 1, v22)) (by show x.1 + 1 ≤ 64; omega) (by omega) (.cons rfl (.cons rfl (.cons rfl (.cons rfl (.cons rfl (.cons rfl (.nil _))))))) (.cons rfl (.cons rfl (.nil _))) (.cons rfl (.nil _))
  ·
    obtain ⟨j, v⟩ := x
    dsimp only at hi hc15 ⊢
    obtain rfl : j = 64 := by omega
    refine at_heq (i := 12) (v' := .own (v) 5 1 (ints .u8 (xorl k m))) rfl (by rw [List.take_of_length_le (by omega)]) ?_
    have hxl := xorl_len k m
    refine cd_exit ?_
    refine ax_then_exit ?_
    refine ax_then_exit ?_
    refine ax_block_hit ?_
    refine ax_then ?_
    refine At.regs (L' := [(1, _), (5, _), (6, _)]) (.cons rfl (.cons rfl (.cons rfl (.nil _)))) ?_
    refine cd_seq ?_
    refine cd_region ?_
    refine st (ev_move rfl) rfl rfl rfl ?_
    refine st (ev_move rfl) rfl rfl rfl ?_
    refine st_appendi (h := 12) Try.underlying34 Try.underlying34 ty5 rfl rfl rfl rfl (fun w1 sw => sw.sl_rd (h := 1) rfl) (by first | omega | (simp only [List.length_append, List.length_cons, List.length_nil, List.length_set, List.length_replicate, List.length_take, List.length_drop, ints_length, wr_length, comp_len, absorb_len, S0_len, hexL_len, sha_len, xorl_len, fit_len] <;> omega)) (by decide) rfl rfl (fun v26 => ?_)
    refine st_callv has14 rfl (fun w1 sw => sum_any v26 (xorl k m ++ l) w1 (by rw [List.length_append]; omega) (sw.own_rd (h := 12) rfl)) rfl rfl ?_
    refine st_store_all 5 ty32 rfl rfl rfl rfl (by first | omega | (simp only [List.length_append, List.length_cons, List.length_nil, List.length_set, List.length_replicate, List.length_take, List.length_drop, ints_length, wr_length, comp_len, absorb_len, S0_len, hexL_len, sha_len, xorl_len, fit_len] <;> omega) | rfl) (ints_one _ _) (by first | omega | (simp only [List.length_append, List.length_cons, List.length_nil, List.length_set, List.length_replicate, List.length_take, List.length_drop, ints_length, wr_length, comp_len, absorb_len, S0_len, hexL_len, sha_len, xorl_len, fit_len] <;> omega) | rfl) rfl ?_
    refine op_nil ?_
    refine ax_then ?_
    refine At.regs (L' := [(5, _)]) (.cons rfl (.nil _)) ?_
    refine cd_ret ?_
    refine rt_cell (h0 := 5) (.inl rfl) Try.results30 ty32 rfl rfl rfl (by first | omega | (simp only [List.length_append, List.length_cons, List.length_nil, List.length_set, List.length_replicate, List.length_take, List.length_drop, ints_length, wr_length, comp_len, absorb_len, S0_len, hexL_len, sha_len, xorl_len, fit_len] <;> omega) | rfl) ?_
    exact fun w1 sw => ⟨rfl, sw.gives (.nil _)⟩

set_option maxRecDepth 20000 in
set_option maxHeartbeats 2000000 in
theorem mac_any (p q : Value) (key l : List Int) (w : World) (hk : key.length ≤ 900000000) (hl : l.length ≤ 900000000) (h : Rd w p 1 (ints .u8 key)) (h' : Rd w q 1 (ints .u8 l)) : Calls Try.prog 18 #[p, q] w (PostV w (.agg (ints .u8 (mac key l)).toArray)) := by
  have hkl := kk_len key
  have hfl := fit_len key
  refine calls_at (vs := [p, q]) (X := []) (H := []) (F := [(1, .sl q 1 (ints .u8 (l))), (0, .sl p 1 (ints .u8 (key)))]) 25 Try.func18 rfl rfl rfl ((Sat.rd0 0 h).more 1 h') ?_
  refine cd_seq ?_
  refine cd_region ?_
  refine st_alloc (h := 4) ty32 rfl rfl rfl (fun b4 => ?_)
  refine op_nil ?_
  refine ax_then ?_
  refine At.regs (L' := [(0, _), (1, _), (4, _)]) (.cons rfl (.cons rfl (.cons rfl (.nil _)))) ?_
  refine cd_seq ?_
  refine cd_region ?_
  refine st_alloc (h := 5) ty56 rfl rfl rfl (fun b5 => ?_)
  refine op_nil ?_
  refine ax_then ?_
  refine At.regs (L' := [(0, _), (1, _), (4, _), (5, _)]) (.cons rfl (.cons rfl (.cons rfl (.cons rfl (.nil _))))) ?_
  refine cd_join (ι := Value) (fun x => True) (fun x => [(0, x), (1, q), (4, .pointer (some ⟨b4, 0, none⟩)), (5, .pointer (some ⟨b5, 0, none⟩))]) (fun x => [(4, .blk b4 (.cells (ints .u8 (List.replicate 32 0)).toArray 32)), (5, .blk b5 (.cells (ints .u8 (List.replicate 64 0)).toArray 56))]) (fun x => [(1, .sl q 1 (ints .u8 (l))), (7, .sl x 1 (ints .u8 (kk key)))]) ?_ (fun x hj => ?_)
  ·
    refine cd_seq ?_
    refine at_alias (h := 0) 7 rfl ?_
    refine cd_region ?_
    refine st (ev_move rfl) rfl rfl rfl ?_
    refine st (ev_len_rdi (h := 0) Try.underlying34 rfl rfl) rfl rfl rfl ?_
    refine st (ev_gtr rfl rfl) rfl rfl rfl ?_
    refine op_nil ?_
    refine ax_then ?_
    refine At.regs (L' := [(0, _), (1, _), (4, _), (5, _), (11, _)]) (.cons rfl (.cons rfl (.cons rfl (.cons rfl (.cons rfl (.nil _)))))) ?_
    refine cd_if rfl (fun hc11 => ?_) (fun hc11 => ?_)
    ·
      refine cd_seq ?_
      refine cd_region ?_
      refine st (ev_move rfl) rfl rfl rfl ?_
      refine st_callv has14 rfl (fun w1 sw => sum_any p key w1 (by omega) (sw.sl_rd (h := 0) rfl)) rfl rfl ?_
      refine st_alloc (h := 6) ty32 rfl rfl rfl (fun b6 => ?_)
      refine st_store_all 6 ty32 rfl rfl rfl rfl (by first | omega | (simp only [List.length_append, List.length_cons, List.length_nil, List.length_set, List.length_replicate, List.length_take, List.length_drop, ints_length, wr_length, comp_len, absorb_len, S0_len, hexL_len, sha_len, xorl_len, fit_len] <;> omega) | rfl) (ints_one _ _) (by first | omega | (simp only [List.length_append, List.length_cons, List.length_nil, List.length_set, List.length_replicate, List.length_take, List.length_drop, ints_length, wr_length, comp_len, absorb_len, S0_len, hexL_len, sha_len, xorl_len, fit_len] <;> omega) | rfl) rfl ?_
      refine op_nil ?_
      refine ax_then ?_
      refine At.regs (L' := [(0, _), (1, _), (4, _), (5, _), (6, _)]) (.cons rfl (.cons rfl (.cons rfl (.cons rfl (.cons rfl (.nil _)))))) ?_
      refine cd_region ?_
      refine st (ev_slice_arr_all Try.underlying32 ty5 rfl) rfl rfl rfl ?_
      refine st (ev_assign rfl) rfl rfl rfl ?_
      refine at_freeze_sl (h := 6) (n := 32) (H' := [(4, _), (5, _)]) 7 rfl (sha_len _) (.cons rfl (.cons rfl (.nil _))) rfl ?_
      refine at_feq (i := 7) (v' := .sl (.slice (some ⟨b6, 0, none⟩) 32 32) 1 (ints .u8 (kk key))) rfl (by rw [kk, if_pos (by omega)]) ?_
      refine op_nil ?_
      
      exact at_met (.slice (some ⟨b6, 0, none⟩) 32 32) (trivial) (.cons rfl (.cons rfl (.cons rfl (.cons rfl (.nil _))))) (.cons rfl (.cons rfl (.nil _))) (.cons rfl (.cons rfl (.nil _)))
    ·
      refine cd_skip ?_
      refine ax_feq (i := 7) (v' := .sl p 1 (ints .u8 (kk key))) rfl (by rw [kk, if_neg (by omega)]) ?_
      exact at_met (p) (trivial) (.cons rfl (.cons rfl (.cons rfl (.cons rfl (.nil _))))) (.cons rfl (.cons rfl (.nil _))) (.cons rfl (.cons rfl (.nil _)))
  ·
    refine cd_seq ?_
    refine cd_region ?_
    refine st (ev_slice_arr_all Try.underlying56 ty5 rfl) rfl rfl rfl ?_
    refine st (ev_move rfl) rfl rfl rfl ?_
    refine st_copy (n := (kk key).length) 5 Try.underlying34 ty5 rfl rfl rfl (fun w1 sw => sw.sl_rd (h := 7) rfl) (by decide) (by first | omega | (simp only [List.length_append, List.length_cons, List.length_nil, List.length_set, List.length_replicate, List.length_take, List.length_drop, ints_length, wr_length, comp_len, absorb_len, S0_len, hexL_len, sha_len, xorl_len, fit_len] <;> omega) | rfl) (by first | omega | (simp only [List.length_append, List.length_cons, List.length_nil, List.length_set, List.length_replicate, List.length_take, List.length_drop, ints_length, wr_length, comp_len, absorb_len, S0_len, hexL_len, sha_len, xorl_len, fit_len] <;> omega) | rfl) (ints_one _ _) rfl rfl ?_
    refine at_heq (i := 5) (v' := .blk b5 (.cells (ints .u8 (fit key)).toArray 56)) rfl (by rw [copied64 _ hkl]; rfl) ?_
    refine op_nil ?_
    refine ax_then ?_
    refine At.regs (L' := [(1, _), (4, _), (5, _)]) (.cons rfl (.cons rfl (.cons rfl (.nil _)))) ?_
    refine cd_seq ?_
    refine cd_region ?_
    refine st (ev_func rfl rfl) rfl rfl rfl ?_
    refine st (ev_assign rfl) rfl rfl rfl ?_
    refine op_nil ?_
    refine ax_then ?_
    refine At.regs (L' := [(1, _), (4, _), (7, _)]) (.cons rfl (.cons rfl (.cons rfl (.nil _)))) ?_
    refine cd_seq ?_
    refine cd_region ?_
    refine st (ev_move rfl) rfl rfl rfl ?_
    refine st (ev_move rfl) rfl rfl rfl ?_
    refine st_callv_fn has30 rfl rfl rfl (fun w1 sw => mac1_any 54 q b5 (fit key) l w1 hfl hl (sw.sl_rd (h := 1) rfl) (sw.blk_eq (h := 5) rfl)) rfl rfl ?_
    refine st_alloc (h := 8) ty32 rfl rfl rfl (fun b8 => ?_)
    refine st_store_all 8 ty32 rfl rfl rfl rfl (by first | omega | (simp only [List.length_append, List.length_cons, List.length_nil, List.length_set, List.length_replicate, List.length_take, List.length_drop, ints_length, wr_length, comp_len, absorb_len, S0_len, hexL_len, sha_len, xorl_len, fit_len] <;> omega) | rfl) (ints_one _ _) (by first | omega | (simp only [List.length_append, List.length_cons, List.length_nil, List.length_set, List.length_replicate, List.length_take, List.length_drop, ints_length, wr_length, comp_len, absorb_len, S0_len, hexL_len, sha_len, xorl_len, fit_len] <;> omega) | rfl) rfl ?_
    refine op_nil ?_
    refine ax_then ?_
    refine At.regs (L' := [(4, _), (7, _), (8, _)]) (.cons rfl (.cons rfl (.cons rfl (.nil _)))) ?_
    refine cd_seq ?_
    refine cd_region ?_
    refine st (ev_move rfl) rfl rfl rfl ?_
    refine st (ev_slice_arr_all Try.underlying32 ty5 rfl) rfl rfl rfl ?_
    refine st_callv_fn has30 rfl rfl rfl (fun w1 sw => mac1_any 92 (.slice (some ⟨b8, 0, none⟩) 32 32) b5 (fit key) (sha (xorl (fit key) 54 ++ l)) w1 hfl (by rw [sha_len]; decide) (rd_blk_all sw (h := 8) rfl (by rw [ints_length, sha_len])) (sw.blk_eq (h := 5) rfl)) rfl rfl ?_
    refine st_store_all 4 ty32 rfl rfl rfl rfl (by first | omega | (simp only [List.length_append, List.length_cons, List.length_nil, List.length_set, List.length_replicate, List.length_take, List.length_drop, ints_length, wr_length, comp_len, absorb_len, S0_len, hexL_len, sha_len, xorl_len, fit_len] <;> omega) | rfl) (ints_one _ _) (by first | omega | (simp only [List.length_append, List.length_cons, List.length_nil, List.length_set, List.length_replicate, List.length_take, List.length_drop, ints_length, wr_length, comp_len, absorb_len, S0_len, hexL_len, sha_len, xorl_len, fit_len] <;> omega) | rfl) rfl ?_
    refine op_nil ?_
    refine ax_then ?_
    refine At.regs (L' := [(4, _)]) (.cons rfl (.nil _)) ?_
    refine cd_ret ?_
    refine rt_cell (h0 := 4) (.inl rfl) Try.results18 ty32 rfl rfl rfl (by first | omega | (simp only [List.length_append, List.length_cons, List.length_nil, List.length_set, List.length_replicate, List.length_take, List.length_drop, ints_length, wr_length, comp_len, absorb_len, S0_len, hexL_len, sha_len, xorl_len, fit_len] <;> omega) | rfl) ?_
    exact fun w1 sw => ⟨rfl, sw.gives (.nil _)⟩

theorem xo_step (k : List Int) (m : Int) (i : Nat) (hk : k.length = 64) (hi : i < 64) : (xorl (k.take i) m ++ List.replicate (64 - i) 0).take i ++ [ixor .u8 (k.getD i 0) m] ++ (xorl (k.take i) m ++ List.replicate (64 - i) 0).drop (i + 1) = xorl (k.take (i + 1)) m ++ List.replicate (64 - (i + 1)) 0 := by
  have hl : (xorl (k.take i) m).length = i := by rw [xorl_len, List.length_take]; omega
  rw [xorl_snoc (by omega), List.take_append_of_le_length (by omega), List.take_of_length_le (by omega), List.drop_append, List.drop_of_length_le (by omega), hl, List.nil_append, List.drop_replicate]
  congr 2
  omega

set_option maxRecDepth 20000 in
set_option maxHeartbeats 2000000 in
theorem rmac_any (p q : Value) (key l : List Int) (w : World) (hk : key.length ≤ 900000000) (hl : l.length ≤ 900000000) (h : Rd w p 1 (ints .u8 key)) (h' : Rd w q 1 (ints .u8 l)) : Calls Try.prog 19 #[p, q] w (PostV w (.agg (ints .u8 (mac key l)).toArray)) := by
  have hkl := kk_len key
  have hfl := fit_len key
  refine calls_at (vs := [p, q]) (X := []) (H := []) (F := [(1, .sl q 1 (ints .u8 (l))), (0, .sl p 1 (ints .u8 (key)))]) 49 Try.func19 rfl rfl rfl ((Sat.rd0 0 h).more 1 h') ?_
  refine cd_seq ?_
  refine cd_region ?_
  refine st_alloc (h := 4) ty32 rfl rfl rfl (fun b4 => ?_)
  refine op_nil ?_
  refine ax_then ?_
  refine At.regs (L' := [(0, _), (1, _), (4, _)]) (.cons rfl (.cons rfl (.cons rfl (.nil _)))) ?_
  refine cd_join (ι := Value) (fun x => True) (fun x => [(0, x), (1, q), (4, .pointer (some ⟨b4, 0, none⟩))]) (fun x => [(4, .blk b4 (.cells (ints .u8 (List.replicate 32 0)).toArray 32))]) (fun x => [(1, .sl q 1 (ints .u8 (l))), (7, .sl x 1 (ints .u8 (kk key)))]) ?_ (fun x hj => ?_)
  ·
    refine cd_seq ?_
    refine at_alias (h := 0) 7 rfl ?_
    refine cd_region ?_
    refine st (ev_move rfl) rfl rfl rfl ?_
    refine st (ev_len_rdi (h := 0) Try.underlying34 rfl rfl) rfl rfl rfl ?_
    refine st (ev_gtr rfl rfl) rfl rfl rfl ?_
    refine op_nil ?_
    refine ax_then ?_
    refine At.regs (L' := [(0, _), (1, _), (4, _), (13, _)]) (.cons rfl (.cons rfl (.cons rfl (.cons rfl (.nil _))))) ?_
    refine cd_if rfl (fun hc13 => ?_) (fun hc13 => ?_)
    ·
      refine cd_seq ?_
      refine cd_region ?_
      refine st (ev_move rfl) rfl rfl rfl ?_
      refine st_callv has15 rfl (fun w1 sw => rsum_any p key w1 (by omega) (sw.sl_rd (h := 0) rfl)) rfl rfl ?_
      refine st_alloc (h := 5) ty32 rfl rfl rfl (fun b5 => ?_)
      refine st_store_all 5 ty32 rfl rfl rfl rfl (by first | omega | (simp only [List.length_append, List.length_cons, List.length_nil, List.length_set, List.length_replicate, List.length_take, List.length_drop, ints_length, wr_length, comp_len, absorb_len, S0_len, hexL_len, sha_len, xorl_len, fit_len] <;> omega) | rfl) (ints_one _ _) (by first | omega | (simp only [List.length_append, List.length_cons, List.length_nil, List.length_set, List.length_replicate, List.length_take, List.length_drop, ints_length, wr_length, comp_len, absorb_len, S0_len, hexL_len, sha_len, xorl_len, fit_len] <;> omega) | rfl) rfl ?_
      refine op_nil ?_
      refine ax_then ?_
      refine At.regs (L' := [(0, _), (1, _), (4, _), (5, _)]) (.cons rfl (.cons rfl (.cons rfl (.cons rfl (.nil _))))) ?_
      refine cd_region ?_
      refine st (ev_slice_arr_all Try.underlying32 ty5 rfl) rfl rfl rfl ?_
      refine st (ev_assign rfl) rfl rfl rfl ?_
      refine at_freeze_sl (h := 5) (n := 32) (H' := [(4, _)]) 7 rfl (sha_len _) (.cons rfl (.nil _)) rfl ?_
      refine at_feq (i := 7) (v' := .sl (.slice (some ⟨b5, 0, none⟩) 32 32) 1 (ints .u8 (kk key))) rfl (by rw [kk, if_pos (by omega)]) ?_
      refine op_nil ?_
      
      exact at_met (.slice (some ⟨b5, 0, none⟩) 32 32) (trivial) (.cons rfl (.cons rfl (.cons rfl (.nil _)))) (.cons rfl (.nil _)) (.cons rfl (.cons rfl (.nil _)))
    ·
      refine cd_skip ?_
      refine ax_feq (i := 7) (v' := .sl p 1 (ints .u8 (kk key))) rfl (by rw [kk, if_neg (by omega)]) ?_
      exact at_met (p) (trivial) (.cons rfl (.cons rfl (.cons rfl (.nil _)))) (.cons rfl (.nil _)) (.cons rfl (.cons rfl (.nil _)))
  ·
    refine cd_join (ι := Nat × Nat) (fun y => True) (fun y => [(0, x), (1, q), (4, .pointer (some ⟨b4, 0, none⟩)), (6, .slice (some ⟨y.1, 0, none⟩) 64 64), (7, .slice (some ⟨y.2, 0, none⟩) 64 64)]) (fun y => [(4, .blk b4 (.cells (ints .u8 (List.replicate 32 0)).toArray 32)), (17, .own (.slice (some ⟨y.1, 0, none⟩) 64 64) 5 1 (ints .u8 (List.replicate 64 0))), (18, .own (.slice (some ⟨y.2, 0, none⟩) 64 64) 5 1 (ints .u8 (List.replicate 64 0)))]) (fun y => [(1, .sl q 1 (ints .u8 (l))), (7, .sl x 1 (ints .u8 (kk key)))]) ?_ (fun y hj => ?_)
    ·
      refine cd_any hmix ?_
      refine ra_two (i := 0) (j := 1) (by decide +kernel) ?_ ?_
      ·
        refine wo (i := 0) rfl ?_
        refine st_makeSlice (h := 17) (n := 64) (c := 64) Try.underlying34 ty5 rfl rfl rfl (by omega) (by omega) (by omega) rfl rfl (fun b17 => ?_)
        refine op_nil ?_
        refine ax_then ?_
        refine ra_two (i := 1) (j := 2) (by decide +kernel) ?_ ?_
        ·
          refine wo (i := 1) rfl ?_
          refine st_makeSlice (h := 18) (n := 64) (c := 64) Try.underlying34 ty5 rfl rfl rfl (by omega) (by omega) (by omega) rfl rfl (fun b18 => ?_)
          refine op_nil ?_
          refine ax_then ?_
          refine ra_one (i := 2) (by decide +kernel) ?_
          refine wo (i := 2) rfl ?_
          refine st (ev_assign rfl) rfl rfl rfl ?_
          refine op_nil ?_
          refine ax_then ?_
          refine ra_one (i := 3) (by decide +kernel) ?_
          refine wo (i := 3) rfl ?_
          refine st (ev_assign rfl) rfl rfl rfl ?_
          refine op_nil ?_
          refine ax_then ?_
          refine ra_done (by decide +kernel) ?_
          exact at_met ((b17, b18)) (trivial) (.cons rfl (.cons rfl (.cons rfl (.cons rfl (.cons rfl (.nil _)))))) (.cons rfl (.cons rfl (.cons rfl (.nil _)))) (.cons rfl (.cons rfl (.nil _)))
        ·
          refine wo (i := 2) rfl ?_
          refine st (ev_assign rfl) rfl rfl rfl ?_
          refine op_nil ?_
          refine ax_then ?_
          refine ra_one (i := 1) (by decide +kernel) ?_
          refine wo (i := 1) rfl ?_
          refine st_makeSlice (h := 18) (n := 64) (c := 64) Try.underlying34 ty5 rfl rfl rfl (by omega) (by omega) (by omega) rfl rfl (fun b18 => ?_)
          refine op_nil ?_
          refine ax_then ?_
          refine ra_one (i := 3) (by decide +kernel) ?_
          refine wo (i := 3) rfl ?_
          refine st (ev_assign rfl) rfl rfl rfl ?_
          refine op_nil ?_
          refine ax_then ?_
          refine ra_done (by decide +kernel) ?_
          exact at_met ((b17, b18)) (trivial) (.cons rfl (.cons rfl (.cons rfl (.cons rfl (.cons rfl (.nil _)))))) (.cons rfl (.cons rfl (.cons rfl (.nil _)))) (.cons rfl (.cons rfl (.nil _)))
      ·
        refine wo (i := 1) rfl ?_
        refine st_makeSlice (h := 18) (n := 64) (c := 64) Try.underlying34 ty5 rfl rfl rfl (by omega) (by omega) (by omega) rfl rfl (fun b18 => ?_)
        refine op_nil ?_
        refine ax_then ?_
        refine ra_one (i := 0) (by decide +kernel) ?_
        refine wo (i := 0) rfl ?_
        refine st_makeSlice (h := 17) (n := 64) (c := 64) Try.underlying34 ty5 rfl rfl rfl (by omega) (by omega) (by omega) rfl rfl (fun b17 => ?_)
        refine op_nil ?_
        refine ax_then ?_
        refine ra_one (i := 2) (by decide +kernel) ?_
        refine wo (i := 2) rfl ?_
        refine st (ev_assign rfl) rfl rfl rfl ?_
        refine op_nil ?_
        refine ax_then ?_
        refine ra_one (i := 3) (by decide +kernel) ?_
        refine wo (i := 3) rfl ?_
        refine st (ev_assign rfl) rfl rfl rfl ?_
        refine op_nil ?_
        refine ax_then ?_
        refine ra_done (by decide +kernel) ?_
        exact at_met ((b17, b18)) (trivial) (.cons rfl (.cons rfl (.cons rfl (.cons rfl (.cons rfl (.nil _)))))) (.cons rfl (.cons rfl (.cons rfl (.nil _)))) (.cons rfl (.cons rfl (.nil _)))
    ·
      refine cd_seq ?_
      refine cd_seq ?_
      refine cd_region ?_
      refine st (ev_assign rfl) rfl rfl rfl ?_
      refine op_nil ?_
      refine ax_then ?_
      refine At.regs (L' := [(0, _), (1, _), (4, _), (6, _), (7, _), (8, _)]) (.cons rfl (.cons rfl (.cons rfl (.cons rfl (.cons rfl (.cons rfl (.nil _))))))) ?_
      refine cd_block ?_
      refine cd_loop (ι := Nat) (fun i => i ≤ 64) (fun i => 64 - i)
          (fun i => [(0, x), (1, q), (4, .pointer (some ⟨b4, 0, none⟩)), (6, .slice (some ⟨y.1, 0, none⟩) 64 64), (7, .slice (some ⟨y.2, 0, none⟩) 64 64), (8, .int .i64 (i : Int))])
          (fun i => [(4, .blk b4 (.cells (ints .u8 (List.replicate 32 0)).toArray 32)), (17, .own (.slice (some ⟨y.1, 0, none⟩) 64 64) 5 1 (ints .u8 (xorl ((fit key).take (i)) 92 ++ List.replicate (64 - (i)) 0))), (18, .own (.slice (some ⟨y.2, 0, none⟩) 64 64) 5 1 (ints .u8 (xorl ((fit key).take (i)) 54 ++ List.replicate (64 - (i)) 0)))])
          (fun i => [(1, .sl q 1 (ints .u8 (l))), (7, .sl x 1 (ints .u8 (kk key)))])
          0 (by omega) (.cons rfl (.cons rfl (.cons rfl (.cons rfl (.cons rfl (.cons rfl (.nil _))))))) (.cons rfl (.cons rfl (.cons rfl (.nil _)))) (.cons rfl (.cons rfl (.nil _))) (fun i hi => ?_)
      have e0 : (i : Int).toNat = i := by omega
      have hx1 : (xorl ((fit key).take (i)) 92 ++ List.replicate (64 - (i)) 0).length = 64 := by simp only [List.length_append, xorl_len, List.length_take, List.length_replicate]; omega
      have hx2 : (xorl ((fit key).take (i)) 54 ++ List.replicate (64 - (i)) 0).length = 64 := by simp only [List.length_append, xorl_len, List.length_take, List.length_replicate]; omega
      refine cd_seq ?_
      refine cd_seq ?_
      refine cd_region ?_
      refine st (ev_move rfl) rfl rfl rfl ?_
      refine st (ev_lss rfl rfl) rfl rfl rfl ?_
      refine op_nil ?_
      refine ax_then ?_
      refine At.regs (L' := [(0, _), (1, _), (4, _), (6, _), (7, _), (8, _), (19, _), (20, _)]) (.cons rfl (.cons rfl (.cons rfl (.cons rfl (.cons rfl (.cons rfl (.cons rfl (.cons rfl (.nil _))))))))) ?_
      refine cd_if rfl (fun hc20 => ?_) (fun hc20 => ?_)
      ·
        refine cd_skip ?_
        refine ax_then ?_
        refine At.regs (L' := [(0, _), (1, _), (4, _), (6, _), (7, _), (8, _), (19, _), (20, _)]) (.cons rfl (.cons rfl (.cons rfl (.cons rfl (.cons rfl (.cons rfl (.cons rfl (.cons rfl (.nil _))))))))) ?_
        refine cd_seq ?_
        refine cd_block ?_
        refine cd_seq ?_
        refine cd_region ?_
        refine st (ev_assign rfl) rfl rfl rfl ?_
        refine op_nil ?_
        refine ax_then ?_
        refine At.regs (L' := [(0, _), (1, _), (4, _), (6, _), (7, _), (8, _), (9, _), (19, _), (20, _)]) (.cons rfl (.cons rfl (.cons rfl (.cons rfl (.cons rfl (.cons rfl (.cons rfl (.cons rfl (.cons rfl (.nil _)))))))))) ?_
        refine cd_join (ι := Unit) (fun _ => True) (fun _ => [(0, x), (1, q), (4, .pointer (some ⟨b4, 0, none⟩)), (6, .slice (some ⟨y.1, 0, none⟩) 64 64), (7, .slice (some ⟨y.2, 0, none⟩) 64 64), (8, .int .i64 (i : Int)), (9, .int .u8 ((fit key).getD i 0))]) (fun _ => [(4, .blk b4 (.cells (ints .u8 (List.replicate 32 0)).toArray 32)), (17, .own (.slice (some ⟨y.1, 0, none⟩) 64 64) 5 1 (ints .u8 (xorl ((fit key).take (i)) 92 ++ List.replicate (64 - (i)) 0))), (18, .own (.slice (some ⟨y.2, 0, none⟩) 64 64) 5 1 (ints .u8 (xorl ((fit key).take (i)) 54 ++ List.replicate (64 - (i)) 0)))]) (fun _ => [(1, .sl q 1 (ints .u8 (l))), (7, .sl x 1 (ints .u8 (kk key)))]) ?_ (fun _ hj => ?_)
        ·
          refine cd_seq ?_
          refine cd_region ?_
          refine st (ev_move rfl) rfl rfl rfl ?_
          refine st (ev_move rfl) rfl rfl rfl ?_
          refine st (ev_len_rdi (h := 7) Try.underlying34 rfl rfl) rfl rfl rfl ?_
          refine st (ev_lss rfl rfl) rfl rfl rfl ?_
          refine op_nil ?_
          refine ax_then ?_
          refine At.regs (L' := [(0, _), (1, _), (4, _), (6, _), (7, _), (8, _), (9, _), (19, _), (20, _), (23, _), (24, _), (25, _), (26, _)]) (.cons rfl (.cons rfl (.cons rfl (.cons rfl (.cons rfl (.cons rfl (.cons rfl (.cons rfl (.cons rfl (.cons rfl (.cons rfl (.cons rfl (.cons rfl (.nil _)))))))))))))) ?_
          refine cd_if rfl (fun hc26 => ?_) (fun hc26 => ?_)
          ·
            refine cd_region ?_
            refine st (ev_move rfl) rfl rfl rfl ?_
            refine st (ev_move rfl) rfl rfl rfl ?_
            refine st (ev_indexAddr_rdi (h := 7) Try.underlying34 ty5 rfl rfl rfl (by omega) (by first | omega | (simp only [List.length_append, List.length_cons, List.length_nil, List.length_set, List.length_replicate, List.length_take, List.length_drop, ints_length, wr_length, comp_len, absorb_len, S0_len, hexL_len, sha_len, xorl_len, fit_len] <;> omega))) rfl rfl rfl ?_
            refine st (ld_rd1 (h := 7) ty5 rfl rfl rfl (ints_get _ _ _ (by first | omega | (simp only [List.length_append, List.length_cons, List.length_nil, List.length_set, List.length_replicate, List.length_take, List.length_drop, ints_length, wr_length, comp_len, absorb_len, S0_len, hexL_len, sha_len, xorl_len, fit_len] <;> omega) | rfl))) rfl rfl rfl ?_
            refine st (ev_assign rfl) rfl rfl rfl ?_
            refine op_nil ?_
            refine ax_eq (i := 9) (v' := .int .u8 ((fit key).getD i 0)) rfl (by rw [fit_get key i (by omega), if_pos (by omega)]; rfl) ?_
            exact at_met (()) (trivial) (.cons rfl (.cons rfl (.cons rfl (.cons rfl (.cons rfl (.cons rfl (.cons rfl (.nil _)))))))) (.cons rfl (.cons rfl (.cons rfl (.nil _)))) (.cons rfl (.cons rfl (.nil _)))
          ·
            refine cd_skip ?_
            refine ax_eq (i := 9) (v' := .int .u8 ((fit key).getD i 0)) rfl (by rw [fit_get key i (by omega), if_neg (by omega)]) ?_
            exact at_met (()) (trivial) (.cons rfl (.cons rfl (.cons rfl (.cons rfl (.cons rfl (.cons rfl (.cons rfl (.nil _)))))))) (.cons rfl (.cons rfl (.cons rfl (.nil _)))) (.cons rfl (.cons rfl (.nil _)))
        ·
          refine cd_region ?_
          refine st (ev_move rfl) rfl rfl rfl ?_
          refine st (ev_move rfl) rfl rfl rfl ?_
          refine st (ev_move rfl) rfl rfl rfl ?_
          refine st (ev_move rfl) rfl rfl rfl ?_
          refine st (ev_move rfl) rfl rfl rfl ?_
          refine st (ev_xor rfl rfl) rfl rfl rfl ?_
          refine st (ev_move rfl) rfl rfl rfl ?_
          refine st (ev_xor rfl rfl) rfl rfl rfl ?_
          refine st (ev_indexAddr_owni (h := 17) Try.underlying34 ty5 rfl rfl rfl (by omega) (by first | omega | (simp only [List.length_append, List.length_cons, List.length_nil, List.length_set, List.length_replicate, List.length_take, List.length_drop, ints_length, wr_length, comp_len, absorb_len, S0_len, hexL_len, sha_len, xorl_len, fit_len] <;> omega))) rfl rfl rfl ?_
          refine st_store_own (vl := ints .u8 [_]) 17 ty5 rfl rfl rfl rfl (by first | omega | (simp only [List.length_append, List.length_cons, List.length_nil, List.length_set, List.length_replicate, List.length_take, List.length_drop, ints_length, wr_length, comp_len, absorb_len, S0_len, hexL_len, sha_len, xorl_len, fit_len] <;> omega) | rfl) (ints_one _ _) (by first | omega | (simp only [List.length_append, List.length_cons, List.length_nil, List.length_set, List.length_replicate, List.length_take, List.length_drop, ints_length, wr_length, comp_len, absorb_len, S0_len, hexL_len, sha_len, xorl_len, fit_len] <;> omega) | rfl) (by decide) rfl ?_
          refine at_heq (i := 17) rfl (by rw [ints_wr]) ?_
          refine st (ev_indexAddr_owni (h := 18) Try.underlying34 ty5 rfl rfl rfl (by omega) (by first | omega | (simp only [List.length_append, List.length_cons, List.length_nil, List.length_set, List.length_replicate, List.length_take, List.length_drop, ints_length, wr_length, comp_len, absorb_len, S0_len, hexL_len, sha_len, xorl_len, fit_len] <;> omega))) rfl rfl rfl ?_
          refine st_store_own (vl := ints .u8 [_]) 18 ty5 rfl rfl rfl rfl (by first | omega | (simp only [List.length_append, List.length_cons, List.length_nil, List.length_set, List.length_replicate, List.length_take, List.length_drop, ints_length, wr_length, comp_len, absorb_len, S0_len, hexL_len, sha_len, xorl_len, fit_len] <;> omega) | rfl) (ints_one _ _) (by first | omega | (simp only [List.length_append, List.length_cons, List.length_nil, List.length_set, List.length_replicate, List.length_take, List.length_drop, ints_length, wr_length, comp_len, absorb_len, S0_len, hexL_len, sha_len, xorl_len, fit_len] <;> omega) | rfl) (by decide) rfl ?_
          refine at_heq (i := 18) rfl (by rw [ints_wr]) ?_
          refine op_nil ?_
          refine ax_block ?_
          refine ax_then ?_
          refine At.regs (L' := [(0, _), (1, _), (4, _), (6, _), (7, _), (8, _), (9, _), (31, _), (32, _), (33, _), (34, _), (35, _), (36, _), (37, _), (38, _), (39, _), (40, _)]) (.cons rfl (.cons rfl (.cons rfl (.cons rfl (.cons rfl (.cons rfl (.cons rfl (.cons rfl (.cons rfl (.cons rfl (.cons rfl (.cons rfl (.cons rfl (.cons rfl (.cons rfl (.cons rfl (.cons rfl (.nil _)))))))))))))))))) ?_
          refine cd_region ?_
          refine st (ev_move rfl) rfl rfl rfl ?_
          refine st (ev_add64 rfl rfl (by omega) (by omega)) rfl rfl rfl ?_
          refine st (ev_assign rfl) rfl rfl rfl ?_
          refine op_nil ?_
          refine ax_heq (i := 17) (v' := .own (.slice (some ⟨y.1, 0, none⟩) 64 64) 5 1 (ints .u8 (xorl ((fit key).take (i + 1)) 92 ++ List.replicate (64 - (i + 1)) 0))) rfl (by simp only [e0]; rw [← xo_step _ _ _ hfl (by omega)]; rfl) ?_
          refine ax_heq (i := 18) (v' := .own (.slice (some ⟨y.2, 0, none⟩) 64 64) 5 1 (ints .u8 (xorl ((fit key).take (i + 1)) 54 ++ List.replicate (64 - (i + 1)) 0))) rfl (by simp only [e0]; rw [← xo_step _ _ _ hfl (by omega)]; rfl) ?_
          exact at_again (i + 1) (by omega) (by omega) (.cons rfl (.cons rfl (.cons rfl (.cons rfl (.cons rfl (.cons rfl (.nil _))))))) (.cons rfl (.cons rfl (.cons rfl (.nil _)))) (.cons rfl (.cons rfl (.nil _)))
      ·
        obtain rfl : i = 64 := by omega
        have hxl := xorl_len (fit key) 92
        have hxl2 := xorl_len (fit key) 54
        refine at_heq (i := 17) (v' := .own (.slice (some ⟨y.1, 0, none⟩) 64 64) 5 1 (ints .u8 (xorl (fit key) 92))) rfl (by rw [List.take_of_length_le (by omega)]; simp) ?_
        refine at_heq (i := 18) (v' := .own (.slice (some ⟨y.2, 0, none⟩) 64 64) 5 1 (ints .u8 (xorl (fit key) 54))) rfl (by rw [List.take_of_length_le (by omega)]; simp) ?_
        refine cd_exit ?_
        refine ax_then_exit ?_
        refine ax_then_exit ?_
        refine ax_block_hit ?_
        refine ax_then ?_
        refine At.regs (L' := [(1, _), (4, _), (6, _), (7, _)]) (.cons rfl (.cons rfl (.cons rfl (.cons rfl (.nil _))))) ?_
        refine cd_seq ?_
        refine cd_region ?_
        refine st (ev_move rfl) rfl rfl rfl ?_
        refine st (ev_move rfl) rfl rfl rfl ?_
        refine st_appendi (h := 18) Try.underlying34 Try.underlying34 ty5 rfl rfl rfl rfl (fun w1 sw => sw.sl_rd (h := 1) rfl) (by first | omega | (simp only [List.length_append, List.length_cons, List.length_nil, List.length_set, List.length_replicate, List.length_take, List.length_drop, ints_length, wr_length, comp_len, absorb_len, S0_len, hexL_len, sha_len, xorl_len, fit_len] <;> omega)) (by decide) rfl rfl (fun v43 => ?_)
        refine st_callv has15 rfl (fun w1 sw => rsum_any v43 (xorl (fit key) 54 ++ l) w1 (by rw [List.length_append]; omega) (sw.own_rd (h := 18) rfl)) rfl rfl ?_
        refine st_alloc (h := 10) ty32 rfl rfl rfl (fun b10 => ?_)
        refine st_store_all 10 ty32 rfl rfl rfl rfl (by first | omega | (simp only [List.length_append, List.length_cons, List.length_nil, List.length_set, List.length_replicate, List.length_take, List.length_drop, ints_length, wr_length, comp_len, absorb_len, S0_len, hexL_len, sha_len, xorl_len, fit_len] <;> omega) | rfl) (ints_one _ _) (by first | omega | (simp only [List.length_append, List.length_cons, List.length_nil, List.length_set, List.length_replicate, List.length_take, List.length_drop, ints_length, wr_length, comp_len, absorb_len, S0_len, hexL_len, sha_len, xorl_len, fit_len] <;> omega) | rfl) rfl ?_
        refine op_nil ?_
        refine ax_then ?_
        refine At.regs (L' := [(4, _), (6, _), (10, _)]) (.cons rfl (.cons rfl (.cons rfl (.nil _)))) ?_
        refine cd_seq ?_
        refine cd_region ?_
        refine st (ev_move rfl) rfl rfl rfl ?_
        refine st (ev_slice_arr_all Try.underlying32 ty5 rfl) rfl rfl rfl ?_
        refine st_appendi (h := 17) Try.underlying34 Try.underlying34 ty5 rfl rfl rfl rfl (fun w1 sw => rd_blk_all sw (h := 10) rfl (by first | omega | (simp only [List.length_append, List.length_cons, List.length_nil, List.length_set, List.length_replicate, List.length_take, List.length_drop, ints_length, wr_length, comp_len, absorb_len, S0_len, hexL_len, sha_len, xorl_len, fit_len] <;> omega) | rfl)) (by first | omega | (simp only [List.length_append, List.length_cons, List.length_nil, List.length_set, List.length_replicate, List.length_take, List.length_drop, ints_length, wr_length, comp_len, absorb_len, S0_len, hexL_len, sha_len, xorl_len, fit_len] <;> omega)) (by decide) rfl rfl (fun v47 => ?_)
        refine st_callv has15 rfl (fun w1 sw => rsum_any v47 (xorl (fit key) 92 ++ sha (xorl (fit key) 54 ++ l)) w1 (by rw [List.length_append, sha_len]; omega) (sw.own_rd (h := 17) rfl)) rfl rfl ?_
        refine st_store_all 4 ty32 rfl rfl rfl rfl (by first | omega | (simp only [List.length_append, List.length_cons, List.length_nil, List.length_set, List.length_replicate, List.length_take, List.length_drop, ints_length, wr_length, comp_len, absorb_len, S0_len, hexL_len, sha_len, xorl_len, fit_len] <;> omega) | rfl) (ints_one _ _) (by first | omega | (simp only [List.length_append, List.length_cons, List.length_nil, List.length_set, List.length_replicate, List.length_take, List.length_drop, ints_length, wr_length, comp_len, absorb_len, S0_len, hexL_len, sha_len, xorl_len, fit_len] <;> omega) | rfl) rfl ?_
        refine op_nil ?_
        refine ax_then ?_
        refine At.regs (L' := [(4, _)]) (.cons rfl (.nil _)) ?_
        refine cd_ret ?_
        refine rt_cell (h0 := 4) (.inl rfl) Try.results19 ty32 rfl rfl rfl (by first | omega | (simp only [List.length_append, List.length_cons, List.length_nil, List.length_set, List.length_replicate, List.length_take, List.length_drop, ints_length, wr_length, comp_len, absorb_len, S0_len, hexL_len, sha_len, xorl_len, fit_len] <;> omega) | rfl) ?_
        exact fun w1 sw => ⟨rfl, sw.gives (.nil _)⟩

end Go.Proofs.Ytcglackbpfnfdaa

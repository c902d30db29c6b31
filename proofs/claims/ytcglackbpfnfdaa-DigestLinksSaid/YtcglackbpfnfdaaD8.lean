/- Walks: the laws of chapter 2. -/
import Derived.Test.YtcglackbpfnfdaaD7
namespace Go.Proofs.Ytcglackbpfnfdaa
open Go Go.RowKit Fw
open Sha
set_option linter.unusedVariables false
set_option linter.unusedSimpArgs false

theorem cut_of {w : World} {v : Value} {b : List Int} (h : Rd w v 1 (ints .u8 (b ++ [171]))) : Rd w (cutAt 1 v 0 b.length) 1 (ints .u8 b) := by
  have := h.cuti (lo := 0) (hi := b.length) (by omega) (by simp)
  simpa using this
theorem fit_zeros (k : List Int) (n : Nat) (h : k.length + n ≤ 64) : fit (k ++ List.replicate n 0) = fit k := by
  have e1 : (if 64 < (k ++ List.replicate n 0).length then sha (k ++ List.replicate n 0) else k ++ List.replicate n 0) = k ++ List.replicate n 0 := if_neg (by simp; omega)
  have e2 : (if 64 < k.length then sha k else k) = k := if_neg (by omega)
  unfold fit
  rw [e1, e2]
  simp only [List.length_append, List.length_replicate, List.append_assoc, List.replicate_append_replicate]
  congr 2
  omega
theorem fit_sha (k : List Int) (h : 64 < k.length) : fit (sha k) = fit k := by
  have hs := sha_len k
  have e1 : (if 64 < (sha k).length then sha (sha k) else sha k) = sha k := if_neg (by omega)
  have e2 : (if 64 < k.length then sha k else k) = sha k := if_pos h
  unfold fit
  rw [e1, e2]
theorem mac_zeros (k p : List Int) (n : Nat) (h : k.length + n ≤ 64) : mac (k ++ List.replicate n 0) p = mac k p := by unfold mac; rw [fit_zeros k n h]
theorem mac_sha (k p : List Int) (h : 64 < k.length) : mac (sha k) p = mac k p := by unfold mac; rw [fit_sha k h]

set_option maxRecDepth 20000 in
set_option maxHeartbeats 1000000 in
theorem digestSums_any (p : Value) (l : List Int) (w : World) (hl0 : l.length ≤ 140737488351232) (h : Rd w p 1 (ints .u8 l)) : Calls Try.prog 5 #[p] w (PostV w (.bool true)) := by
  refine calls_at (vs := [p]) (X := []) (H := []) (F := [(0, .sl p 1 (ints .u8 (l)))]) 25 Try.func5 rfl rfl rfl (Sat.rd0 0 h) ?_
  refine cd_seq ?_
  refine cd_region ?_
  refine st (ev_assign rfl) rfl rfl rfl ?_
  refine op_nil ?_
  refine ax_then ?_
  refine At.regs (L' := [(0, _), (2, _)]) (.cons rfl (.cons rfl (.nil _))) ?_
  refine cd_seq ?_
  refine cd_seq ?_
  refine cd_region ?_
  refine st (ev_move rfl) rfl rfl rfl ?_
  refine st (ev_len_rdi (h := 0) Try.underlying34 rfl rfl) rfl rfl rfl ?_
  refine st (ev_gtr rfl rfl) rfl rfl rfl ?_
  refine op_nil ?_
  refine ax_then ?_
  refine At.regs (L' := [(0, _), (2, _), (6, _)]) (.cons rfl (.cons rfl (.cons rfl (.nil _)))) ?_
  refine cd_if rfl (fun hc6 => ?_) (fun hc6 => ?_)
  ·
    refine cd_seq ?_
    refine cd_region ?_
    refine st (ev_assign rfl) rfl rfl rfl ?_
    refine op_nil ?_
    refine ax_then ?_
    refine At.regs (L' := [(0, _), (2, _)]) (.cons rfl (.cons rfl (.nil _))) ?_
    refine cd_ret ?_
    refine ax_then_ret ?_
    refine rt_tmp (.inl rfl) Try.results5 rfl ?_
    exact fun w1 sw => ⟨rfl, sw.gives (.nil _)⟩
  ·
    refine cd_skip ?_
    refine ax_then ?_
    refine At.regs (L' := [(0, _), (2, _)]) (.cons rfl (.cons rfl (.nil _))) ?_
    refine cd_seq ?_
    refine cd_region ?_
    refine st (ev_move rfl) rfl rfl rfl ?_
    refine st_call has13 rfl (fun w1 sw => rn 8 (roomy_any p l w1 (by omega) (sw.sl_rd (h := 0) rfl))) nil_all rfl rfl (fun v8 _ => ?_)
    refine st (ev_assign rfl) rfl rfl rfl ?_
    refine op_nil ?_
    refine ax_then ?_
    refine At.regs (L' := [(0, _), (2, _), (3, _)]) (.cons rfl (.cons rfl (.cons rfl (.nil _)))) ?_
    refine cd_seq ?_
    refine cd_region ?_
    refine st (ev_move rfl) rfl rfl rfl ?_
    refine st (ev_move rfl) rfl rfl rfl ?_
    refine st (ev_len_rdi (h := 0) Try.underlying34 rfl rfl) rfl rfl rfl ?_
    refine st (ev_slicei_hi Try.underlying34 ty5 rfl rfl (fun w1 sw => sw.own_rd (h := 8) rfl) (by omega) (by first | omega | (simp only [List.length_append, List.length_cons, List.length_nil, List.length_set, List.length_replicate, List.length_take, List.length_drop, ints_length, wr_length, comp_len, absorb_len, S0_len, hexL_len, sha_len, xorl_len, fit_len] <;> omega))) rfl rfl rfl ?_
    refine at_eq (i := 12) (v' := cutAt 1 v8 0 l.length) rfl (by rw [Int.toNat_natCast]) ?_
    refine st_callv has14 rfl (fun w1 sw => sum_any (cutAt 1 v8 0 l.length) l w1 (by omega) (cut_of (sw.own_rd (h := 8) rfl))) rfl rfl ?_
    refine st (ev_move rfl) rfl rfl rfl ?_
    refine st_callv has15 rfl (fun w1 sw => rsum_any p l w1 (by omega) (sw.sl_rd (h := 0) rfl)) rfl rfl ?_
    refine st (ev_eql_arr Try.underlying32 ty5 eqg32 rfl rfl (by first | omega | (simp only [List.length_append, List.length_cons, List.length_nil, List.length_set, List.length_replicate, List.length_take, List.length_drop, ints_length, wr_length, comp_len, absorb_len, S0_len, hexL_len, sha_len, xorl_len, fit_len] <;> omega) | rfl) (by first | omega | (simp only [List.length_append, List.length_cons, List.length_nil, List.length_set, List.length_replicate, List.length_take, List.length_drop, ints_length, wr_length, comp_len, absorb_len, S0_len, hexL_len, sha_len, xorl_len, fit_len] <;> omega) | rfl)) rfl rfl rfl ?_
    refine st (ev_move rfl) rfl rfl rfl ?_
    refine at_eq (i := 17) (v' := .bool true) rfl (by simp) ?_
    refine st (ev_move rfl) rfl rfl rfl ?_
    refine st (ev_move rfl) rfl rfl rfl ?_
    refine st_callv has16 rfl (fun w1 sw => stands_any v8 p l w1 (by omega) (sw.own_rd (h := 8) rfl) (sw.sl_rd (h := 0) rfl)) rfl rfl ?_
    refine st (ev_pick_t rfl rfl) rfl rfl rfl ?_
    refine st (ev_move rfl) rfl rfl rfl ?_
    refine st_callv has17 rfl (fun w1 sw => known2_any w1) rfl rfl ?_
    refine st (ev_pick_t rfl rfl) rfl rfl rfl ?_
    refine st (ev_assign rfl) rfl rfl rfl ?_
    refine op_nil ?_
    refine ax_then ?_
    refine At.regs (L' := [(2, _)]) (.cons rfl (.nil _)) ?_
    refine cd_ret ?_
    refine rt_tmp (.inl rfl) Try.results5 rfl ?_
    exact fun w1 sw => ⟨rfl, sw.gives (.nil _)⟩

set_option maxRecDepth 20000 in
set_option maxHeartbeats 1000000 in
theorem digestMacs_any (p q : Value) (k l : List Int) (w : World) (hk0 : k.length ≤ 140737488351232) (hl0 : l.length ≤ 140737488351232) (h : Rd w p 1 (ints .u8 k)) (h' : Rd w q 1 (ints .u8 l)) : Calls Try.prog 6 #[p, q] w (PostV w (.bool true)) := by
  refine calls_at (vs := [p, q]) (X := []) (H := []) (F := [(1, .sl q 1 (ints .u8 (l))), (0, .sl p 1 (ints .u8 (k)))]) 43 Try.func6 rfl rfl rfl ((Sat.rd0 0 h).more 1 h') ?_
  refine cd_seq ?_
  refine cd_region ?_
  refine st (ev_assign rfl) rfl rfl rfl ?_
  refine op_nil ?_
  refine ax_then ?_
  refine At.regs (L' := [(0, _), (1, _), (4, _)]) (.cons rfl (.cons rfl (.cons rfl (.nil _)))) ?_
  refine cd_seq ?_
  refine cd_seq ?_
  refine cd_region ?_
  refine st (ev_move rfl) rfl rfl rfl ?_
  refine st (ev_len_rdi (h := 0) Try.underlying34 rfl rfl) rfl rfl rfl ?_
  refine st (ev_move rfl) rfl rfl rfl ?_
  refine st (ev_len_rdi (h := 1) Try.underlying34 rfl rfl) rfl rfl rfl ?_
  refine st (ev_add64 rfl rfl (by omega) (by omega)) rfl rfl rfl ?_
  refine st (ev_gtr rfl rfl) rfl rfl rfl ?_
  refine op_nil ?_
  refine ax_then ?_
  refine At.regs (L' := [(0, _), (1, _), (4, _), (12, _)]) (.cons rfl (.cons rfl (.cons rfl (.cons rfl (.nil _))))) ?_
  refine cd_if rfl (fun hc12 => ?_) (fun hc12 => ?_)
  ·
    refine cd_seq ?_
    refine cd_region ?_
    refine st (ev_assign rfl) rfl rfl rfl ?_
    refine op_nil ?_
    refine ax_then ?_
    refine At.regs (L' := [(0, _), (1, _), (4, _)]) (.cons rfl (.cons rfl (.cons rfl (.nil _)))) ?_
    refine cd_ret ?_
    refine ax_then_ret ?_
    refine rt_tmp (.inl rfl) Try.results6 rfl ?_
    exact fun w1 sw => ⟨rfl, sw.gives (.nil _)⟩
  ·
    refine cd_skip ?_
    refine ax_then ?_
    refine At.regs (L' := [(0, _), (1, _), (4, _)]) (.cons rfl (.cons rfl (.cons rfl (.nil _)))) ?_
    refine cd_seq ?_
    refine cd_region ?_
    refine st (ev_move rfl) rfl rfl rfl ?_
    refine st_call has13 rfl (fun w1 sw => rn 14 (roomy_any p k w1 (by omega) (sw.sl_rd (h := 0) rfl))) nil_all rfl rfl (fun v14 _ => ?_)
    refine st (ev_move rfl) rfl rfl rfl ?_
    refine st_call has13 rfl (fun w1 sw => rn 16 (roomy_any q l w1 (by omega) (sw.sl_rd (h := 1) rfl))) nil_all rfl rfl (fun v16 _ => ?_)
    refine st (ev_assign rfl) rfl rfl rfl ?_
    refine st (ev_assign rfl) rfl rfl rfl ?_
    refine op_nil ?_
    refine ax_then ?_
    refine At.regs (L' := [(0, _), (1, _), (4, _), (5, _), (6, _)]) (.cons rfl (.cons rfl (.cons rfl (.cons rfl (.cons rfl (.nil _)))))) ?_
    refine cd_seq ?_
    refine cd_open hmix (by decide +kernel) ?_
    refine qt (ev_move rfl) rfl rfl rfl ?_
    refine qt (ev_move rfl) rfl rfl rfl ?_
    refine qt (ev_len_rdi (h := 0) Try.underlying34 rfl rfl) rfl rfl rfl ?_
    refine qt (ev_slicei_hi Try.underlying34 ty5 rfl rfl (fun w1 sw => sw.own_rd (h := 14) rfl) (by omega) (by first | omega | (simp only [List.length_append, List.length_cons, List.length_nil, List.length_set, List.length_replicate, List.length_take, List.length_drop, ints_length, wr_length, comp_len, absorb_len, S0_len, hexL_len, sha_len, xorl_len, fit_len] <;> omega))) rfl rfl rfl ?_
    refine qt_eq (i := 20) (v' := cutAt 1 v14 0 k.length) rfl (by rw [Int.toNat_natCast]) ?_
    refine qt (ev_move rfl) rfl rfl rfl ?_
    refine qt (ev_move rfl) rfl rfl rfl ?_
    refine qt (ev_len_rdi (h := 1) Try.underlying34 rfl rfl) rfl rfl rfl ?_
    refine qt (ev_slicei_hi Try.underlying34 ty5 rfl rfl (fun w1 sw => sw.own_rd (h := 16) rfl) (by omega) (by first | omega | (simp only [List.length_append, List.length_cons, List.length_nil, List.length_set, List.length_replicate, List.length_take, List.length_drop, ints_length, wr_length, comp_len, absorb_len, S0_len, hexL_len, sha_len, xorl_len, fit_len] <;> omega))) rfl rfl rfl ?_
    refine qt_eq (i := 24) (v' := cutAt 1 v16 0 l.length) rfl (by rw [Int.toNat_natCast]) ?_
    refine qt_callv has18 rfl (fun w1 sw => mac_any (cutAt 1 v14 0 k.length) (cutAt 1 v16 0 l.length) k l w1 (by omega) (by omega) (cut_of (sw.own_rd (h := 14) rfl)) (cut_of (sw.own_rd (h := 16) rfl))) rfl rfl ?_
    refine qt (ev_move rfl) rfl rfl rfl ?_
    refine qt (ev_move rfl) rfl rfl rfl ?_
    refine qt_callv has19 rfl (fun w1 sw => rmac_any p q k l w1 (by omega) (by omega) (sw.sl_rd (h := 0) rfl) (sw.sl_rd (h := 1) rfl)) rfl rfl ?_
    refine qt (ev_eql_arr Try.underlying32 ty5 eqg32 rfl rfl (by first | omega | (simp only [List.length_append, List.length_cons, List.length_nil, List.length_set, List.length_replicate, List.length_take, List.length_drop, ints_length, wr_length, comp_len, absorb_len, S0_len, hexL_len, sha_len, xorl_len, fit_len] <;> omega) | rfl) (by first | omega | (simp only [List.length_append, List.length_cons, List.length_nil, List.length_set, List.length_replicate, List.length_take, List.length_drop, ints_length, wr_length, comp_len, absorb_len, S0_len, hexL_len, sha_len, xorl_len, fit_len] <;> omega) | rfl)) rfl rfl rfl ?_
    refine qt (ev_move rfl) rfl rfl rfl ?_
    refine qt_eq (i := 30) (v' := .bool true) rfl (by simp) ?_
    refine qt (ev_move rfl) rfl rfl rfl ?_
    refine qt (ev_move rfl) rfl rfl rfl ?_
    refine qt_callv has16 rfl (fun w1 sw => stands_any v14 p k w1 (by omega) (sw.own_rd (h := 14) rfl) (sw.sl_rd (h := 0) rfl)) rfl rfl ?_
    refine qt (ev_pick_t rfl rfl) rfl rfl rfl ?_
    refine qt (ev_move rfl) rfl rfl rfl ?_
    refine qt (ev_move rfl) rfl rfl rfl ?_
    refine qt (ev_move rfl) rfl rfl rfl ?_
    refine qt_callv has16 rfl (fun w1 sw => stands_any v16 q l w1 (by omega) (sw.own_rd (h := 16) rfl) (sw.sl_rd (h := 1) rfl)) rfl rfl ?_
    refine qt (ev_pick_t rfl rfl) rfl rfl rfl ?_
    refine qt (ev_move rfl) rfl rfl rfl ?_
    refine qt_callv has17 rfl (fun w1 sw => known2_any w1) rfl rfl ?_
    refine qt (ev_pick_t rfl rfl) rfl rfl rfl ?_
    refine qt (ev_assign rfl) rfl rfl rfl ?_
    refine qt_end ?_
    refine op_nil ?_
    refine ax_then ?_
    refine At.regs (L' := [(4, _)]) (.cons rfl (.nil _)) ?_
    refine cd_ret ?_
    refine rt_tmp (.inl rfl) Try.results6 rfl ?_
    exact fun w1 sw => ⟨rfl, sw.gives (.nil _)⟩

set_option maxRecDepth 20000 in
set_option maxHeartbeats 1000000 in
theorem digestKeys_any (x : Int) (p q : Value) (k l : List Int) (w : World) (hk0 : k.length ≤ 140737488351232) (hl0 : l.length ≤ 140737488351232) (h : Rd w p 1 (ints .u8 k)) (h' : Rd w q 1 (ints .u8 l)) : Calls Try.prog 7 #[p, q, .int .i64 x] w (PostV w (.bool true)) := by
  refine calls_at (vs := [p, q, .int .i64 x]) (X := []) (H := []) (F := [(1, .sl q 1 (ints .u8 (l))), (0, .sl p 1 (ints .u8 (k)))]) 49 Try.func7 rfl rfl rfl ((Sat.rd0 0 h).more 1 h') ?_
  refine cd_seq ?_
  refine cd_region ?_
  refine st (ev_assign rfl) rfl rfl rfl ?_
  refine op_nil ?_
  refine ax_then ?_
  refine At.regs (L' := [(0, _), (1, _), (2, _), (6, _)]) (.cons rfl (.cons rfl (.cons rfl (.cons rfl (.nil _))))) ?_
  refine cd_seq ?_
  refine cd_seq ?_
  refine cd_region ?_
  refine st (ev_move rfl) rfl rfl rfl ?_
  refine st (ev_len_rdi (h := 0) Try.underlying34 rfl rfl) rfl rfl rfl ?_
  refine st (ev_move rfl) rfl rfl rfl ?_
  refine st (ev_len_rdi (h := 1) Try.underlying34 rfl rfl) rfl rfl rfl ?_
  refine st (ev_add64 rfl rfl (by omega) (by omega)) rfl rfl rfl ?_
  refine st (ev_gtr rfl rfl) rfl rfl rfl ?_
  refine op_nil ?_
  refine ax_then ?_
  refine At.regs (L' := [(0, _), (1, _), (2, _), (6, _), (13, _)]) (.cons rfl (.cons rfl (.cons rfl (.cons rfl (.cons rfl (.nil _)))))) ?_
  refine cd_if rfl (fun hc13 => ?_) (fun hc13 => ?_)
  ·
    refine cd_seq ?_
    refine cd_region ?_
    refine st (ev_assign rfl) rfl rfl rfl ?_
    refine op_nil ?_
    refine ax_then ?_
    refine At.regs (L' := [(0, _), (1, _), (2, _), (6, _)]) (.cons rfl (.cons rfl (.cons rfl (.cons rfl (.nil _))))) ?_
    refine cd_ret ?_
    refine ax_then_ret ?_
    refine rt_tmp (.inl rfl) Try.results7 rfl ?_
    exact fun w1 sw => ⟨rfl, sw.gives (.nil _)⟩
  ·
    refine cd_skip ?_
    refine ax_then ?_
    refine At.regs (L' := [(0, _), (1, _), (2, _), (6, _)]) (.cons rfl (.cons rfl (.cons rfl (.cons rfl (.nil _))))) ?_
    refine cd_seq ?_
    refine cd_region ?_
    refine st (ev_move rfl) rfl rfl rfl ?_
    refine st_callv has14 rfl (fun w1 sw => sum_any p k w1 (by omega) (sw.sl_rd (h := 0) rfl)) rfl rfl ?_
    refine st_alloc (h := 7) ty32 rfl rfl rfl (fun b7 => ?_)
    refine st_store_all 7 ty32 rfl rfl rfl rfl (by first | omega | (simp only [List.length_append, List.length_cons, List.length_nil, List.length_set, List.length_replicate, List.length_take, List.length_drop, ints_length, wr_length, comp_len, absorb_len, S0_len, hexL_len, sha_len, xorl_len, fit_len] <;> omega) | rfl) (ints_one _ _) (by first | omega | (simp only [List.length_append, List.length_cons, List.length_nil, List.length_set, List.length_replicate, List.length_take, List.length_drop, ints_length, wr_length, comp_len, absorb_len, S0_len, hexL_len, sha_len, xorl_len, fit_len] <;> omega) | rfl) rfl ?_
    refine op_nil ?_
    refine ax_then ?_
    refine At.regs (L' := [(0, _), (1, _), (2, _), (6, _), (7, _)]) (.cons rfl (.cons rfl (.cons rfl (.cons rfl (.cons rfl (.nil _)))))) ?_
    refine cd_seq ?_
    refine cd_seq ?_
    refine cd_region ?_
    refine st (ev_move rfl) rfl rfl rfl ?_
    refine st (ev_len_rdi (h := 0) Try.underlying34 rfl rfl) rfl rfl rfl ?_
    refine st (ev_gtr rfl rfl) rfl rfl rfl ?_
    refine op_nil ?_
    refine ax_then ?_
    refine At.regs (L' := [(0, _), (1, _), (2, _), (6, _), (7, _), (18, _)]) (.cons rfl (.cons rfl (.cons rfl (.cons rfl (.cons rfl (.cons rfl (.nil _))))))) ?_
    refine cd_if rfl (fun hc18 => ?_) (fun hc18 => ?_)
    ·
      refine cd_seq ?_
      refine cd_open hmix (by decide +kernel) ?_
      refine qt (ev_move rfl) rfl rfl rfl ?_
      refine qt (ev_move rfl) rfl rfl rfl ?_
      refine qt_callv has18 rfl (fun w1 sw => mac_any p q k l w1 (by omega) (by omega) (sw.sl_rd (h := 0) rfl) (sw.sl_rd (h := 1) rfl)) rfl rfl ?_
      refine qt (ev_slice_arr_all Try.underlying32 ty5 rfl) rfl rfl rfl ?_
      refine qt (ev_move rfl) rfl rfl rfl ?_
      refine qt_callv has18 rfl (fun w1 sw => mac_any (.slice (some ⟨b7, 0, none⟩) 32 32) q (sha k) l w1 (by rw [sha_len]; decide) (by omega) (rd_blk_all sw (h := 7) rfl (by rw [ints_length, sha_len])) (sw.sl_rd (h := 1) rfl)) rfl rfl ?_
      refine qt (ev_eql_arr Try.underlying32 ty5 eqg32 rfl rfl (by first | omega | (simp only [List.length_append, List.length_cons, List.length_nil, List.length_set, List.length_replicate, List.length_take, List.length_drop, ints_length, wr_length, comp_len, absorb_len, S0_len, hexL_len, sha_len, xorl_len, fit_len] <;> omega) | rfl) (by first | omega | (simp only [List.length_append, List.length_cons, List.length_nil, List.length_set, List.length_replicate, List.length_take, List.length_drop, ints_length, wr_length, comp_len, absorb_len, S0_len, hexL_len, sha_len, xorl_len, fit_len] <;> omega) | rfl)) rfl rfl rfl ?_
      refine qt (ev_move rfl) rfl rfl rfl ?_
      refine qt_eq (i := 26) (v' := .bool true) rfl (by rw [mac_sha k l (by omega)]; simp) ?_
      refine qt_callv has17 rfl (fun w1 sw => known2_any w1) rfl rfl ?_
      refine qt (ev_pick_t rfl rfl) rfl rfl rfl ?_
      refine qt (ev_assign rfl) rfl rfl rfl ?_
      refine qt_end ?_
      refine op_nil ?_
      refine ax_then ?_
      refine At.regs (L' := [(0, _), (1, _), (2, _), (6, _)]) (.cons rfl (.cons rfl (.cons rfl (.cons rfl (.nil _))))) ?_
      refine cd_ret ?_
      refine ax_then_ret ?_
      refine rt_tmp (.inl rfl) Try.results7 rfl ?_
      exact fun w1 sw => ⟨rfl, sw.gives (.nil _)⟩
    ·
      refine cd_skip ?_
      refine ax_then ?_
      refine At.regs (L' := [(0, _), (1, _), (2, _), (6, _)]) (.cons rfl (.cons rfl (.cons rfl (.cons rfl (.nil _))))) ?_
      refine cd_seq ?_
      refine cd_region ?_
      refine st (ev_move rfl) rfl rfl rfl ?_
      refine st (ev_and rfl rfl) rfl rfl rfl ?_
      have hm : 0 ≤ iand .i64 x 63 ∧ iand .i64 x 63 ≤ 63 := iand_mask x 63 (by decide)
      refine st (ev_move rfl) rfl rfl rfl ?_
      refine st (ev_len_rdi (h := 0) Try.underlying34 rfl rfl) rfl rfl rfl ?_
      refine st (ev_sub64 rfl rfl (by omega) (by omega)) rfl rfl rfl ?_
      refine st (ev_rem64 rfl rfl (by omega) (by omega)) rfl rfl rfl ?_
      refine st (ev_assign rfl) rfl rfl rfl ?_
      obtain ⟨m, hme⟩ : ∃ m : Nat, iand .i64 x 63 % (65 - (k.length : Int)) = m := ⟨_, (Int.toNat_of_nonneg (Int.emod_nonneg _ (by omega))).symm⟩
      have hml : k.length + m ≤ 64 := by have := Int.emod_lt_of_pos (iand .i64 x 63) (show (0 : Int) < 65 - (k.length : Int) by omega); omega
      refine at_eq (i := 2) (v' := .int .i64 ((m : Nat) : Int)) rfl (by rw [← hme]) ?_
      refine op_nil ?_
      refine ax_then ?_
      refine At.regs (L' := [(0, _), (1, _), (2, _), (6, _)]) (.cons rfl (.cons rfl (.cons rfl (.cons rfl (.nil _))))) ?_
      refine cd_seq ?_
      refine cd_region ?_
      refine st (ev_move rfl) rfl rfl rfl ?_
      refine st (ev_move rfl) rfl rfl rfl ?_
      refine st_callv has18 rfl (fun w1 sw => mac_any p q k l w1 (by omega) (by omega) (sw.sl_rd (h := 0) rfl) (sw.sl_rd (h := 1) rfl)) rfl rfl ?_
      refine st_bsi (h := 38) (xs := []) Try.underlying34 ty5 (by decide) rfl rfl (by decide) rfl rfl (fun b38 => ?_)
      refine st (ev_move rfl) rfl rfl rfl ?_
      refine st_appendi (h := 38) Try.underlying34 Try.underlying34 ty5 rfl rfl rfl rfl (fun w1 sw => sw.sl_rd (h := 0) rfl) (by first | omega | (simp only [List.length_append, List.length_cons, List.length_nil, List.length_set, List.length_replicate, List.length_take, List.length_drop, ints_length, wr_length, comp_len, absorb_len, S0_len, hexL_len, sha_len, xorl_len, fit_len] <;> omega)) (by decide) rfl rfl (fun v40 => ?_)
      refine st (ev_move rfl) rfl rfl rfl ?_
      refine st_appendz (h := 38) Try.underlying34 Try.underlying3 ty5 rfl rfl rfl rfl (by first | omega | (simp only [List.length_append, List.length_cons, List.length_nil, List.length_set, List.length_replicate, List.length_take, List.length_drop, ints_length, wr_length, comp_len, absorb_len, S0_len, hexL_len, sha_len, xorl_len, fit_len] <;> omega)) (by decide) rfl rfl rfl (fun v42 => ?_)
      refine at_heq (i := 38) rfl (by rw [ints_zeros]) ?_
      refine st (ev_move rfl) rfl rfl rfl ?_
      refine st_callv has18 rfl (fun w1 sw => mac_any v42 q ([] ++ k ++ List.replicate m 0) l w1 (by simp only [List.length_append, List.length_replicate, List.length_nil]; omega) (by omega) (sw.own_rd (h := 38) rfl) (sw.sl_rd (h := 1) rfl)) rfl rfl ?_
      refine st (ev_eql_arr Try.underlying32 ty5 eqg32 rfl rfl (by first | omega | (simp only [List.length_append, List.length_cons, List.length_nil, List.length_set, List.length_replicate, List.length_take, List.length_drop, ints_length, wr_length, comp_len, absorb_len, S0_len, hexL_len, sha_len, xorl_len, fit_len] <;> omega) | rfl) (by first | omega | (simp only [List.length_append, List.length_cons, List.length_nil, List.length_set, List.length_replicate, List.length_take, List.length_drop, ints_length, wr_length, comp_len, absorb_len, S0_len, hexL_len, sha_len, xorl_len, fit_len] <;> omega) | rfl)) rfl rfl rfl ?_
      refine st (ev_move rfl) rfl rfl rfl ?_
      refine at_eq (i := 46) (v' := .bool true) rfl (by rw [List.nil_append, mac_zeros k l m hml]; simp) ?_
      refine st_callv has17 rfl (fun w1 sw => known2_any w1) rfl rfl ?_
      refine st (ev_pick_t rfl rfl) rfl rfl rfl ?_
      refine st (ev_assign rfl) rfl rfl rfl ?_
      refine op_nil ?_
      refine ax_then ?_
      refine At.regs (L' := [(6, _)]) (.cons rfl (.nil _)) ?_
      refine cd_ret ?_
      refine rt_tmp (.inl rfl) Try.results7 rfl ?_
      exact fun w1 sw => ⟨rfl, sw.gives (.nil _)⟩

set_option maxRecDepth 20000 in
set_option maxHeartbeats 4000000 in
theorem digestLinks_any (h0 : List Int) (p : Value) (l : List Int) (w : World) (hl : h0.length = 32) (hb : Byt h0) (hl0 : l.length ≤ 140737488351232) (h : Rd w p 1 (ints .u8 l)) : Calls Try.prog 8 #[.agg (ints .u8 (h0)).toArray, p] w (PostV w (.bool true)) := by
  refine calls_at (vs := [.agg (ints .u8 (h0)).toArray, p]) (X := []) (H := []) (F := [(1, .sl p 1 (ints .u8 (l)))]) 48 Try.func8 rfl rfl rfl (Sat.rd0 1 h) ?_
  refine cd_seq ?_
  refine cd_region ?_
  refine st_box (h := 2) rfl rfl rfl rfl (fun b2 => ?_)
  refine st (ev_assign rfl) rfl rfl rfl ?_
  refine op_nil ?_
  refine ax_then ?_
  refine At.regs (L' := [(1, _), (2, _), (4, _)]) (.cons rfl (.cons rfl (.cons rfl (.nil _)))) ?_
  refine cd_seq ?_
  refine cd_seq ?_
  refine cd_region ?_
  refine st (ev_move rfl) rfl rfl rfl ?_
  refine st (ev_len_rdi (h := 1) Try.underlying34 rfl rfl) rfl rfl rfl ?_
  refine st (ev_gtr rfl rfl) rfl rfl rfl ?_
  refine op_nil ?_
  refine ax_then ?_
  refine At.regs (L' := [(1, _), (2, _), (4, _), (8, _)]) (.cons rfl (.cons rfl (.cons rfl (.cons rfl (.nil _))))) ?_
  refine cd_if rfl (fun hc8 => ?_) (fun hc8 => ?_)
  ·
    refine cd_seq ?_
    refine cd_region ?_
    refine st (ev_assign rfl) rfl rfl rfl ?_
    refine op_nil ?_
    refine ax_then ?_
    refine At.regs (L' := [(1, _), (2, _), (4, _)]) (.cons rfl (.cons rfl (.cons rfl (.nil _)))) ?_
    refine cd_ret ?_
    refine ax_then_ret ?_
    refine rt_tmp (.inl rfl) Try.results8 rfl ?_
    exact fun w1 sw => ⟨rfl, sw.gives (.nil _)⟩
  ·
    refine cd_skip ?_
    refine ax_then ?_
    refine At.regs (L' := [(1, _), (2, _), (4, _)]) (.cons rfl (.cons rfl (.cons rfl (.nil _)))) ?_
    refine cd_seq ?_
    refine cd_region ?_
    refine st (ev_move rfl) rfl rfl rfl ?_
    refine st_call has13 rfl (fun w1 sw => rn 10 (roomy_any p l w1 (by omega) (sw.sl_rd (h := 1) rfl))) nil_all rfl rfl (fun v10 _ => ?_)
    refine st (ev_assign rfl) rfl rfl rfl ?_
    refine op_nil ?_
    refine ax_then ?_
    refine At.regs (L' := [(1, _), (2, _), (4, _), (5, _)]) (.cons rfl (.cons rfl (.cons rfl (.cons rfl (.nil _))))) ?_
    refine cd_seq ?_
    refine at_freeze (h := 10) (H' := [(2, _)]) 10 rfl (.cons rfl (.nil _)) rfl ?_
    refine at_freeze_sl (h := 2) (n := 32) (H' := []) 3 rfl hl (.nil _) rfl ?_
    refine at_mem_of (f := 3) 2 rfl ?_
    refine cd_mix hmix ?_
    refine mx (i := 0) rfl (by decide +kernel) (by decide +kernel) (by decide +kernel) rfl (fun w0 => ld_mem_all (h := 2) ty32 rfl rfl rfl (by first | omega | (simp only [List.length_append, List.length_cons, List.length_nil, List.length_set, List.length_replicate, List.length_take, List.length_drop, ints_length, wr_length, comp_len, absorb_len, S0_len, hexL_len, sha_len, xorl_len, fit_len] <;> omega) | rfl)) rfl rfl (Sub.refl _) ?_
    refine mx (i := 1) rfl (by decide +kernel) (by decide +kernel) (by decide +kernel) rfl (fun w0 => ev_move rfl) rfl rfl (Sub.refl _) ?_
    refine mx (i := 2) rfl (by decide +kernel) (by decide +kernel) (by decide +kernel) rfl (fun w0 => ev_move rfl) rfl rfl (Sub.refl _) ?_
    refine mx (i := 3) rfl (by decide +kernel) (by decide +kernel) (by decide +kernel) rfl (fun w0 => ev_len_rdi (h := 1) Try.underlying34 rfl rfl) rfl rfl (Sub.refl _) ?_
    refine mx (i := 4) rfl (by decide +kernel) (by decide +kernel) (by decide +kernel) rfl (fun w0 => ev_slicei_hi Try.underlying34 ty5 rfl rfl (fun w1 sw => sw.sl_rd (h := 10) rfl) (by omega) (by first | omega | (simp only [List.length_append, List.length_cons, List.length_nil, List.length_set, List.length_replicate, List.length_take, List.length_drop, ints_length, wr_length, comp_len, absorb_len, S0_len, hexL_len, sha_len, xorl_len, fit_len] <;> omega))) rfl rfl (Sub.refl _) ?_
    refine at_eq (i := 15) (v' := cutAt 1 v10 0 l.length) rfl (by rw [Int.toNat_natCast]) ?_
    refine mx (i := 6) rfl (by decide +kernel) (by decide +kernel) (by decide +kernel) rfl (fun w0 => ld_mem_all (h := 2) ty32 rfl rfl rfl (by first | omega | (simp only [List.length_append, List.length_cons, List.length_nil, List.length_set, List.length_replicate, List.length_take, List.length_drop, ints_length, wr_length, comp_len, absorb_len, S0_len, hexL_len, sha_len, xorl_len, fit_len] <;> omega) | rfl)) rfl rfl (Sub.refl _) ?_
    refine mx (i := 7) rfl (by decide +kernel) (by decide +kernel) (by decide +kernel) rfl (fun w0 => ev_move rfl) rfl rfl (Sub.refl _) ?_
    refine mx_one (i := 5) (by decide +kernel) (Sub.refl _) ?_
    refine wo (i := 5) rfl ?_
    refine st_callv has20 rfl (fun w1 sw => link_any h0 (cutAt 1 v10 0 l.length) l w1 hl (by omega) (cut_of (sw.sl_rd (h := 10) rfl))) rfl rfl ?_
    refine op_nil ?_
    refine ax_then ?_
    refine mx_one (i := 8) (by decide +kernel) (Sub.refl _) ?_
    refine wo (i := 8) rfl ?_
    refine st_callv has21 rfl (fun w1 sw => rlink_any h0 p l w1 hl (by omega) (sw.sl_rd (h := 1) rfl)) rfl rfl ?_
    refine op_nil ?_
    refine ax_then ?_
    refine mx (i := 9) rfl (by decide +kernel) (by decide +kernel) (by decide +kernel) rfl (fun w0 => ev_eql_arr Try.underlying32 ty5 eqg32 rfl rfl (by first | omega | (simp only [List.length_append, List.length_cons, List.length_nil, List.length_set, List.length_replicate, List.length_take, List.length_drop, ints_length, wr_length, comp_len, absorb_len, S0_len, hexL_len, sha_len, xorl_len, fit_len] <;> omega) | rfl) (by first | omega | (simp only [List.length_append, List.length_cons, List.length_nil, List.length_set, List.length_replicate, List.length_take, List.length_drop, ints_length, wr_length, comp_len, absorb_len, S0_len, hexL_len, sha_len, xorl_len, fit_len] <;> omega) | rfl)) rfl rfl (Sub.refl _) ?_
    refine mx (i := 10) rfl (by decide +kernel) (by decide +kernel) (by decide +kernel) rfl (fun w0 => ev_move rfl) rfl rfl (Sub.refl _) ?_
    refine at_eq (i := 21) (v' := .bool true) rfl (by simp) ?_
    refine mx (i := 11) rfl (by decide +kernel) (by decide +kernel) (by decide +kernel) rfl (fun w0 => ld_mem_all (h := 2) ty32 rfl rfl rfl (by first | omega | (simp only [List.length_append, List.length_cons, List.length_nil, List.length_set, List.length_replicate, List.length_take, List.length_drop, ints_length, wr_length, comp_len, absorb_len, S0_len, hexL_len, sha_len, xorl_len, fit_len] <;> omega) | rfl)) rfl rfl (Sub.refl _) ?_
    refine mx (i := 12) rfl (by decide +kernel) (by decide +kernel) (by decide +kernel) rfl (fun w0 => ev_move rfl) rfl rfl (Sub.refl _) ?_
    refine mx (i := 15) rfl (by decide +kernel) (by decide +kernel) (by decide +kernel) rfl (fun w0 => ev_slice_arr_all Try.underlying32 ty5 rfl) rfl rfl (Sub.refl _) ?_
    refine mx (i := 17) rfl (by decide +kernel) (by decide +kernel) (by decide +kernel) rfl (fun w0 => ev_move rfl) rfl rfl (Sub.refl _) ?_
    refine mx_two (i := 13) (j := 14) (by decide +kernel) (Sub.refl _) ?_ ?_
    ·
      refine wo (i := 13) rfl ?_
      refine st_callv has20 rfl (fun w1 sw => link_any h0 p l w1 hl (by omega) (sw.sl_rd (h := 1) rfl)) rfl rfl ?_
      refine op_nil ?_
      refine ax_then ?_
      refine mx_one (i := 14) (by decide +kernel) (Sub.refl _) ?_
      refine wo (i := 14) rfl ?_
      refine st_bsi (h := 25) (xs := []) Try.underlying34 ty5 (by decide) rfl rfl (by decide) rfl rfl (fun b25 => ?_)
      refine op_nil ?_
      refine ax_then ?_
      refine mx_one (i := 16) (by decide +kernel) (Sub.refl _) ?_
      refine wo (i := 16) rfl ?_
      refine st_appendi (h := 25) Try.underlying34 Try.underlying34 ty5 rfl rfl rfl rfl (fun w1 sw => sw.sl_rd (h := 3) rfl) (by first | omega | (simp only [List.length_append, List.length_cons, List.length_nil, List.length_set, List.length_replicate, List.length_take, List.length_drop, ints_length, wr_length, comp_len, absorb_len, S0_len, hexL_len, sha_len, xorl_len, fit_len] <;> omega)) (by decide) rfl rfl (fun v27 => ?_)
      refine op_nil ?_
      refine ax_then ?_
      refine mx_one (i := 18) (by decide +kernel) (Sub.refl _) ?_
      refine wo (i := 18) rfl ?_
      refine st_appendi (h := 25) Try.underlying34 Try.underlying34 ty5 rfl rfl rfl rfl (fun w1 sw => sw.sl_rd (h := 1) rfl) (by first | omega | (simp only [List.length_append, List.length_cons, List.length_nil, List.length_set, List.length_replicate, List.length_take, List.length_drop, ints_length, wr_length, comp_len, absorb_len, S0_len, hexL_len, sha_len, xorl_len, fit_len] <;> omega)) (by decide) rfl rfl (fun v29 => ?_)
      refine op_nil ?_
      refine ax_then ?_
      refine mx_one (i := 19) (by decide +kernel) (Sub.refl _) ?_
      refine wo (i := 19) rfl ?_
      refine st_callv has14 rfl (fun w1 sw => sum_any v29 ([] ++ h0 ++ l) w1 (by simp only [List.length_append, List.length_nil]; omega) (sw.own_rd (h := 25) rfl)) rfl rfl ?_
      refine op_nil ?_
      refine ax_then ?_
      refine mx (i := 20) rfl (by decide +kernel) (by decide +kernel) (by decide +kernel) rfl (fun w0 => ev_eql_arr Try.underlying32 ty5 eqg32 rfl rfl (by first | omega | (simp only [List.length_append, List.length_cons, List.length_nil, List.length_set, List.length_replicate, List.length_take, List.length_drop, ints_length, wr_length, comp_len, absorb_len, S0_len, hexL_len, sha_len, xorl_len, fit_len] <;> omega) | rfl) (by first | omega | (simp only [List.length_append, List.length_cons, List.length_nil, List.length_set, List.length_replicate, List.length_take, List.length_drop, ints_length, wr_length, comp_len, absorb_len, S0_len, hexL_len, sha_len, xorl_len, fit_len] <;> omega) | rfl)) rfl rfl (Sub.refl _) ?_
      refine mx (i := 21) rfl (by decide +kernel) (by decide +kernel) (by decide +kernel) rfl (fun w0 => ev_pick_t rfl rfl) rfl rfl (Sub.refl _) ?_
      refine mx (i := 22) rfl (by decide +kernel) (by decide +kernel) (by decide +kernel) rfl (fun w0 => ev_move rfl) rfl rfl (Sub.refl _) ?_
      refine at_eq (i := 33) (v' := .bool true) rfl (by simp) ?_
      refine mx (i := 23) rfl (by decide +kernel) (by decide +kernel) (by decide +kernel) rfl (fun w0 => ev_move rfl) rfl rfl (Sub.refl _) ?_
      refine mx (i := 24) rfl (by decide +kernel) (by decide +kernel) (by decide +kernel) rfl (fun w0 => ev_move rfl) rfl rfl (Sub.refl _) ?_
      refine mx_one (i := 25) (by decide +kernel) (Sub.refl _) ?_
      refine wo (i := 25) rfl ?_
      refine st_callv has16 rfl (fun w1 sw => stands_any v10 p l w1 (by omega) (sw.sl_rd (h := 10) rfl) (sw.sl_rd (h := 1) rfl)) rfl rfl ?_
      refine op_nil ?_
      refine ax_then ?_
      refine mx (i := 26) rfl (by decide +kernel) (by decide +kernel) (by decide +kernel) rfl (fun w0 => ev_pick_t rfl rfl) rfl rfl (Sub.refl _) ?_
      refine mx (i := 27) rfl (by decide +kernel) (by decide +kernel) (by decide +kernel) rfl (fun w0 => ev_move rfl) rfl rfl (Sub.refl _) ?_
      refine mx (i := 28) rfl (by decide +kernel) (by decide +kernel) (by decide +kernel) rfl (fun w0 => ld_mem_all (h := 2) ty32 rfl rfl rfl (by first | omega | (simp only [List.length_append, List.length_cons, List.length_nil, List.length_set, List.length_replicate, List.length_take, List.length_drop, ints_length, wr_length, comp_len, absorb_len, S0_len, hexL_len, sha_len, xorl_len, fit_len] <;> omega) | rfl)) rfl rfl (Sub.refl _) ?_
      refine mx (i := 30) rfl (by decide +kernel) (by decide +kernel) (by decide +kernel) rfl (fun w0 => ld_mem_all (h := 2) ty32 rfl rfl rfl (by first | omega | (simp only [List.length_append, List.length_cons, List.length_nil, List.length_set, List.length_replicate, List.length_take, List.length_drop, ints_length, wr_length, comp_len, absorb_len, S0_len, hexL_len, sha_len, xorl_len, fit_len] <;> omega) | rfl)) rfl rfl (Sub.refl _) ?_
      refine mx_one (i := 29) (by decide +kernel) (Sub.refl _) ?_
      refine wo (i := 29) rfl ?_
      refine st_callv has22 rfl (fun w1 sw => hex_any h0 w1 hl hb) rfl rfl ?_
      refine op_nil ?_
      refine ax_then ?_
      refine mx_one (i := 31) (by decide +kernel) (Sub.refl _) ?_
      refine wo (i := 31) rfl ?_
      refine st_callv has23 rfl (fun w1 sw => rhex_any h0 w1 hl hb) rfl rfl ?_
      refine op_nil ?_
      refine ax_then ?_
      refine mx (i := 32) rfl (by decide +kernel) (by decide +kernel) (by decide +kernel) rfl (fun w0 => ev_eql_str rfl rfl) rfl rfl (Sub.refl _) ?_
      refine mx (i := 33) rfl (by decide +kernel) (by decide +kernel) (by decide +kernel) rfl (fun w0 => ev_pick_t rfl rfl) rfl rfl (Sub.refl _) ?_
      refine mx (i := 34) rfl (by decide +kernel) (by decide +kernel) (by decide +kernel) rfl (fun w0 => ev_move rfl) rfl rfl (Sub.refl _) ?_
      refine at_eq (i := 45) (v' := .bool true) rfl (by simp) ?_
      refine mx_one (i := 35) (by decide +kernel) (Sub.refl _) ?_
      refine wo (i := 35) rfl ?_
      refine st_callv has17 rfl (fun w1 sw => known2_any w1) rfl rfl ?_
      refine op_nil ?_
      refine ax_then ?_
      refine mx (i := 36) rfl (by decide +kernel) (by decide +kernel) (by decide +kernel) rfl (fun w0 => ev_pick_t rfl rfl) rfl rfl (Sub.refl _) ?_
      refine mx (i := 37) rfl (by decide +kernel) (by decide +kernel) (by decide +kernel) rfl (fun w0 => ev_assign rfl) rfl rfl (Sub.refl _) ?_
      refine mx_done (by decide +kernel) (Sub.refl _) ?_
      refine ax_then ?_
      refine At.regs (L' := [(4, _)]) (.cons rfl (.nil _)) ?_
      refine cd_ret ?_
      refine rt_tmp (.inl rfl) Try.results8 rfl ?_
      exact fun w1 sw => ⟨rfl, sw.gives (.nil _)⟩
    ·
      refine wo (i := 14) rfl ?_
      refine st_bsi (h := 25) (xs := []) Try.underlying34 ty5 (by decide) rfl rfl (by decide) rfl rfl (fun b25 => ?_)
      refine op_nil ?_
      refine ax_then ?_
      refine mx_one (i := 13) (by decide +kernel) (Sub.refl _) ?_
      refine wo (i := 13) rfl ?_
      refine st_callv has20 rfl (fun w1 sw => link_any h0 p l w1 hl (by omega) (sw.sl_rd (h := 1) rfl)) rfl rfl ?_
      refine op_nil ?_
      refine ax_then ?_
      refine mx_one (i := 16) (by decide +kernel) (Sub.refl _) ?_
      refine wo (i := 16) rfl ?_
      refine st_appendi (h := 25) Try.underlying34 Try.underlying34 ty5 rfl rfl rfl rfl (fun w1 sw => sw.sl_rd (h := 3) rfl) (by first | omega | (simp only [List.length_append, List.length_cons, List.length_nil, List.length_set, List.length_replicate, List.length_take, List.length_drop, ints_length, wr_length, comp_len, absorb_len, S0_len, hexL_len, sha_len, xorl_len, fit_len] <;> omega)) (by decide) rfl rfl (fun v27 => ?_)
      refine op_nil ?_
      refine ax_then ?_
      refine mx_one (i := 18) (by decide +kernel) (Sub.refl _) ?_
      refine wo (i := 18) rfl ?_
      refine st_appendi (h := 25) Try.underlying34 Try.underlying34 ty5 rfl rfl rfl rfl (fun w1 sw => sw.sl_rd (h := 1) rfl) (by first | omega | (simp only [List.length_append, List.length_cons, List.length_nil, List.length_set, List.length_replicate, List.length_take, List.length_drop, ints_length, wr_length, comp_len, absorb_len, S0_len, hexL_len, sha_len, xorl_len, fit_len] <;> omega)) (by decide) rfl rfl (fun v29 => ?_)
      refine op_nil ?_
      refine ax_then ?_
      refine mx_one (i := 19) (by decide +kernel) (Sub.refl _) ?_
      refine wo (i := 19) rfl ?_
      refine st_callv has14 rfl (fun w1 sw => sum_any v29 ([] ++ h0 ++ l) w1 (by simp only [List.length_append, List.length_nil]; omega) (sw.own_rd (h := 25) rfl)) rfl rfl ?_
      refine op_nil ?_
      refine ax_then ?_
      refine mx (i := 20) rfl (by decide +kernel) (by decide +kernel) (by decide +kernel) rfl (fun w0 => ev_eql_arr Try.underlying32 ty5 eqg32 rfl rfl (by first | omega | (simp only [List.length_append, List.length_cons, List.length_nil, List.length_set, List.length_replicate, List.length_take, List.length_drop, ints_length, wr_length, comp_len, absorb_len, S0_len, hexL_len, sha_len, xorl_len, fit_len] <;> omega) | rfl) (by first | omega | (simp only [List.length_append, List.length_cons, List.length_nil, List.length_set, List.length_replicate, List.length_take, List.length_drop, ints_length, wr_length, comp_len, absorb_len, S0_len, hexL_len, sha_len, xorl_len, fit_len] <;> omega) | rfl)) rfl rfl (Sub.refl _) ?_
      refine mx (i := 21) rfl (by decide +kernel) (by decide +kernel) (by decide +kernel) rfl (fun w0 => ev_pick_t rfl rfl) rfl rfl (Sub.refl _) ?_
      refine mx (i := 22) rfl (by decide +kernel) (by decide +kernel) (by decide +kernel) rfl (fun w0 => ev_move rfl) rfl rfl (Sub.refl _) ?_
      refine at_eq (i := 33) (v' := .bool true) rfl (by simp) ?_
      refine mx (i := 23) rfl (by decide +kernel) (by decide +kernel) (by decide +kernel) rfl (fun w0 => ev_move rfl) rfl rfl (Sub.refl _) ?_
      refine mx (i := 24) rfl (by decide +kernel) (by decide +kernel) (by decide +kernel) rfl (fun w0 => ev_move rfl) rfl rfl (Sub.refl _) ?_
      refine mx_one (i := 25) (by decide +kernel) (Sub.refl _) ?_
      refine wo (i := 25) rfl ?_
      refine st_callv has16 rfl (fun w1 sw => stands_any v10 p l w1 (by omega) (sw.sl_rd (h := 10) rfl) (sw.sl_rd (h := 1) rfl)) rfl rfl ?_
      refine op_nil ?_
      refine ax_then ?_
      refine mx (i := 26) rfl (by decide +kernel) (by decide +kernel) (by decide +kernel) rfl (fun w0 => ev_pick_t rfl rfl) rfl rfl (Sub.refl _) ?_
      refine mx (i := 27) rfl (by decide +kernel) (by decide +kernel) (by decide +kernel) rfl (fun w0 => ev_move rfl) rfl rfl (Sub.refl _) ?_
      refine mx (i := 28) rfl (by decide +kernel) (by decide +kernel) (by decide +kernel) rfl (fun w0 => ld_mem_all (h := 2) ty32 rfl rfl rfl (by first | omega | (simp only [List.length_append, List.length_cons, List.length_nil, List.length_set, List.length_replicate, List.length_take, List.length_drop, ints_length, wr_length, comp_len, absorb_len, S0_len, hexL_len, sha_len, xorl_len, fit_len] <;> omega) | rfl)) rfl rfl (Sub.refl _) ?_
      refine mx (i := 30) rfl (by decide +kernel) (by decide +kernel) (by decide +kernel) rfl (fun w0 => ld_mem_all (h := 2) ty32 rfl rfl rfl (by first | omega | (simp only [List.length_append, List.length_cons, List.length_nil, List.length_set, List.length_replicate, List.length_take, List.length_drop, ints_length, wr_length, comp_len, absorb_len, S0_len, hexL_len, sha_len, xorl_len, fit_len] <;> omega) | rfl)) rfl rfl (Sub.refl _) ?_
      refine mx_one (i := 29) (by decide +kernel) (Sub.refl _) ?_
      refine wo (i := 29) rfl ?_
      refine st_callv has22 rfl (fun w1 sw => hex_any h0 w1 hl hb) rfl rfl ?_
      refine op_nil ?_
      refine ax_then ?_
      refine mx_one (i := 31) (by decide +kernel) (Sub.refl _) ?_
      refine wo (i := 31) rfl ?_
      refine st_callv has23 rfl (fun w1 sw => rhex_any h0 w1 hl hb) rfl rfl ?_
      refine op_nil ?_
      refine ax_then ?_
      refine mx (i := 32) rfl (by decide +kernel) (by decide +kernel) (by decide +kernel) rfl (fun w0 => ev_eql_str rfl rfl) rfl rfl (Sub.refl _) ?_
      refine mx (i := 33) rfl (by decide +kernel) (by decide +kernel) (by decide +kernel) rfl (fun w0 => ev_pick_t rfl rfl) rfl rfl (Sub.refl _) ?_
      refine mx (i := 34) rfl (by decide +kernel) (by decide +kernel) (by decide +kernel) rfl (fun w0 => ev_move rfl) rfl rfl (Sub.refl _) ?_
      refine at_eq (i := 45) (v' := .bool true) rfl (by simp) ?_
      refine mx_one (i := 35) (by decide +kernel) (Sub.refl _) ?_
      refine wo (i := 35) rfl ?_
      refine st_callv has17 rfl (fun w1 sw => known2_any w1) rfl rfl ?_
      refine op_nil ?_
      refine ax_then ?_
      refine mx (i := 36) rfl (by decide +kernel) (by decide +kernel) (by decide +kernel) rfl (fun w0 => ev_pick_t rfl rfl) rfl rfl (Sub.refl _) ?_
      refine mx (i := 37) rfl (by decide +kernel) (by decide +kernel) (by decide +kernel) rfl (fun w0 => ev_assign rfl) rfl rfl (Sub.refl _) ?_
      refine mx_done (by decide +kernel) (Sub.refl _) ?_
      refine ax_then ?_
      refine At.regs (L' := [(4, _)]) (.cons rfl (.nil _)) ?_
      refine cd_ret ?_
      refine rt_tmp (.inl rfl) Try.results8 rfl ?_
      exact fun w1 sw => ⟨rfl, sw.gives (.nil _)⟩

end Go.Proofs.Ytcglackbpfnfdaa

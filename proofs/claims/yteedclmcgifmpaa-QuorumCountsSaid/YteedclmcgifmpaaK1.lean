/- Walks: chapter 5. -/
import Derived.Test.YteedclmcgifmpaaKy
import Derived.Test.YteedclmcgifmpaaM2
import Derived.Test.YteedclmcgifmpaaFwB
namespace Go.Proofs.Yteedclmcgifmpaa
open Go Go.RowKit Fw
open Sha
open Ots
open Mk
set_option linter.unusedVariables false
set_option linter.unusedSimpArgs false

set_option maxRecDepth 20000 in
set_option maxHeartbeats 1000000 in
theorem named_any (r : List Int) (w : World) (hr : r.length = 32) : Calls Try.prog 50 #[.agg (ints .u8 (r)).toArray] w (PostV w (.agg (ints .u8 (Ky.named r)).toArray)) := by
  refine calls_at (vs := [.agg (ints .u8 (r)).toArray]) (X := []) (H := []) (F := []) 7 Try.func50 rfl rfl rfl (Sat.start0 w) ?_
  refine cd_seq ?_
  refine cd_region ?_
  refine st_box (h := 1) rfl rfl rfl rfl (fun b1 => ?_)
  refine st_alloc (h := 2) ty39 rfl rfl rfl (fun b2 => ?_)
  refine op_nil ?_
  refine ax_then ?_
  refine At.regs (L' := [(1, _), (2, _)]) (.cons rfl (.cons rfl (.nil _))) ?_
  refine cd_seq ?_
  refine cd_region ?_
  refine st_bsi (h := 3) (xs := [_]) Try.underlying22 ty5 (by decide) rfl rfl (by decide) rfl rfl (fun b3 => ?_)
  refine st (ev_slice_arr_all Try.underlying39 ty5 rfl) rfl rfl rfl ?_
  refine st_appendi (h := 3) Try.underlying22 Try.underlying22 ty5 rfl rfl rfl rfl (fun w1 sw => rd_blk_all sw (h := 1) rfl (by first | omega | (simp only [List.length_append, List.length_cons, List.length_nil, List.length_set, List.length_replicate, List.length_take, List.length_drop, ints_length, wr_length, sha_len, node_len, recov_len, Ky.named_len, Ky.keyPub_len] <;> omega) | rfl)) (by first | omega | (simp only [List.length_append, List.length_cons, List.length_nil, List.length_set, List.length_replicate, List.length_take, List.length_drop, ints_length, wr_length, sha_len, node_len, recov_len, Ky.named_len, Ky.keyPub_len] <;> omega)) (by decide) rfl rfl (fun v5 => ?_)
  refine st_callv has83 rfl (fun w1 sw => sum_any v5 ([4] ++ r) w1 (by simp only [List.length_append, List.length_cons, List.length_nil]; omega) (sw.own_rd (h := 3) rfl)) rfl rfl ?_
  refine at_eq (i := 6) (v' := .agg (ints .u8 (Ky.named r)).toArray) rfl rfl ?_
  refine st_store_all 2 ty39 rfl rfl rfl rfl (by first | omega | (simp only [List.length_append, List.length_cons, List.length_nil, List.length_set, List.length_replicate, List.length_take, List.length_drop, ints_length, wr_length, sha_len, node_len, recov_len, Ky.named_len, Ky.keyPub_len] <;> omega) | rfl) (ints_one _ _) (by first | omega | (simp only [List.length_append, List.length_cons, List.length_nil, List.length_set, List.length_replicate, List.length_take, List.length_drop, ints_length, wr_length, sha_len, node_len, recov_len, Ky.named_len, Ky.keyPub_len] <;> omega) | rfl) rfl ?_
  refine op_nil ?_
  refine ax_then ?_
  refine At.regs (L' := [(2, _)]) (.cons rfl (.nil _)) ?_
  refine cd_ret ?_
  refine rt_cell (h0 := 2) (.inl rfl) Try.results50 ty39 rfl rfl rfl (by first | omega | (simp only [List.length_append, List.length_cons, List.length_nil, List.length_set, List.length_replicate, List.length_take, List.length_drop, ints_length, wr_length, sha_len, node_len, recov_len, Ky.named_len, Ky.keyPub_len] <;> omega) | rfl) ?_
  exact fun w1 sw => ⟨rfl, sw.gives (.nil _)⟩

set_option maxRecDepth 20000 in
set_option maxHeartbeats 1000000 in
theorem rnamed_any (r : List Int) (w : World) (hr : r.length = 32) : Calls Try.prog 48 #[.agg (ints .u8 (r)).toArray] w (PostV w (.agg (ints .u8 (Ky.named r)).toArray)) := by
  refine calls_at (vs := [.agg (ints .u8 (r)).toArray]) (X := []) (H := []) (F := []) 7 Try.func48 rfl rfl rfl (Sat.start0 w) ?_
  refine cd_seq ?_
  refine cd_region ?_
  refine st_box (h := 1) rfl rfl rfl rfl (fun b1 => ?_)
  refine st_alloc (h := 2) ty39 rfl rfl rfl (fun b2 => ?_)
  refine op_nil ?_
  refine ax_then ?_
  refine At.regs (L' := [(1, _), (2, _)]) (.cons rfl (.cons rfl (.nil _))) ?_
  refine cd_seq ?_
  refine cd_region ?_
  refine st_bsi (h := 3) (xs := [_]) Try.underlying22 ty5 (by decide) rfl rfl (by decide) rfl rfl (fun b3 => ?_)
  refine st (ev_slice_arr_all Try.underlying39 ty5 rfl) rfl rfl rfl ?_
  refine st_appendi (h := 3) Try.underlying22 Try.underlying22 ty5 rfl rfl rfl rfl (fun w1 sw => rd_blk_all sw (h := 1) rfl (by first | omega | (simp only [List.length_append, List.length_cons, List.length_nil, List.length_set, List.length_replicate, List.length_take, List.length_drop, ints_length, wr_length, sha_len, node_len, recov_len, Ky.named_len, Ky.keyPub_len] <;> omega) | rfl)) (by first | omega | (simp only [List.length_append, List.length_cons, List.length_nil, List.length_set, List.length_replicate, List.length_take, List.length_drop, ints_length, wr_length, sha_len, node_len, recov_len, Ky.named_len, Ky.keyPub_len] <;> omega)) (by decide) rfl rfl (fun v5 => ?_)
  refine st_callv has80 rfl (fun w1 sw => rsum_any v5 ([4] ++ r) w1 (by simp only [List.length_append, List.length_cons, List.length_nil]; omega) (sw.own_rd (h := 3) rfl)) rfl rfl ?_
  refine at_eq (i := 6) (v' := .agg (ints .u8 (Ky.named r)).toArray) rfl rfl ?_
  refine st_store_all 2 ty39 rfl rfl rfl rfl (by first | omega | (simp only [List.length_append, List.length_cons, List.length_nil, List.length_set, List.length_replicate, List.length_take, List.length_drop, ints_length, wr_length, sha_len, node_len, recov_len, Ky.named_len, Ky.keyPub_len] <;> omega) | rfl) (ints_one _ _) (by first | omega | (simp only [List.length_append, List.length_cons, List.length_nil, List.length_set, List.length_replicate, List.length_take, List.length_drop, ints_length, wr_length, sha_len, node_len, recov_len, Ky.named_len, Ky.keyPub_len] <;> omega) | rfl) rfl ?_
  refine op_nil ?_
  refine ax_then ?_
  refine At.regs (L' := [(2, _)]) (.cons rfl (.nil _)) ?_
  refine cd_ret ?_
  refine rt_cell (h0 := 2) (.inl rfl) Try.results48 ty39 rfl rfl rfl (by first | omega | (simp only [List.length_append, List.length_cons, List.length_nil, List.length_set, List.length_replicate, List.length_take, List.length_drop, ints_length, wr_length, sha_len, node_len, recov_len, Ky.named_len, Ky.keyPub_len] <;> omega) | rfl) ?_
  exact fun w1 sw => ⟨rfl, sw.gives (.nil _)⟩

set_option maxRecDepth 20000 in
set_option maxHeartbeats 1000000 in
theorem isSig_any (l : Int) (vc vp : Value) (cs ps : List (List Int)) (w : World) (hu : H32 cs) (hu' : H32 ps) (h : Rd w vc 32 (flat cs)) (h' : Rd w vp 32 (flat ps)) : Calls Try.prog 37 #[.agg (List.toArray [.int .i64 l, vc, vp])] w (PostV w (.bool (decide (Ky.isSig l cs ps)))) := by
  refine calls_at (vs := [.agg (List.toArray [.int .i64 l, vc, vp])]) (X := []) (H := []) (F := [(21, .sl vp 32 (flat (ps))), (20, .sl vc 32 (flat (cs)))]) 23 Try.func37 rfl rfl rfl ((Sat.rd0 20 h).more 21 h') ?_
  refine cd_seq ?_
  refine cd_region ?_
  refine st_box (h := 1) rfl rfl rfl rfl (fun b1 => ?_)
  refine st (ev_assign rfl) rfl rfl rfl ?_
  refine op_nil ?_
  refine ax_then ?_
  refine At.regs (L' := [(1, _), (2, _)]) (.cons rfl (.cons rfl (.nil _))) ?_
  refine cd_seq ?_
  refine cd_region ?_
  refine st (ev_fieldAddr (b := _) Try.underlying42 (f := _) rfl ty3 (by decide) rfl) rfl rfl rfl ?_
  refine st (ld_blk1 (h := 1) ty3 rfl rfl rfl rfl) rfl rfl rfl ?_
  refine st (ev_geq rfl rfl) rfl rfl rfl ?_
  refine st (ev_move rfl) rfl rfl rfl ?_
  refine at_split_if (i := 6) rfl (fun hg6 => ?_) (fun hg6 => ?_)
  ·
    refine st (ev_fieldAddr (b := _) Try.underlying42 (f := _) rfl ty3 (by decide) rfl) rfl rfl rfl ?_
    refine st (ld_blk1 (h := 1) ty3 rfl rfl rfl rfl) rfl rfl rfl ?_
    refine st (ev_lss rfl rfl) rfl rfl rfl ?_
    refine st (ev_pick_t rfl rfl) rfl rfl rfl ?_
    refine st (ev_move rfl) rfl rfl rfl ?_
    refine at_split_if (i := 11) rfl (fun hg11 => ?_) (fun hg11 => ?_)
    ·
      refine st (ev_fieldAddr (b := _) Try.underlying42 (f := _) rfl ty26 (by decide) rfl) rfl rfl rfl ?_
      refine st (ld_blk1 (h := 1) ty26 rfl rfl rfl rfl) rfl rfl rfl ?_
      refine st (ev_len_rdh (h := 20) Try.underlying26 rfl rfl (by assumption)) rfl rfl rfl ?_
      refine st (ev_eql rfl rfl) rfl rfl rfl ?_
      refine st (ev_pick_t rfl rfl) rfl rfl rfl ?_
      refine st (ev_move rfl) rfl rfl rfl ?_
      refine at_split_if (i := 17) rfl (fun hg17 => ?_) (fun hg17 => ?_)
      ·
        refine st (ev_fieldAddr (b := _) Try.underlying42 (f := _) rfl ty26 (by decide) rfl) rfl rfl rfl ?_
        refine st (ld_blk1 (h := 1) ty26 rfl rfl rfl rfl) rfl rfl rfl ?_
        refine st (ev_len_rdh (h := 21) Try.underlying26 rfl rfl (by assumption)) rfl rfl rfl ?_
        refine st (ev_eql rfl rfl) rfl rfl rfl ?_
        refine st (ev_pick_t rfl rfl) rfl rfl rfl ?_
        refine st (ev_assign rfl) rfl rfl rfl ?_
        refine op_nil ?_
        refine ax_then ?_
        refine At.regs (L' := [(2, _)]) (.cons rfl (.nil _)) ?_
        refine cd_ret ?_
        refine rt_tmp (.inl rfl) Try.results37 rfl ?_
        exact fun w1 sw => ⟨congrArg (fun b => Ending.returned (Value.bool b)) (by first | exact (decide_eq_false (fun hh => by obtain ⟨a1, a2, a3, a4⟩ := hh; omega)).symm | exact decide_eq_decide.2 ⟨fun h => ⟨by omega, by omega, by omega, by omega⟩, fun h => by obtain ⟨a1, a2, a3, a4⟩ := h; omega⟩), sw.gives (.nil _)⟩
      ·
        refine st_skip rfl rfl rfl ?_
        refine st_skip rfl rfl rfl ?_
        refine st_skip rfl rfl rfl ?_
        refine st_skip rfl rfl rfl ?_
        refine st (ev_pick_f rfl rfl) rfl rfl rfl ?_
        refine st (ev_assign rfl) rfl rfl rfl ?_
        refine op_nil ?_
        refine ax_then ?_
        refine At.regs (L' := [(2, _)]) (.cons rfl (.nil _)) ?_
        refine cd_ret ?_
        refine rt_tmp (.inl rfl) Try.results37 rfl ?_
        exact fun w1 sw => ⟨congrArg (fun b => Ending.returned (Value.bool b)) (by first | exact (decide_eq_false (fun hh => by obtain ⟨a1, a2, a3, a4⟩ := hh; omega)).symm | exact decide_eq_decide.2 ⟨fun h => ⟨by omega, by omega, by omega, by omega⟩, fun h => by obtain ⟨a1, a2, a3, a4⟩ := h; omega⟩), sw.gives (.nil _)⟩
    ·
      refine st_skip rfl rfl rfl ?_
      refine st_skip rfl rfl rfl ?_
      refine st_skip rfl rfl rfl ?_
      refine st_skip rfl rfl rfl ?_
      refine st (ev_pick_f rfl rfl) rfl rfl rfl ?_
      refine st (ev_move rfl) rfl rfl rfl ?_
      refine st_skip rfl rfl rfl ?_
      refine st_skip rfl rfl rfl ?_
      refine st_skip rfl rfl rfl ?_
      refine st_skip rfl rfl rfl ?_
      refine st (ev_pick_f rfl rfl) rfl rfl rfl ?_
      refine st (ev_assign rfl) rfl rfl rfl ?_
      refine op_nil ?_
      refine ax_then ?_
      refine At.regs (L' := [(2, _)]) (.cons rfl (.nil _)) ?_
      refine cd_ret ?_
      refine rt_tmp (.inl rfl) Try.results37 rfl ?_
      exact fun w1 sw => ⟨congrArg (fun b => Ending.returned (Value.bool b)) (by first | exact (decide_eq_false (fun hh => by obtain ⟨a1, a2, a3, a4⟩ := hh; omega)).symm | exact decide_eq_decide.2 ⟨fun h => ⟨by omega, by omega, by omega, by omega⟩, fun h => by obtain ⟨a1, a2, a3, a4⟩ := h; omega⟩), sw.gives (.nil _)⟩
  ·
    refine st_skip rfl rfl rfl ?_
    refine st_skip rfl rfl rfl ?_
    refine st_skip rfl rfl rfl ?_
    refine st (ev_pick_f rfl rfl) rfl rfl rfl ?_
    refine st (ev_move rfl) rfl rfl rfl ?_
    refine st_skip rfl rfl rfl ?_
    refine st_skip rfl rfl rfl ?_
    refine st_skip rfl rfl rfl ?_
    refine st_skip rfl rfl rfl ?_
    refine st (ev_pick_f rfl rfl) rfl rfl rfl ?_
    refine st (ev_move rfl) rfl rfl rfl ?_
    refine st_skip rfl rfl rfl ?_
    refine st_skip rfl rfl rfl ?_
    refine st_skip rfl rfl rfl ?_
    refine st_skip rfl rfl rfl ?_
    refine st (ev_pick_f rfl rfl) rfl rfl rfl ?_
    refine st (ev_assign rfl) rfl rfl rfl ?_
    refine op_nil ?_
    refine ax_then ?_
    refine At.regs (L' := [(2, _)]) (.cons rfl (.nil _)) ?_
    refine cd_ret ?_
    refine rt_tmp (.inl rfl) Try.results37 rfl ?_
    exact fun w1 sw => ⟨congrArg (fun b => Ending.returned (Value.bool b)) (by first | exact (decide_eq_false (fun hh => by obtain ⟨a1, a2, a3, a4⟩ := hh; omega)).symm | exact decide_eq_decide.2 ⟨fun h => ⟨by omega, by omega, by omega, by omega⟩, fun h => by obtain ⟨a1, a2, a3, a4⟩ := h; omega⟩), sw.gives (.nil _)⟩

set_option maxRecDepth 20000 in
set_option maxHeartbeats 1000000 in
theorem risSig_any (l : Int) (vc vp : Value) (cs ps : List (List Int)) (w : World) (hu : H32 cs) (hu' : H32 ps) (h : Rd w vc 32 (flat cs)) (h' : Rd w vp 32 (flat ps)) : Calls Try.prog 34 #[.agg (List.toArray [.int .i64 l, vc, vp])] w (PostV w (.bool (decide (Ky.isSig l cs ps)))) := by
  refine calls_at (vs := [.agg (List.toArray [.int .i64 l, vc, vp])]) (X := []) (H := []) (F := [(21, .sl vp 32 (flat (ps))), (20, .sl vc 32 (flat (cs)))]) 23 Try.func34 rfl rfl rfl ((Sat.rd0 20 h).more 21 h') ?_
  refine cd_seq ?_
  refine cd_region ?_
  refine st_box (h := 1) rfl rfl rfl rfl (fun b1 => ?_)
  refine st (ev_assign rfl) rfl rfl rfl ?_
  refine op_nil ?_
  refine ax_then ?_
  refine At.regs (L' := [(1, _), (2, _)]) (.cons rfl (.cons rfl (.nil _))) ?_
  refine cd_seq ?_
  refine cd_region ?_
  refine st (ev_fieldAddr (b := _) Try.underlying42 (f := _) rfl ty3 (by decide) rfl) rfl rfl rfl ?_
  refine st (ld_blk1 (h := 1) ty3 rfl rfl rfl rfl) rfl rfl rfl ?_
  refine st (ev_geq rfl rfl) rfl rfl rfl ?_
  refine st (ev_move rfl) rfl rfl rfl ?_
  refine at_split_if (i := 6) rfl (fun hg6 => ?_) (fun hg6 => ?_)
  ·
    refine st (ev_fieldAddr (b := _) Try.underlying42 (f := _) rfl ty3 (by decide) rfl) rfl rfl rfl ?_
    refine st (ld_blk1 (h := 1) ty3 rfl rfl rfl rfl) rfl rfl rfl ?_
    refine st (ev_lss rfl rfl) rfl rfl rfl ?_
    refine st (ev_pick_t rfl rfl) rfl rfl rfl ?_
    refine st (ev_move rfl) rfl rfl rfl ?_
    refine at_split_if (i := 11) rfl (fun hg11 => ?_) (fun hg11 => ?_)
    ·
      refine st (ev_fieldAddr (b := _) Try.underlying42 (f := _) rfl ty26 (by decide) rfl) rfl rfl rfl ?_
      refine st (ld_blk1 (h := 1) ty26 rfl rfl rfl rfl) rfl rfl rfl ?_
      refine st (ev_len_rdh (h := 20) Try.underlying26 rfl rfl (by assumption)) rfl rfl rfl ?_
      refine st (ev_eql rfl rfl) rfl rfl rfl ?_
      refine st (ev_pick_t rfl rfl) rfl rfl rfl ?_
      refine st (ev_move rfl) rfl rfl rfl ?_
      refine at_split_if (i := 17) rfl (fun hg17 => ?_) (fun hg17 => ?_)
      ·
        refine st (ev_fieldAddr (b := _) Try.underlying42 (f := _) rfl ty26 (by decide) rfl) rfl rfl rfl ?_
        refine st (ld_blk1 (h := 1) ty26 rfl rfl rfl rfl) rfl rfl rfl ?_
        refine st (ev_len_rdh (h := 21) Try.underlying26 rfl rfl (by assumption)) rfl rfl rfl ?_
        refine st (ev_eql rfl rfl) rfl rfl rfl ?_
        refine st (ev_pick_t rfl rfl) rfl rfl rfl ?_
        refine st (ev_assign rfl) rfl rfl rfl ?_
        refine op_nil ?_
        refine ax_then ?_
        refine At.regs (L' := [(2, _)]) (.cons rfl (.nil _)) ?_
        refine cd_ret ?_
        refine rt_tmp (.inl rfl) Try.results34 rfl ?_
        exact fun w1 sw => ⟨congrArg (fun b => Ending.returned (Value.bool b)) (by first | exact (decide_eq_false (fun hh => by obtain ⟨a1, a2, a3, a4⟩ := hh; omega)).symm | exact decide_eq_decide.2 ⟨fun h => ⟨by omega, by omega, by omega, by omega⟩, fun h => by obtain ⟨a1, a2, a3, a4⟩ := h; omega⟩), sw.gives (.nil _)⟩
      ·
        refine st_skip rfl rfl rfl ?_
        refine st_skip rfl rfl rfl ?_
        refine st_skip rfl rfl rfl ?_
        refine st_skip rfl rfl rfl ?_
        refine st (ev_pick_f rfl rfl) rfl rfl rfl ?_
        refine st (ev_assign rfl) rfl rfl rfl ?_
        refine op_nil ?_
        refine ax_then ?_
        refine At.regs (L' := [(2, _)]) (.cons rfl (.nil _)) ?_
        refine cd_ret ?_
        refine rt_tmp (.inl rfl) Try.results34 rfl ?_
        exact fun w1 sw => ⟨congrArg (fun b => Ending.returned (Value.bool b)) (by first | exact (decide_eq_false (fun hh => by obtain ⟨a1, a2, a3, a4⟩ := hh; omega)).symm | exact decide_eq_decide.2 ⟨fun h => ⟨by omega, by omega, by omega, by omega⟩, fun h => by obtain ⟨a1, a2, a3, a4⟩ := h; omega⟩), sw.gives (.nil _)⟩
    ·
      refine st_skip rfl rfl rfl ?_
      refine st_skip rfl rfl rfl ?_
      refine st_skip rfl rfl rfl ?_
      refine st_skip rfl rfl rfl ?_
      refine st (ev_pick_f rfl rfl) rfl rfl rfl ?_
      refine st (ev_move rfl) rfl rfl rfl ?_
      refine st_skip rfl rfl rfl ?_
      refine st_skip rfl rfl rfl ?_
      refine st_skip rfl rfl rfl ?_
      refine st_skip rfl rfl rfl ?_
      refine st (ev_pick_f rfl rfl) rfl rfl rfl ?_
      refine st (ev_assign rfl) rfl rfl rfl ?_
      refine op_nil ?_
      refine ax_then ?_
      refine At.regs (L' := [(2, _)]) (.cons rfl (.nil _)) ?_
      refine cd_ret ?_
      refine rt_tmp (.inl rfl) Try.results34 rfl ?_
      exact fun w1 sw => ⟨congrArg (fun b => Ending.returned (Value.bool b)) (by first | exact (decide_eq_false (fun hh => by obtain ⟨a1, a2, a3, a4⟩ := hh; omega)).symm | exact decide_eq_decide.2 ⟨fun h => ⟨by omega, by omega, by omega, by omega⟩, fun h => by obtain ⟨a1, a2, a3, a4⟩ := h; omega⟩), sw.gives (.nil _)⟩
  ·
    refine st_skip rfl rfl rfl ?_
    refine st_skip rfl rfl rfl ?_
    refine st_skip rfl rfl rfl ?_
    refine st (ev_pick_f rfl rfl) rfl rfl rfl ?_
    refine st (ev_move rfl) rfl rfl rfl ?_
    refine st_skip rfl rfl rfl ?_
    refine st_skip rfl rfl rfl ?_
    refine st_skip rfl rfl rfl ?_
    refine st_skip rfl rfl rfl ?_
    refine st (ev_pick_f rfl rfl) rfl rfl rfl ?_
    refine st (ev_move rfl) rfl rfl rfl ?_
    refine st_skip rfl rfl rfl ?_
    refine st_skip rfl rfl rfl ?_
    refine st_skip rfl rfl rfl ?_
    refine st_skip rfl rfl rfl ?_
    refine st (ev_pick_f rfl rfl) rfl rfl rfl ?_
    refine st (ev_assign rfl) rfl rfl rfl ?_
    refine op_nil ?_
    refine ax_then ?_
    refine At.regs (L' := [(2, _)]) (.cons rfl (.nil _)) ?_
    refine cd_ret ?_
    refine rt_tmp (.inl rfl) Try.results34 rfl ?_
    exact fun w1 sw => ⟨congrArg (fun b => Ending.returned (Value.bool b)) (by first | exact (decide_eq_false (fun hh => by obtain ⟨a1, a2, a3, a4⟩ := hh; omega)).symm | exact decide_eq_decide.2 ⟨fun h => ⟨by omega, by omega, by omega, by omega⟩, fun h => by obtain ⟨a1, a2, a3, a4⟩ := h; omega⟩), sw.gives (.nil _)⟩

set_option maxRecDepth 20000 in
set_option maxHeartbeats 2000000 in
theorem equal_any (p q : Value) (a b : List (List Int)) (w : World) (ha : H32 a) (hb : H32 b) (hal : a.length ≤ 1000000000) (hbl : b.length ≤ 1000000000) (h : Rd w p 32 (flat a)) (h' : Rd w q 32 (flat b)) : Calls Try.prog 60 #[p, q] w (PostV w (.bool (decide (a = b)))) := by
  refine calls_at (vs := [p, q]) (X := []) (H := []) (F := [(1, .sl q 32 (flat (b))), (0, .sl p 32 (flat (a)))]) 26 Try.func60 rfl rfl rfl ((Sat.rd0 0 h).more 1 h') ?_
  refine cd_seq ?_
  refine cd_region ?_
  refine st (ev_assign rfl) rfl rfl rfl ?_
  refine op_nil ?_
  refine ax_then ?_
  refine At.regs (L' := [(0, _), (1, _), (4, _)]) (.cons rfl (.cons rfl (.cons rfl (.nil _)))) ?_
  refine cd_seq ?_
  refine cd_seq ?_
  refine cd_region ?_
  refine st (ev_move rfl) rfl rfl rfl ?_
  refine st (ev_len_rdh (h := 0) Try.underlying26 rfl rfl (by assumption)) rfl rfl rfl ?_
  refine st (ev_move rfl) rfl rfl rfl ?_
  refine st (ev_len_rdh (h := 1) Try.underlying26 rfl rfl (by assumption)) rfl rfl rfl ?_
  refine st (ev_neq rfl rfl) rfl rfl rfl ?_
  refine op_nil ?_
  refine ax_then ?_
  refine At.regs (L' := [(0, _), (1, _), (4, _), (10, _)]) (.cons rfl (.cons rfl (.cons rfl (.cons rfl (.nil _))))) ?_
  refine cd_if rfl (fun hc10 => ?_) (fun hc10 => ?_)
  ·
    refine cd_seq ?_
    refine cd_region ?_
    refine st (ev_assign rfl) rfl rfl rfl ?_
    refine op_nil ?_
    refine ax_then ?_
    refine At.regs (L' := [(0, _), (1, _), (4, _)]) (.cons rfl (.cons rfl (.cons rfl (.nil _)))) ?_
    refine cd_ret ?_
    refine ax_then_ret ?_
    refine rt_tmp (.inl rfl) Try.results60 rfl ?_
    exact fun w1 sw => ⟨by rw [decide_eq_false (by intro e; subst e; omega)], sw.gives (.nil _)⟩
  ·
    have hab : a.length = b.length := by omega
    refine cd_skip ?_
    refine ax_then ?_
    refine At.regs (L' := [(0, _), (1, _), (4, _)]) (.cons rfl (.cons rfl (.cons rfl (.nil _)))) ?_
    refine cd_seq ?_
    refine cd_seq ?_
    refine cd_region ?_
    refine st (ev_move rfl) rfl rfl rfl ?_
    refine st (ev_len_rdh (h := 0) Try.underlying26 rfl rfl (by assumption)) rfl rfl rfl ?_
    refine st (ev_move rfl) rfl rfl rfl ?_
    refine op_nil ?_
    refine ax_then ?_
    refine At.regs (L' := [(0, _), (1, _), (4, _), (12, _), (13, _)]) (.cons rfl (.cons rfl (.cons rfl (.cons rfl (.cons rfl (.nil _)))))) ?_
    refine cd_block ?_
    refine cd_loop (ι := Nat) (fun i => i ≤ a.length ∧ ∀ j, j < i → a.getD j [] = b.getD j []) (fun i => a.length - i)
        (fun i => [(0, p), (1, q), (12, .int .i64 (a.length : Nat)), (13, .int .i64 (i : Int))])
        (fun i => [])
        (fun i => [(0, .sl p 32 (flat (a))), (1, .sl q 32 (flat (b)))])
        0 (⟨by omega, fun j hj => by omega⟩) (.cons rfl (.cons rfl (.cons rfl (.cons rfl (.nil _))))) (.nil _) (.cons rfl (.cons rfl (.nil _))) (fun i hi => ?_)
    have hi1 := hi.1
    have e0 : (i : Int).toNat = i := by omega
    have ga : i < a.length → (a.getD (i : Int).toNat []).length = 32 := fun hx => ha.get (by omega)
    have gb : i < a.length → (b.getD (i : Int).toNat []).length = 32 := fun hx => hb.get (by omega)
    refine cd_seq ?_
    refine cd_region ?_
    refine st (ev_lss rfl rfl) rfl rfl rfl ?_
    refine op_nil ?_
    refine ax_then ?_
    refine At.regs (L' := [(0, _), (1, _), (12, _), (13, _), (14, _)]) (.cons rfl (.cons rfl (.cons rfl (.cons rfl (.cons rfl (.nil _)))))) ?_
    refine cd_seq ?_
    refine cd_if rfl (fun hc14 => ?_) (fun hc14 => ?_)
    ·
      have ga2 := ga (by omega)
      have gb2 := gb (by omega)
      refine cd_skip ?_
      refine ax_then ?_
      refine At.regs (L' := [(0, _), (1, _), (12, _), (13, _), (14, _)]) (.cons rfl (.cons rfl (.cons rfl (.cons rfl (.cons rfl (.nil _)))))) ?_
      refine cd_seq ?_
      refine cd_block ?_
      refine cd_seq ?_
      refine cd_region ?_
      refine st (ev_move rfl) rfl rfl rfl ?_
      refine st (ev_assign rfl) rfl rfl rfl ?_
      refine op_nil ?_
      refine ax_then ?_
      refine At.regs (L' := [(0, _), (1, _), (5, _), (12, _), (13, _), (14, _), (15, _)]) (.cons rfl (.cons rfl (.cons rfl (.cons rfl (.cons rfl (.cons rfl (.cons rfl (.nil _)))))))) ?_
      refine cd_seq ?_
      refine cd_open hmix (by decide +kernel) ?_
      refine qt (ev_move rfl) rfl rfl rfl ?_
      refine qt (ev_move rfl) rfl rfl rfl ?_
      refine qt (ev_indexAddr_rdh (h := 0) Try.underlying26 ty39 rfl rfl rfl (by assumption) (by omega) (by omega)) rfl rfl rfl ?_
      refine qt (ld_rdh (h := 0) ty39 rfl rfl rfl (by assumption) (by omega)) rfl rfl rfl ?_
      refine qt (ev_move rfl) rfl rfl rfl ?_
      refine qt (ev_move rfl) rfl rfl rfl ?_
      refine qt (ev_indexAddr_rdh (h := 1) Try.underlying26 ty39 rfl rfl rfl (by assumption) (by omega) (by omega)) rfl rfl rfl ?_
      refine qt (ld_rdh (h := 1) ty39 rfl rfl rfl (by assumption) (by omega)) rfl rfl rfl ?_
      refine qt (ev_neq_arr Try.underlying39 ty5 eqg39 rfl rfl (by first | omega | (simp only [List.length_append, List.length_cons, List.length_nil, List.length_set, List.length_replicate, List.length_take, List.length_drop, ints_length, wr_length, sha_len, node_len, recov_len, Ky.named_len, Ky.keyPub_len] <;> omega) | rfl) (by first | omega | (simp only [List.length_append, List.length_cons, List.length_nil, List.length_set, List.length_replicate, List.length_take, List.length_drop, ints_length, wr_length, sha_len, node_len, recov_len, Ky.named_len, Ky.keyPub_len] <;> omega) | rfl)) rfl rfl rfl ?_
      refine qt_end ?_
      refine op_nil ?_
      refine ax_then ?_
      refine At.regs (L' := [(0, _), (1, _), (5, _), (12, _), (13, _), (14, _), (15, _), (16, _), (17, _), (18, _), (19, _), (20, _), (21, _), (22, _), (23, _), (24, _)]) (.cons rfl (.cons rfl (.cons rfl (.cons rfl (.cons rfl (.cons rfl (.cons rfl (.cons rfl (.cons rfl (.cons rfl (.cons rfl (.cons rfl (.cons rfl (.cons rfl (.cons rfl (.cons rfl (.nil _))))))))))))))))) ?_
      refine cd_if rfl (fun hc24 => ?_) (fun hc24 => ?_)
      ·
        have hne : a ≠ b := by intro e; subst e; exact hc24 rfl
        refine cd_seq ?_
        refine cd_region ?_
        refine st (ev_assign rfl) rfl rfl rfl ?_
        refine op_nil ?_
        refine ax_then ?_
        refine At.regs (L' := [(0, _), (1, _), (4, _), (5, _), (12, _), (13, _), (14, _), (15, _), (16, _), (17, _), (18, _), (19, _), (20, _), (21, _), (22, _), (23, _), (24, _)]) (.cons rfl (.cons rfl (.cons rfl (.cons rfl (.cons rfl (.cons rfl (.cons rfl (.cons rfl (.cons rfl (.cons rfl (.cons rfl (.cons rfl (.cons rfl (.cons rfl (.cons rfl (.cons rfl (.cons rfl (.nil _)))))))))))))))))) ?_
        refine cd_ret ?_
        refine ax_block_ret ?_
        refine ax_then_ret ?_
        refine ax_then_ret ?_
        refine ax_block_ret ?_
        refine ax_then_ret ?_
        refine rt_tmp (.inl rfl) Try.results60 rfl ?_
        exact fun w1 sw => ⟨by rw [decide_eq_false hne], sw.gives (.nil _)⟩
      ·
        refine cd_skip ?_
        refine ax_block ?_
        refine ax_then ?_
        refine At.regs (L' := [(0, _), (1, _), (5, _), (12, _), (13, _), (14, _), (15, _), (16, _), (17, _), (18, _), (19, _), (20, _), (21, _), (22, _), (23, _), (24, _)]) (.cons rfl (.cons rfl (.cons rfl (.cons rfl (.cons rfl (.cons rfl (.cons rfl (.cons rfl (.cons rfl (.cons rfl (.cons rfl (.cons rfl (.cons rfl (.cons rfl (.cons rfl (.cons rfl (.nil _))))))))))))))))) ?_
        refine cd_region ?_
        refine st (ev_add64 rfl rfl (by omega) (by omega)) rfl rfl rfl ?_
        refine st (ev_move rfl) rfl rfl rfl ?_
        refine op_nil ?_
        exact at_again (i + 1) (⟨by omega, fun j hj => (Nat.lt_succ_iff_lt_or_eq.1 hj).elim (hi.2 j) (fun e => by subst e; simpa using hc24)⟩) (by omega) (.cons rfl (.cons rfl (.cons rfl (.cons rfl (.nil _))))) (.nil _) (.cons rfl (.cons rfl (.nil _)))
    ·
      obtain rfl : i = a.length := by omega
      refine cd_exit ?_
      refine ax_then_exit ?_
      refine ax_then_exit ?_
      refine ax_block_hit ?_
      refine ax_then ?_
      refine At.regs (L' := []) (.nil _) ?_
      refine cd_seq ?_
      refine cd_region ?_
      refine st (ev_assign rfl) rfl rfl rfl ?_
      refine op_nil ?_
      refine ax_then ?_
      refine At.regs (L' := [(4, _)]) (.cons rfl (.nil _)) ?_
      refine cd_ret ?_
      refine rt_tmp (.inl rfl) Try.results60 rfl ?_
      exact fun w1 sw => ⟨by rw [decide_eq_true (hashes_ext hab hi.2)], sw.gives (.nil _)⟩

set_option maxRecDepth 20000 in
set_option maxHeartbeats 1000000 in
theorem same5_any (l l2 : Int) (vc vp vc2 vp2 : Value) (cs ps cs2 ps2 : List (List Int)) (w : World) (hu : H32 cs) (hu' : H32 ps) (hu2 : H32 cs2) (hu2' : H32 ps2) (n1 : cs.length ≤ 1000000000) (n2 : ps.length ≤ 1000000000) (n3 : cs2.length ≤ 1000000000) (n4 : ps2.length ≤ 1000000000) (h : Rd w vc 32 (flat cs)) (h' : Rd w vp 32 (flat ps)) (h2 : Rd w vc2 32 (flat cs2)) (h2' : Rd w vp2 32 (flat ps2)) : Calls Try.prog 38 #[.agg (List.toArray [.int .i64 l, vc, vp]), .agg (List.toArray [.int .i64 l2, vc2, vp2])] w (PostV w (.bool (decide (l = l2 ∧ cs = cs2 ∧ ps = ps2)))) := by
  refine calls_at (vs := [.agg (List.toArray [.int .i64 l, vc, vp]), .agg (List.toArray [.int .i64 l2, vc2, vp2])]) (X := []) (H := []) (F := [(23, .sl vp2 32 (flat (ps2))), (22, .sl vc2 32 (flat (cs2))), (21, .sl vp 32 (flat (ps))), (20, .sl vc 32 (flat (cs)))]) 24 Try.func38 rfl rfl rfl ((((Sat.rd0 20 h).more 21 h').more 22 h2).more 23 h2') ?_
  refine cd_seq ?_
  refine cd_region ?_
  refine st_box (h := 2) rfl rfl rfl rfl (fun b2 => ?_)
  refine st_box (h := 3) rfl rfl rfl rfl (fun b3 => ?_)
  refine st (ev_assign rfl) rfl rfl rfl ?_
  refine op_nil ?_
  refine ax_then ?_
  refine At.regs (L' := [(2, _), (3, _), (4, _)]) (.cons rfl (.cons rfl (.cons rfl (.nil _)))) ?_
  refine cd_seq ?_
  refine cd_region ?_
  refine st (ev_fieldAddr (b := _) Try.underlying42 (f := _) rfl ty3 (by decide) rfl) rfl rfl rfl ?_
  refine st (ld_blk1 (h := 2) ty3 rfl rfl rfl rfl) rfl rfl rfl ?_
  refine st (ev_fieldAddr (b := _) Try.underlying42 (f := _) rfl ty3 (by decide) rfl) rfl rfl rfl ?_
  refine st (ld_blk1 (h := 3) ty3 rfl rfl rfl rfl) rfl rfl rfl ?_
  refine st (ev_eql rfl rfl) rfl rfl rfl ?_
  refine st (ev_move rfl) rfl rfl rfl ?_
  refine at_split_if (i := 10) rfl (fun hg10 => ?_) (fun hg10 => ?_)
  ·
    refine st (ev_fieldAddr (b := _) Try.underlying42 (f := _) rfl ty26 (by decide) rfl) rfl rfl rfl ?_
    refine st (ld_blk1 (h := 2) ty26 rfl rfl rfl rfl) rfl rfl rfl ?_
    refine st (ev_fieldAddr (b := _) Try.underlying42 (f := _) rfl ty26 (by decide) rfl) rfl rfl rfl ?_
    refine st (ld_blk1 (h := 3) ty26 rfl rfl rfl rfl) rfl rfl rfl ?_
    refine st_callv has60 rfl (fun w1 sw => equal_any vc vc2 cs cs2 w1 hu hu2 n1 n3 (sw.sl_rd (h := 20) rfl) (sw.sl_rd (h := 22) rfl)) rfl rfl ?_
    refine st (ev_pick_t rfl rfl) rfl rfl rfl ?_
    refine st (ev_move rfl) rfl rfl rfl ?_
    refine at_split_if (i := 17) rfl (fun hg17 => ?_) (fun hg17 => ?_)
    ·
      refine st (ev_fieldAddr (b := _) Try.underlying42 (f := _) rfl ty26 (by decide) rfl) rfl rfl rfl ?_
      refine st (ld_blk1 (h := 2) ty26 rfl rfl rfl rfl) rfl rfl rfl ?_
      refine st (ev_fieldAddr (b := _) Try.underlying42 (f := _) rfl ty26 (by decide) rfl) rfl rfl rfl ?_
      refine st (ld_blk1 (h := 3) ty26 rfl rfl rfl rfl) rfl rfl rfl ?_
      refine st_callv has60 rfl (fun w1 sw => equal_any vp vp2 ps ps2 w1 hu' hu2' n2 n4 (sw.sl_rd (h := 21) rfl) (sw.sl_rd (h := 23) rfl)) rfl rfl ?_
      refine st (ev_pick_t rfl rfl) rfl rfl rfl ?_
      refine st (ev_assign rfl) rfl rfl rfl ?_
      refine op_nil ?_
      refine ax_then ?_
      refine At.regs (L' := [(4, _)]) (.cons rfl (.nil _)) ?_
      refine cd_ret ?_
      refine rt_tmp (.inl rfl) Try.results38 rfl ?_
      exact fun w1 sw => ⟨congrArg (fun b => Ending.returned (Value.bool b)) (by first | exact (decide_eq_false (fun hh => by obtain ⟨a1, a2, a3⟩ := hh; first | exact hg10 a1 | exact hg17 a2)).symm | exact decide_eq_decide.2 ⟨fun h => ⟨hg10, hg17, h⟩, fun h => h.2.2⟩), sw.gives (.nil _)⟩
    ·
      refine st_skip rfl rfl rfl ?_
      refine st_skip rfl rfl rfl ?_
      refine st_skip rfl rfl rfl ?_
      refine st_skip rfl rfl rfl ?_
      refine st_skip rfl rfl rfl ?_
      refine st (ev_pick_f rfl rfl) rfl rfl rfl ?_
      refine st (ev_assign rfl) rfl rfl rfl ?_
      refine op_nil ?_
      refine ax_then ?_
      refine At.regs (L' := [(4, _)]) (.cons rfl (.nil _)) ?_
      refine cd_ret ?_
      refine rt_tmp (.inl rfl) Try.results38 rfl ?_
      exact fun w1 sw => ⟨congrArg (fun b => Ending.returned (Value.bool b)) (by first | exact (decide_eq_false (fun hh => by obtain ⟨a1, a2, a3⟩ := hh; first | exact hg10 a1 | exact hg17 a2)).symm | exact decide_eq_decide.2 ⟨fun h => ⟨hg10, hg17, h⟩, fun h => h.2.2⟩), sw.gives (.nil _)⟩
  ·
    refine st_skip rfl rfl rfl ?_
    refine st_skip rfl rfl rfl ?_
    refine st_skip rfl rfl rfl ?_
    refine st_skip rfl rfl rfl ?_
    refine st_skip rfl rfl rfl ?_
    refine st (ev_pick_f rfl rfl) rfl rfl rfl ?_
    refine st (ev_move rfl) rfl rfl rfl ?_
    refine st_skip rfl rfl rfl ?_
    refine st_skip rfl rfl rfl ?_
    refine st_skip rfl rfl rfl ?_
    refine st_skip rfl rfl rfl ?_
    refine st_skip rfl rfl rfl ?_
    refine st (ev_pick_f rfl rfl) rfl rfl rfl ?_
    refine st (ev_assign rfl) rfl rfl rfl ?_
    refine op_nil ?_
    refine ax_then ?_
    refine At.regs (L' := [(4, _)]) (.cons rfl (.nil _)) ?_
    refine cd_ret ?_
    refine rt_tmp (.inl rfl) Try.results38 rfl ?_
    exact fun w1 sw => ⟨congrArg (fun b => Ending.returned (Value.bool b)) (by first | exact (decide_eq_false (fun hh => by obtain ⟨a1, a2, a3⟩ := hh; first | exact hg10 a1 | exact hg17 a2)).symm | exact decide_eq_decide.2 ⟨fun h => ⟨hg10, hg17, h⟩, fun h => h.2.2⟩), sw.gives (.nil _)⟩

set_option maxRecDepth 20000 in
set_option maxHeartbeats 1000000 in
theorem rsame5_any (l l2 : Int) (vc vp vc2 vp2 : Value) (cs ps cs2 ps2 : List (List Int)) (w : World) (hu : H32 cs) (hu' : H32 ps) (hu2 : H32 cs2) (hu2' : H32 ps2) (n1 : cs.length ≤ 1000000000) (n2 : ps.length ≤ 1000000000) (n3 : cs2.length ≤ 1000000000) (n4 : ps2.length ≤ 1000000000) (h : Rd w vc 32 (flat cs)) (h' : Rd w vp 32 (flat ps)) (h2 : Rd w vc2 32 (flat cs2)) (h2' : Rd w vp2 32 (flat ps2)) : Calls Try.prog 31 #[.agg (List.toArray [.int .i64 l, vc, vp]), .agg (List.toArray [.int .i64 l2, vc2, vp2])] w (PostV w (.bool (decide (l = l2 ∧ cs = cs2 ∧ ps = ps2)))) := by
  refine calls_at (vs := [.agg (List.toArray [.int .i64 l, vc, vp]), .agg (List.toArray [.int .i64 l2, vc2, vp2])]) (X := []) (H := []) (F := [(23, .sl vp2 32 (flat (ps2))), (22, .sl vc2 32 (flat (cs2))), (21, .sl vp 32 (flat (ps))), (20, .sl vc 32 (flat (cs)))]) 24 Try.func31 rfl rfl rfl ((((Sat.rd0 20 h).more 21 h').more 22 h2).more 23 h2') ?_
  refine cd_seq ?_
  refine cd_region ?_
  refine st_box (h := 2) rfl rfl rfl rfl (fun b2 => ?_)
  refine st_box (h := 3) rfl rfl rfl rfl (fun b3 => ?_)
  refine st (ev_assign rfl) rfl rfl rfl ?_
  refine op_nil ?_
  refine ax_then ?_
  refine At.regs (L' := [(2, _), (3, _), (4, _)]) (.cons rfl (.cons rfl (.cons rfl (.nil _)))) ?_
  refine cd_seq ?_
  refine cd_region ?_
  refine st (ev_fieldAddr (b := _) Try.underlying42 (f := _) rfl ty3 (by decide) rfl) rfl rfl rfl ?_
  refine st (ld_blk1 (h := 2) ty3 rfl rfl rfl rfl) rfl rfl rfl ?_
  refine st (ev_fieldAddr (b := _) Try.underlying42 (f := _) rfl ty3 (by decide) rfl) rfl rfl rfl ?_
  refine st (ld_blk1 (h := 3) ty3 rfl rfl rfl rfl) rfl rfl rfl ?_
  refine st (ev_eql rfl rfl) rfl rfl rfl ?_
  refine st (ev_move rfl) rfl rfl rfl ?_
  refine at_split_if (i := 10) rfl (fun hg10 => ?_) (fun hg10 => ?_)
  ·
    refine st (ev_fieldAddr (b := _) Try.underlying42 (f := _) rfl ty26 (by decide) rfl) rfl rfl rfl ?_
    refine st (ld_blk1 (h := 2) ty26 rfl rfl rfl rfl) rfl rfl rfl ?_
    refine st (ev_fieldAddr (b := _) Try.underlying42 (f := _) rfl ty26 (by decide) rfl) rfl rfl rfl ?_
    refine st (ld_blk1 (h := 3) ty26 rfl rfl rfl rfl) rfl rfl rfl ?_
    refine st_callv has16 rfl (fun w1 sw => hashes_any vc vc2 cs cs2 w1 hu hu2 n1 n3 (sw.sl_rd (h := 20) rfl) (sw.sl_rd (h := 22) rfl)) rfl rfl ?_
    refine st (ev_pick_t rfl rfl) rfl rfl rfl ?_
    refine st (ev_move rfl) rfl rfl rfl ?_
    refine at_split_if (i := 17) rfl (fun hg17 => ?_) (fun hg17 => ?_)
    ·
      refine st (ev_fieldAddr (b := _) Try.underlying42 (f := _) rfl ty26 (by decide) rfl) rfl rfl rfl ?_
      refine st (ld_blk1 (h := 2) ty26 rfl rfl rfl rfl) rfl rfl rfl ?_
      refine st (ev_fieldAddr (b := _) Try.underlying42 (f := _) rfl ty26 (by decide) rfl) rfl rfl rfl ?_
      refine st (ld_blk1 (h := 3) ty26 rfl rfl rfl rfl) rfl rfl rfl ?_
      refine st_callv has16 rfl (fun w1 sw => hashes_any vp vp2 ps ps2 w1 hu' hu2' n2 n4 (sw.sl_rd (h := 21) rfl) (sw.sl_rd (h := 23) rfl)) rfl rfl ?_
      refine st (ev_pick_t rfl rfl) rfl rfl rfl ?_
      refine st (ev_assign rfl) rfl rfl rfl ?_
      refine op_nil ?_
      refine ax_then ?_
      refine At.regs (L' := [(4, _)]) (.cons rfl (.nil _)) ?_
      refine cd_ret ?_
      refine rt_tmp (.inl rfl) Try.results31 rfl ?_
      exact fun w1 sw => ⟨congrArg (fun b => Ending.returned (Value.bool b)) (by first | exact (decide_eq_false (fun hh => by obtain ⟨a1, a2, a3⟩ := hh; first | exact hg10 a1 | exact hg17 a2)).symm | exact decide_eq_decide.2 ⟨fun h => ⟨hg10, hg17, h⟩, fun h => h.2.2⟩), sw.gives (.nil _)⟩
    ·
      refine st_skip rfl rfl rfl ?_
      refine st_skip rfl rfl rfl ?_
      refine st_skip rfl rfl rfl ?_
      refine st_skip rfl rfl rfl ?_
      refine st_skip rfl rfl rfl ?_
      refine st (ev_pick_f rfl rfl) rfl rfl rfl ?_
      refine st (ev_assign rfl) rfl rfl rfl ?_
      refine op_nil ?_
      refine ax_then ?_
      refine At.regs (L' := [(4, _)]) (.cons rfl (.nil _)) ?_
      refine cd_ret ?_
      refine rt_tmp (.inl rfl) Try.results31 rfl ?_
      exact fun w1 sw => ⟨congrArg (fun b => Ending.returned (Value.bool b)) (by first | exact (decide_eq_false (fun hh => by obtain ⟨a1, a2, a3⟩ := hh; first | exact hg10 a1 | exact hg17 a2)).symm | exact decide_eq_decide.2 ⟨fun h => ⟨hg10, hg17, h⟩, fun h => h.2.2⟩), sw.gives (.nil _)⟩
  ·
    refine st_skip rfl rfl rfl ?_
    refine st_skip rfl rfl rfl ?_
    refine st_skip rfl rfl rfl ?_
    refine st_skip rfl rfl rfl ?_
    refine st_skip rfl rfl rfl ?_
    refine st (ev_pick_f rfl rfl) rfl rfl rfl ?_
    refine st (ev_move rfl) rfl rfl rfl ?_
    refine st_skip rfl rfl rfl ?_
    refine st_skip rfl rfl rfl ?_
    refine st_skip rfl rfl rfl ?_
    refine st_skip rfl rfl rfl ?_
    refine st_skip rfl rfl rfl ?_
    refine st (ev_pick_f rfl rfl) rfl rfl rfl ?_
    refine st (ev_assign rfl) rfl rfl rfl ?_
    refine op_nil ?_
    refine ax_then ?_
    refine At.regs (L' := [(4, _)]) (.cons rfl (.nil _)) ?_
    refine cd_ret ?_
    refine rt_tmp (.inl rfl) Try.results31 rfl ?_
    exact fun w1 sw => ⟨congrArg (fun b => Ending.returned (Value.bool b)) (by first | exact (decide_eq_false (fun hh => by obtain ⟨a1, a2, a3⟩ := hh; first | exact hg10 a1 | exact hg17 a2)).symm | exact decide_eq_decide.2 ⟨fun h => ⟨hg10, hg17, h⟩, fun h => h.2.2⟩), sw.gives (.nil _)⟩

set_option maxRecDepth 20000 in
set_option maxHeartbeats 2000000 in
theorem verify_any (p : List Int) (q : Value) (m : List Int) (l : Int) (vc vp : Value) (cs ps : List (List Int)) (w : World) (hp : p.length = 32) (hm : m.length ≤ 1000000000) (hu : H32 cs) (hu' : H32 ps) (n1 : cs.length ≤ 1000000000) (n2 : ps.length ≤ 1000000000) (h0 : Rd w q 1 (ints .u8 m)) (h : Rd w vc 32 (flat cs)) (h' : Rd w vp 32 (flat ps)) : Calls Try.prog 35 #[.agg (ints .u8 (p)).toArray, q, .agg (List.toArray [.int .i64 l, vc, vp])] w (PostV w (.bool (decide (Ky.verP p m l cs ps)))) := by
  refine calls_at (vs := [.agg (ints .u8 (p)).toArray, q, .agg (List.toArray [.int .i64 l, vc, vp])]) (X := []) (H := []) (F := [(21, .sl vp 32 (flat (ps))), (20, .sl vc 32 (flat (cs))), (1, .sl q 1 (ints .u8 (m)))]) 32 Try.func35 rfl rfl rfl (((Sat.rd0 1 h0).more 20 h).more 21 h') ?_
  refine cd_seq ?_
  refine cd_region ?_
  refine st_box (h := 3) rfl rfl rfl rfl (fun b3 => ?_)
  refine st_box (h := 5) rfl rfl rfl rfl (fun b5 => ?_)
  refine st (ev_assign rfl) rfl rfl rfl ?_
  refine op_nil ?_
  refine ax_then ?_
  refine At.regs (L' := [(1, _), (3, _), (5, _), (6, _)]) (.cons rfl (.cons rfl (.cons rfl (.cons rfl (.nil _))))) ?_
  refine cd_seq ?_
  refine cd_region ?_
  refine st (ev_move rfl) rfl rfl rfl ?_
  refine st (ev_fieldAddr (b := _) Try.underlying42 (f := _) rfl ty26 (by decide) rfl) rfl rfl rfl ?_
  refine st (ld_blk1 (h := 5) ty26 rfl rfl rfl rfl) rfl rfl rfl ?_
  refine st_callv has56 rfl (fun w1 sw => recover_any q vc m cs w1 hm hu n1 (sw.sl_rd (h := 1) rfl) (sw.sl_rd (h := 20) rfl)) rfl rfl ?_
  have hrl := recov_len m cs
  refine st (ev_move rfl) rfl rfl rfl ?_
  refine st (ev_extract rfl rfl) rfl rfl rfl ?_
  refine st (ev_extract rfl rfl) rfl rfl rfl ?_
  refine st_alloc (h := 7) ty39 rfl rfl rfl (fun b7 => ?_)
  refine st_store_all 7 ty39 rfl rfl rfl rfl (by first | omega | (simp only [List.length_append, List.length_cons, List.length_nil, List.length_set, List.length_replicate, List.length_take, List.length_drop, ints_length, wr_length, sha_len, node_len, recov_len, Ky.named_len, Ky.keyPub_len] <;> omega) | rfl) (ints_one _ _) (by first | omega | (simp only [List.length_append, List.length_cons, List.length_nil, List.length_set, List.length_replicate, List.length_take, List.length_drop, ints_length, wr_length, sha_len, node_len, recov_len, Ky.named_len, Ky.keyPub_len] <;> omega) | rfl) rfl ?_
  refine st (ev_assign rfl) rfl rfl rfl ?_
  refine op_nil ?_
  refine ax_then ?_
  refine At.regs (L' := [(3, _), (5, _), (6, _), (7, _), (8, _)]) (.cons rfl (.cons rfl (.cons rfl (.cons rfl (.cons rfl (.nil _)))))) ?_
  refine cd_seq ?_
  refine cd_open hmix (by decide +kernel) ?_
  refine qt (ev_move rfl) rfl rfl rfl ?_
  refine qt (ev_move rfl) rfl rfl rfl ?_
  refine qt_split_if (i := 17) rfl (fun hg17 => ?_) (fun hg17 => ?_)
  ·
    refine qt (ld_blk_all (h := 5) ty42 rfl rfl rfl (by first | omega | (simp only [List.length_append, List.length_cons, List.length_nil, List.length_set, List.length_replicate, List.length_take, List.length_drop, ints_length, wr_length, sha_len, node_len, recov_len, Ky.named_len, Ky.keyPub_len] <;> omega) | rfl)) rfl rfl rfl ?_
    refine qt_callv has37 rfl (fun w1 sw => isSig_any l vc vp cs ps w1 hu hu' (sw.sl_rd (h := 20) rfl) (sw.sl_rd (h := 21) rfl)) rfl rfl ?_
    refine qt (ev_pick_t rfl rfl) rfl rfl rfl ?_
    refine qt (ev_move rfl) rfl rfl rfl ?_
    refine qt_split_if (i := 21) rfl (fun hg21 => ?_) (fun hg21 => ?_)
    ·
      have his := hg21
      refine qt (ld_blk_all (h := 7) ty39 rfl rfl rfl (by first | omega | (simp only [List.length_append, List.length_cons, List.length_nil, List.length_set, List.length_replicate, List.length_take, List.length_drop, ints_length, wr_length, sha_len, node_len, recov_len, Ky.named_len, Ky.keyPub_len] <;> omega) | rfl)) rfl rfl rfl ?_
      refine qt (ev_fieldAddr (b := _) Try.underlying42 (f := _) rfl ty3 (by decide) rfl) rfl rfl rfl ?_
      refine qt (ld_blk1 (h := 5) ty3 rfl rfl rfl rfl) rfl rfl rfl ?_
      refine qt (ev_fieldAddr (b := _) Try.underlying42 (f := _) rfl ty26 (by decide) rfl) rfl rfl rfl ?_
      refine qt (ld_blk1 (h := 5) ty26 rfl rfl rfl rfl) rfl rfl rfl ?_
      refine qt_callv has57 rfl (fun w1 sw => up_any (recov m cs) l vp ps w1 (recov_len _ _) his.1 (by have := his.2.1; omega) hu' n2 (sw.sl_rd (h := 21) rfl)) rfl rfl ?_
      refine qt_callv has50 rfl (fun w1 sw => named_any (up (recov m cs) l ps) w1 (up_len (recov_len _ _) _ _)) rfl rfl ?_
      refine qt (ld_blk_all (h := 3) ty39 rfl rfl rfl (by first | omega | (simp only [List.length_append, List.length_cons, List.length_nil, List.length_set, List.length_replicate, List.length_take, List.length_drop, ints_length, wr_length, sha_len, node_len, recov_len, Ky.named_len, Ky.keyPub_len] <;> omega) | rfl)) rfl rfl rfl ?_
      refine qt (ev_eql_arr Try.underlying39 ty5 eqg39 rfl rfl (by first | omega | (simp only [List.length_append, List.length_cons, List.length_nil, List.length_set, List.length_replicate, List.length_take, List.length_drop, ints_length, wr_length, sha_len, node_len, recov_len, Ky.named_len, Ky.keyPub_len] <;> omega) | rfl) (by first | omega | (simp only [List.length_append, List.length_cons, List.length_nil, List.length_set, List.length_replicate, List.length_take, List.length_drop, ints_length, wr_length, sha_len, node_len, recov_len, Ky.named_len, Ky.keyPub_len] <;> omega) | rfl)) rfl rfl rfl ?_
      refine qt (ev_pick_t rfl rfl) rfl rfl rfl ?_
      refine qt (ev_assign rfl) rfl rfl rfl ?_
      refine qt_end ?_
      refine op_nil ?_
      refine ax_then ?_
      refine At.regs (L' := [(6, _)]) (.cons rfl (.nil _)) ?_
      refine cd_ret ?_
      refine rt_tmp (.inl rfl) Try.results35 rfl ?_
      exact fun w1 sw => ⟨congrArg (fun b => Ending.returned (Value.bool b)) (by first | exact (decide_eq_false (fun hh => hnot hh.1)).symm | exact decide_eq_decide.2 ⟨fun h => ⟨his, h⟩, fun h => h.2⟩), sw.gives (.nil _)⟩
    ·
      have hnot := hg21
      refine qt_skip rfl rfl rfl ?_
      refine qt_skip rfl rfl rfl ?_
      refine qt_skip rfl rfl rfl ?_
      refine qt_skip rfl rfl rfl ?_
      refine qt_skip rfl rfl rfl ?_
      refine qt_skip rfl rfl rfl ?_
      refine qt_skip rfl rfl rfl ?_
      refine qt_skip rfl rfl rfl ?_
      refine qt_skip rfl rfl rfl ?_
      refine qt (ev_pick_f rfl rfl) rfl rfl rfl ?_
      refine qt (ev_assign rfl) rfl rfl rfl ?_
      refine qt_end ?_
      refine op_nil ?_
      refine ax_then ?_
      refine At.regs (L' := [(6, _)]) (.cons rfl (.nil _)) ?_
      refine cd_ret ?_
      refine rt_tmp (.inl rfl) Try.results35 rfl ?_
      exact fun w1 sw => ⟨congrArg (fun b => Ending.returned (Value.bool b)) (by first | exact (decide_eq_false (fun hh => hnot hh.1)).symm | exact decide_eq_decide.2 ⟨fun h => ⟨his, h⟩, fun h => h.2⟩), sw.gives (.nil _)⟩
  ·
    have hnot : ¬ Ky.isSig l cs ps := fun hh => hg17 hh.2.2.1
    refine qt_skip rfl rfl rfl ?_
    refine qt_skip rfl rfl rfl ?_
    refine qt (ev_pick_f rfl rfl) rfl rfl rfl ?_
    refine qt (ev_move rfl) rfl rfl rfl ?_
    refine qt_skip rfl rfl rfl ?_
    refine qt_skip rfl rfl rfl ?_
    refine qt_skip rfl rfl rfl ?_
    refine qt_skip rfl rfl rfl ?_
    refine qt_skip rfl rfl rfl ?_
    refine qt_skip rfl rfl rfl ?_
    refine qt_skip rfl rfl rfl ?_
    refine qt_skip rfl rfl rfl ?_
    refine qt_skip rfl rfl rfl ?_
    refine qt (ev_pick_f rfl rfl) rfl rfl rfl ?_
    refine qt (ev_assign rfl) rfl rfl rfl ?_
    refine qt_end ?_
    refine op_nil ?_
    refine ax_then ?_
    refine At.regs (L' := [(6, _)]) (.cons rfl (.nil _)) ?_
    refine cd_ret ?_
    refine rt_tmp (.inl rfl) Try.results35 rfl ?_
    exact fun w1 sw => ⟨congrArg (fun b => Ending.returned (Value.bool b)) (by first | exact (decide_eq_false (fun hh => hnot hh.1)).symm | exact decide_eq_decide.2 ⟨fun h => ⟨his, h⟩, fun h => h.2⟩), sw.gives (.nil _)⟩

set_option maxRecDepth 20000 in
set_option maxHeartbeats 2000000 in
theorem rverify_any (p : List Int) (q : Value) (m : List Int) (l : Int) (vc vp : Value) (cs ps : List (List Int)) (w : World) (hp : p.length = 32) (hm : m.length ≤ 1000000000) (hu : H32 cs) (hu' : H32 ps) (n1 : cs.length ≤ 1000000000) (n2 : ps.length ≤ 1000000000) (h0 : Rd w q 1 (ints .u8 m)) (h : Rd w vc 32 (flat cs)) (h' : Rd w vp 32 (flat ps)) : Calls Try.prog 36 #[.agg (ints .u8 (p)).toArray, q, .agg (List.toArray [.int .i64 l, vc, vp])] w (PostV w (.bool (decide (Ky.verP p m l cs ps)))) := by
  refine calls_at (vs := [.agg (ints .u8 (p)).toArray, q, .agg (List.toArray [.int .i64 l, vc, vp])]) (X := []) (H := []) (F := [(21, .sl vp 32 (flat (ps))), (20, .sl vc 32 (flat (cs))), (1, .sl q 1 (ints .u8 (m)))]) 28 Try.func36 rfl rfl rfl (((Sat.rd0 1 h0).more 20 h).more 21 h') ?_
  refine cd_seq ?_
  refine cd_region ?_
  refine st_box (h := 3) rfl rfl rfl rfl (fun b3 => ?_)
  refine st_box (h := 5) rfl rfl rfl rfl (fun b5 => ?_)
  refine st (ev_assign rfl) rfl rfl rfl ?_
  refine op_nil ?_
  refine ax_then ?_
  refine At.regs (L' := [(1, _), (3, _), (5, _), (6, _)]) (.cons rfl (.cons rfl (.cons rfl (.cons rfl (.nil _))))) ?_
  refine cd_seq ?_
  refine cd_seq ?_
  refine cd_region ?_
  refine st (ld_blk_all (h := 5) ty42 rfl rfl rfl (by first | omega | (simp only [List.length_append, List.length_cons, List.length_nil, List.length_set, List.length_replicate, List.length_take, List.length_drop, ints_length, wr_length, sha_len, node_len, recov_len, Ky.named_len, Ky.keyPub_len] <;> omega) | rfl)) rfl rfl rfl ?_
  refine st_callv has34 rfl (fun w1 sw => risSig_any l vc vp cs ps w1 hu hu' (sw.sl_rd (h := 20) rfl) (sw.sl_rd (h := 21) rfl)) rfl rfl ?_
  refine st (ev_not_if rfl) rfl rfl rfl ?_
  refine op_nil ?_
  refine ax_then ?_
  refine At.regs (L' := [(1, _), (3, _), (5, _), (6, _), (11, _)]) (.cons rfl (.cons rfl (.cons rfl (.cons rfl (.cons rfl (.nil _)))))) ?_
  refine cd_if rfl (fun hc11 => ?_) (fun hc11 => ?_)
  ·
    have hnot := hc11
    refine cd_seq ?_
    refine cd_region ?_
    refine st (ev_assign rfl) rfl rfl rfl ?_
    refine op_nil ?_
    refine ax_then ?_
    refine At.regs (L' := [(1, _), (3, _), (5, _), (6, _)]) (.cons rfl (.cons rfl (.cons rfl (.cons rfl (.nil _))))) ?_
    refine cd_ret ?_
    refine ax_then_ret ?_
    refine rt_tmp (.inl rfl) Try.results36 rfl ?_
    exact fun w1 sw => ⟨congrArg (fun b => Ending.returned (Value.bool b)) (by first | exact (decide_eq_false (fun hh => hnot hh.1)).symm | exact decide_eq_decide.2 ⟨fun h => ⟨his, h⟩, fun h => h.2⟩), sw.gives (.nil _)⟩
  ·
    have his : Ky.isSig l cs ps := Classical.byContradiction hc11
    refine cd_skip ?_
    refine ax_then ?_
    refine At.regs (L' := [(1, _), (3, _), (5, _), (6, _)]) (.cons rfl (.cons rfl (.cons rfl (.cons rfl (.nil _))))) ?_
    refine cd_seq ?_
    refine cd_region ?_
    refine st (ev_move rfl) rfl rfl rfl ?_
    refine st (ev_fieldAddr (b := _) Try.underlying42 (f := _) rfl ty26 (by decide) rfl) rfl rfl rfl ?_
    refine st (ld_blk1 (h := 5) ty26 rfl rfl rfl rfl) rfl rfl rfl ?_
    refine st_callv has58 rfl (fun w1 sw => rrecover_any q vc m cs w1 hm hu n1 (sw.sl_rd (h := 1) rfl) (sw.sl_rd (h := 20) rfl)) rfl rfl ?_
    have hrl := recov_len m cs
    refine st (ev_move rfl) rfl rfl rfl ?_
    refine st (ev_extract rfl rfl) rfl rfl rfl ?_
    refine st (ev_extract rfl rfl) rfl rfl rfl ?_
    refine st_alloc (h := 7) ty39 rfl rfl rfl (fun b7 => ?_)
    refine st_store_all 7 ty39 rfl rfl rfl rfl (by first | omega | (simp only [List.length_append, List.length_cons, List.length_nil, List.length_set, List.length_replicate, List.length_take, List.length_drop, ints_length, wr_length, sha_len, node_len, recov_len, Ky.named_len, Ky.keyPub_len] <;> omega) | rfl) (ints_one _ _) (by first | omega | (simp only [List.length_append, List.length_cons, List.length_nil, List.length_set, List.length_replicate, List.length_take, List.length_drop, ints_length, wr_length, sha_len, node_len, recov_len, Ky.named_len, Ky.keyPub_len] <;> omega) | rfl) rfl ?_
    refine st (ev_assign rfl) rfl rfl rfl ?_
    refine op_nil ?_
    refine ax_then ?_
    refine At.regs (L' := [(3, _), (5, _), (6, _), (7, _)]) (.cons rfl (.cons rfl (.cons rfl (.cons rfl (.nil _))))) ?_
    refine cd_seq ?_
    refine cd_open hmix (by decide +kernel) ?_
    refine qt (ld_blk_all (h := 7) ty39 rfl rfl rfl (by first | omega | (simp only [List.length_append, List.length_cons, List.length_nil, List.length_set, List.length_replicate, List.length_take, List.length_drop, ints_length, wr_length, sha_len, node_len, recov_len, Ky.named_len, Ky.keyPub_len] <;> omega) | rfl)) rfl rfl rfl ?_
    refine qt (ev_fieldAddr (b := _) Try.underlying42 (f := _) rfl ty3 (by decide) rfl) rfl rfl rfl ?_
    refine qt (ld_blk1 (h := 5) ty3 rfl rfl rfl rfl) rfl rfl rfl ?_
    refine qt (ev_fieldAddr (b := _) Try.underlying42 (f := _) rfl ty26 (by decide) rfl) rfl rfl rfl ?_
    refine qt (ld_blk1 (h := 5) ty26 rfl rfl rfl rfl) rfl rfl rfl ?_
    refine qt_callv has59 rfl (fun w1 sw => rup_any (recov m cs) l vp ps w1 (recov_len _ _) his.1 (by have := his.2.1; omega) hu' n2 (sw.sl_rd (h := 21) rfl)) rfl rfl ?_
    refine qt_callv has48 rfl (fun w1 sw => rnamed_any (up (recov m cs) l ps) w1 (up_len (recov_len _ _) _ _)) rfl rfl ?_
    refine qt (ld_blk_all (h := 3) ty39 rfl rfl rfl (by first | omega | (simp only [List.length_append, List.length_cons, List.length_nil, List.length_set, List.length_replicate, List.length_take, List.length_drop, ints_length, wr_length, sha_len, node_len, recov_len, Ky.named_len, Ky.keyPub_len] <;> omega) | rfl)) rfl rfl rfl ?_
    refine qt (ev_eql_arr Try.underlying39 ty5 eqg39 rfl rfl (by first | omega | (simp only [List.length_append, List.length_cons, List.length_nil, List.length_set, List.length_replicate, List.length_take, List.length_drop, ints_length, wr_length, sha_len, node_len, recov_len, Ky.named_len, Ky.keyPub_len] <;> omega) | rfl) (by first | omega | (simp only [List.length_append, List.length_cons, List.length_nil, List.length_set, List.length_replicate, List.length_take, List.length_drop, ints_length, wr_length, sha_len, node_len, recov_len, Ky.named_len, Ky.keyPub_len] <;> omega) | rfl)) rfl rfl rfl ?_
    refine qt (ev_assign rfl) rfl rfl rfl ?_
    refine qt_end ?_
    refine op_nil ?_
    refine ax_then ?_
    refine At.regs (L' := [(6, _)]) (.cons rfl (.nil _)) ?_
    refine cd_ret ?_
    refine rt_tmp (.inl rfl) Try.results36 rfl ?_
    exact fun w1 sw => ⟨congrArg (fun b => Ending.returned (Value.bool b)) (by first | exact (decide_eq_false (fun hh => hnot hh.1)).symm | exact decide_eq_decide.2 ⟨fun h => ⟨his, h⟩, fun h => h.2⟩), sw.gives (.nil _)⟩

end Go.Proofs.Yteedclmcgifmpaa

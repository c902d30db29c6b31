/- Walks: ChainTime. -/
import Derived.Test.YtcglackbpfnfdaaSha3
import Derived.Test.YtcglackbpfnfdaaD1
import Derived.Test.YtcglackbpfnfdaaFw9
namespace Go.Proofs.Ytcglackbpfnfdaa
open Go Go.RowKit Fw
open Sha
set_option linter.unusedVariables false

set_option maxRecDepth 20000 in
set_option maxHeartbeats 1000000 in
theorem fresh_any (v e x : Int) (r : List Value) (hr : r.length = 8) (w : World) : Calls Try.prog 9 #[.agg (Value.int .i64 v :: Value.int .i64 e :: r).toArray, .int .i64 x] w (PostV w (.bool (decide (x < e)))) := by
  refine calls_at (vs := [.agg (Value.int .i64 v :: Value.int .i64 e :: r).toArray, .int .i64 x]) (X := []) (H := []) (F := []) 9 Try.func9 rfl rfl rfl (Sat.start0 w) ?_
  refine cd_seq ?_
  refine cd_region ?_
  refine st_box (h := 2) rfl rfl rfl rfl (fun b2 => ?_)
  refine st (ev_assign rfl) rfl rfl rfl ?_
  refine op_nil ?_
  refine ax_then ?_
  refine At.regs (L' := [(1, _), (2, _), (4, _)]) (.cons rfl (.cons rfl (.cons rfl (.nil _)))) ?_
  refine cd_seq ?_
  refine cd_region ?_
  refine st (ev_fieldAddr (b := _) Try.underlying27 (f := _) rfl ty3 (by decide) rfl) rfl rfl rfl ?_
  refine st (ld_blk1 (h := 2) ty3 rfl rfl rfl rfl) rfl rfl rfl ?_
  refine st (ev_move rfl) rfl rfl rfl ?_
  refine st (ev_gtr rfl rfl) rfl rfl rfl ?_
  refine st (ev_assign rfl) rfl rfl rfl ?_
  refine op_nil ?_
  refine ax_then ?_
  refine At.regs (L' := [(4, _)]) (.cons rfl (.nil _)) ?_
  refine cd_ret ?_
  refine rt_tmp (.inl rfl) Try.results9 rfl ?_
  exact fun w1 sw => ⟨rfl, sw.gives (.nil _)⟩

set_option maxRecDepth 20000 in
set_option maxHeartbeats 1000000 in
theorem known_any (w : World) : Calls Try.prog 10 #[] w (PostV w (.bool true)) := by
  refine calls_at (vs := []) (X := []) (H := []) (F := []) 8 Try.func10 rfl rfl rfl (Sat.start0 w) ?_
  refine cd_seq ?_
  refine cd_region ?_
  refine st (ev_assign rfl) rfl rfl rfl ?_
  refine op_nil ?_
  refine ax_then ?_
  refine At.regs (L' := [(0, _)]) (.cons rfl (.nil _)) ?_
  refine cd_seq ?_
  refine cd_region ?_
  refine st (ev_build_struct ty27 rfl pl27 rfl rfl) rfl rfl rfl ?_
  refine st_callv has9 rfl (fun w1 sw => fresh_any (0) (5) (4) ([.slice none 0 0, .int .i64 0, .slice none 0 0, .int .i64 0, .slice none 0 0, .int .i64 0, .slice none 0 0, .int .i64 0]) rfl w1) rfl rfl ?_
  refine st (ev_move rfl) rfl rfl rfl ?_
  refine at_eq (i := 3) (v' := .bool true) rfl (by simp only [Value.bool.injEq, decide_eq_true_eq, decide_eq_false_iff_not]; decide) ?_
  refine st (ev_build_struct ty27 rfl pl27 rfl rfl) rfl rfl rfl ?_
  refine st_callv has9 rfl (fun w1 sw => fresh_any (0) (5) (5) ([.slice none 0 0, .int .i64 0, .slice none 0 0, .int .i64 0, .slice none 0 0, .int .i64 0, .slice none 0 0, .int .i64 0]) rfl w1) rfl rfl ?_
  refine st (ev_not_if rfl) rfl rfl rfl ?_
  refine st (ev_pick_t rfl rfl) rfl rfl rfl ?_
  refine st (ev_assign rfl) rfl rfl rfl ?_
  refine op_nil ?_
  refine ax_then ?_
  refine At.regs (L' := [(0, _)]) (.cons rfl (.nil _)) ?_
  refine cd_ret ?_
  refine rt_tmp (.inl rfl) Try.results10 rfl ?_
  exact fun w1 sw => ⟨rfl, sw.gives (.nil _)⟩

set_option maxRecDepth 20000 in
set_option maxHeartbeats 1000000 in
theorem chainTime_any (x a b : Int) (w : World) : Calls Try.prog 3 #[.int .i64 x, .int .i64 a, .int .i64 b] w (PostV w (.bool true)) := by
  refine calls_at (vs := [.int .i64 x, .int .i64 a, .int .i64 b]) (X := []) (H := []) (F := []) 36 Try.func3 rfl rfl rfl (Sat.start0 w) ?_
  refine cd_seq ?_
  refine cd_region ?_
  refine st (ev_assign rfl) rfl rfl rfl ?_
  refine op_nil ?_
  refine ax_then ?_
  refine At.regs (L' := [(0, _), (1, _), (2, _), (6, _)]) (.cons rfl (.cons rfl (.cons rfl (.cons rfl (.nil _))))) ?_
  refine cd_join (ι := Int × Int) (fun p => p.1 ≤ p.2) (fun p => [(0, .int .i64 x), (1, .int .i64 p.1), (2, .int .i64 p.2)]) (fun p => []) (fun p => []) ?_ (fun p hj => ?_)
  ·
    refine cd_seq ?_
    refine cd_region ?_
    refine st (ev_move rfl) rfl rfl rfl ?_
    refine st (ev_move rfl) rfl rfl rfl ?_
    refine st (ev_gtr rfl rfl) rfl rfl rfl ?_
    refine op_nil ?_
    refine ax_then ?_
    refine At.regs (L' := [(0, _), (1, _), (2, _), (6, _), (10, _)]) (.cons rfl (.cons rfl (.cons rfl (.cons rfl (.cons rfl (.nil _)))))) ?_
    refine cd_if rfl (fun hc10 => ?_) (fun hc10 => ?_)
    ·
      refine cd_region ?_
      refine st (ev_move rfl) rfl rfl rfl ?_
      refine st (ev_move rfl) rfl rfl rfl ?_
      refine st (ev_assign rfl) rfl rfl rfl ?_
      refine st (ev_assign rfl) rfl rfl rfl ?_
      refine op_nil ?_
      exact at_met ((b, a)) (by show _ ≤ _; omega) (.cons rfl (.cons rfl (.cons rfl (.nil _)))) (.nil _) (.nil _)
    ·
      refine cd_skip ?_
      exact at_met ((a, b)) (by show _ ≤ _; omega) (.cons rfl (.cons rfl (.cons rfl (.nil _)))) (.nil _) (.nil _)
  ·
    obtain ⟨c, d⟩ := p
    dsimp only at hj ⊢
    refine cd_seq ?_
    refine cd_region ?_
    refine st (ev_move rfl) rfl rfl rfl ?_
    refine st (ev_build_struct ty27 rfl pl27 rfl rfl) rfl rfl rfl ?_
    refine at_eq (i := 14) (v' := .agg (Value.int .i64 0 :: Value.int .i64 x :: [.slice none 0 0, .int .i64 0, .slice none 0 0, .int .i64 0, .slice none 0 0, .int .i64 0, .slice none 0 0, .int .i64 0]).toArray) rfl (by simp [Value.cells]) ?_
    refine st_alloc (h := 7) ty27 rfl rfl rfl (fun b7 => ?_)
    refine st_store_all 7 ty27 rfl rfl rfl rfl (by first | omega | (simp only [List.length_append, List.length_cons, List.length_nil, List.length_set, List.length_replicate, List.length_take, List.length_drop, ints_length, wr_length] <;> omega) | rfl) (by first | (intro u hu; simp at hu; rcases hu with rfl | rfl <;> rfl) | (simp [Value.oneCell'])) (by first | omega | (simp only [List.length_append, List.length_cons, List.length_nil, List.length_set, List.length_replicate, List.length_take, List.length_drop, ints_length, wr_length] <;> omega) | rfl) rfl ?_
    refine op_nil ?_
    refine ax_then ?_
    refine At.regs (L' := [(0, _), (1, _), (2, _), (7, _)]) (.cons rfl (.cons rfl (.cons rfl (.cons rfl (.nil _))))) ?_
    refine cd_seq ?_
    refine cd_region ?_
    refine st (ld_blk_all (h := 7) ty27 rfl rfl rfl (by first | omega | (simp only [List.length_append, List.length_cons, List.length_nil, List.length_set, List.length_replicate, List.length_take, List.length_drop, ints_length, wr_length] <;> omega) | rfl)) rfl rfl rfl ?_
    refine st (ev_move rfl) rfl rfl rfl ?_
    refine st_callv has9 rfl (fun w1 sw => fresh_any (0) (x) (d) ([.slice none 0 0, .int .i64 0, .slice none 0 0, .int .i64 0, .slice none 0 0, .int .i64 0, .slice none 0 0, .int .i64 0]) rfl w1) rfl rfl ?_
    refine st (ev_not_if rfl) rfl rfl rfl ?_
    refine st (ev_move rfl) rfl rfl rfl ?_
    refine at_split_if (i := 19) rfl (fun hg19 => ?_) (fun hg19 => ?_)
    ·
      refine st_skip rfl rfl rfl ?_
      refine st_skip rfl rfl rfl ?_
      refine st_skip rfl rfl rfl ?_
      refine st (ev_pick_t rfl rfl) rfl rfl rfl ?_
      refine st (ev_move rfl) rfl rfl rfl ?_
      refine st (ld_blk_all (h := 7) ty27 rfl rfl rfl (by first | omega | (simp only [List.length_append, List.length_cons, List.length_nil, List.length_set, List.length_replicate, List.length_take, List.length_drop, ints_length, wr_length] <;> omega) | rfl)) rfl rfl rfl ?_
      refine st (ev_move rfl) rfl rfl rfl ?_
      refine st_callv has9 rfl (fun w1 sw => fresh_any (0) (x) (c) ([.slice none 0 0, .int .i64 0, .slice none 0 0, .int .i64 0, .slice none 0 0, .int .i64 0, .slice none 0 0, .int .i64 0]) rfl w1) rfl rfl ?_
      refine st (ev_move rfl) rfl rfl rfl ?_
      refine st (ev_move rfl) rfl rfl rfl ?_
      refine st (ev_gtr rfl rfl) rfl rfl rfl ?_
      refine st (ev_eql_bool Try.underlying4 rfl rfl) rfl rfl rfl ?_
      refine st (ev_pick_t rfl rfl) rfl rfl rfl ?_
      refine st (ev_move rfl) rfl rfl rfl ?_
      refine at_eq (i := 33) (v' := .bool true) rfl (by simp only [Value.bool.injEq, decide_eq_true_eq, decide_eq_false_iff_not]; simp) ?_
      refine st_callv has10 rfl (fun w1 sw => known_any w1) rfl rfl ?_
      refine st (ev_pick_t rfl rfl) rfl rfl rfl ?_
      refine st (ev_assign rfl) rfl rfl rfl ?_
      refine op_nil ?_
      refine ax_then ?_
      refine At.regs (L' := [(6, _)]) (.cons rfl (.nil _)) ?_
      refine cd_ret ?_
      refine rt_tmp (.inl rfl) Try.results3 rfl ?_
      exact fun w1 sw => ⟨rfl, sw.gives (.nil _)⟩
    ·
      refine st (ld_blk_all (h := 7) ty27 rfl rfl rfl (by first | omega | (simp only [List.length_append, List.length_cons, List.length_nil, List.length_set, List.length_replicate, List.length_take, List.length_drop, ints_length, wr_length] <;> omega) | rfl)) rfl rfl rfl ?_
      refine st (ev_move rfl) rfl rfl rfl ?_
      refine st_callv has9 rfl (fun w1 sw => fresh_any (0) (x) (c) ([.slice none 0 0, .int .i64 0, .slice none 0 0, .int .i64 0, .slice none 0 0, .int .i64 0, .slice none 0 0, .int .i64 0]) rfl w1) rfl rfl ?_
      refine st (ev_pick_f rfl rfl) rfl rfl rfl ?_
      refine st (ev_move rfl) rfl rfl rfl ?_
      refine at_eq (i := 24) (v' := .bool true) rfl (by simp only [Value.bool.injEq, decide_eq_true_eq, decide_eq_false_iff_not]; omega) ?_
      refine st (ld_blk_all (h := 7) ty27 rfl rfl rfl (by first | omega | (simp only [List.length_append, List.length_cons, List.length_nil, List.length_set, List.length_replicate, List.length_take, List.length_drop, ints_length, wr_length] <;> omega) | rfl)) rfl rfl rfl ?_
      refine st (ev_move rfl) rfl rfl rfl ?_
      refine st_callv has9 rfl (fun w1 sw => fresh_any (0) (x) (c) ([.slice none 0 0, .int .i64 0, .slice none 0 0, .int .i64 0, .slice none 0 0, .int .i64 0, .slice none 0 0, .int .i64 0]) rfl w1) rfl rfl ?_
      refine st (ev_move rfl) rfl rfl rfl ?_
      refine st (ev_move rfl) rfl rfl rfl ?_
      refine st (ev_gtr rfl rfl) rfl rfl rfl ?_
      refine st (ev_eql_bool Try.underlying4 rfl rfl) rfl rfl rfl ?_
      refine st (ev_pick_t rfl rfl) rfl rfl rfl ?_
      refine st (ev_move rfl) rfl rfl rfl ?_
      refine at_eq (i := 33) (v' := .bool true) rfl (by simp only [Value.bool.injEq, decide_eq_true_eq, decide_eq_false_iff_not]; simp) ?_
      refine st_callv has10 rfl (fun w1 sw => known_any w1) rfl rfl ?_
      refine st (ev_pick_t rfl rfl) rfl rfl rfl ?_
      refine st (ev_assign rfl) rfl rfl rfl ?_
      refine op_nil ?_
      refine ax_then ?_
      refine At.regs (L' := [(6, _)]) (.cons rfl (.nil _)) ?_
      refine cd_ret ?_
      refine rt_tmp (.inl rfl) Try.results3 rfl ?_
      exact fun w1 sw => ⟨rfl, sw.gives (.nil _)⟩

end Go.Proofs.Ytcglackbpfnfdaa

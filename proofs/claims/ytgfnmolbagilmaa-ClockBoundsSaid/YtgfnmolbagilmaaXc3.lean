/- The statement's proof, part 3: what its walks and its plain laws need. -/
import Derived.Test.YtgfnmolbagilmaaRows
import Derived.Tactics
import Derived.Deep.Quiet
import Derived.StillTail
import Derived.Laws.World
import Derived.Laws.Sem
import Derived.Laws.Entries
import Derived.Below
import Derived.Deep.LoopGhost
import Derived.Laws.BytesString
import Derived.Laws.IdiomStrings
import Derived.KernelRfl
import Derived.Carry
import Derived.OpenShut
import Derived.ProofKit
import Derived.ChangeSame
import Derived.HandedShaped
import Derived.SizedLaws
import Derived.Test.YtgfnmolbagilmaaProg
import Derived.Laws.Strings
import Derived.Test.YtgfnmolbagilmaaXc2
namespace Go.Proofs.Ytgfnmolbagilmaa
open Go Go.RowKit Fw
open Sha
open Ots
set_option linter.unusedVariables false
set_option linter.unusedSimpArgs false
set_option maxRecDepth 20000 in
set_option maxHeartbeats 1000000 in
theorem walk_any (h0 : List Int) (c f t : Int) (w : World) (hl : h0.length = 32) (hf : f ≤ 9223372036854775807) : Calls Try.prog 111 #[.agg (ints .u8 (h0)).toArray, .int .i64 c, .int .i64 f, .int .i64 t] w (PostV w (.agg (ints .u8 (walk h0 c f t)).toArray)) := by
  refine calls_at (vs := [.agg (ints .u8 (h0)).toArray, .int .i64 c, .int .i64 f, .int .i64 t]) (X := []) (H := []) (F := []) 27 Try.func111 rfl rfl rfl (Sat.start0 w) ?_
  refine cd_seq ?_
  refine cd_region ?_
  refine st_box (h := 4) rfl rfl rfl rfl (fun b4 => ?_)
  refine st_alloc (h := 8) ty55 rfl rfl rfl (fun b8 => ?_)
  refine op_nil ?_
  refine ax_then ?_
  refine At.regs (L' := [(1, _), (2, _), (3, _), (4, _), (8, _)]) (.cons rfl (.cons rfl (.cons rfl (.cons rfl (.cons rfl (.nil _)))))) ?_
  refine cd_seq ?_
  refine cd_seq ?_
  refine cd_region ?_
  refine st (ev_move rfl) rfl rfl rfl ?_
  refine st (ev_max2 rfl rfl) rfl rfl rfl ?_
  obtain ⟨a, ha⟩ : ∃ a : Nat, max f 0 = (a : Int) := ⟨(max f 0).toNat, (Int.toNat_of_nonneg (by omega)).symm⟩
  refine at_eq (i := 11) (v' := .int .i64 ((a + 0 : Nat) : Int)) rfl (by rw [ha]; rfl) ?_
  refine st (ev_assign rfl) rfl rfl rfl ?_
  refine op_nil ?_
  refine ax_then ?_
  refine At.regs (L' := [(1, _), (3, _), (4, _), (8, _), (9, _)]) (.cons rfl (.cons rfl (.cons rfl (.cons rfl (.cons rfl (.nil _)))))) ?_
  refine cd_block ?_
  refine cd_loop (ι := Nat) (fun k => k ≤ (min t 3 - a).toNat) (fun k => (min t 3 - a).toNat - k)
      (fun k => [(1, .int .i64 c), (3, .int .i64 t), (4, .pointer (some ⟨b4, 0, none⟩)), (8, .pointer (some ⟨b8, 0, none⟩)), (9, .int .i64 ((a + k : Nat) : Int))])
      (fun k => [(4, .blk b4 (.cells (ints .u8 (way c h0 a k)).toArray 55)), (8, .blk b8 (.cells (ints .u8 (List.replicate 32 0)).toArray 55))])
      (fun k => [])
      0 (by omega) (.cons rfl (.cons rfl (.cons rfl (.cons rfl (.cons rfl (.nil _)))))) (.cons rfl (.cons rfl (.nil _))) (.nil _) (fun k hi => ?_)
  have hwl := way_len c hl a k
  have hwl1 := way_len c hl a (k + 1)
  refine cd_seq ?_
  refine cd_seq ?_
  refine cd_region ?_
  refine st (ev_move rfl) rfl rfl rfl ?_
  refine st (ev_move rfl) rfl rfl rfl ?_
  refine st (ev_min2 rfl rfl) rfl rfl rfl ?_
  refine st (ev_lss rfl rfl) rfl rfl rfl ?_
  refine op_nil ?_
  refine ax_then ?_
  refine At.regs (L' := [(1, _), (3, _), (4, _), (8, _), (9, _), (12, _), (13, _), (14, _), (15, _)]) (.cons rfl (.cons rfl (.cons rfl (.cons rfl (.cons rfl (.cons rfl (.cons rfl (.cons rfl (.cons rfl (.nil _)))))))))) ?_
  refine cd_if rfl (fun hc15 => ?_) (fun hc15 => ?_)
  ·
    refine cd_skip ?_
    refine ax_then ?_
    refine At.regs (L' := [(1, _), (3, _), (4, _), (8, _), (9, _), (12, _), (13, _), (14, _), (15, _)]) (.cons rfl (.cons rfl (.cons rfl (.cons rfl (.cons rfl (.cons rfl (.cons rfl (.cons rfl (.cons rfl (.nil _)))))))))) ?_
    refine cd_seq ?_
    refine cd_block ?_
    refine cd_region ?_
    refine st (ev_move rfl) rfl rfl rfl ?_
    refine st (ev_conv Try.underlying3 Try.underlying5 rfl) rfl rfl rfl ?_
    refine st (ev_move rfl) rfl rfl rfl ?_
    refine st (ev_conv Try.underlying3 Try.underlying5 rfl) rfl rfl rfl ?_
    refine st_bsi (h := 22) (xs := [_, _, _]) Try.underlying28 ty5 (by decide) rfl rfl (by decide) rfl rfl (fun b22 => ?_)
    refine st (ev_slice_arr_all Try.underlying55 ty5 rfl) rfl rfl rfl ?_
    refine st_appendi (h := 22) Try.underlying28 Try.underlying28 ty5 rfl rfl rfl rfl (fun w1 sw => rd_blk_all sw (h := 4) rfl (by first | omega | (simp only [List.length_append, List.length_cons, List.length_nil, List.length_set, List.length_replicate, List.length_take, List.length_drop, ints_length, wr_length, sha_len, way_len _ (by assumption), secret_len, digits_len] <;> omega) | rfl)) (by first | omega | (simp only [List.length_append, List.length_cons, List.length_nil, List.length_set, List.length_replicate, List.length_take, List.length_drop, ints_length, wr_length, sha_len, way_len _ (by assumption), secret_len, digits_len] <;> omega)) (by decide) rfl rfl (fun v24 => ?_)
    refine st_callv has107 rfl (fun w1 sw => sum_any v24 ([1, IntKind.u8.wrap c, IntKind.u8.wrap ((a + k : Nat) : Int)] ++ way c h0 a k) w1 (by simp only [List.length_append, List.length_cons, List.length_nil, hwl]; omega) (sw.own_rd (h := 22) rfl)) rfl rfl ?_
    refine at_eq (i := 25) (v' := .agg (ints .u8 (way c h0 a (k + 1))).toArray) rfl rfl ?_
    refine st_store_all 4 ty55 rfl rfl rfl rfl (by first | omega | (simp only [List.length_append, List.length_cons, List.length_nil, List.length_set, List.length_replicate, List.length_take, List.length_drop, ints_length, wr_length, sha_len, way_len _ (by assumption), secret_len, digits_len] <;> omega) | rfl) (ints_one _ _) (by first | omega | (simp only [List.length_append, List.length_cons, List.length_nil, List.length_set, List.length_replicate, List.length_take, List.length_drop, ints_length, wr_length, sha_len, way_len _ (by assumption), secret_len, digits_len] <;> omega) | rfl) rfl ?_
    refine op_nil ?_
    refine ax_block ?_
    refine ax_then ?_
    refine At.regs (L' := [(1, _), (3, _), (4, _), (8, _), (9, _), (12, _), (13, _), (14, _), (15, _), (18, _), (19, _), (20, _), (21, _), (22, _), (23, _), (24, _), (25, _)]) (.cons rfl (.cons rfl (.cons rfl (.cons rfl (.cons rfl (.cons rfl (.cons rfl (.cons rfl (.cons rfl (.cons rfl (.cons rfl (.cons rfl (.cons rfl (.cons rfl (.cons rfl (.cons rfl (.cons rfl (.nil _)))))))))))))))))) ?_
    refine cd_region ?_
    refine st (ev_move rfl) rfl rfl rfl ?_
    refine st (ev_add64 rfl rfl (by omega) (by omega)) rfl rfl rfl ?_
    refine st (ev_assign rfl) rfl rfl rfl ?_
    refine op_nil ?_
    refine ax_eq (i := 9) (v' := .int .i64 ((a + (k + 1) : Nat) : Int)) rfl (by congr 1) ?_
    exact at_again (k + 1) (by omega) (by omega) (.cons rfl (.cons rfl (.cons rfl (.cons rfl (.cons rfl (.nil _)))))) (.cons rfl (.cons rfl (.nil _))) (.nil _)
  ·
    obtain rfl : k = (min t 3 - a).toNat := by omega
    have hwk : way c h0 a (min t 3 - a).toNat = walk h0 c f t := by rw [walk, ha]; rfl
    refine at_heq (i := 4) (v' := .blk b4 (.cells (ints .u8 (walk h0 c f t)).toArray 55)) rfl (by rw [hwk]) ?_
    have hwl2 := walk_len c f t hl
    refine cd_exit ?_
    refine ax_then_exit ?_
    refine ax_then_exit ?_
    refine ax_block_hit ?_
    refine ax_then ?_
    refine At.regs (L' := [(4, _), (8, _)]) (.cons rfl (.cons rfl (.nil _))) ?_
    refine cd_seq ?_
    refine cd_region ?_
    refine st (ld_blk_all (h := 4) ty55 rfl rfl rfl (by first | omega | (simp only [List.length_append, List.length_cons, List.length_nil, List.length_set, List.length_replicate, List.length_take, List.length_drop, ints_length, wr_length, sha_len, way_len _ (by assumption), secret_len, digits_len] <;> omega) | rfl)) rfl rfl rfl ?_
    refine st_store_all 8 ty55 rfl rfl rfl rfl (by first | omega | (simp only [List.length_append, List.length_cons, List.length_nil, List.length_set, List.length_replicate, List.length_take, List.length_drop, ints_length, wr_length, sha_len, way_len _ (by assumption), secret_len, digits_len] <;> omega) | rfl) (ints_one _ _) (by first | omega | (simp only [List.length_append, List.length_cons, List.length_nil, List.length_set, List.length_replicate, List.length_take, List.length_drop, ints_length, wr_length, sha_len, way_len _ (by assumption), secret_len, digits_len] <;> omega) | rfl) rfl ?_
    refine op_nil ?_
    refine ax_then ?_
    refine At.regs (L' := [(8, _)]) (.cons rfl (.nil _)) ?_
    refine cd_ret ?_
    refine rt_cell (h0 := 8) (.inl rfl) Try.results111 ty55 rfl rfl rfl (by first | omega | (simp only [List.length_append, List.length_cons, List.length_nil, List.length_set, List.length_replicate, List.length_take, List.length_drop, ints_length, wr_length, sha_len, way_len _ (by assumption), secret_len, digits_len] <;> omega) | rfl) ?_
    exact fun w1 sw => ⟨rfl, sw.gives (.nil _)⟩
set_option maxRecDepth 20000 in
set_option maxHeartbeats 1000000 in
theorem rwalk_any (h0 : List Int) (c f t : Int) (w : World) (hl : h0.length = 32) (hf : f ≤ 9223372036854775807) : Calls Try.prog 95 #[.agg (ints .u8 (h0)).toArray, .int .i64 c, .int .i64 f, .int .i64 t] w (PostV w (.agg (ints .u8 (walk h0 c f t)).toArray)) := by
  refine calls_at (vs := [.agg (ints .u8 (h0)).toArray, .int .i64 c, .int .i64 f, .int .i64 t]) (X := []) (H := []) (F := []) 27 Try.func95 rfl rfl rfl (Sat.start0 w) ?_
  refine cd_seq ?_
  refine cd_region ?_
  refine st_box (h := 4) rfl rfl rfl rfl (fun b4 => ?_)
  refine st_alloc (h := 8) ty55 rfl rfl rfl (fun b8 => ?_)
  refine op_nil ?_
  refine ax_then ?_
  refine At.regs (L' := [(1, _), (2, _), (3, _), (4, _), (8, _)]) (.cons rfl (.cons rfl (.cons rfl (.cons rfl (.cons rfl (.nil _)))))) ?_
  refine cd_seq ?_
  refine cd_seq ?_
  refine cd_region ?_
  refine st (ev_move rfl) rfl rfl rfl ?_
  refine st (ev_max2 rfl rfl) rfl rfl rfl ?_
  obtain ⟨a, ha⟩ : ∃ a : Nat, max f 0 = (a : Int) := ⟨(max f 0).toNat, (Int.toNat_of_nonneg (by omega)).symm⟩
  refine at_eq (i := 11) (v' := .int .i64 ((a + 0 : Nat) : Int)) rfl (by rw [ha]; rfl) ?_
  refine st (ev_assign rfl) rfl rfl rfl ?_
  refine op_nil ?_
  refine ax_then ?_
  refine At.regs (L' := [(1, _), (3, _), (4, _), (8, _), (9, _)]) (.cons rfl (.cons rfl (.cons rfl (.cons rfl (.cons rfl (.nil _)))))) ?_
  refine cd_block ?_
  refine cd_loop (ι := Nat) (fun k => k ≤ (min t 3 - a).toNat) (fun k => (min t 3 - a).toNat - k)
      (fun k => [(1, .int .i64 c), (3, .int .i64 t), (4, .pointer (some ⟨b4, 0, none⟩)), (8, .pointer (some ⟨b8, 0, none⟩)), (9, .int .i64 ((a + k : Nat) : Int))])
      (fun k => [(4, .blk b4 (.cells (ints .u8 (way c h0 a k)).toArray 55)), (8, .blk b8 (.cells (ints .u8 (List.replicate 32 0)).toArray 55))])
      (fun k => [])
      0 (by omega) (.cons rfl (.cons rfl (.cons rfl (.cons rfl (.cons rfl (.nil _)))))) (.cons rfl (.cons rfl (.nil _))) (.nil _) (fun k hi => ?_)
  have hwl := way_len c hl a k
  have hwl1 := way_len c hl a (k + 1)
  refine cd_seq ?_
  refine cd_seq ?_
  refine cd_region ?_
  refine st (ev_move rfl) rfl rfl rfl ?_
  refine st (ev_move rfl) rfl rfl rfl ?_
  refine st (ev_min2 rfl rfl) rfl rfl rfl ?_
  refine st (ev_lss rfl rfl) rfl rfl rfl ?_
  refine op_nil ?_
  refine ax_then ?_
  refine At.regs (L' := [(1, _), (3, _), (4, _), (8, _), (9, _), (12, _), (13, _), (14, _), (15, _)]) (.cons rfl (.cons rfl (.cons rfl (.cons rfl (.cons rfl (.cons rfl (.cons rfl (.cons rfl (.cons rfl (.nil _)))))))))) ?_
  refine cd_if rfl (fun hc15 => ?_) (fun hc15 => ?_)
  ·
    refine cd_skip ?_
    refine ax_then ?_
    refine At.regs (L' := [(1, _), (3, _), (4, _), (8, _), (9, _), (12, _), (13, _), (14, _), (15, _)]) (.cons rfl (.cons rfl (.cons rfl (.cons rfl (.cons rfl (.cons rfl (.cons rfl (.cons rfl (.cons rfl (.nil _)))))))))) ?_
    refine cd_seq ?_
    refine cd_block ?_
    refine cd_region ?_
    refine st (ev_move rfl) rfl rfl rfl ?_
    refine st (ev_conv Try.underlying3 Try.underlying5 rfl) rfl rfl rfl ?_
    refine st (ev_move rfl) rfl rfl rfl ?_
    refine st (ev_conv Try.underlying3 Try.underlying5 rfl) rfl rfl rfl ?_
    refine st_bsi (h := 22) (xs := [_, _, _]) Try.underlying28 ty5 (by decide) rfl rfl (by decide) rfl rfl (fun b22 => ?_)
    refine st (ev_slice_arr_all Try.underlying55 ty5 rfl) rfl rfl rfl ?_
    refine st_appendi (h := 22) Try.underlying28 Try.underlying28 ty5 rfl rfl rfl rfl (fun w1 sw => rd_blk_all sw (h := 4) rfl (by first | omega | (simp only [List.length_append, List.length_cons, List.length_nil, List.length_set, List.length_replicate, List.length_take, List.length_drop, ints_length, wr_length, sha_len, way_len _ (by assumption), secret_len, digits_len] <;> omega) | rfl)) (by first | omega | (simp only [List.length_append, List.length_cons, List.length_nil, List.length_set, List.length_replicate, List.length_take, List.length_drop, ints_length, wr_length, sha_len, way_len _ (by assumption), secret_len, digits_len] <;> omega)) (by decide) rfl rfl (fun v24 => ?_)
    refine st_callv has98 rfl (fun w1 sw => rsum_any v24 ([1, IntKind.u8.wrap c, IntKind.u8.wrap ((a + k : Nat) : Int)] ++ way c h0 a k) w1 (by simp only [List.length_append, List.length_cons, List.length_nil, hwl]; omega) (sw.own_rd (h := 22) rfl)) rfl rfl ?_
    refine at_eq (i := 25) (v' := .agg (ints .u8 (way c h0 a (k + 1))).toArray) rfl rfl ?_
    refine st_store_all 4 ty55 rfl rfl rfl rfl (by first | omega | (simp only [List.length_append, List.length_cons, List.length_nil, List.length_set, List.length_replicate, List.length_take, List.length_drop, ints_length, wr_length, sha_len, way_len _ (by assumption), secret_len, digits_len] <;> omega) | rfl) (ints_one _ _) (by first | omega | (simp only [List.length_append, List.length_cons, List.length_nil, List.length_set, List.length_replicate, List.length_take, List.length_drop, ints_length, wr_length, sha_len, way_len _ (by assumption), secret_len, digits_len] <;> omega) | rfl) rfl ?_
    refine op_nil ?_
    refine ax_block ?_
    refine ax_then ?_
    refine At.regs (L' := [(1, _), (3, _), (4, _), (8, _), (9, _), (12, _), (13, _), (14, _), (15, _), (18, _), (19, _), (20, _), (21, _), (22, _), (23, _), (24, _), (25, _)]) (.cons rfl (.cons rfl (.cons rfl (.cons rfl (.cons rfl (.cons rfl (.cons rfl (.cons rfl (.cons rfl (.cons rfl (.cons rfl (.cons rfl (.cons rfl (.cons rfl (.cons rfl (.cons rfl (.cons rfl (.nil _)))))))))))))))))) ?_
    refine cd_region ?_
    refine st (ev_move rfl) rfl rfl rfl ?_
    refine st (ev_add64 rfl rfl (by omega) (by omega)) rfl rfl rfl ?_
    refine st (ev_assign rfl) rfl rfl rfl ?_
    refine op_nil ?_
    refine ax_eq (i := 9) (v' := .int .i64 ((a + (k + 1) : Nat) : Int)) rfl (by congr 1) ?_
    exact at_again (k + 1) (by omega) (by omega) (.cons rfl (.cons rfl (.cons rfl (.cons rfl (.cons rfl (.nil _)))))) (.cons rfl (.cons rfl (.nil _))) (.nil _)
  ·
    obtain rfl : k = (min t 3 - a).toNat := by omega
    have hwk : way c h0 a (min t 3 - a).toNat = walk h0 c f t := by rw [walk, ha]; rfl
    refine at_heq (i := 4) (v' := .blk b4 (.cells (ints .u8 (walk h0 c f t)).toArray 55)) rfl (by rw [hwk]) ?_
    have hwl2 := walk_len c f t hl
    refine cd_exit ?_
    refine ax_then_exit ?_
    refine ax_then_exit ?_
    refine ax_block_hit ?_
    refine ax_then ?_
    refine At.regs (L' := [(4, _), (8, _)]) (.cons rfl (.cons rfl (.nil _))) ?_
    refine cd_seq ?_
    refine cd_region ?_
    refine st (ld_blk_all (h := 4) ty55 rfl rfl rfl (by first | omega | (simp only [List.length_append, List.length_cons, List.length_nil, List.length_set, List.length_replicate, List.length_take, List.length_drop, ints_length, wr_length, sha_len, way_len _ (by assumption), secret_len, digits_len] <;> omega) | rfl)) rfl rfl rfl ?_
    refine st_store_all 8 ty55 rfl rfl rfl rfl (by first | omega | (simp only [List.length_append, List.length_cons, List.length_nil, List.length_set, List.length_replicate, List.length_take, List.length_drop, ints_length, wr_length, sha_len, way_len _ (by assumption), secret_len, digits_len] <;> omega) | rfl) (ints_one _ _) (by first | omega | (simp only [List.length_append, List.length_cons, List.length_nil, List.length_set, List.length_replicate, List.length_take, List.length_drop, ints_length, wr_length, sha_len, way_len _ (by assumption), secret_len, digits_len] <;> omega) | rfl) rfl ?_
    refine op_nil ?_
    refine ax_then ?_
    refine At.regs (L' := [(8, _)]) (.cons rfl (.nil _)) ?_
    refine cd_ret ?_
    refine rt_cell (h0 := 8) (.inl rfl) Try.results95 ty55 rfl rfl rfl (by first | omega | (simp only [List.length_append, List.length_cons, List.length_nil, List.length_set, List.length_replicate, List.length_take, List.length_drop, ints_length, wr_length, sha_len, way_len _ (by assumption), secret_len, digits_len] <;> omega) | rfl) ?_
    exact fun w1 sw => ⟨rfl, sw.gives (.nil _)⟩
set_option maxRecDepth 20000 in
set_option maxHeartbeats 1000000 in
theorem secret_any (s : List Int) (l c : Int) (w : World) (hl : s.length = 32) : Calls Try.prog 112 #[.agg (ints .u8 (s)).toArray, .int .i64 l, .int .i64 c] w (PostV w (.agg (ints .u8 (secret s l c)).toArray)) := by
  refine calls_at (vs := [.agg (ints .u8 (s)).toArray, .int .i64 l, .int .i64 c]) (X := []) (H := []) (F := []) 17 Try.func112 rfl rfl rfl (Sat.start0 w) ?_
  refine cd_seq ?_
  refine cd_region ?_
  refine st_box (h := 3) rfl rfl rfl rfl (fun b3 => ?_)
  refine st_alloc (h := 6) ty55 rfl rfl rfl (fun b6 => ?_)
  refine op_nil ?_
  refine ax_then ?_
  refine At.regs (L' := [(1, _), (2, _), (3, _), (6, _)]) (.cons rfl (.cons rfl (.cons rfl (.cons rfl (.nil _))))) ?_
  refine cd_seq ?_
  refine cd_region ?_
  refine st_bsi (h := 7) (xs := [_]) Try.underlying28 ty5 (by decide) rfl rfl (by decide) rfl rfl (fun b7 => ?_)
  refine st (ev_slice_arr_all Try.underlying55 ty5 rfl) rfl rfl rfl ?_
  refine st_appendi (h := 7) Try.underlying28 Try.underlying28 ty5 rfl rfl rfl rfl (fun w1 sw => rd_blk_all sw (h := 3) rfl (by first | omega | (simp only [List.length_append, List.length_cons, List.length_nil, List.length_set, List.length_replicate, List.length_take, List.length_drop, ints_length, wr_length, sha_len, way_len _ (by assumption), secret_len, digits_len] <;> omega) | rfl)) (by first | omega | (simp only [List.length_append, List.length_cons, List.length_nil, List.length_set, List.length_replicate, List.length_take, List.length_drop, ints_length, wr_length, sha_len, way_len _ (by assumption), secret_len, digits_len] <;> omega)) (by decide) rfl rfl (fun v9 => ?_)
  refine st (ev_move rfl) rfl rfl rfl ?_
  refine st (ev_conv Try.underlying3 Try.underlying5 rfl) rfl rfl rfl ?_
  refine st (ev_move rfl) rfl rfl rfl ?_
  refine st (ev_conv Try.underlying3 Try.underlying5 rfl) rfl rfl rfl ?_
  refine st_bsi (h := 14) (xs := [_, _]) Try.underlying28 ty5 (by decide) rfl rfl (by decide) rfl rfl (fun b14 => ?_)
  refine st_appendi (h := 7) Try.underlying28 Try.underlying28 ty5 rfl rfl rfl rfl (fun w1 sw => sw.own_rd (h := 14) rfl) (by first | omega | (simp only [List.length_append, List.length_cons, List.length_nil, List.length_set, List.length_replicate, List.length_take, List.length_drop, ints_length, wr_length, sha_len, way_len _ (by assumption), secret_len, digits_len] <;> omega)) (by decide) rfl rfl (fun v15 => ?_)
  refine st_callv has107 rfl (fun w1 sw => sum_any v15 ([0] ++ s ++ [IntKind.u8.wrap l, IntKind.u8.wrap c]) w1 (by simp only [List.length_append, List.length_cons, List.length_nil]; omega) (sw.own_rd (h := 7) rfl)) rfl rfl ?_
  refine at_eq (i := 16) (v' := .agg (ints .u8 (secret s l c)).toArray) rfl rfl ?_
  have hsl := secret_len s l c
  refine st_store_all 6 ty55 rfl rfl rfl rfl (by first | omega | (simp only [List.length_append, List.length_cons, List.length_nil, List.length_set, List.length_replicate, List.length_take, List.length_drop, ints_length, wr_length, sha_len, way_len _ (by assumption), secret_len, digits_len] <;> omega) | rfl) (ints_one _ _) (by first | omega | (simp only [List.length_append, List.length_cons, List.length_nil, List.length_set, List.length_replicate, List.length_take, List.length_drop, ints_length, wr_length, sha_len, way_len _ (by assumption), secret_len, digits_len] <;> omega) | rfl) rfl ?_
  refine op_nil ?_
  refine ax_then ?_
  refine At.regs (L' := [(6, _)]) (.cons rfl (.nil _)) ?_
  refine cd_ret ?_
  refine rt_cell (h0 := 6) (.inl rfl) Try.results112 ty55 rfl rfl rfl (by first | omega | (simp only [List.length_append, List.length_cons, List.length_nil, List.length_set, List.length_replicate, List.length_take, List.length_drop, ints_length, wr_length, sha_len, way_len _ (by assumption), secret_len, digits_len] <;> omega) | rfl) ?_
  exact fun w1 sw => ⟨rfl, sw.gives (.nil _)⟩
set_option maxRecDepth 20000 in
set_option maxHeartbeats 1000000 in
theorem rsecret_any (s : List Int) (l c : Int) (w : World) (hl : s.length = 32) : Calls Try.prog 96 #[.agg (ints .u8 (s)).toArray, .int .i64 l, .int .i64 c] w (PostV w (.agg (ints .u8 (secret s l c)).toArray)) := by
  refine calls_at (vs := [.agg (ints .u8 (s)).toArray, .int .i64 l, .int .i64 c]) (X := []) (H := []) (F := []) 19 Try.func96 rfl rfl rfl (Sat.start0 w) ?_
  refine cd_seq ?_
  refine cd_region ?_
  refine st_box (h := 3) rfl rfl rfl rfl (fun b3 => ?_)
  refine st_alloc (h := 6) ty55 rfl rfl rfl (fun b6 => ?_)
  refine op_nil ?_
  refine ax_then ?_
  refine At.regs (L' := [(1, _), (2, _), (3, _), (6, _)]) (.cons rfl (.cons rfl (.cons rfl (.cons rfl (.nil _))))) ?_
  refine cd_seq ?_
  refine cd_region ?_
  refine st_bsi (h := 8) (xs := [_]) Try.underlying28 ty5 (by decide) rfl rfl (by decide) rfl rfl (fun b8 => ?_)
  refine st (ev_slice_arr_all Try.underlying55 ty5 rfl) rfl rfl rfl ?_
  refine st_appendi (h := 8) Try.underlying28 Try.underlying28 ty5 rfl rfl rfl rfl (fun w1 sw => rd_blk_all sw (h := 3) rfl (by first | omega | (simp only [List.length_append, List.length_cons, List.length_nil, List.length_set, List.length_replicate, List.length_take, List.length_drop, ints_length, wr_length, sha_len, way_len _ (by assumption), secret_len, digits_len] <;> omega) | rfl)) (by first | omega | (simp only [List.length_append, List.length_cons, List.length_nil, List.length_set, List.length_replicate, List.length_take, List.length_drop, ints_length, wr_length, sha_len, way_len _ (by assumption), secret_len, digits_len] <;> omega)) (by decide) rfl rfl (fun v10 => ?_)
  refine st (ev_assign rfl) rfl rfl rfl ?_
  refine op_nil ?_
  refine ax_then ?_
  refine At.regs (L' := [(1, _), (2, _), (6, _), (7, _)]) (.cons rfl (.cons rfl (.cons rfl (.cons rfl (.nil _))))) ?_
  refine cd_seq ?_
  refine cd_region ?_
  refine st (ev_move rfl) rfl rfl rfl ?_
  refine st (ev_move rfl) rfl rfl rfl ?_
  refine st (ev_conv Try.underlying3 Try.underlying5 rfl) rfl rfl rfl ?_
  refine st (ev_move rfl) rfl rfl rfl ?_
  refine st (ev_conv Try.underlying3 Try.underlying5 rfl) rfl rfl rfl ?_
  refine st_bsi (h := 16) (xs := [_, _]) Try.underlying28 ty5 (by decide) rfl rfl (by decide) rfl rfl (fun b16 => ?_)
  refine st_appendi (h := 8) Try.underlying28 Try.underlying28 ty5 rfl rfl rfl rfl (fun w1 sw => sw.own_rd (h := 16) rfl) (by first | omega | (simp only [List.length_append, List.length_cons, List.length_nil, List.length_set, List.length_replicate, List.length_take, List.length_drop, ints_length, wr_length, sha_len, way_len _ (by assumption), secret_len, digits_len] <;> omega)) (by decide) rfl rfl (fun v17 => ?_)
  refine st_callv has98 rfl (fun w1 sw => rsum_any v17 ([0] ++ s ++ [IntKind.u8.wrap l, IntKind.u8.wrap c]) w1 (by simp only [List.length_append, List.length_cons, List.length_nil]; omega) (sw.own_rd (h := 8) rfl)) rfl rfl ?_
  refine at_eq (i := 18) (v' := .agg (ints .u8 (secret s l c)).toArray) rfl rfl ?_
  have hsl := secret_len s l c
  refine st_store_all 6 ty55 rfl rfl rfl rfl (by first | omega | (simp only [List.length_append, List.length_cons, List.length_nil, List.length_set, List.length_replicate, List.length_take, List.length_drop, ints_length, wr_length, sha_len, way_len _ (by assumption), secret_len, digits_len] <;> omega) | rfl) (ints_one _ _) (by first | omega | (simp only [List.length_append, List.length_cons, List.length_nil, List.length_set, List.length_replicate, List.length_take, List.length_drop, ints_length, wr_length, sha_len, way_len _ (by assumption), secret_len, digits_len] <;> omega) | rfl) rfl ?_
  refine op_nil ?_
  refine ax_then ?_
  refine At.regs (L' := [(6, _)]) (.cons rfl (.nil _)) ?_
  refine cd_ret ?_
  refine rt_cell (h0 := 6) (.inl rfl) Try.results96 ty55 rfl rfl rfl (by first | omega | (simp only [List.length_append, List.length_cons, List.length_nil, List.length_set, List.length_replicate, List.length_take, List.length_drop, ints_length, wr_length, sha_len, way_len _ (by assumption), secret_len, digits_len] <;> omega) | rfl) ?_
  exact fun w1 sw => ⟨rfl, sw.gives (.nil _)⟩
theorem byt_at (m : List Int) (k : Nat) : 0 ≤ (sha m).getD k 0 ∧ (sha m).getD k 0 ≤ 255 := (sha_byt m).get
theorem lk_range (m : List Int) (j : Nat) : 0 ≤ lack (sha m) 32 / 4 ^ j ∧ lack (sha m) 32 / 4 ^ j ≤ 96 := by
  have h := lack_range (sha m) 32
  exact ⟨Int.ediv_nonneg h.1 (Int.le_of_lt (Int.pow_pos (by decide))), Int.le_trans (Int.ediv_le_self _ h.1) h.2⟩
set_option maxRecDepth 20000 in
set_option maxHeartbeats 2000000 in
theorem digits_any (p : Value) (m : List Int) (w : World) (hm : m.length ≤ 140737488352000) (h : Rd w p 1 (ints .u8 m)) : Calls Try.prog 110 #[p] w (PostV w (.agg (ints .i64 (digits m)).toArray)) := by
  refine calls_at (vs := [p]) (X := []) (H := []) (F := [(0, .sl p 1 (ints .u8 (m)))]) 44 Try.func110 rfl rfl rfl (Sat.rd0 0 h) ?_
  refine cd_seq ?_
  refine cd_region ?_
  refine st_alloc (h := 2) ty153 rfl rfl rfl (fun b2 => ?_)
  refine op_nil ?_
  refine ax_then ?_
  refine At.regs (L' := [(0, _), (2, _)]) (.cons rfl (.cons rfl (.nil _))) ?_
  refine cd_seq ?_
  refine cd_region ?_
  refine st_alloc (h := 3) ty153 rfl rfl rfl (fun b3 => ?_)
  refine op_nil ?_
  refine ax_then ?_
  refine At.regs (L' := [(0, _), (2, _), (3, _)]) (.cons rfl (.cons rfl (.cons rfl (.nil _)))) ?_
  refine cd_seq ?_
  refine cd_region ?_
  refine st (ev_move rfl) rfl rfl rfl ?_
  refine st_callv has107 rfl (fun w1 sw => sum_any p m w1 hm (sw.sl_rd (h := 0) rfl)) rfl rfl ?_
  refine st_alloc (h := 4) ty55 rfl rfl rfl (fun b4 => ?_)
  refine st_store_all 4 ty55 rfl rfl rfl rfl (by first | omega | (simp only [List.length_append, List.length_cons, List.length_nil, List.length_set, List.length_replicate, List.length_take, List.length_drop, ints_length, wr_length, sha_len, way_len _ (by assumption), secret_len, digits_len] <;> omega) | rfl) (ints_one _ _) (by first | omega | (simp only [List.length_append, List.length_cons, List.length_nil, List.length_set, List.length_replicate, List.length_take, List.length_drop, ints_length, wr_length, sha_len, way_len _ (by assumption), secret_len, digits_len] <;> omega) | rfl) rfl ?_
  refine op_nil ?_
  refine ax_then ?_
  refine At.regs (L' := [(2, _), (3, _), (4, _)]) (.cons rfl (.cons rfl (.cons rfl (.nil _)))) ?_
  refine cd_seq ?_
  refine cd_region ?_
  refine st (ev_assign rfl) rfl rfl rfl ?_
  refine op_nil ?_
  refine ax_then ?_
  refine At.regs (L' := [(2, _), (3, _), (4, _), (5, _)]) (.cons rfl (.cons rfl (.cons rfl (.cons rfl (.nil _))))) ?_
  refine cd_seq ?_
  refine cd_seq ?_
  refine cd_region ?_
  refine st (ev_move rfl) rfl rfl rfl ?_
  refine op_nil ?_
  refine ax_then ?_
  refine At.regs (L' := [(2, _), (3, _), (4, _), (5, _), (10, _)]) (.cons rfl (.cons rfl (.cons rfl (.cons rfl (.cons rfl (.nil _)))))) ?_
  refine cd_block ?_
  have hsl := sha_len m
  refine cd_loop (ι := Nat) (fun i => i ≤ 32) (fun i => 32 - i)
      (fun i => [(2, .pointer (some ⟨b2, 0, none⟩)), (3, .pointer (some ⟨b3, 0, none⟩)), (4, .pointer (some ⟨b4, 0, none⟩)), (5, .int .i64 (lack (sha m) i)), (10, .int .i64 (i : Int))])
      (fun i => [(2, .blk b2 (.cells (ints .i64 (List.replicate 36 0)).toArray 153)), (3, .blk b3 (.cells (ints .i64 (d1 (sha m) (i))).toArray 153)), (4, .blk b4 (.cells (ints .u8 (sha m)).toArray 55))])
      (fun i => [])
      0 (by omega) (.cons rfl (.cons rfl (.cons rfl (.cons rfl (.cons rfl (.nil _)))))) (.cons rfl (.cons rfl (.cons rfl (.nil _)))) (.nil _) (fun i hi => ?_)
  have hlr := lack_range (sha m) i
  have hdl := d1_len (sha m) i (by omega)
  have hb := byt_at m (i / 4)
  have hsd := shr_dg (i := i) hb.1 hb.2
  have hdr := dg_range (sha m) i
  have hsl := sha_len m
  have e4 : 0 + ((i : Int) / 4).toNat * 1 = i / 4 := by omega
  have e0 : 0 + (i : Int).toNat * 1 = i := by omega
  refine cd_seq ?_
  refine cd_region ?_
  refine st (ev_lss rfl rfl) rfl rfl rfl ?_
  refine op_nil ?_
  refine ax_then ?_
  refine At.regs (L' := [(2, _), (3, _), (4, _), (5, _), (10, _), (11, _)]) (.cons rfl (.cons rfl (.cons rfl (.cons rfl (.cons rfl (.cons rfl (.nil _))))))) ?_
  refine cd_seq ?_
  refine cd_if rfl (fun hc11 => ?_) (fun hc11 => ?_)
  ·
    refine cd_skip ?_
    refine ax_then ?_
    refine At.regs (L' := [(2, _), (3, _), (4, _), (5, _), (10, _), (11, _)]) (.cons rfl (.cons rfl (.cons rfl (.cons rfl (.cons rfl (.cons rfl (.nil _))))))) ?_
    refine cd_seq ?_
    refine cd_block ?_
    refine cd_seq ?_
    refine cd_region ?_
    refine st (ev_move rfl) rfl rfl rfl ?_
    refine st (ev_assign rfl) rfl rfl rfl ?_
    refine op_nil ?_
    refine ax_then ?_
    refine At.regs (L' := [(2, _), (3, _), (4, _), (5, _), (6, _), (10, _), (11, _), (12, _)]) (.cons rfl (.cons rfl (.cons rfl (.cons rfl (.cons rfl (.cons rfl (.cons rfl (.cons rfl (.nil _))))))))) ?_
    refine cd_seq ?_
    refine cd_region ?_
    refine st (ev_move rfl) rfl rfl rfl ?_
    refine st (ev_move rfl) rfl rfl rfl ?_
    refine st (ev_quo64 rfl rfl (by omega) (by omega) (by omega)) rfl rfl rfl ?_
    refine st (ev_indexAddr_arr Try.underlying55 ty5 rfl rfl (by omega) (by omega)) rfl rfl rfl ?_
    refine st (ld_blk1 (h := 4) ty5 rfl rfl rfl (ints_get _ _ _ (by first | omega | (simp only [List.length_append, List.length_cons, List.length_nil, List.length_set, List.length_replicate, List.length_take, List.length_drop, ints_length, wr_length, sha_len, way_len _ (by assumption), secret_len, digits_len] <;> omega) | rfl))) rfl rfl rfl ?_
    refine at_eq (i := 17) (v' := .int .u8 ((sha m).getD (i / 4) 0)) rfl (by rw [e4]) ?_
    refine st (ev_move rfl) rfl rfl rfl ?_
    refine st (ev_rem64 rfl rfl (by omega) (by omega)) rfl rfl rfl ?_
    refine st (ev_mul64 rfl rfl (by omega) (by omega)) rfl rfl rfl ?_
    refine st (ev_sub64 rfl rfl (by omega) (by omega)) rfl rfl rfl ?_
    refine st (ev_shr rfl rfl (by omega)) rfl rfl rfl ?_
    refine at_eq (i := 22) (v' := .int .u8 ((sha m).getD (i / 4) 0 / 2 ^ (6 - 2 * (i % 4)))) rfl (by rw [hsd.1]) ?_
    refine st (ev_conv64 Try.underlying5 Try.underlying3 rfl (by omega) (by omega)) rfl rfl rfl ?_
    refine st (ev_and rfl rfl) rfl rfl rfl ?_
    refine at_eq (i := 24) (v' := .int .i64 (dg (sha m) i)) rfl (by rw [and3 hsd.2.1 (by omega)]; rfl) ?_
    refine st (ev_indexAddr_arr Try.underlying153 ty3 rfl rfl (by omega) (by omega)) rfl rfl rfl ?_
    refine st_store1 3 ty3 rfl rfl rfl rfl (by first | omega | (simp only [List.length_append, List.length_cons, List.length_nil, List.length_set, List.length_replicate, List.length_take, List.length_drop, ints_length, wr_length, sha_len, way_len _ (by assumption), secret_len, digits_len] <;> omega) | rfl) rfl ?_
    refine at_heq (i := 3) rfl (by rw [ints_set]) ?_
    have hdl1 := d1_len (sha m) (i + 1) (by omega)
    refine at_heq (i := 3) (v' := .blk b3 (.cells (ints .i64 (d1 (sha m) (i + 1))).toArray 153)) rfl (by rw [e0, d1_set _ _ (by omega)]) ?_
    refine op_nil ?_
    refine ax_then ?_
    refine At.regs (L' := [(2, _), (3, _), (4, _), (5, _), (6, _), (10, _), (11, _), (12, _), (13, _), (14, _), (15, _), (16, _), (17, _), (18, _), (19, _), (20, _), (21, _), (22, _), (23, _), (24, _), (25, _)]) (.cons rfl (.cons rfl (.cons rfl (.cons rfl (.cons rfl (.cons rfl (.cons rfl (.cons rfl (.cons rfl (.cons rfl (.cons rfl (.cons rfl (.cons rfl (.cons rfl (.cons rfl (.cons rfl (.cons rfl (.cons rfl (.cons rfl (.cons rfl (.cons rfl (.nil _)))))))))))))))))))))) ?_
    refine cd_region ?_
    refine st (ev_move rfl) rfl rfl rfl ?_
    refine st (ev_move rfl) rfl rfl rfl ?_
    refine st (ev_indexAddr_arr Try.underlying153 ty3 rfl rfl (by omega) (by omega)) rfl rfl rfl ?_
    refine st (ld_blk1 (h := 3) ty3 rfl rfl rfl (ints_get _ _ _ (by first | omega | (simp only [List.length_append, List.length_cons, List.length_nil, List.length_set, List.length_replicate, List.length_take, List.length_drop, ints_length, wr_length, sha_len, way_len _ (by assumption), secret_len, digits_len] <;> omega) | rfl))) rfl rfl rfl ?_
    refine at_eq (i := 29) (v' := .int .i64 (dg (sha m) i)) rfl (by rw [e0, d1_get _ _ (by omega)]) ?_
    refine st (ev_sub64 rfl rfl (by omega) (by omega)) rfl rfl rfl ?_
    refine st (ev_add64 rfl rfl (by omega) (by omega)) rfl rfl rfl ?_
    refine st (ev_assign rfl) rfl rfl rfl ?_
    refine op_nil ?_
    refine ax_block ?_
    refine ax_then ?_
    refine At.regs (L' := [(2, _), (3, _), (4, _), (5, _), (6, _), (10, _), (11, _), (12, _), (13, _), (14, _), (15, _), (16, _), (17, _), (18, _), (19, _), (20, _), (21, _), (22, _), (23, _), (24, _), (25, _), (26, _), (27, _), (28, _), (29, _), (30, _), (31, _)]) (.cons rfl (.cons rfl (.cons rfl (.cons rfl (.cons rfl (.cons rfl (.cons rfl (.cons rfl (.cons rfl (.cons rfl (.cons rfl (.cons rfl (.cons rfl (.cons rfl (.cons rfl (.cons rfl (.cons rfl (.cons rfl (.cons rfl (.cons rfl (.cons rfl (.cons rfl (.cons rfl (.cons rfl (.cons rfl (.cons rfl (.cons rfl (.nil _)))))))))))))))))))))))))))) ?_
    refine cd_region ?_
    refine st (ev_add64 rfl rfl (by omega) (by omega)) rfl rfl rfl ?_
    refine st (ev_move rfl) rfl rfl rfl ?_
    refine op_nil ?_
    refine ax_eq (i := 5) (v' := .int .i64 (lack (sha m) (i + 1))) rfl (by rw [lack]; skip) ?_
    exact at_again (i + 1) (by omega) (by omega) (.cons rfl (.cons rfl (.cons rfl (.cons rfl (.cons rfl (.nil _)))))) (.cons rfl (.cons rfl (.cons rfl (.nil _)))) (.nil _)
  ·
    obtain rfl : i = 32 := by omega
    refine cd_exit ?_
    refine ax_then_exit ?_
    refine ax_then_exit ?_
    refine ax_block_hit ?_
    refine ax_then ?_
    refine At.regs (L' := [(2, _), (3, _), (5, _)]) (.cons rfl (.cons rfl (.cons rfl (.nil _)))) ?_
    refine cd_seq ?_
    refine cd_seq ?_
    refine cd_region ?_
    refine st (ev_assign rfl) rfl rfl rfl ?_
    refine op_nil ?_
    refine ax_then ?_
    refine At.regs (L' := [(2, _), (3, _), (5, _), (7, _)]) (.cons rfl (.cons rfl (.cons rfl (.cons rfl (.nil _))))) ?_
    refine cd_block ?_
    refine at_eq (i := 5) (v' := .int .i64 (lack (sha m) 32 / 4 ^ 0)) rfl (by rw [Int.pow_zero, Int.ediv_one]) ?_
    refine at_eq (i := 7) (v' := .int .i64 ((32 + 0 : Nat) : Int)) rfl rfl ?_
    refine at_heq (i := 3) (v' := .blk b3 (.cells (ints .i64 (d2 (sha m) (0))).toArray 153)) rfl (by rw [d12]) ?_
    refine cd_loop (ι := Nat) (fun j => j ≤ 4) (fun j => 4 - j)
        (fun j => [(2, .pointer (some ⟨b2, 0, none⟩)), (3, .pointer (some ⟨b3, 0, none⟩)), (5, .int .i64 (lack (sha m) 32 / 4 ^ j)), (7, .int .i64 ((32 + j : Nat) : Int))])
        (fun j => [(2, .blk b2 (.cells (ints .i64 (List.replicate 36 0)).toArray 153)), (3, .blk b3 (.cells (ints .i64 (d2 (sha m) (j))).toArray 153))])
        (fun j => [])
        0 (by omega) (.cons rfl (.cons rfl (.cons rfl (.cons rfl (.nil _))))) (.cons rfl (.cons rfl (.nil _))) (.nil _) (fun j hi => ?_)
    have hlk := lk_range m j
    have hdl := d2_len (sha m) j (by omega)
    have e0 : 0 + ((32 + j : Nat) : Int).toNat * 1 = 32 + j := by omega
    refine cd_seq ?_
    refine cd_seq ?_
    refine cd_region ?_
    refine st (ev_move rfl) rfl rfl rfl ?_
    refine st (ev_lss rfl rfl) rfl rfl rfl ?_
    refine op_nil ?_
    refine ax_then ?_
    refine At.regs (L' := [(2, _), (3, _), (5, _), (7, _), (33, _), (34, _)]) (.cons rfl (.cons rfl (.cons rfl (.cons rfl (.cons rfl (.cons rfl (.nil _))))))) ?_
    refine cd_if rfl (fun hc34 => ?_) (fun hc34 => ?_)
    ·
      refine cd_skip ?_
      refine ax_then ?_
      refine At.regs (L' := [(2, _), (3, _), (5, _), (7, _), (33, _), (34, _)]) (.cons rfl (.cons rfl (.cons rfl (.cons rfl (.cons rfl (.cons rfl (.nil _))))))) ?_
      refine cd_seq ?_
      refine cd_block ?_
      refine cd_seq ?_
      refine cd_region ?_
      refine st (ev_move rfl) rfl rfl rfl ?_
      refine st (ev_move rfl) rfl rfl rfl ?_
      refine st (ev_and rfl rfl) rfl rfl rfl ?_
      refine at_eq (i := 39) (v' := .int .i64 (lack (sha m) 32 / 4 ^ j % 4)) rfl (by rw [and3 hlk.1 (by omega)]) ?_
      refine st (ev_indexAddr_arr Try.underlying153 ty3 rfl rfl (by omega) (by omega)) rfl rfl rfl ?_
      refine st_store1 3 ty3 rfl rfl rfl rfl (by first | omega | (simp only [List.length_append, List.length_cons, List.length_nil, List.length_set, List.length_replicate, List.length_take, List.length_drop, ints_length, wr_length, sha_len, way_len _ (by assumption), secret_len, digits_len] <;> omega) | rfl) rfl ?_
      refine at_heq (i := 3) rfl (by rw [ints_set]) ?_
      have hdl1 := d2_len (sha m) (j + 1) (by omega)
      refine at_heq (i := 3) (v' := .blk b3 (.cells (ints .i64 (d2 (sha m) (j + 1))).toArray 153)) rfl (by rw [e0, d2_set _ _ (by omega)]) ?_
      refine op_nil ?_
      refine ax_then ?_
      refine At.regs (L' := [(2, _), (3, _), (5, _), (7, _), (33, _), (34, _), (37, _), (38, _), (39, _), (40, _)]) (.cons rfl (.cons rfl (.cons rfl (.cons rfl (.cons rfl (.cons rfl (.cons rfl (.cons rfl (.cons rfl (.cons rfl (.nil _))))))))))) ?_
      refine cd_region ?_
      refine st (ev_move rfl) rfl rfl rfl ?_
      refine st (ev_shr rfl rfl (by omega)) rfl rfl rfl ?_
      refine at_eq (i := 42) (v' := .int .i64 (lack (sha m) 32 / 4 ^ (j + 1))) rfl (by rw [shr2 hlk.1, pow_step]) ?_
      refine st (ev_assign rfl) rfl rfl rfl ?_
      refine op_nil ?_
      refine ax_block ?_
      refine ax_then ?_
      refine At.regs (L' := [(2, _), (3, _), (5, _), (7, _), (33, _), (34, _), (37, _), (38, _), (39, _), (40, _), (41, _), (42, _)]) (.cons rfl (.cons rfl (.cons rfl (.cons rfl (.cons rfl (.cons rfl (.cons rfl (.cons rfl (.cons rfl (.cons rfl (.cons rfl (.cons rfl (.nil _))))))))))))) ?_
      refine cd_region ?_
      refine st (ev_move rfl) rfl rfl rfl ?_
      refine st (ev_add64 rfl rfl (by omega) (by omega)) rfl rfl rfl ?_
      refine st (ev_assign rfl) rfl rfl rfl ?_
      refine op_nil ?_
      refine ax_eq (i := 7) (v' := .int .i64 ((32 + (j + 1) : Nat) : Int)) rfl (by congr 1) ?_
      exact at_again (j + 1) (by omega) (by omega) (.cons rfl (.cons rfl (.cons rfl (.cons rfl (.nil _))))) (.cons rfl (.cons rfl (.nil _))) (.nil _)
    ·
      obtain rfl : j = 4 := by omega
      have hdg := digits_len m
      refine at_heq (i := 3) (v' := .blk b3 (.cells (ints .i64 (digits m)).toArray 153)) rfl rfl ?_
      refine cd_exit ?_
      refine ax_then_exit ?_
      refine ax_then_exit ?_
      refine ax_block_hit ?_
      refine ax_then ?_
      refine At.regs (L' := [(2, _), (3, _)]) (.cons rfl (.cons rfl (.nil _))) ?_
      refine cd_seq ?_
      refine cd_region ?_
      refine st (ld_blk_all (h := 3) ty153 rfl rfl rfl (by first | omega | (simp only [List.length_append, List.length_cons, List.length_nil, List.length_set, List.length_replicate, List.length_take, List.length_drop, ints_length, wr_length, sha_len, way_len _ (by assumption), secret_len, digits_len] <;> omega) | rfl)) rfl rfl rfl ?_
      refine st_store_all 2 ty153 rfl rfl rfl rfl (by first | omega | (simp only [List.length_append, List.length_cons, List.length_nil, List.length_set, List.length_replicate, List.length_take, List.length_drop, ints_length, wr_length, sha_len, way_len _ (by assumption), secret_len, digits_len] <;> omega) | rfl) (ints_one _ _) (by first | omega | (simp only [List.length_append, List.length_cons, List.length_nil, List.length_set, List.length_replicate, List.length_take, List.length_drop, ints_length, wr_length, sha_len, way_len _ (by assumption), secret_len, digits_len] <;> omega) | rfl) rfl ?_
      refine op_nil ?_
      refine ax_then ?_
      refine At.regs (L' := [(2, _)]) (.cons rfl (.nil _)) ?_
      refine cd_ret ?_
      refine rt_cell (h0 := 2) (.inl rfl) Try.results110 ty153 rfl rfl rfl (by first | omega | (simp only [List.length_append, List.length_cons, List.length_nil, List.length_set, List.length_replicate, List.length_take, List.length_drop, ints_length, wr_length, sha_len, way_len _ (by assumption), secret_len, digits_len] <;> omega) | rfl) ?_
      exact fun w1 sw => ⟨rfl, sw.gives (.nil _)⟩
set_option maxRecDepth 20000 in
set_option maxHeartbeats 2000000 in
theorem rdigits_any (p : Value) (m : List Int) (w : World) (hm : m.length ≤ 140737488352000) (h : Rd w p 1 (ints .u8 m)) : Calls Try.prog 104 #[p] w (PostV w (.agg (ints .i64 (digits m)).toArray)) := by
  refine calls_at (vs := [p]) (X := []) (H := []) (F := [(0, .sl p 1 (ints .u8 (m)))]) 45 Try.func104 rfl rfl rfl (Sat.rd0 0 h) ?_
  refine cd_seq ?_
  refine cd_region ?_
  refine st_alloc (h := 2) ty153 rfl rfl rfl (fun b2 => ?_)
  refine op_nil ?_
  refine ax_then ?_
  refine At.regs (L' := [(0, _), (2, _)]) (.cons rfl (.cons rfl (.nil _))) ?_
  refine cd_seq ?_
  refine cd_region ?_
  refine st_alloc (h := 3) ty153 rfl rfl rfl (fun b3 => ?_)
  refine op_nil ?_
  refine ax_then ?_
  refine At.regs (L' := [(0, _), (2, _), (3, _)]) (.cons rfl (.cons rfl (.cons rfl (.nil _)))) ?_
  refine cd_seq ?_
  refine cd_region ?_
  refine st (ev_move rfl) rfl rfl rfl ?_
  refine st_callv has98 rfl (fun w1 sw => rsum_any p m w1 hm (sw.sl_rd (h := 0) rfl)) rfl rfl ?_
  refine st_alloc (h := 4) ty55 rfl rfl rfl (fun b4 => ?_)
  refine st_store_all 4 ty55 rfl rfl rfl rfl (by first | omega | (simp only [List.length_append, List.length_cons, List.length_nil, List.length_set, List.length_replicate, List.length_take, List.length_drop, ints_length, wr_length, sha_len, way_len _ (by assumption), secret_len, digits_len] <;> omega) | rfl) (ints_one _ _) (by first | omega | (simp only [List.length_append, List.length_cons, List.length_nil, List.length_set, List.length_replicate, List.length_take, List.length_drop, ints_length, wr_length, sha_len, way_len _ (by assumption), secret_len, digits_len] <;> omega) | rfl) rfl ?_
  refine op_nil ?_
  refine ax_then ?_
  refine At.regs (L' := [(2, _), (3, _), (4, _)]) (.cons rfl (.cons rfl (.cons rfl (.nil _)))) ?_
  refine cd_seq ?_
  refine cd_region ?_
  refine st (ev_assign rfl) rfl rfl rfl ?_
  refine op_nil ?_
  refine ax_then ?_
  refine At.regs (L' := [(2, _), (3, _), (4, _), (5, _)]) (.cons rfl (.cons rfl (.cons rfl (.cons rfl (.nil _))))) ?_
  refine cd_seq ?_
  refine cd_seq ?_
  refine cd_region ?_
  refine st (ev_assign rfl) rfl rfl rfl ?_
  refine op_nil ?_
  refine ax_then ?_
  refine At.regs (L' := [(2, _), (3, _), (4, _), (5, _), (6, _)]) (.cons rfl (.cons rfl (.cons rfl (.cons rfl (.cons rfl (.nil _)))))) ?_
  refine cd_block ?_
  have hsl := sha_len m
  refine cd_loop (ι := Nat) (fun i => i ≤ 32) (fun i => 32 - i)
      (fun i => [(2, .pointer (some ⟨b2, 0, none⟩)), (3, .pointer (some ⟨b3, 0, none⟩)), (4, .pointer (some ⟨b4, 0, none⟩)), (5, .int .i64 (lack (sha m) i)), (6, .int .i64 (i : Int))])
      (fun i => [(2, .blk b2 (.cells (ints .i64 (List.replicate 36 0)).toArray 153)), (3, .blk b3 (.cells (ints .i64 (d1 (sha m) (i))).toArray 153)), (4, .blk b4 (.cells (ints .u8 (sha m)).toArray 55))])
      (fun i => [])
      0 (by omega) (.cons rfl (.cons rfl (.cons rfl (.cons rfl (.cons rfl (.nil _)))))) (.cons rfl (.cons rfl (.cons rfl (.nil _)))) (.nil _) (fun i hi => ?_)
  have hlr := lack_range (sha m) i
  have hdl := d1_len (sha m) i (by omega)
  have hb := byt_at m (i / 4)
  have hsd := shr_dg (i := i) hb.1 hb.2
  have hdr := dg_range (sha m) i
  have hsl := sha_len m
  have e4 : 0 + ((i : Int) / 4).toNat * 1 = i / 4 := by omega
  have e0 : 0 + (i : Int).toNat * 1 = i := by omega
  refine cd_seq ?_
  refine cd_seq ?_
  refine cd_region ?_
  refine st (ev_move rfl) rfl rfl rfl ?_
  refine st (ev_lss rfl rfl) rfl rfl rfl ?_
  refine op_nil ?_
  refine ax_then ?_
  refine At.regs (L' := [(2, _), (3, _), (4, _), (5, _), (6, _), (10, _), (11, _)]) (.cons rfl (.cons rfl (.cons rfl (.cons rfl (.cons rfl (.cons rfl (.cons rfl (.nil _)))))))) ?_
  refine cd_if rfl (fun hc11 => ?_) (fun hc11 => ?_)
  ·
    refine cd_skip ?_
    refine ax_then ?_
    refine At.regs (L' := [(2, _), (3, _), (4, _), (5, _), (6, _), (10, _), (11, _)]) (.cons rfl (.cons rfl (.cons rfl (.cons rfl (.cons rfl (.cons rfl (.cons rfl (.nil _)))))))) ?_
    refine cd_seq ?_
    refine cd_block ?_
    refine cd_seq ?_
    refine cd_region ?_
    refine st (ev_move rfl) rfl rfl rfl ?_
    refine st (ev_move rfl) rfl rfl rfl ?_
    refine st (ev_quo64 rfl rfl (by omega) (by omega) (by omega)) rfl rfl rfl ?_
    refine st (ev_indexAddr_arr Try.underlying55 ty5 rfl rfl (by omega) (by omega)) rfl rfl rfl ?_
    refine st (ld_blk1 (h := 4) ty5 rfl rfl rfl (ints_get _ _ _ (by first | omega | (simp only [List.length_append, List.length_cons, List.length_nil, List.length_set, List.length_replicate, List.length_take, List.length_drop, ints_length, wr_length, sha_len, way_len _ (by assumption), secret_len, digits_len] <;> omega) | rfl))) rfl rfl rfl ?_
    refine at_eq (i := 18) (v' := .int .u8 ((sha m).getD (i / 4) 0)) rfl (by rw [e4]) ?_
    refine st (ev_move rfl) rfl rfl rfl ?_
    refine st (ev_rem64 rfl rfl (by omega) (by omega)) rfl rfl rfl ?_
    refine st (ev_mul64 rfl rfl (by omega) (by omega)) rfl rfl rfl ?_
    refine st (ev_sub64 rfl rfl (by omega) (by omega)) rfl rfl rfl ?_
    refine st (ev_convu64 Try.underlying3 Try.underlying136 rfl (by omega) (by omega)) rfl rfl rfl ?_
    refine st (ev_shr rfl rfl (by omega)) rfl rfl rfl ?_
    refine at_eq (i := 24) (v' := .int .u8 ((sha m).getD (i / 4) 0 / 2 ^ (6 - 2 * (i % 4)))) rfl (by rw [hsd.1]) ?_
    refine st (ev_conv64 Try.underlying5 Try.underlying3 rfl (by omega) (by omega)) rfl rfl rfl ?_
    refine st (ev_and rfl rfl) rfl rfl rfl ?_
    refine at_eq (i := 26) (v' := .int .i64 (dg (sha m) i)) rfl (by rw [and3 hsd.2.1 (by omega)]; rfl) ?_
    refine st (ev_indexAddr_arr Try.underlying153 ty3 rfl rfl (by omega) (by omega)) rfl rfl rfl ?_
    refine st_store1 3 ty3 rfl rfl rfl rfl (by first | omega | (simp only [List.length_append, List.length_cons, List.length_nil, List.length_set, List.length_replicate, List.length_take, List.length_drop, ints_length, wr_length, sha_len, way_len _ (by assumption), secret_len, digits_len] <;> omega) | rfl) rfl ?_
    refine at_heq (i := 3) rfl (by rw [ints_set]) ?_
    have hdl1 := d1_len (sha m) (i + 1) (by omega)
    refine at_heq (i := 3) (v' := .blk b3 (.cells (ints .i64 (d1 (sha m) (i + 1))).toArray 153)) rfl (by rw [e0, d1_set _ _ (by omega)]) ?_
    refine op_nil ?_
    refine ax_then ?_
    refine At.regs (L' := [(2, _), (3, _), (4, _), (5, _), (6, _), (10, _), (11, _), (14, _), (15, _), (16, _), (17, _), (18, _), (19, _), (20, _), (21, _), (22, _), (23, _), (24, _), (25, _), (26, _), (27, _)]) (.cons rfl (.cons rfl (.cons rfl (.cons rfl (.cons rfl (.cons rfl (.cons rfl (.cons rfl (.cons rfl (.cons rfl (.cons rfl (.cons rfl (.cons rfl (.cons rfl (.cons rfl (.cons rfl (.cons rfl (.cons rfl (.cons rfl (.cons rfl (.cons rfl (.nil _)))))))))))))))))))))) ?_
    refine cd_region ?_
    refine st (ev_move rfl) rfl rfl rfl ?_
    refine st (ev_add64 rfl rfl (by omega) (by omega)) rfl rfl rfl ?_
    refine st (ev_move rfl) rfl rfl rfl ?_
    refine st (ev_indexAddr_arr Try.underlying153 ty3 rfl rfl (by omega) (by omega)) rfl rfl rfl ?_
    refine st (ld_blk1 (h := 3) ty3 rfl rfl rfl (ints_get _ _ _ (by first | omega | (simp only [List.length_append, List.length_cons, List.length_nil, List.length_set, List.length_replicate, List.length_take, List.length_drop, ints_length, wr_length, sha_len, way_len _ (by assumption), secret_len, digits_len] <;> omega) | rfl))) rfl rfl rfl ?_
    refine at_eq (i := 32) (v' := .int .i64 (dg (sha m) i)) rfl (by rw [e0, d1_get _ _ (by omega)]) ?_
    refine st (ev_sub64 rfl rfl (by omega) (by omega)) rfl rfl rfl ?_
    refine st (ev_assign rfl) rfl rfl rfl ?_
    refine op_nil ?_
    refine ax_block ?_
    refine ax_then ?_
    refine At.regs (L' := [(2, _), (3, _), (4, _), (5, _), (6, _), (10, _), (11, _), (14, _), (15, _), (16, _), (17, _), (18, _), (19, _), (20, _), (21, _), (22, _), (23, _), (24, _), (25, _), (26, _), (27, _), (28, _), (29, _), (30, _), (31, _), (32, _), (33, _)]) (.cons rfl (.cons rfl (.cons rfl (.cons rfl (.cons rfl (.cons rfl (.cons rfl (.cons rfl (.cons rfl (.cons rfl (.cons rfl (.cons rfl (.cons rfl (.cons rfl (.cons rfl (.cons rfl (.cons rfl (.cons rfl (.cons rfl (.cons rfl (.cons rfl (.cons rfl (.cons rfl (.cons rfl (.cons rfl (.cons rfl (.cons rfl (.nil _)))))))))))))))))))))))))))) ?_
    refine cd_region ?_
    refine st (ev_move rfl) rfl rfl rfl ?_
    refine st (ev_add64 rfl rfl (by omega) (by omega)) rfl rfl rfl ?_
    refine st (ev_assign rfl) rfl rfl rfl ?_
    refine op_nil ?_
    refine ax_eq (i := 5) (v' := .int .i64 (lack (sha m) (i + 1))) rfl (by rw [lack]; congr 1; omega) ?_
    exact at_again (i + 1) (by omega) (by omega) (.cons rfl (.cons rfl (.cons rfl (.cons rfl (.cons rfl (.nil _)))))) (.cons rfl (.cons rfl (.cons rfl (.nil _)))) (.nil _)
  ·
    obtain rfl : i = 32 := by omega
    refine cd_exit ?_
    refine ax_then_exit ?_
    refine ax_then_exit ?_
    refine ax_block_hit ?_
    refine ax_then ?_
    refine At.regs (L' := [(2, _), (3, _), (5, _)]) (.cons rfl (.cons rfl (.cons rfl (.nil _)))) ?_
    refine cd_seq ?_
    refine cd_seq ?_
    refine cd_region ?_
    refine st (ev_assign rfl) rfl rfl rfl ?_
    refine op_nil ?_
    refine ax_then ?_
    refine At.regs (L' := [(2, _), (3, _), (5, _), (7, _)]) (.cons rfl (.cons rfl (.cons rfl (.cons rfl (.nil _))))) ?_
    refine cd_block ?_
    refine at_eq (i := 5) (v' := .int .i64 (lack (sha m) 32 / 4 ^ 0)) rfl (by rw [Int.pow_zero, Int.ediv_one]) ?_
    refine at_eq (i := 7) (v' := .int .i64 ((32 + 0 : Nat) : Int)) rfl rfl ?_
    refine at_heq (i := 3) (v' := .blk b3 (.cells (ints .i64 (d2 (sha m) (0))).toArray 153)) rfl (by rw [d12]) ?_
    refine cd_loop (ι := Nat) (fun j => j ≤ 4) (fun j => 4 - j)
        (fun j => [(2, .pointer (some ⟨b2, 0, none⟩)), (3, .pointer (some ⟨b3, 0, none⟩)), (5, .int .i64 (lack (sha m) 32 / 4 ^ j)), (7, .int .i64 ((32 + j : Nat) : Int))])
        (fun j => [(2, .blk b2 (.cells (ints .i64 (List.replicate 36 0)).toArray 153)), (3, .blk b3 (.cells (ints .i64 (d2 (sha m) (j))).toArray 153))])
        (fun j => [])
        0 (by omega) (.cons rfl (.cons rfl (.cons rfl (.cons rfl (.nil _))))) (.cons rfl (.cons rfl (.nil _))) (.nil _) (fun j hi => ?_)
    have hlk := lk_range m j
    have hdl := d2_len (sha m) j (by omega)
    have e0 : 0 + ((32 + j : Nat) : Int).toNat * 1 = 32 + j := by omega
    refine cd_seq ?_
    refine cd_seq ?_
    refine cd_region ?_
    refine st (ev_move rfl) rfl rfl rfl ?_
    refine st (ev_lss rfl rfl) rfl rfl rfl ?_
    refine op_nil ?_
    refine ax_then ?_
    refine At.regs (L' := [(2, _), (3, _), (5, _), (7, _), (34, _), (35, _)]) (.cons rfl (.cons rfl (.cons rfl (.cons rfl (.cons rfl (.cons rfl (.nil _))))))) ?_
    refine cd_if rfl (fun hc35 => ?_) (fun hc35 => ?_)
    ·
      refine cd_skip ?_
      refine ax_then ?_
      refine At.regs (L' := [(2, _), (3, _), (5, _), (7, _), (34, _), (35, _)]) (.cons rfl (.cons rfl (.cons rfl (.cons rfl (.cons rfl (.cons rfl (.nil _))))))) ?_
      refine cd_seq ?_
      refine cd_block ?_
      refine cd_seq ?_
      refine cd_region ?_
      refine st (ev_move rfl) rfl rfl rfl ?_
      refine st (ev_move rfl) rfl rfl rfl ?_
      refine st (ev_and rfl rfl) rfl rfl rfl ?_
      refine at_eq (i := 40) (v' := .int .i64 (lack (sha m) 32 / 4 ^ j % 4)) rfl (by rw [and3 hlk.1 (by omega)]) ?_
      refine st (ev_indexAddr_arr Try.underlying153 ty3 rfl rfl (by omega) (by omega)) rfl rfl rfl ?_
      refine st_store1 3 ty3 rfl rfl rfl rfl (by first | omega | (simp only [List.length_append, List.length_cons, List.length_nil, List.length_set, List.length_replicate, List.length_take, List.length_drop, ints_length, wr_length, sha_len, way_len _ (by assumption), secret_len, digits_len] <;> omega) | rfl) rfl ?_
      refine at_heq (i := 3) rfl (by rw [ints_set]) ?_
      have hdl1 := d2_len (sha m) (j + 1) (by omega)
      refine at_heq (i := 3) (v' := .blk b3 (.cells (ints .i64 (d2 (sha m) (j + 1))).toArray 153)) rfl (by rw [e0, d2_set _ _ (by omega)]) ?_
      refine op_nil ?_
      refine ax_then ?_
      refine At.regs (L' := [(2, _), (3, _), (5, _), (7, _), (34, _), (35, _), (38, _), (39, _), (40, _), (41, _)]) (.cons rfl (.cons rfl (.cons rfl (.cons rfl (.cons rfl (.cons rfl (.cons rfl (.cons rfl (.cons rfl (.cons rfl (.nil _))))))))))) ?_
      refine cd_region ?_
      refine st (ev_move rfl) rfl rfl rfl ?_
      refine st (ev_shr rfl rfl (by omega)) rfl rfl rfl ?_
      refine at_eq (i := 43) (v' := .int .i64 (lack (sha m) 32 / 4 ^ (j + 1))) rfl (by rw [shr2 hlk.1, pow_step]) ?_
      refine st (ev_assign rfl) rfl rfl rfl ?_
      refine op_nil ?_
      refine ax_block ?_
      refine ax_then ?_
      refine At.regs (L' := [(2, _), (3, _), (5, _), (7, _), (34, _), (35, _), (38, _), (39, _), (40, _), (41, _), (42, _), (43, _)]) (.cons rfl (.cons rfl (.cons rfl (.cons rfl (.cons rfl (.cons rfl (.cons rfl (.cons rfl (.cons rfl (.cons rfl (.cons rfl (.cons rfl (.nil _))))))))))))) ?_
      refine cd_region ?_
      refine st (ev_move rfl) rfl rfl rfl ?_
      refine st (ev_add64 rfl rfl (by omega) (by omega)) rfl rfl rfl ?_
      refine st (ev_assign rfl) rfl rfl rfl ?_
      refine op_nil ?_
      refine ax_eq (i := 7) (v' := .int .i64 ((32 + (j + 1) : Nat) : Int)) rfl (by congr 1) ?_
      exact at_again (j + 1) (by omega) (by omega) (.cons rfl (.cons rfl (.cons rfl (.cons rfl (.nil _))))) (.cons rfl (.cons rfl (.nil _))) (.nil _)
    ·
      obtain rfl : j = 4 := by omega
      have hdg := digits_len m
      refine at_heq (i := 3) (v' := .blk b3 (.cells (ints .i64 (digits m)).toArray 153)) rfl rfl ?_
      refine cd_exit ?_
      refine ax_then_exit ?_
      refine ax_then_exit ?_
      refine ax_block_hit ?_
      refine ax_then ?_
      refine At.regs (L' := [(2, _), (3, _)]) (.cons rfl (.cons rfl (.nil _))) ?_
      refine cd_seq ?_
      refine cd_region ?_
      refine st (ld_blk_all (h := 3) ty153 rfl rfl rfl (by first | omega | (simp only [List.length_append, List.length_cons, List.length_nil, List.length_set, List.length_replicate, List.length_take, List.length_drop, ints_length, wr_length, sha_len, way_len _ (by assumption), secret_len, digits_len] <;> omega) | rfl)) rfl rfl rfl ?_
      refine st_store_all 2 ty153 rfl rfl rfl rfl (by first | omega | (simp only [List.length_append, List.length_cons, List.length_nil, List.length_set, List.length_replicate, List.length_take, List.length_drop, ints_length, wr_length, sha_len, way_len _ (by assumption), secret_len, digits_len] <;> omega) | rfl) (ints_one _ _) (by first | omega | (simp only [List.length_append, List.length_cons, List.length_nil, List.length_set, List.length_replicate, List.length_take, List.length_drop, ints_length, wr_length, sha_len, way_len _ (by assumption), secret_len, digits_len] <;> omega) | rfl) rfl ?_
      refine op_nil ?_
      refine ax_then ?_
      refine At.regs (L' := [(2, _)]) (.cons rfl (.nil _)) ?_
      refine cd_ret ?_
      refine rt_cell (h0 := 2) (.inl rfl) Try.results104 ty153 rfl rfl rfl (by first | omega | (simp only [List.length_append, List.length_cons, List.length_nil, List.length_set, List.length_replicate, List.length_take, List.length_drop, ints_length, wr_length, sha_len, way_len _ (by assumption), secret_len, digits_len] <;> omega) | rfl) ?_
      exact fun w1 sw => ⟨rfl, sw.gives (.nil _)⟩
end Go.Proofs.Ytgfnmolbagilmaa
namespace Go.Proofs.Ytgfnmolbagilmaa
open Go Go.RowKit Fw
open Sha
open Ots
set_option linter.unusedVariables false
set_option linter.unusedSimpArgs false
set_option maxRecDepth 20000 in
set_option maxHeartbeats 2000000 in
theorem ends_any (k : Nat) (hk : Has Try.prog k) (vf vc : List Value) (v : Value) (cs : List (List Int)) (g : Nat → List Int) (hg : ∀ i, (g i).length = 32) (w : World) (h : Rd w v 32 (flat cs)) (hc : ∀ (w1 : World) (i : Nat), i < 36 → Rd w1 v 32 (flat cs) → Calls Try.prog k (vf ++ [Value.int .i64 (i : Int)] ++ vc).toArray w1 (PostV w1 (.agg (ints .u8 (g i)).toArray))) : Calls Try.prog 105 #[.func (.func k) vf.toArray vc.toArray] w (PostV w (.agg (ints .u8 (ends g)).toArray)) := by
  refine calls_at (vs := [.func (.func k) vf.toArray vc.toArray]) (X := []) (H := []) (F := [(20, .sl v 32 (flat (cs)))]) 19 Try.func105 rfl rfl rfl (Sat.rd0 20 h) ?_
  refine cd_seq ?_
  refine cd_region ?_
  refine st_alloc (h := 2) ty55 rfl rfl rfl (fun b2 => ?_)
  refine op_nil ?_
  refine ax_then ?_
  refine At.regs (L' := [(0, _), (2, _)]) (.cons rfl (.cons rfl (.nil _))) ?_
  refine cd_seq ?_
  refine cd_region ?_
  refine st_bsi (h := 6) (xs := [_]) Try.underlying28 ty5 (by decide) rfl rfl (by decide) rfl rfl (fun b6 => ?_)
  refine st (ev_assign rfl) rfl rfl rfl ?_
  refine op_nil ?_
  refine ax_then ?_
  refine At.regs (L' := [(0, _), (2, _), (3, _)]) (.cons rfl (.cons rfl (.cons rfl (.nil _)))) ?_
  refine cd_seq ?_
  refine cd_seq ?_
  refine cd_region ?_
  refine st (ev_move rfl) rfl rfl rfl ?_
  refine op_nil ?_
  refine ax_then ?_
  refine At.regs (L' := [(0, _), (2, _), (3, _), (7, _)]) (.cons rfl (.cons rfl (.cons rfl (.cons rfl (.nil _))))) ?_
  refine cd_block ?_
  refine cd_loop (ι := Nat × Value) (fun x => x.1 ≤ 36) (fun x => 36 - x.1)
      (fun x => [(0, .func (.func k) vf.toArray vc.toArray), (2, .pointer (some ⟨b2, 0, none⟩)), (3, x.2), (7, .int .i64 (x.1 : Int))])
      (fun x => [(2, .blk b2 (.cells (ints .u8 (List.replicate 32 0)).toArray 55)), (6, .own (x.2) 5 1 (ints .u8 (tex g x.1)))])
      (fun x => [(20, .sl v 32 (flat (cs)))])
      (0, _) (by omega) (.cons rfl (.cons rfl (.cons rfl (.cons rfl (.nil _))))) (.cons rfl (.cons rfl (.nil _))) (.cons rfl (.nil _)) (fun x hi => ?_)
  have htx := tex_len hg x.1
  have hgx := hg x.1
  refine cd_seq ?_
  refine cd_region ?_
  refine st (ev_lss rfl rfl) rfl rfl rfl ?_
  refine op_nil ?_
  refine ax_then ?_
  refine At.regs (L' := [(0, _), (2, _), (3, _), (7, _), (8, _)]) (.cons rfl (.cons rfl (.cons rfl (.cons rfl (.cons rfl (.nil _)))))) ?_
  refine cd_seq ?_
  refine cd_if rfl (fun hc8 => ?_) (fun hc8 => ?_)
  ·
    refine cd_skip ?_
    refine ax_then ?_
    refine At.regs (L' := [(0, _), (2, _), (3, _), (7, _), (8, _)]) (.cons rfl (.cons rfl (.cons rfl (.cons rfl (.cons rfl (.nil _)))))) ?_
    refine cd_seq ?_
    refine cd_block ?_
    refine cd_seq ?_
    refine cd_region ?_
    refine st (ev_move rfl) rfl rfl rfl ?_
    refine st (ev_assign rfl) rfl rfl rfl ?_
    refine op_nil ?_
    refine ax_then ?_
    refine At.regs (L' := [(0, _), (2, _), (3, _), (4, _), (7, _), (8, _), (9, _)]) (.cons rfl (.cons rfl (.cons rfl (.cons rfl (.cons rfl (.cons rfl (.cons rfl (.nil _)))))))) ?_
    refine cd_seq ?_
    refine cd_region ?_
    refine st (ev_move rfl) rfl rfl rfl ?_
    refine st (ev_move rfl) rfl rfl rfl ?_
    refine st_callv_fn hk rfl rfl rfl (fun w1 sw => hc w1 x.1 (by omega) (sw.sl_rd (h := 20) rfl)) rfl rfl ?_
    refine st_alloc (h := 5) ty55 rfl rfl rfl (fun b5 => ?_)
    refine st_store_all 5 ty55 rfl rfl rfl rfl (by first | omega | (simp only [List.length_append, List.length_cons, List.length_nil, List.length_set, List.length_replicate, List.length_take, List.length_drop, ints_length, wr_length, sha_len, way_len _ (by assumption), secret_len, digits_len] <;> omega) | rfl) (ints_one _ _) (by first | omega | (simp only [List.length_append, List.length_cons, List.length_nil, List.length_set, List.length_replicate, List.length_take, List.length_drop, ints_length, wr_length, sha_len, way_len _ (by assumption), secret_len, digits_len] <;> omega) | rfl) rfl ?_
    refine op_nil ?_
    refine ax_then ?_
    refine At.regs (L' := [(0, _), (2, _), (3, _), (4, _), (5, _), (7, _), (8, _), (9, _), (10, _), (11, _), (12, _)]) (.cons rfl (.cons rfl (.cons rfl (.cons rfl (.cons rfl (.cons rfl (.cons rfl (.cons rfl (.cons rfl (.cons rfl (.cons rfl (.nil _)))))))))))) ?_
    refine cd_region ?_
    refine st (ev_move rfl) rfl rfl rfl ?_
    refine st (ev_slice_arr_all Try.underlying55 ty5 rfl) rfl rfl rfl ?_
    refine st_appendi (h := 6) Try.underlying28 Try.underlying28 ty5 rfl rfl rfl rfl (fun w1 sw => rd_blk_all sw (h := 5) rfl (by first | omega | (simp only [List.length_append, List.length_cons, List.length_nil, List.length_set, List.length_replicate, List.length_take, List.length_drop, ints_length, wr_length, sha_len, way_len _ (by assumption), secret_len, digits_len] <;> omega) | rfl)) (by first | omega | (simp only [List.length_append, List.length_cons, List.length_nil, List.length_set, List.length_replicate, List.length_take, List.length_drop, ints_length, wr_length, sha_len, way_len _ (by assumption), secret_len, digits_len] <;> omega)) (by decide) rfl rfl (fun v15 => ?_)
    refine st (ev_assign rfl) rfl rfl rfl ?_
    refine op_nil ?_
    refine ax_block ?_
    refine ax_then ?_
    refine At.regs (L' := [(0, _), (2, _), (3, _), (4, _), (5, _), (7, _), (8, _), (9, _), (10, _), (11, _), (12, _), (13, _), (14, _), (15, _)]) (.cons rfl (.cons rfl (.cons rfl (.cons rfl (.cons rfl (.cons rfl (.cons rfl (.cons rfl (.cons rfl (.cons rfl (.cons rfl (.cons rfl (.cons rfl (.cons rfl (.nil _))))))))))))))) ?_
    refine cd_region ?_
    refine st (ev_add64 rfl rfl (by omega) (by omega)) rfl rfl rfl ?_
    refine st (ev_move rfl) rfl rfl rfl ?_
    refine op_nil ?_
    refine ax_heq (i := 6) (v' := .own (v15) 5 1 (ints .u8 (tex g (x.1 + 1)))) rfl rfl ?_
    exact at_again ((x.1 + 1, v15)) (by show x.1 + 1 ≤ 36; omega) (by omega) (.cons rfl (.cons rfl (.cons rfl (.cons rfl (.nil _))))) (.cons rfl (.cons rfl (.nil _))) (.cons rfl (.nil _))
  ·
    obtain ⟨j, u⟩ := x
    dsimp only at hi hc8 htx hgx ⊢
    obtain rfl : j = 36 := by omega
    refine cd_exit ?_
    refine ax_then_exit ?_
    refine ax_then_exit ?_
    refine ax_block_hit ?_
    refine ax_then ?_
    refine At.regs (L' := [(2, _), (3, _)]) (.cons rfl (.cons rfl (.nil _))) ?_
    refine cd_seq ?_
    refine cd_region ?_
    refine st (ev_move rfl) rfl rfl rfl ?_
    refine st_callv has107 rfl (fun w1 sw => sum_any u (tex g 36) w1 (by rw [htx]; omega) (sw.own_rd (h := 6) rfl)) rfl rfl ?_
    refine st_store_all 2 ty55 rfl rfl rfl rfl (by first | omega | (simp only [List.length_append, List.length_cons, List.length_nil, List.length_set, List.length_replicate, List.length_take, List.length_drop, ints_length, wr_length, sha_len, way_len _ (by assumption), secret_len, digits_len] <;> omega) | rfl) (ints_one _ _) (by first | omega | (simp only [List.length_append, List.length_cons, List.length_nil, List.length_set, List.length_replicate, List.length_take, List.length_drop, ints_length, wr_length, sha_len, way_len _ (by assumption), secret_len, digits_len] <;> omega) | rfl) rfl ?_
    refine op_nil ?_
    refine ax_then ?_
    refine At.regs (L' := [(2, _)]) (.cons rfl (.nil _)) ?_
    refine cd_ret ?_
    refine rt_cell (h0 := 2) (.inl rfl) Try.results105 ty55 rfl rfl rfl (by first | omega | (simp only [List.length_append, List.length_cons, List.length_nil, List.length_set, List.length_replicate, List.length_take, List.length_drop, ints_length, wr_length, sha_len, way_len _ (by assumption), secret_len, digits_len] <;> omega) | rfl) ?_
    exact fun w1 sw => ⟨rfl, sw.gives (.nil _)⟩
theorem cut32 (s : List Int) (x : Value) (hl : s.length = 32) : ((ints .u8 s ++ [x]).drop 0).take 32 = ints .u8 s := by
  rw [List.drop_zero, List.take_left' (by rw [ints_length, hl])]
theorem at32 (s : List Int) (x : Value) (hl : s.length = 32) : (ints .u8 s ++ [x])[32]? = some x := by
  rw [List.getElem?_append_right (by rw [ints_length, hl]; decide), ints_length, hl]
  rfl
set_option maxRecDepth 20000 in
set_option maxHeartbeats 1000000 in
theorem leafEnd_any (s : List Int) (l c : Int) (w : World) (hl : s.length = 32) : Calls Try.prog 106 #[.agg (ints .u8 s ++ [Value.int .i64 l]).toArray, .int .i64 c] w (PostV w (.agg (ints .u8 (walk (secret s l c) c 0 3)).toArray)) := by
  refine calls_at (vs := [.agg (ints .u8 s ++ [Value.int .i64 l]).toArray, .int .i64 c]) (X := []) (H := []) (F := []) 13 Try.func106 rfl rfl rfl (Sat.start0 w) ?_
  refine cd_seq ?_
  refine cd_region ?_
  refine st_box (h := 2) rfl rfl rfl rfl (fun b2 => ?_)
  refine st_alloc (h := 4) ty55 rfl rfl rfl (fun b4 => ?_)
  refine op_nil ?_
  refine ax_then ?_
  refine At.regs (L' := [(1, _), (2, _), (4, _)]) (.cons rfl (.cons rfl (.cons rfl (.nil _)))) ?_
  refine cd_seq ?_
  refine cd_region ?_
  refine st (ev_fieldAddr (b := _) Try.underlying158 (f := _) rfl ty55 (by decide) rfl) rfl rfl rfl ?_
  refine st (ld_blk (h := 2) ty55 rfl rfl rfl (by rw [List.length_append, ints_length, hl]; show 0 + 32 ≤ 32 + 1; decide)) rfl rfl rfl ?_
  refine at_eq (i := 6) (v' := .agg (ints .u8 (s)).toArray) rfl (congrArg (fun x => Value.agg (List.toArray x)) (cut32 s (.int .i64 l) hl)) ?_
  refine st (ev_fieldAddr (b := _) Try.underlying158 (f := _) rfl ty3 (by decide) rfl) rfl rfl rfl ?_
  refine st (ld_blk1 (h := 2) ty3 rfl rfl rfl (at32 s _ hl)) rfl rfl rfl ?_
  refine st (ev_move rfl) rfl rfl rfl ?_
  refine st_callv has112 rfl (fun w1 sw => secret_any s l c w1 hl) rfl rfl ?_
  refine st (ev_move rfl) rfl rfl rfl ?_
  refine st_callv has111 rfl (fun w1 sw => walk_any (secret s l c) c 0 3 w1 (secret_len s l c) (by decide)) rfl rfl ?_
  have hwl := walk_len (h := secret s l c) c 0 3 (secret_len s l c)
  refine st_store_all 4 ty55 rfl rfl rfl rfl (by first | omega | (simp only [List.length_append, List.length_cons, List.length_nil, List.length_set, List.length_replicate, List.length_take, List.length_drop, ints_length, wr_length, sha_len, way_len _ (by assumption), secret_len, digits_len] <;> omega) | rfl) (ints_one _ _) (by first | omega | (simp only [List.length_append, List.length_cons, List.length_nil, List.length_set, List.length_replicate, List.length_take, List.length_drop, ints_length, wr_length, sha_len, way_len _ (by assumption), secret_len, digits_len] <;> omega) | rfl) rfl ?_
  refine op_nil ?_
  refine ax_then ?_
  refine At.regs (L' := [(4, _)]) (.cons rfl (.nil _)) ?_
  refine cd_ret ?_
  refine rt_cell (h0 := 4) (.inl rfl) Try.results106 ty55 rfl rfl rfl (by first | omega | (simp only [List.length_append, List.length_cons, List.length_nil, List.length_set, List.length_replicate, List.length_take, List.length_drop, ints_length, wr_length, sha_len, way_len _ (by assumption), secret_len, digits_len] <;> omega) | rfl) ?_
  exact fun w1 sw => ⟨rfl, sw.gives (.nil _)⟩
theorem rd_nil {w : World} (sz : Nat) : Rd w (.slice none 0 0) sz (flat []) := ⟨none, 0, 0, rfl, by simp [flat, ints], Nat.le_refl _, fun _ => rfl, fun x hx => by cases hx⟩
set_option maxRecDepth 20000 in
set_option maxHeartbeats 1000000 in
theorem public_any (s : List Int) (l : Int) (w : World) (hl : s.length = 32) : Calls Try.prog 75 #[.agg (ints .u8 (s)).toArray, .int .i64 l] w (PostV w (.agg (ints .u8 (pub s l)).toArray)) := by
  refine calls_at (vs := [.agg (ints .u8 (s)).toArray, .int .i64 l]) (X := []) (H := []) (F := []) 10 Try.func75 rfl rfl rfl (Sat.start0 w) ?_
  refine cd_seq ?_
  refine cd_region ?_
  refine st_box (h := 2) rfl rfl rfl rfl (fun b2 => ?_)
  refine st_alloc (h := 4) ty55 rfl rfl rfl (fun b4 => ?_)
  refine op_nil ?_
  refine ax_then ?_
  refine At.regs (L' := [(1, _), (2, _), (4, _)]) (.cons rfl (.cons rfl (.cons rfl (.nil _)))) ?_
  refine cd_seq ?_
  refine cd_region ?_
  refine st (ld_blk_all (h := 2) ty55 rfl rfl rfl (by first | omega | (simp only [List.length_append, List.length_cons, List.length_nil, List.length_set, List.length_replicate, List.length_take, List.length_drop, ints_length, wr_length, sha_len, way_len _ (by assumption), secret_len, digits_len] <;> omega) | rfl)) rfl rfl rfl ?_
  refine st (ev_move rfl) rfl rfl rfl ?_
  refine st (ev_build_struct ty158 rfl pl158 rfl ((fill_put (i := 0) (off := 0) (n := 32) (vs := ints .u8 s) rfl rfl (by rw [ints_length, hl]) (Nat.le_of_ble_eq_true rfl)).trans ((fill_put (i := 1) (off := 32) (n := 1) (vs := [.int .i64 l]) rfl rfl rfl (by rw [wr_length (by rw [ints_length, hl]; exact Nat.le_of_ble_eq_true rfl)]; exact Nat.le_of_ble_eq_true rfl)).trans fill_nil))) rfl rfl rfl ?_
  refine at_eq (i := 7) (v' := .agg (ints .u8 s ++ [Value.int .i64 l]).toArray) rfl (congrArg (fun x => Value.agg (List.toArray x)) (put_last (by rw [ints_length, hl]) rfl)) ?_
  refine st (ev_func rfl rfl) rfl rfl rfl ?_
  refine st_callv has105 rfl (fun w1 sw => ends_any 106 has106 [.agg (ints .u8 s ++ [Value.int .i64 l]).toArray] [] (.slice none 0 0) [] (fun c => walk (secret s l c) c 0 3) (fun i => walk_len _ _ _ (secret_len s l i)) w1 (rd_nil 32) (fun w2 i _ _ => leafEnd_any s l i w2 hl)) rfl rfl ?_
  have hpl : (pub s l).length = 32 := sha_len _
  refine st_store_all 4 ty55 rfl rfl rfl rfl (by first | omega | (simp only [List.length_append, List.length_cons, List.length_nil, List.length_set, List.length_replicate, List.length_take, List.length_drop, ints_length, wr_length, sha_len, way_len _ (by assumption), secret_len, digits_len] <;> omega) | rfl) (ints_one _ _) (by first | omega | (simp only [List.length_append, List.length_cons, List.length_nil, List.length_set, List.length_replicate, List.length_take, List.length_drop, ints_length, wr_length, sha_len, way_len _ (by assumption), secret_len, digits_len] <;> omega) | rfl) rfl ?_
  refine op_nil ?_
  refine ax_then ?_
  refine At.regs (L' := [(4, _)]) (.cons rfl (.nil _)) ?_
  refine cd_ret ?_
  refine rt_cell (h0 := 4) (.inl rfl) Try.results75 ty55 rfl rfl rfl (by first | omega | (simp only [List.length_append, List.length_cons, List.length_nil, List.length_set, List.length_replicate, List.length_take, List.length_drop, ints_length, wr_length, sha_len, way_len _ (by assumption), secret_len, digits_len] <;> omega) | rfl) ?_
  exact fun w1 sw => ⟨rfl, sw.gives (.nil _)⟩
end Go.Proofs.Ytgfnmolbagilmaa
namespace Go.Proofs.Ytgfnmolbagilmaa
open Go Go.RowKit Fw
open Sha
open Ots
set_option linter.unusedVariables false
set_option linter.unusedSimpArgs false
def sign (s : List Int) (l : Int) (m : List Int) (n : Nat) : List (List Int) := (List.range n).map fun (c : Nat) => walk (secret s l c) c 0 ((digits m).getD c 0)
theorem sign_snoc (s : List Int) (l : Int) (m : List Int) (n : Nat) : sign s l m (n + 1) = sign s l m n ++ [walk (secret s l n) n 0 ((digits m).getD n 0)] := by
  simp [sign, List.range_succ]
theorem sign_h32 (s : List Int) (l : Int) (m : List Int) (n : Nat) : H32 (sign s l m n) := fun h hh => by
  simp only [sign, List.mem_map] at hh
  obtain ⟨c, _, rfl⟩ := hh
  exact walk_len _ _ _ (secret_len _ _ _)
theorem sign_len (s : List Int) (l : Int) (m : List Int) (n : Nat) : (sign s l m n).length = n := by simp [sign]
set_option maxRecDepth 20000 in
set_option maxHeartbeats 2000000 in
theorem sign_any (s : List Int) (l : Int) (p : Value) (m : List Int) (w : World) (hl : s.length = 32) (hm : m.length ≤ 140737488352000) (h : Rd w p 1 (ints .u8 m)) : Calls Try.prog 78 #[.agg (ints .u8 (s)).toArray, .int .i64 l, p] w (Post (ι := Value) w [] (fun _ => True) (fun v => v) (fun v => [(0, .own (v) 55 32 (flat (sign s l m 36)))])) := by
  refine calls_at (vs := [.agg (ints .u8 (s)).toArray, .int .i64 l, p]) (X := []) (H := []) (F := [(2, .sl p 1 (ints .u8 (m)))]) 28 Try.func78 rfl rfl rfl (Sat.rd0 2 h) ?_
  refine cd_seq ?_
  refine cd_region ?_
  refine st_box (h := 3) rfl rfl rfl rfl (fun b3 => ?_)
  refine st (ev_assign rfl) rfl rfl rfl ?_
  refine at_own_nil 6 55 32 ?_
  refine at_heq (i := 6) (v' := .own (.slice none 0 0) 55 32 (flat [])) rfl rfl ?_
  have hu6 := H32.nil
  refine op_nil ?_
  refine ax_then ?_
  refine At.regs (L' := [(1, _), (2, _), (3, _), (6, _)]) (.cons rfl (.cons rfl (.cons rfl (.cons rfl (.nil _))))) ?_
  refine cd_seq ?_
  refine cd_region ?_
  refine st (ev_assign rfl) rfl rfl rfl ?_
  refine at_own_nil 7 55 32 ?_
  refine at_heq (i := 7) (v' := .own (.slice none 0 0) 55 32 (flat [])) rfl rfl ?_
  have hu7 := H32.nil
  refine op_nil ?_
  refine ax_then ?_
  refine At.regs (L' := [(1, _), (2, _), (3, _), (6, _), (7, _)]) (.cons rfl (.cons rfl (.cons rfl (.cons rfl (.cons rfl (.nil _)))))) ?_
  refine cd_seq ?_
  refine cd_seq ?_
  refine cd_region ?_
  refine st (ev_move rfl) rfl rfl rfl ?_
  refine st_callv has110 rfl (fun w1 sw => digits_any p m w1 hm (sw.sl_rd (h := 2) rfl)) rfl rfl ?_
  refine st (ev_move rfl) rfl rfl rfl ?_
  refine op_nil ?_
  refine ax_then ?_
  refine At.regs (L' := [(1, _), (3, _), (6, _), (7, _), (11, _), (12, _)]) (.cons rfl (.cons rfl (.cons rfl (.cons rfl (.cons rfl (.cons rfl (.nil _))))))) ?_
  refine cd_block ?_
  have hdl := digits_len m
  refine cd_loop (ι := Nat × Value) (fun x => x.1 ≤ 36) (fun x => 36 - x.1)
      (fun x => [(1, .int .i64 l), (3, .pointer (some ⟨b3, 0, none⟩)), (7, x.2), (11, .agg (ints .i64 (digits m)).toArray), (12, .int .i64 (x.1 : Int))])
      (fun x => [(3, .blk b3 (.cells (ints .u8 (s)).toArray 55)), (7, .own (x.2) 55 32 (flat (sign s l m x.1)))])
      (fun x => [])
      (0, .slice none 0 0) (by omega) (.cons rfl (.cons rfl (.cons rfl (.cons rfl (.cons rfl (.nil _)))))) (.cons rfl (.cons rfl (.nil _))) (.nil _) (fun x hi => ?_)
  have hsu := sign_h32 s l m x.1
  have hsn := sign_len s l m x.1
  have e0 : (x.1 : Int).toNat = x.1 := by omega
  have hdl := digits_len m
  refine cd_seq ?_
  refine cd_region ?_
  refine st (ev_lss rfl rfl) rfl rfl rfl ?_
  refine op_nil ?_
  refine ax_then ?_
  refine At.regs (L' := [(1, _), (3, _), (7, _), (11, _), (12, _), (13, _)]) (.cons rfl (.cons rfl (.cons rfl (.cons rfl (.cons rfl (.cons rfl (.nil _))))))) ?_
  refine cd_seq ?_
  refine cd_if rfl (fun hc13 => ?_) (fun hc13 => ?_)
  ·
    refine cd_skip ?_
    refine ax_then ?_
    refine At.regs (L' := [(1, _), (3, _), (7, _), (11, _), (12, _), (13, _)]) (.cons rfl (.cons rfl (.cons rfl (.cons rfl (.cons rfl (.cons rfl (.nil _))))))) ?_
    refine cd_seq ?_
    refine cd_block ?_
    refine cd_seq ?_
    refine cd_region ?_
    refine st (ev_move rfl) rfl rfl rfl ?_
    refine st (ev_indexi Try.underlying153 ty3 rfl rfl (by omega) (by omega) (by first | omega | (simp only [List.length_append, List.length_cons, List.length_nil, List.length_set, List.length_replicate, List.length_take, List.length_drop, ints_length, wr_length, sha_len, way_len _ (by assumption), secret_len, digits_len] <;> omega) | rfl)) rfl rfl rfl ?_
    refine st (ev_assign rfl) rfl rfl rfl ?_
    refine st (ev_assign rfl) rfl rfl rfl ?_
    refine op_nil ?_
    refine ax_then ?_
    refine At.regs (L' := [(1, _), (3, _), (7, _), (8, _), (9, _), (11, _), (12, _), (13, _), (14, _), (15, _)]) (.cons rfl (.cons rfl (.cons rfl (.cons rfl (.cons rfl (.cons rfl (.cons rfl (.cons rfl (.cons rfl (.cons rfl (.nil _))))))))))) ?_
    refine cd_region ?_
    refine st (ev_move rfl) rfl rfl rfl ?_
    refine st (ld_blk_all (h := 3) ty55 rfl rfl rfl (by first | omega | (simp only [List.length_append, List.length_cons, List.length_nil, List.length_set, List.length_replicate, List.length_take, List.length_drop, ints_length, wr_length, sha_len, way_len _ (by assumption), secret_len, digits_len] <;> omega) | rfl)) rfl rfl rfl ?_
    refine st (ev_move rfl) rfl rfl rfl ?_
    refine st (ev_move rfl) rfl rfl rfl ?_
    refine st_callv has112 rfl (fun w1 sw => secret_any s l x.1 w1 hl) rfl rfl ?_
    refine st (ev_move rfl) rfl rfl rfl ?_
    refine st (ev_move rfl) rfl rfl rfl ?_
    refine st_callv has111 rfl (fun w1 sw => walk_any (secret s l x.1) x.1 0 ((digits m).getD (x.1 : Int).toNat 0) w1 (secret_len s l x.1) (by decide)) rfl rfl ?_
    have hwl := walk_len (h := secret s l x.1) x.1 0 ((digits m).getD (x.1 : Int).toNat 0) (secret_len s l x.1)
    refine st_bsh1 (h := 24) Try.underlying22 ty55 rfl (by first | assumption | omega) rfl rfl (fun b24 hu24 => ?_)
    refine st_appendh (h := 7) Try.underlying22 Try.underlying22 ty55 rfl rfl rfl rfl (fun w1 sw => sw.own_rd (h := 24) rfl) (by assumption) (by assumption) (by first | omega | (simp only [List.length_append, List.length_cons, List.length_nil, List.length_set, List.length_replicate, List.length_take, List.length_drop, ints_length, wr_length, sha_len, way_len _ (by assumption), secret_len, digits_len] <;> omega)) (by decide) rfl rfl (fun v25 hu25 => ?_)
    refine st (ev_assign rfl) rfl rfl rfl ?_
    refine op_nil ?_
    refine ax_block ?_
    refine ax_then ?_
    refine At.regs (L' := [(1, _), (3, _), (7, _), (8, _), (9, _), (11, _), (12, _), (13, _), (14, _), (15, _), (16, _), (17, _), (18, _), (19, _), (20, _), (21, _), (22, _), (23, _), (24, _), (25, _)]) (.cons rfl (.cons rfl (.cons rfl (.cons rfl (.cons rfl (.cons rfl (.cons rfl (.cons rfl (.cons rfl (.cons rfl (.cons rfl (.cons rfl (.cons rfl (.cons rfl (.cons rfl (.cons rfl (.cons rfl (.cons rfl (.cons rfl (.cons rfl (.nil _))))))))))))))))))))) ?_
    refine cd_region ?_
    refine st (ev_add64 rfl rfl (by omega) (by omega)) rfl rfl rfl ?_
    refine st (ev_move rfl) rfl rfl rfl ?_
    refine op_nil ?_
    refine ax_heq (i := 7) (v' := .own (v25) 55 32 (flat (sign s l m (x.1 + 1)))) rfl (by rw [sign_snoc, e0]) ?_
    exact at_again ((x.1 + 1, v25)) (by show x.1 + 1 ≤ 36; omega) (by omega) (.cons rfl (.cons rfl (.cons rfl (.cons rfl (.cons rfl (.nil _)))))) (.cons rfl (.cons rfl (.nil _))) (.nil _)
  ·
    obtain ⟨j, u⟩ := x
    dsimp only at hi hc13 ⊢
    obtain rfl : j = 36 := by omega
    refine cd_exit ?_
    refine ax_then_exit ?_
    refine ax_then_exit ?_
    refine ax_block_hit ?_
    refine ax_then ?_
    refine At.regs (L' := [(7, _)]) (.cons rfl (.nil _)) ?_
    refine cd_seq ?_
    refine cd_region ?_
    refine st (ev_move rfl) rfl rfl rfl ?_
    refine st (ev_assign rfl) rfl rfl rfl ?_
    refine op_nil ?_
    refine ax_then ?_
    refine At.regs (L' := [(6, _)]) (.cons rfl (.nil _)) ?_
    refine cd_ret ?_
    refine rt_tmp (.inl rfl) Try.results78 rfl ?_
    exact fun w1 sw => ⟨_, trivial, rfl, (sw.gives (N := [(7, _)]) (.cons rfl (.nil _))).rn 0⟩
end Go.Proofs.Ytgfnmolbagilmaa
namespace Go.Proofs.Ytgfnmolbagilmaa
open Go Go.RowKit Fw
open Sha
open Ots
set_option linter.unusedVariables false
set_option linter.unusedSimpArgs false
theorem tex_len' {f : Nat → List Int} : ∀ n, (∀ i, i < n → (f i).length = 32) → (tex f n).length = 1 + 32 * n
  | 0, _ => rfl
  | n + 1, h => by rw [tex, List.length_append, tex_len' n (fun i hi => h i (by omega)), h n (by omega)]; omega
def pubs (s : List Int) (l : Int) (n : Nat) : List (List Int) := (List.range n).map fun (c : Nat) => walk (secret s l c) c 0 3
theorem pubs_snoc (s : List Int) (l : Int) (n : Nat) : pubs s l (n + 1) = pubs s l n ++ [walk (secret s l n) n 0 3] := by simp [pubs, List.range_succ]
theorem pubs_h32 (s : List Int) (l : Int) (n : Nat) : H32 (pubs s l n) := fun h hh => by
  simp only [pubs, List.mem_map] at hh
  obtain ⟨c, _, rfl⟩ := hh
  exact walk_len _ _ _ (secret_len _ _ _)
theorem pubs_len (s : List Int) (l : Int) (n : Nat) : (pubs s l n).length = n := by simp [pubs]
theorem pubs_ends (s : List Int) (l : Int) : ends (fun i => (pubs s l 36).getD i []) = pub s l := ends_congr fun i hi => by
  rw [pubs, List.getD_eq_getElem?_getD, List.getElem?_map, List.getElem?_range hi]
  rfl
set_option maxRecDepth 20000 in
set_option maxHeartbeats 2000000 in
theorem rends_any (p : Value) (hs : List (List Int)) (w : World) (hu : H32 hs) (hn : hs.length = 36) (h : Rd w p 32 (flat hs)) : Calls Try.prog 97 #[p] w (PostV w (.agg (ints .u8 (ends fun i => hs.getD i [])).toArray)) := by
  refine calls_at (vs := [p]) (X := []) (H := []) (F := [(0, .sl p 32 (flat (hs)))]) 20 Try.func97 rfl rfl rfl (Sat.rd0 0 h) ?_
  refine cd_seq ?_
  refine cd_region ?_
  refine st_alloc (h := 2) ty55 rfl rfl rfl (fun b2 => ?_)
  refine op_nil ?_
  refine ax_then ?_
  refine At.regs (L' := [(0, _), (2, _)]) (.cons rfl (.cons rfl (.nil _))) ?_
  refine cd_seq ?_
  refine cd_region ?_
  refine st_bsi (h := 5) (xs := [_]) Try.underlying28 ty5 (by decide) rfl rfl (by decide) rfl rfl (fun b5 => ?_)
  refine st (ev_assign rfl) rfl rfl rfl ?_
  refine op_nil ?_
  refine ax_then ?_
  refine At.regs (L' := [(0, _), (2, _), (3, _)]) (.cons rfl (.cons rfl (.cons rfl (.nil _)))) ?_
  refine cd_seq ?_
  refine cd_seq ?_
  refine cd_region ?_
  refine st (ev_assign rfl) rfl rfl rfl ?_
  refine op_nil ?_
  refine ax_then ?_
  refine At.regs (L' := [(0, _), (2, _), (3, _), (4, _)]) (.cons rfl (.cons rfl (.cons rfl (.cons rfl (.nil _))))) ?_
  refine cd_block ?_
  refine cd_loop (ι := Nat × Value) (fun x => x.1 ≤ 36) (fun x => 36 - x.1)
      (fun x => [(0, p), (2, .pointer (some ⟨b2, 0, none⟩)), (3, x.2), (4, .int .i64 (x.1 : Int))])
      (fun x => [(2, .blk b2 (.cells (ints .u8 (List.replicate 32 0)).toArray 55)), (5, .own (x.2) 5 1 (ints .u8 (tex (fun i => hs.getD i []) x.1)))])
      (fun x => [(0, .sl p 32 (flat (hs)))])
      (0, _) (by omega) (.cons rfl (.cons rfl (.cons rfl (.cons rfl (.nil _))))) (.cons rfl (.cons rfl (.nil _))) (.cons rfl (.nil _)) (fun x hi => ?_)
  have htx := tex_len' (f := fun i => hs.getD i []) x.1 (fun i hi2 => hu.get (by omega))
  have hgx : x.1 < 36 → (hs.getD (x.1 : Int).toNat []).length = 32 := fun hx => hu.get (by omega)
  have e0 : (x.1 : Int).toNat = x.1 := by omega
  refine cd_seq ?_
  refine cd_seq ?_
  refine cd_region ?_
  refine st (ev_move rfl) rfl rfl rfl ?_
  refine st (ev_move rfl) rfl rfl rfl ?_
  refine st (ev_len_rdh (h := 0) Try.underlying22 rfl rfl (by assumption)) rfl rfl rfl ?_
  refine st (ev_lss rfl rfl) rfl rfl rfl ?_
  refine op_nil ?_
  refine ax_then ?_
  refine At.regs (L' := [(0, _), (2, _), (3, _), (4, _), (6, _), (7, _), (8, _), (9, _)]) (.cons rfl (.cons rfl (.cons rfl (.cons rfl (.cons rfl (.cons rfl (.cons rfl (.cons rfl (.nil _))))))))) ?_
  refine cd_if rfl (fun hc9 => ?_) (fun hc9 => ?_)
  ·
    have hgx2 := hgx (by omega)
    refine cd_skip ?_
    refine ax_then ?_
    refine At.regs (L' := [(0, _), (2, _), (3, _), (4, _), (6, _), (7, _), (8, _), (9, _)]) (.cons rfl (.cons rfl (.cons rfl (.cons rfl (.cons rfl (.cons rfl (.cons rfl (.cons rfl (.nil _))))))))) ?_
    refine cd_seq ?_
    refine cd_block ?_
    refine cd_region ?_
    refine st (ev_move rfl) rfl rfl rfl ?_
    refine st (ev_move rfl) rfl rfl rfl ?_
    refine st (ev_move rfl) rfl rfl rfl ?_
    refine st (ev_indexAddr_rdh (h := 0) Try.underlying22 ty55 rfl rfl rfl (by assumption) (by omega) (by omega)) rfl rfl rfl ?_
    refine st (ev_arrAt Try.underlying55 ty5 rfl (fun w1 sw => sw.sl_rd (h := 0) rfl) (by rw [flat_len (by assumption)]; omega)) rfl rfl rfl ?_
    refine st_appendi (h := 5) Try.underlying28 Try.underlying28 ty5 rfl rfl rfl rfl (fun w1 sw => rd_arrh (sw.sl_rd (h := 0) rfl) (by assumption) (by omega)) (by first | omega | (simp only [List.length_append, List.length_cons, List.length_nil, List.length_set, List.length_replicate, List.length_take, List.length_drop, ints_length, wr_length, sha_len, way_len _ (by assumption), secret_len, digits_len] <;> omega)) (by decide) rfl rfl (fun v17 => ?_)
    refine st (ev_assign rfl) rfl rfl rfl ?_
    refine op_nil ?_
    refine ax_block ?_
    refine ax_then ?_
    refine At.regs (L' := [(0, _), (2, _), (3, _), (4, _), (6, _), (7, _), (8, _), (9, _), (12, _), (13, _), (14, _), (15, _), (16, _), (17, _)]) (.cons rfl (.cons rfl (.cons rfl (.cons rfl (.cons rfl (.cons rfl (.cons rfl (.cons rfl (.cons rfl (.cons rfl (.cons rfl (.cons rfl (.cons rfl (.cons rfl (.nil _))))))))))))))) ?_
    refine cd_region ?_
    refine st (ev_move rfl) rfl rfl rfl ?_
    refine st (ev_add64 rfl rfl (by omega) (by omega)) rfl rfl rfl ?_
    refine st (ev_assign rfl) rfl rfl rfl ?_
    refine op_nil ?_
    refine ax_heq (i := 5) (v' := .own (v17) 5 1 (ints .u8 (tex (fun i => hs.getD i []) (x.1 + 1)))) rfl (by rw [e0]; rfl) ?_
    exact at_again ((x.1 + 1, v17)) (by show x.1 + 1 ≤ 36; omega) (by omega) (.cons rfl (.cons rfl (.cons rfl (.cons rfl (.nil _))))) (.cons rfl (.cons rfl (.nil _))) (.cons rfl (.nil _))
  ·
    obtain ⟨j, u⟩ := x
    dsimp only at hi hc9 htx ⊢
    obtain rfl : j = 36 := by omega
    refine cd_exit ?_
    refine ax_then_exit ?_
    refine ax_then_exit ?_
    refine ax_block_hit ?_
    refine ax_then ?_
    refine At.regs (L' := [(2, _), (3, _)]) (.cons rfl (.cons rfl (.nil _))) ?_
    refine cd_seq ?_
    refine cd_region ?_
    refine st (ev_move rfl) rfl rfl rfl ?_
    refine st_callv has98 rfl (fun w1 sw => rsum_any u (tex (fun i => hs.getD i []) 36) w1 (by rw [htx]; omega) (sw.own_rd (h := 5) rfl)) rfl rfl ?_
    refine st_store_all 2 ty55 rfl rfl rfl rfl (by first | omega | (simp only [List.length_append, List.length_cons, List.length_nil, List.length_set, List.length_replicate, List.length_take, List.length_drop, ints_length, wr_length, sha_len, way_len _ (by assumption), secret_len, digits_len] <;> omega) | rfl) (ints_one _ _) (by first | omega | (simp only [List.length_append, List.length_cons, List.length_nil, List.length_set, List.length_replicate, List.length_take, List.length_drop, ints_length, wr_length, sha_len, way_len _ (by assumption), secret_len, digits_len] <;> omega) | rfl) rfl ?_
    refine op_nil ?_
    refine ax_then ?_
    refine At.regs (L' := [(2, _)]) (.cons rfl (.nil _)) ?_
    refine cd_ret ?_
    refine rt_cell (h0 := 2) (.inl rfl) Try.results97 ty55 rfl rfl rfl (by first | omega | (simp only [List.length_append, List.length_cons, List.length_nil, List.length_set, List.length_replicate, List.length_take, List.length_drop, ints_length, wr_length, sha_len, way_len _ (by assumption), secret_len, digits_len] <;> omega) | rfl) ?_
    exact fun w1 sw => ⟨rfl, sw.gives (.nil _)⟩
set_option maxRecDepth 20000 in
set_option maxHeartbeats 2000000 in
theorem rpublic_any (s : List Int) (l : Int) (w : World) (hl : s.length = 32) : Calls Try.prog 67 #[.agg (ints .u8 (s)).toArray, .int .i64 l] w (PostV w (.agg (ints .u8 (pub s l)).toArray)) := by
  refine calls_at (vs := [.agg (ints .u8 (s)).toArray, .int .i64 l]) (X := []) (H := []) (F := []) 22 Try.func67 rfl rfl rfl (Sat.start0 w) ?_
  refine cd_seq ?_
  refine cd_region ?_
  refine st_box (h := 2) rfl rfl rfl rfl (fun b2 => ?_)
  refine st_alloc (h := 4) ty55 rfl rfl rfl (fun b4 => ?_)
  refine op_nil ?_
  refine ax_then ?_
  refine At.regs (L' := [(1, _), (2, _), (4, _)]) (.cons rfl (.cons rfl (.cons rfl (.nil _)))) ?_
  refine cd_seq ?_
  refine cd_region ?_
  refine st (ev_assign rfl) rfl rfl rfl ?_
  refine at_own_nil 5 55 32 ?_
  refine at_heq (i := 5) (v' := .own (.slice none 0 0) 55 32 (flat [])) rfl rfl ?_
  have hu5 := H32.nil
  refine op_nil ?_
  refine ax_then ?_
  refine At.regs (L' := [(1, _), (2, _), (4, _), (5, _)]) (.cons rfl (.cons rfl (.cons rfl (.cons rfl (.nil _))))) ?_
  refine cd_seq ?_
  refine cd_seq ?_
  refine cd_region ?_
  refine st (ev_assign rfl) rfl rfl rfl ?_
  refine op_nil ?_
  refine ax_then ?_
  refine At.regs (L' := [(1, _), (2, _), (4, _), (5, _), (6, _)]) (.cons rfl (.cons rfl (.cons rfl (.cons rfl (.cons rfl (.nil _)))))) ?_
  refine cd_block ?_
  refine cd_loop (ι := Nat × Value) (fun x => x.1 ≤ 36) (fun x => 36 - x.1)
      (fun x => [(1, .int .i64 l), (2, .pointer (some ⟨b2, 0, none⟩)), (4, .pointer (some ⟨b4, 0, none⟩)), (5, x.2), (6, .int .i64 (x.1 : Int))])
      (fun x => [(2, .blk b2 (.cells (ints .u8 (s)).toArray 55)), (4, .blk b4 (.cells (ints .u8 (List.replicate 32 0)).toArray 55)), (5, .own (x.2) 55 32 (flat (pubs s l x.1)))])
      (fun x => [])
      (0, .slice none 0 0) (by omega) (.cons rfl (.cons rfl (.cons rfl (.cons rfl (.cons rfl (.nil _)))))) (.cons rfl (.cons rfl (.cons rfl (.nil _)))) (.nil _) (fun x hi => ?_)
  have hsu := pubs_h32 s l x.1
  have hsn := pubs_len s l x.1
  have e0 : (x.1 : Int).toNat = x.1 := by omega
  refine cd_seq ?_
  refine cd_seq ?_
  refine cd_region ?_
  refine st (ev_move rfl) rfl rfl rfl ?_
  refine st (ev_lss rfl rfl) rfl rfl rfl ?_
  refine op_nil ?_
  refine ax_then ?_
  refine At.regs (L' := [(1, _), (2, _), (4, _), (5, _), (6, _), (7, _), (8, _)]) (.cons rfl (.cons rfl (.cons rfl (.cons rfl (.cons rfl (.cons rfl (.cons rfl (.nil _)))))))) ?_
  refine cd_if rfl (fun hc8 => ?_) (fun hc8 => ?_)
  ·
    refine cd_skip ?_
    refine ax_then ?_
    refine At.regs (L' := [(1, _), (2, _), (4, _), (5, _), (6, _), (7, _), (8, _)]) (.cons rfl (.cons rfl (.cons rfl (.cons rfl (.cons rfl (.cons rfl (.cons rfl (.nil _)))))))) ?_
    refine cd_seq ?_
    refine cd_block ?_
    refine cd_region ?_
    refine st (ev_move rfl) rfl rfl rfl ?_
    refine st (ld_blk_all (h := 2) ty55 rfl rfl rfl (by first | omega | (simp only [List.length_append, List.length_cons, List.length_nil, List.length_set, List.length_replicate, List.length_take, List.length_drop, ints_length, wr_length, sha_len, way_len _ (by assumption), secret_len, digits_len] <;> omega) | rfl)) rfl rfl rfl ?_
    refine st (ev_move rfl) rfl rfl rfl ?_
    refine st (ev_move rfl) rfl rfl rfl ?_
    refine st_callv has96 rfl (fun w1 sw => rsecret_any s l x.1 w1 hl) rfl rfl ?_
    refine st (ev_move rfl) rfl rfl rfl ?_
    refine st_callv has95 rfl (fun w1 sw => rwalk_any (secret s l x.1) x.1 0 3 w1 (secret_len s l x.1) (by decide)) rfl rfl ?_
    have hwl := walk_len (h := secret s l x.1) x.1 0 3 (secret_len s l x.1)
    refine st_bsh1 (h := 18) Try.underlying22 ty55 rfl (by first | assumption | omega) rfl rfl (fun b18 hu18 => ?_)
    refine st_appendh (h := 5) Try.underlying22 Try.underlying22 ty55 rfl rfl rfl rfl (fun w1 sw => sw.own_rd (h := 18) rfl) (by assumption) (by assumption) (by first | omega | (simp only [List.length_append, List.length_cons, List.length_nil, List.length_set, List.length_replicate, List.length_take, List.length_drop, ints_length, wr_length, sha_len, way_len _ (by assumption), secret_len, digits_len] <;> omega)) (by decide) rfl rfl (fun v19 hu19 => ?_)
    refine st (ev_assign rfl) rfl rfl rfl ?_
    refine op_nil ?_
    refine ax_block ?_
    refine ax_then ?_
    refine At.regs (L' := [(1, _), (2, _), (4, _), (5, _), (6, _), (7, _), (8, _), (11, _), (12, _), (13, _), (14, _), (15, _), (16, _), (17, _), (18, _), (19, _)]) (.cons rfl (.cons rfl (.cons rfl (.cons rfl (.cons rfl (.cons rfl (.cons rfl (.cons rfl (.cons rfl (.cons rfl (.cons rfl (.cons rfl (.cons rfl (.cons rfl (.cons rfl (.cons rfl (.nil _))))))))))))))))) ?_
    refine cd_region ?_
    refine st (ev_move rfl) rfl rfl rfl ?_
    refine st (ev_add64 rfl rfl (by omega) (by omega)) rfl rfl rfl ?_
    refine st (ev_assign rfl) rfl rfl rfl ?_
    refine op_nil ?_
    refine ax_heq (i := 5) (v' := .own (v19) 55 32 (flat (pubs s l (x.1 + 1)))) rfl (by rw [pubs_snoc]) ?_
    exact at_again ((x.1 + 1, v19)) (by show x.1 + 1 ≤ 36; omega) (by omega) (.cons rfl (.cons rfl (.cons rfl (.cons rfl (.cons rfl (.nil _)))))) (.cons rfl (.cons rfl (.cons rfl (.nil _)))) (.nil _)
  ·
    obtain ⟨j, u⟩ := x
    dsimp only at hi hc8 ⊢
    obtain rfl : j = 36 := by omega
    refine cd_exit ?_
    refine ax_then_exit ?_
    refine ax_then_exit ?_
    refine ax_block_hit ?_
    refine ax_then ?_
    refine At.regs (L' := [(4, _), (5, _)]) (.cons rfl (.cons rfl (.nil _))) ?_
    refine cd_seq ?_
    refine cd_region ?_
    refine st (ev_move rfl) rfl rfl rfl ?_
    refine st_callv has97 rfl (fun w1 sw => rends_any u (pubs s l 36) w1 (pubs_h32 s l 36) (pubs_len s l 36) (sw.own_rd (h := 5) rfl)) rfl rfl ?_
    refine at_eq (i := 21) (v' := .agg (ints .u8 (pub s l)).toArray) rfl (by rw [pubs_ends]) ?_
    have hpl : (pub s l).length = 32 := sha_len _
    refine st_store_all 4 ty55 rfl rfl rfl rfl (by first | omega | (simp only [List.length_append, List.length_cons, List.length_nil, List.length_set, List.length_replicate, List.length_take, List.length_drop, ints_length, wr_length, sha_len, way_len _ (by assumption), secret_len, digits_len] <;> omega) | rfl) (ints_one _ _) (by first | omega | (simp only [List.length_append, List.length_cons, List.length_nil, List.length_set, List.length_replicate, List.length_take, List.length_drop, ints_length, wr_length, sha_len, way_len _ (by assumption), secret_len, digits_len] <;> omega) | rfl) rfl ?_
    refine op_nil ?_
    refine ax_then ?_
    refine At.regs (L' := [(4, _)]) (.cons rfl (.nil _)) ?_
    refine cd_ret ?_
    refine rt_cell (h0 := 4) (.inl rfl) Try.results67 ty55 rfl rfl rfl (by first | omega | (simp only [List.length_append, List.length_cons, List.length_nil, List.length_set, List.length_replicate, List.length_take, List.length_drop, ints_length, wr_length, sha_len, way_len _ (by assumption), secret_len, digits_len] <;> omega) | rfl) ?_
    exact fun w1 sw => ⟨rfl, sw.gives (.nil _)⟩
end Go.Proofs.Ytgfnmolbagilmaa
namespace Go.Proofs.Ytgfnmolbagilmaa
open Go Go.RowKit Fw
open Sha
open Ots
set_option linter.unusedVariables false
set_option linter.unusedSimpArgs false
theorem digits_range (m : List Int) (i : Nat) : 0 ≤ (digits m).getD i 0 ∧ (digits m).getD i 0 ≤ 3 := by
  have h : ∀ x, x ∈ digits m → 0 ≤ x ∧ x ≤ 3 := by
    intro x hx
    simp only [Ots.digits, d2, List.mem_append, List.mem_map, List.mem_replicate] at hx
    rcases hx with (⟨c, _, rfl⟩ | ⟨c, _, rfl⟩) | ⟨_, rfl⟩
    · exact dg_range _ _
    · omega
    · omega
  rw [List.getD_eq_getElem?_getD]
  cases e : (digits m)[i]? with
  | none => decide
  | some x => exact h x (List.mem_of_getElem? e)
/-- what chains are recovered to -/
def recs (m : List Int) (cs : List (List Int)) (n : Nat) : List (List Int) := (List.range n).map fun (c : Nat) => walk (cs.getD c []) c ((digits m).getD c 0) 3
theorem recs_snoc (m : List Int) (cs : List (List Int)) (n : Nat) : recs m cs (n + 1) = recs m cs n ++ [walk (cs.getD n []) n ((digits m).getD n 0) 3] := by simp [recs, List.range_succ]
theorem recs_h32 (m : List Int) {cs : List (List Int)} (hu : H32 cs) (n : Nat) (hn : n ≤ cs.length) : H32 (recs m cs n) := fun h hh => by
  simp only [recs, List.mem_map, List.mem_range] at hh
  obtain ⟨c, hc, rfl⟩ := hh
  exact walk_len _ _ _ (hu.get (by omega))
theorem recs_len (m : List Int) (cs : List (List Int)) (n : Nat) : (recs m cs n).length = n := by simp [recs]
def recov (m : List Int) (cs : List (List Int)) : List Int := if cs.length = 36 then ends (fun c => walk (cs.getD c []) c ((digits m).getD c 0) 3) else List.replicate 32 0
theorem recs_ends (m : List Int) (cs : List (List Int)) (h : cs.length = 36) : ends (fun i => (recs m cs 36).getD i []) = recov m cs := by
  rw [recov, if_pos h]
  exact ends_congr fun i hi => by
    rw [recs, List.getD_eq_getElem?_getD, List.getElem?_map, List.getElem?_range hi]
    rfl
theorem recov_len (m : List Int) (cs : List (List Int)) : (recov m cs).length = 32 := by
  rw [recov]
  split
  · exact sha_len _
  · simp
theorem at36 (d : List Int) (x : Value) (hl : d.length = 36) : (ints .i64 d ++ [x])[36]? = some x := by
  rw [List.getElem?_append_right (by rw [ints_length, hl]; decide), ints_length, hl]
  rfl
theorem lt36 (d : List Int) (x : Value) (hl : d.length = 36) (i : Nat) (hi : i < 36) : (ints .i64 d ++ [x])[i]? = some (.int .i64 (d.getD i 0)) := by
  rw [List.getElem?_append_left (by rw [ints_length, hl]; exact hi)]
  exact ints_get _ _ _ (by omega)
set_option maxRecDepth 20000 in
set_option maxHeartbeats 2000000 in
theorem rsign_any (s : List Int) (l : Int) (p : Value) (m : List Int) (w : World) (hl : s.length = 32) (hm : m.length ≤ 140737488352000) (h : Rd w p 1 (ints .u8 m)) : Calls Try.prog 73 #[.agg (ints .u8 (s)).toArray, .int .i64 l, p] w (Post (ι := Value) w [] (fun _ => True) (fun v => v) (fun v => [(0, .own (v) 55 32 (flat (sign s l m 36)))])) := by
  refine calls_at (vs := [.agg (ints .u8 (s)).toArray, .int .i64 l, p]) (X := []) (H := []) (F := [(2, .sl p 1 (ints .u8 (m)))]) 29 Try.func73 rfl rfl rfl (Sat.rd0 2 h) ?_
  refine cd_seq ?_
  refine cd_region ?_
  refine st_box (h := 3) rfl rfl rfl rfl (fun b3 => ?_)
  refine st (ev_assign rfl) rfl rfl rfl ?_
  refine at_own_nil 6 55 32 ?_
  refine at_heq (i := 6) (v' := .own (.slice none 0 0) 55 32 (flat [])) rfl rfl ?_
  have hu6 := H32.nil
  refine op_nil ?_
  refine ax_then ?_
  refine At.regs (L' := [(1, _), (2, _), (3, _), (6, _)]) (.cons rfl (.cons rfl (.cons rfl (.cons rfl (.nil _))))) ?_
  refine cd_seq ?_
  refine cd_region ?_
  refine st (ev_move rfl) rfl rfl rfl ?_
  refine st_callv has104 rfl (fun w1 sw => rdigits_any p m w1 hm (sw.sl_rd (h := 2) rfl)) rfl rfl ?_
  have hdl0 := digits_len m
  refine st_alloc (h := 7) ty153 rfl rfl rfl (fun b7 => ?_)
  refine st_store_all 7 ty153 rfl rfl rfl rfl (by first | omega | (simp only [List.length_append, List.length_cons, List.length_nil, List.length_set, List.length_replicate, List.length_take, List.length_drop, ints_length, wr_length, sha_len, way_len _ (by assumption), secret_len, digits_len] <;> omega) | rfl) (ints_one _ _) (by first | omega | (simp only [List.length_append, List.length_cons, List.length_nil, List.length_set, List.length_replicate, List.length_take, List.length_drop, ints_length, wr_length, sha_len, way_len _ (by assumption), secret_len, digits_len] <;> omega) | rfl) rfl ?_
  refine op_nil ?_
  refine ax_then ?_
  refine At.regs (L' := [(1, _), (3, _), (6, _), (7, _)]) (.cons rfl (.cons rfl (.cons rfl (.cons rfl (.nil _))))) ?_
  refine cd_seq ?_
  refine at_freeze_blk (h := 3) (H' := [(7, _)]) 3 rfl (.cons rfl (.nil _)) rfl ?_
  refine at_freeze_blk (h := 7) (H' := []) 7 rfl (.nil _) rfl ?_
  refine cd_region ?_
  refine st (ev_assign rfl) rfl rfl rfl ?_
  refine at_own_nil 8 55 32 ?_
  refine at_heq (i := 8) (v' := .own (.slice none 0 0) 55 32 (flat [])) rfl rfl ?_
  have hu8 := H32.nil
  refine op_nil ?_
  refine ax_then ?_
  refine At.regs (L' := [(1, _), (3, _), (6, _), (7, _), (8, _)]) (.cons rfl (.cons rfl (.cons rfl (.cons rfl (.cons rfl (.nil _)))))) ?_
  refine cd_seq ?_
  refine cd_seq ?_
  refine cd_region ?_
  refine st (ev_assign rfl) rfl rfl rfl ?_
  refine op_nil ?_
  refine ax_then ?_
  refine At.regs (L' := [(1, _), (3, _), (6, _), (7, _), (8, _), (9, _)]) (.cons rfl (.cons rfl (.cons rfl (.cons rfl (.cons rfl (.cons rfl (.nil _))))))) ?_
  refine cd_block ?_
  have hdl := digits_len m
  refine cd_loop (ι := Nat × Value) (fun x => x.1 ≤ 36) (fun x => 36 - x.1)
      (fun x => [(1, .int .i64 l), (3, .pointer (some ⟨b3, 0, none⟩)), (7, .pointer (some ⟨b7, 0, none⟩)), (8, x.2), (9, .int .i64 (x.1 : Int))])
      (fun x => [(8, .own (x.2) 55 32 (flat (sign s l m x.1)))])
      (fun x => [(3, .mem b3 0 (ints .u8 s)), (7, .mem b7 0 (ints .i64 (digits m)))])
      (0, .slice none 0 0) (by omega) (.cons rfl (.cons rfl (.cons rfl (.cons rfl (.cons rfl (.nil _)))))) (.cons rfl (.nil _)) (.cons rfl (.cons rfl (.nil _))) (fun x hi => ?_)
  have hsu := sign_h32 s l m x.1
  have hsn := sign_len s l m x.1
  have e0 : 0 + (x.1 : Int).toNat * 1 = x.1 := by omega
  have hdl := digits_len m
  refine cd_seq ?_
  refine cd_seq ?_
  refine cd_region ?_
  refine st (ev_move rfl) rfl rfl rfl ?_
  refine st (ev_lss rfl rfl) rfl rfl rfl ?_
  refine op_nil ?_
  refine ax_then ?_
  refine At.regs (L' := [(1, _), (3, _), (7, _), (8, _), (9, _), (12, _), (13, _)]) (.cons rfl (.cons rfl (.cons rfl (.cons rfl (.cons rfl (.cons rfl (.cons rfl (.nil _)))))))) ?_
  refine cd_if rfl (fun hc13 => ?_) (fun hc13 => ?_)
  ·
    refine cd_skip ?_
    refine ax_then ?_
    refine At.regs (L' := [(1, _), (3, _), (7, _), (8, _), (9, _), (12, _), (13, _)]) (.cons rfl (.cons rfl (.cons rfl (.cons rfl (.cons rfl (.cons rfl (.cons rfl (.nil _)))))))) ?_
    refine cd_seq ?_
    refine cd_block ?_
    refine cd_mix hmix ?_
    refine mx (i := 0) rfl (by decide +kernel) (by decide +kernel) (by decide +kernel) rfl (fun w0 => ev_move rfl) rfl rfl (Sub.refl _) ?_
    refine mx (i := 1) rfl (by decide +kernel) (by decide +kernel) (by decide +kernel) rfl (fun w0 => ld_mem_all (h := 3) ty55 rfl rfl rfl (by first | omega | (simp only [List.length_append, List.length_cons, List.length_nil, List.length_set, List.length_replicate, List.length_take, List.length_drop, ints_length, wr_length, sha_len, way_len _ (by assumption), secret_len, digits_len] <;> omega) | rfl)) rfl rfl (Sub.refl _) ?_
    refine mx (i := 2) rfl (by decide +kernel) (by decide +kernel) (by decide +kernel) rfl (fun w0 => ev_move rfl) rfl rfl (Sub.refl _) ?_
    refine mx (i := 3) rfl (by decide +kernel) (by decide +kernel) (by decide +kernel) rfl (fun w0 => ev_move rfl) rfl rfl (Sub.refl _) ?_
    refine mx (i := 5) rfl (by decide +kernel) (by decide +kernel) (by decide +kernel) rfl (fun w0 => ev_move rfl) rfl rfl (Sub.refl _) ?_
    refine mx (i := 6) rfl (by decide +kernel) (by decide +kernel) (by decide +kernel) rfl (fun w0 => ev_move rfl) rfl rfl (Sub.refl _) ?_
    refine mx (i := 7) rfl (by decide +kernel) (by decide +kernel) (by decide +kernel) rfl (fun w0 => ev_indexAddr_arr Try.underlying153 ty3 rfl rfl (by omega) (by omega)) rfl rfl (Sub.refl _) ?_
    refine mx (i := 8) rfl (by decide +kernel) (by decide +kernel) (by decide +kernel) rfl (fun w0 => ld_mem1 (h := 7) ty3 rfl rfl rfl (Nat.zero_add _).symm (ints_get _ _ _ (by first | omega | (simp only [List.length_append, List.length_cons, List.length_nil, List.length_set, List.length_replicate, List.length_take, List.length_drop, ints_length, wr_length, sha_len, way_len _ (by assumption), secret_len, digits_len] <;> omega) | rfl))) rfl rfl (Sub.refl _) ?_
    refine mx_one (i := 4) (by decide +kernel) (Sub.refl _) ?_
    refine wo (i := 4) rfl ?_
    refine st_callv has96 rfl (fun w1 sw => rsecret_any s l x.1 w1 hl) rfl rfl ?_
    refine op_nil ?_
    refine ax_then ?_
    refine mx_one (i := 9) (by decide +kernel) (Sub.refl _) ?_
    refine wo (i := 9) rfl ?_
    refine st_callv has95 rfl (fun w1 sw => rwalk_any (secret s l x.1) x.1 0 ((digits m).getD (0 + (x.1 : Int).toNat * 1) 0) w1 (secret_len s l x.1) (by decide)) rfl rfl ?_
    have hwl := walk_len (h := secret s l x.1) x.1 0 ((digits m).getD (0 + (x.1 : Int).toNat * 1) 0) (secret_len s l x.1)
    refine op_nil ?_
    refine ax_then ?_
    refine mx_one (i := 10) (by decide +kernel) (Sub.refl _) ?_
    refine wo (i := 10) rfl ?_
    refine st_bsh1 (h := 26) Try.underlying22 ty55 rfl (by first | assumption | omega) rfl rfl (fun b26 hu26 => ?_)
    refine op_nil ?_
    refine ax_then ?_
    refine mx_one (i := 11) (by decide +kernel) (Sub.refl _) ?_
    refine wo (i := 11) rfl ?_
    refine st_appendh (h := 8) Try.underlying22 Try.underlying22 ty55 rfl rfl rfl rfl (fun w1 sw => sw.own_rd (h := 26) rfl) (by assumption) (by assumption) (by first | omega | (simp only [List.length_append, List.length_cons, List.length_nil, List.length_set, List.length_replicate, List.length_take, List.length_drop, ints_length, wr_length, sha_len, way_len _ (by assumption), secret_len, digits_len] <;> omega)) (by decide) rfl rfl (fun v27 hu27 => ?_)
    refine op_nil ?_
    refine ax_then ?_
    refine mx (i := 12) rfl (by decide +kernel) (by decide +kernel) (by decide +kernel) rfl (fun w0 => ev_assign rfl) rfl rfl (Sub.refl _) ?_
    refine mx_done (by decide +kernel) (Sub.refl _) ?_
    refine ax_block ?_
    refine ax_then ?_
    refine At.regs (L' := [(1, _), (3, _), (7, _), (8, _), (9, _), (12, _), (13, _), (16, _), (17, _), (18, _), (19, _), (20, _), (21, _), (22, _), (23, _), (24, _), (25, _), (26, _), (27, _)]) (.cons rfl (.cons rfl (.cons rfl (.cons rfl (.cons rfl (.cons rfl (.cons rfl (.cons rfl (.cons rfl (.cons rfl (.cons rfl (.cons rfl (.cons rfl (.cons rfl (.cons rfl (.cons rfl (.cons rfl (.cons rfl (.cons rfl (.nil _)))))))))))))))))))) ?_
    refine cd_region ?_
    refine st (ev_move rfl) rfl rfl rfl ?_
    refine st (ev_add64 rfl rfl (by omega) (by omega)) rfl rfl rfl ?_
    refine st (ev_assign rfl) rfl rfl rfl ?_
    refine op_nil ?_
    refine ax_heq (i := 8) (v' := .own (v27) 55 32 (flat (sign s l m (x.1 + 1)))) rfl (by rw [sign_snoc, e0]) ?_
    exact at_again ((x.1 + 1, v27)) (by show x.1 + 1 ≤ 36; omega) (by omega) (.cons rfl (.cons rfl (.cons rfl (.cons rfl (.cons rfl (.nil _)))))) (.cons rfl (.nil _)) (.cons rfl (.cons rfl (.nil _)))
  ·
    obtain ⟨j, u⟩ := x
    dsimp only at hi hc13 ⊢
    obtain rfl : j = 36 := by omega
    refine cd_exit ?_
    refine ax_then_exit ?_
    refine ax_then_exit ?_
    refine ax_block_hit ?_
    refine ax_then ?_
    refine At.regs (L' := [(8, _)]) (.cons rfl (.nil _)) ?_
    refine cd_seq ?_
    refine cd_region ?_
    refine st (ev_move rfl) rfl rfl rfl ?_
    refine st (ev_assign rfl) rfl rfl rfl ?_
    refine op_nil ?_
    refine ax_then ?_
    refine At.regs (L' := [(6, _)]) (.cons rfl (.nil _)) ?_
    refine cd_ret ?_
    refine rt_tmp (.inl rfl) Try.results73 rfl ?_
    exact fun w1 sw => ⟨_, trivial, rfl, (sw.gives (N := [(8, _)]) (.cons rfl (.nil _))).rn 0⟩
end Go.Proofs.Ytgfnmolbagilmaa
namespace Go.Proofs.Ytgfnmolbagilmaa
open Go Go.RowKit Fw
open Sha
open Ots
set_option linter.unusedVariables false
set_option linter.unusedSimpArgs false
set_option maxRecDepth 20000 in
set_option maxHeartbeats 1000000 in
theorem sigEnd_any (d : List Int) (v : Value) (cs : List (List Int)) (c : Nat) (w : World) (hd : d.length = 36) (hd3 : ∀ i, d.getD i 0 ≤ 3) (hu : H32 cs) (hn : cs.length = 36) (hc : c < 36) (h : Rd w v 32 (flat cs)) : Calls Try.prog 129 #[.agg (ints .i64 (d) ++ [v]).toArray, .int .i64 (c : Int)] w (PostV w (.agg (ints .u8 (walk (cs.getD c []) c (d.getD c 0) 3)).toArray)) := by
  have hwl := walk_len (h := cs.getD c []) c (d.getD c 0) 3 (hu.get (by omega))
  refine calls_at (vs := [.agg (ints .i64 (d) ++ [v]).toArray, .int .i64 (c : Int)]) (X := []) (H := []) (F := [(20, .sl v 32 (flat (cs)))]) 16 Try.func129 rfl rfl rfl (Sat.rd0 20 h) ?_
  refine cd_seq ?_
  refine cd_region ?_
  refine st_box (h := 2) rfl rfl rfl rfl (fun b2 => ?_)
  refine st_alloc (h := 4) ty55 rfl rfl rfl (fun b4 => ?_)
  refine op_nil ?_
  refine ax_then ?_
  refine At.regs (L' := [(1, _), (2, _), (4, _)]) (.cons rfl (.cons rfl (.cons rfl (.nil _)))) ?_
  refine cd_seq ?_
  refine cd_open_tail 11 hmix (by decide +kernel) ?_
  refine qt (ev_fieldAddr (b := _) Try.underlying178 (f := _) rfl ty22 (by decide) rfl) rfl rfl rfl ?_
  refine qt (ld_blk1 (h := 2) ty22 rfl rfl rfl (at36 d v hd)) rfl rfl rfl ?_
  refine qt (ev_move rfl) rfl rfl rfl ?_
  refine qt (ev_indexAddr_rdh (h := 20) Try.underlying22 ty55 rfl rfl rfl (by assumption) (by omega) (by omega)) rfl rfl rfl ?_
  refine qt (ld_rdh (h := 20) ty55 rfl rfl rfl (by assumption) (by omega)) rfl rfl rfl ?_
  refine qt_eq (i := 9) (v' := .agg (ints .u8 (cs.getD c [])).toArray) rfl (by rw [Int.toNat_natCast]) ?_
  refine qt (ev_move rfl) rfl rfl rfl ?_
  refine qt (ev_move rfl) rfl rfl rfl ?_
  refine qt (ev_fieldAddr (b := _) Try.underlying178 (f := _) rfl ty153 (by decide) rfl) rfl rfl rfl ?_
  refine qt (ev_indexAddr_arr Try.underlying153 ty3 rfl rfl (by omega) (by omega)) rfl rfl rfl ?_
  refine qt (ld_blk1 (h := 2) ty3 rfl rfl rfl (lt36 d v hd _ (by show 0 + 0 + (c : Int).toNat * 1 < 36; omega))) rfl rfl rfl ?_
  have e0 : 0 + 0 + (c : Int).toNat * 1 = c := by omega
  refine qt_eq (i := 14) (v' := .int .i64 (d.getD c 0)) rfl (by show Value.int .i64 (d.getD (0 + 0 + (c : Int).toNat * 1) 0) = _; rw [e0]) ?_
  have hgc := hu.get (i := c) (by omega)
  refine qt_callv has111 rfl (fun w1 sw => walk_any (cs.getD c []) c (d.getD c 0) 3 w1 hgc (by have := hd3 c; omega)) rfl rfl ?_
  refine qt_end ?_
  refine st_store_all 4 ty55 rfl rfl rfl rfl (by first | omega | (simp only [List.length_append, List.length_cons, List.length_nil, List.length_set, List.length_replicate, List.length_take, List.length_drop, ints_length, wr_length, sha_len, way_len _ (by assumption), secret_len, digits_len, recov_len] <;> omega) | rfl) (ints_one _ _) (by first | omega | (simp only [List.length_append, List.length_cons, List.length_nil, List.length_set, List.length_replicate, List.length_take, List.length_drop, ints_length, wr_length, sha_len, way_len _ (by assumption), secret_len, digits_len, recov_len] <;> omega) | rfl) rfl ?_
  refine op_nil ?_
  refine ax_then ?_
  refine At.regs (L' := [(4, _)]) (.cons rfl (.nil _)) ?_
  refine cd_ret ?_
  refine rt_cell (h0 := 4) (.inl rfl) Try.results129 ty55 rfl rfl rfl (by first | omega | (simp only [List.length_append, List.length_cons, List.length_nil, List.length_set, List.length_replicate, List.length_take, List.length_drop, ints_length, wr_length, sha_len, way_len _ (by assumption), secret_len, digits_len, recov_len] <;> omega) | rfl) ?_
  exact fun w1 sw => ⟨rfl, sw.gives (.nil _)⟩
def gS (m : List Int) (cs : List (List Int)) (c : Nat) : List Int := if c < 36 then walk (cs.getD c []) c ((Ots.digits m).getD c 0) 3 else List.replicate 32 0
theorem gS_len (m : List Int) {cs : List (List Int)} (hu : H32 cs) (hn : cs.length = 36) (i : Nat) : (gS m cs i).length = 32 := by
  rw [gS]
  split
  · exact walk_len _ _ _ (hu.get (by omega))
  · simp
theorem gS_ends (m : List Int) {cs : List (List Int)} (hn : cs.length = 36) : ends (gS m cs) = recov m cs := by
  rw [recov, if_pos hn]
  exact ends_congr fun i hi => by rw [gS, if_pos hi]
set_option maxRecDepth 20000 in
set_option maxHeartbeats 2000000 in
theorem recover_any (p q : Value) (m : List Int) (cs : List (List Int)) (w : World) (hm : m.length ≤ 140737488352000) (hu : H32 cs) (hcl : cs.length ≤ 140737488352000) (h : Rd w p 1 (ints .u8 m)) (h' : Rd w q 32 (flat cs)) : Calls Try.prog 116 #[p, q] w (PostV w (.tuple #[.agg (ints .u8 (recov m cs)).toArray, .bool (decide (cs.length = 36))])) := by
  refine calls_at (vs := [p, q]) (X := []) (H := []) (F := [(1, .sl q 32 (flat (cs))), (0, .sl p 1 (ints .u8 (m)))]) 16 Try.func116 rfl rfl rfl ((Sat.rd0 0 h).more 1 h') ?_
  refine cd_seq ?_
  refine cd_region ?_
  refine st_alloc (h := 4) ty55 rfl rfl rfl (fun b4 => ?_)
  refine st (ev_assign rfl) rfl rfl rfl ?_
  refine op_nil ?_
  refine ax_then ?_
  refine At.regs (L' := [(0, _), (1, _), (4, _), (5, _)]) (.cons rfl (.cons rfl (.cons rfl (.cons rfl (.nil _))))) ?_
  refine cd_seq ?_
  refine cd_seq ?_
  refine cd_region ?_
  refine st (ev_move rfl) rfl rfl rfl ?_
  refine st (ev_len_rdh (h := 1) Try.underlying22 rfl rfl (by assumption)) rfl rfl rfl ?_
  refine st (ev_neq rfl rfl) rfl rfl rfl ?_
  refine op_nil ?_
  refine ax_then ?_
  refine At.regs (L' := [(0, _), (1, _), (4, _), (5, _), (8, _)]) (.cons rfl (.cons rfl (.cons rfl (.cons rfl (.cons rfl (.nil _)))))) ?_
  refine cd_if rfl (fun hc8 => ?_) (fun hc8 => ?_)
  ·
    refine cd_seq ?_
    refine cd_region ?_
    refine st (ev_build_array ty55 rfl ty5 rfl rfl) rfl rfl rfl ?_
    refine st_store_all 4 ty55 rfl rfl rfl rfl (by first | omega | (simp only [List.length_append, List.length_cons, List.length_nil, List.length_set, List.length_replicate, List.length_take, List.length_drop, ints_length, wr_length, sha_len, way_len _ (by assumption), secret_len, digits_len, recov_len] <;> omega) | rfl) (ints_one _ _) (by first | omega | (simp only [List.length_append, List.length_cons, List.length_nil, List.length_set, List.length_replicate, List.length_take, List.length_drop, ints_length, wr_length, sha_len, way_len _ (by assumption), secret_len, digits_len, recov_len] <;> omega) | rfl) rfl ?_
    refine st (ev_assign rfl) rfl rfl rfl ?_
    refine op_nil ?_
    refine ax_then ?_
    refine At.regs (L' := [(0, _), (1, _), (4, _), (5, _)]) (.cons rfl (.cons rfl (.cons rfl (.cons rfl (.nil _))))) ?_
    refine cd_ret ?_
    refine ax_then_ret ?_
    refine rt_cell_tmp (h0 := 4) (.inl rfl) Try.results116 ty55 rfl rfl rfl (by first | omega | (simp only [List.length_append, List.length_cons, List.length_nil, List.length_set, List.length_replicate, List.length_take, List.length_drop, ints_length, wr_length, sha_len, way_len _ (by assumption), secret_len, digits_len, recov_len] <;> omega) | rfl) rfl ?_
    exact fun w1 sw => ⟨by rw [recov, if_neg (by omega), decide_eq_false (by omega)], sw.gives (.nil _)⟩
  ·
    have hn : cs.length = 36 := by omega
    refine cd_skip ?_
    refine ax_then ?_
    refine At.regs (L' := [(0, _), (1, _), (4, _), (5, _)]) (.cons rfl (.cons rfl (.cons rfl (.cons rfl (.nil _))))) ?_
    refine cd_seq ?_
    refine cd_region ?_
    refine st (ev_move rfl) rfl rfl rfl ?_
    refine st_callv has110 rfl (fun w1 sw => digits_any p m w1 hm (sw.sl_rd (h := 0) rfl)) rfl rfl ?_
    refine st (ev_move rfl) rfl rfl rfl ?_
    refine st (ev_build_struct ty178 rfl pl178 rfl ((fill_put (i := 0) (off := 0) (n := 36) (vs := ints .i64 (Ots.digits m)) rfl rfl (by rw [ints_length, digits_len]) (Nat.le_of_ble_eq_true rfl)).trans ((fill_put (i := 1) (off := 36) (n := 1) (vs := [q]) rfl (by obtain ⟨_, _, _, rfl, _⟩ := h'; rfl) rfl (by rw [wr_length (by rw [ints_length, digits_len]; exact Nat.le_of_ble_eq_true rfl)]; exact Nat.le_of_ble_eq_true rfl)).trans fill_nil))) rfl rfl rfl ?_
    refine at_eq (i := 13) (v' := .agg (ints .i64 (Ots.digits m) ++ [q]).toArray) rfl (congrArg (fun x => Value.agg (List.toArray x)) (put_last (by rw [ints_length, digits_len]) rfl)) ?_
    refine st (ev_func rfl rfl) rfl rfl rfl ?_
    refine st_callv has105 rfl (fun w1 sw => ends_any 129 has129 [.agg (ints .i64 (Ots.digits m) ++ [q]).toArray] [] q cs (gS m cs) (gS_len m hu hn) w1 (sw.sl_rd (h := 1) rfl) (fun w2 i hi hr => by rw [gS, if_pos hi]; exact sigEnd_any (Ots.digits m) q cs i w2 (digits_len m) (fun i => (digits_range m i).2) hu hn hi hr)) rfl rfl ?_
    refine at_eq (i := 15) (v' := .agg (ints .u8 (recov m cs)).toArray) rfl (by rw [gS_ends m (by omega)]) ?_
    have hrl := recov_len m cs
    refine st_store_all 4 ty55 rfl rfl rfl rfl (by first | omega | (simp only [List.length_append, List.length_cons, List.length_nil, List.length_set, List.length_replicate, List.length_take, List.length_drop, ints_length, wr_length, sha_len, way_len _ (by assumption), secret_len, digits_len, recov_len] <;> omega) | rfl) (ints_one _ _) (by first | omega | (simp only [List.length_append, List.length_cons, List.length_nil, List.length_set, List.length_replicate, List.length_take, List.length_drop, ints_length, wr_length, sha_len, way_len _ (by assumption), secret_len, digits_len, recov_len] <;> omega) | rfl) rfl ?_
    refine st (ev_assign rfl) rfl rfl rfl ?_
    refine op_nil ?_
    refine ax_then ?_
    refine At.regs (L' := [(4, _), (5, _)]) (.cons rfl (.cons rfl (.nil _))) ?_
    refine cd_ret ?_
    refine rt_cell_tmp (h0 := 4) (.inl rfl) Try.results116 ty55 rfl rfl rfl (by first | omega | (simp only [List.length_append, List.length_cons, List.length_nil, List.length_set, List.length_replicate, List.length_take, List.length_drop, ints_length, wr_length, sha_len, way_len _ (by assumption), secret_len, digits_len, recov_len] <;> omega) | rfl) rfl ?_
    exact fun w1 sw => ⟨by rw [decide_eq_true (by omega)], sw.gives (.nil _)⟩
set_option maxRecDepth 20000 in
set_option maxHeartbeats 2000000 in
theorem rrecover_any (p q : Value) (m : List Int) (cs : List (List Int)) (w : World) (hm : m.length ≤ 140737488352000) (hu : H32 cs) (hcl : cs.length ≤ 140737488352000) (h : Rd w p 1 (ints .u8 m)) (h' : Rd w q 32 (flat cs)) : Calls Try.prog 121 #[p, q] w (PostV w (.tuple #[.agg (ints .u8 (recov m cs)).toArray, .bool (decide (cs.length = 36))])) := by
  refine calls_at (vs := [p, q]) (X := []) (H := []) (F := [(1, .sl q 32 (flat (cs))), (0, .sl p 1 (ints .u8 (m)))]) 33 Try.func121 rfl rfl rfl ((Sat.rd0 0 h).more 1 h') ?_
  refine cd_seq ?_
  refine cd_region ?_
  refine st_alloc (h := 4) ty55 rfl rfl rfl (fun b4 => ?_)
  refine st (ev_assign rfl) rfl rfl rfl ?_
  refine op_nil ?_
  refine ax_then ?_
  refine At.regs (L' := [(0, _), (1, _), (4, _), (5, _)]) (.cons rfl (.cons rfl (.cons rfl (.cons rfl (.nil _))))) ?_
  refine cd_seq ?_
  refine cd_seq ?_
  refine cd_region ?_
  refine st (ev_move rfl) rfl rfl rfl ?_
  refine st (ev_len_rdh (h := 1) Try.underlying22 rfl rfl (by assumption)) rfl rfl rfl ?_
  refine st (ev_neq rfl rfl) rfl rfl rfl ?_
  refine op_nil ?_
  refine ax_then ?_
  refine At.regs (L' := [(0, _), (1, _), (4, _), (5, _), (11, _)]) (.cons rfl (.cons rfl (.cons rfl (.cons rfl (.cons rfl (.nil _)))))) ?_
  refine cd_if rfl (fun hc11 => ?_) (fun hc11 => ?_)
  ·
    refine cd_seq ?_
    refine cd_region ?_
    refine st (ev_build_array ty55 rfl ty5 rfl rfl) rfl rfl rfl ?_
    refine st_store_all 4 ty55 rfl rfl rfl rfl (by first | omega | (simp only [List.length_append, List.length_cons, List.length_nil, List.length_set, List.length_replicate, List.length_take, List.length_drop, ints_length, wr_length, sha_len, way_len _ (by assumption), secret_len, digits_len, recov_len] <;> omega) | rfl) (ints_one _ _) (by first | omega | (simp only [List.length_append, List.length_cons, List.length_nil, List.length_set, List.length_replicate, List.length_take, List.length_drop, ints_length, wr_length, sha_len, way_len _ (by assumption), secret_len, digits_len, recov_len] <;> omega) | rfl) rfl ?_
    refine st (ev_assign rfl) rfl rfl rfl ?_
    refine op_nil ?_
    refine ax_then ?_
    refine At.regs (L' := [(0, _), (1, _), (4, _), (5, _)]) (.cons rfl (.cons rfl (.cons rfl (.cons rfl (.nil _))))) ?_
    refine cd_ret ?_
    refine ax_then_ret ?_
    refine rt_cell_tmp (h0 := 4) (.inl rfl) Try.results121 ty55 rfl rfl rfl (by first | omega | (simp only [List.length_append, List.length_cons, List.length_nil, List.length_set, List.length_replicate, List.length_take, List.length_drop, ints_length, wr_length, sha_len, way_len _ (by assumption), secret_len, digits_len, recov_len] <;> omega) | rfl) rfl ?_
    exact fun w1 sw => ⟨by rw [recov, if_neg (by omega), decide_eq_false (by omega)], sw.gives (.nil _)⟩
  ·
    have hn : cs.length = 36 := by omega
    refine cd_skip ?_
    refine ax_then ?_
    refine At.regs (L' := [(0, _), (1, _), (4, _), (5, _)]) (.cons rfl (.cons rfl (.cons rfl (.cons rfl (.nil _))))) ?_
    refine cd_seq ?_
    refine cd_region ?_
    refine st (ev_move rfl) rfl rfl rfl ?_
    refine st_callv has104 rfl (fun w1 sw => rdigits_any p m w1 hm (sw.sl_rd (h := 0) rfl)) rfl rfl ?_
    have hdl0 := digits_len m
    refine st_alloc (h := 6) ty153 rfl rfl rfl (fun b6 => ?_)
    refine st_store_all 6 ty153 rfl rfl rfl rfl (by first | omega | (simp only [List.length_append, List.length_cons, List.length_nil, List.length_set, List.length_replicate, List.length_take, List.length_drop, ints_length, wr_length, sha_len, way_len _ (by assumption), secret_len, digits_len, recov_len] <;> omega) | rfl) (ints_one _ _) (by first | omega | (simp only [List.length_append, List.length_cons, List.length_nil, List.length_set, List.length_replicate, List.length_take, List.length_drop, ints_length, wr_length, sha_len, way_len _ (by assumption), secret_len, digits_len, recov_len] <;> omega) | rfl) rfl ?_
    refine op_nil ?_
    refine ax_then ?_
    refine At.regs (L' := [(1, _), (4, _), (5, _), (6, _)]) (.cons rfl (.cons rfl (.cons rfl (.cons rfl (.nil _))))) ?_
    refine cd_seq ?_
    refine at_freeze_blk (h := 6) (H' := [(4, _)]) 6 rfl (.cons rfl (.nil _)) rfl ?_
    refine cd_region ?_
    refine st (ev_assign rfl) rfl rfl rfl ?_
    refine at_own_nil 7 55 32 ?_
    refine at_heq (i := 7) (v' := .own (.slice none 0 0) 55 32 (flat [])) rfl rfl ?_
    have hu7 := H32.nil
    refine op_nil ?_
    refine ax_then ?_
    refine At.regs (L' := [(1, _), (4, _), (5, _), (6, _), (7, _)]) (.cons rfl (.cons rfl (.cons rfl (.cons rfl (.cons rfl (.nil _)))))) ?_
    refine cd_seq ?_
    refine cd_seq ?_
    refine cd_region ?_
    refine st (ev_assign rfl) rfl rfl rfl ?_
    refine op_nil ?_
    refine ax_then ?_
    refine At.regs (L' := [(1, _), (4, _), (5, _), (6, _), (7, _), (8, _)]) (.cons rfl (.cons rfl (.cons rfl (.cons rfl (.cons rfl (.cons rfl (.nil _))))))) ?_
    refine cd_block ?_
    refine cd_loop (ι := Nat × Value) (fun x => x.1 ≤ 36) (fun x => 36 - x.1)
        (fun x => [(1, q), (4, .pointer (some ⟨b4, 0, none⟩)), (6, .pointer (some ⟨b6, 0, none⟩)), (7, x.2), (8, .int .i64 (x.1 : Int))])
        (fun x => [(4, .blk b4 (.cells (ints .u8 (List.replicate 32 0)).toArray 55)), (7, .own (x.2) 55 32 (flat (recs m cs x.1)))])
        (fun x => [(1, .sl q 32 (flat (cs))), (6, .mem b6 0 (ints .i64 (Ots.digits m)))])
        (0, .slice none 0 0) (by omega) (.cons rfl (.cons rfl (.cons rfl (.cons rfl (.cons rfl (.nil _)))))) (.cons rfl (.cons rfl (.nil _))) (.cons rfl (.cons rfl (.nil _))) (fun x hi => ?_)
    have hsu := recs_h32 m hu x.1 (by omega)
    have hsn := recs_len m cs x.1
    have e0 : 0 + (x.1 : Int).toNat * 1 = x.1 := by omega
    have e1 : (x.1 : Int).toNat = x.1 := by omega
    have hdl := digits_len m
    have hgx : x.1 < 36 → (cs.getD (x.1 : Int).toNat []).length = 32 := fun hx => hu.get (by omega)
    have hdr := digits_range m (0 + (x.1 : Int).toNat * 1)
    refine cd_seq ?_
    refine cd_seq ?_
    refine cd_region ?_
    refine st (ev_move rfl) rfl rfl rfl ?_
    refine st (ev_lss rfl rfl) rfl rfl rfl ?_
    refine op_nil ?_
    refine ax_then ?_
    refine At.regs (L' := [(1, _), (4, _), (6, _), (7, _), (8, _), (15, _), (16, _)]) (.cons rfl (.cons rfl (.cons rfl (.cons rfl (.cons rfl (.cons rfl (.cons rfl (.nil _)))))))) ?_
    refine cd_if rfl (fun hc16 => ?_) (fun hc16 => ?_)
    ·
      have hgx2 := hgx (by omega)
      refine cd_skip ?_
      refine ax_then ?_
      refine At.regs (L' := [(1, _), (4, _), (6, _), (7, _), (8, _), (15, _), (16, _)]) (.cons rfl (.cons rfl (.cons rfl (.cons rfl (.cons rfl (.cons rfl (.cons rfl (.nil _)))))))) ?_
      refine cd_seq ?_
      refine cd_block ?_
      refine cd_mix hmix ?_
      refine mx (i := 0) rfl (by decide +kernel) (by decide +kernel) (by decide +kernel) rfl (fun w0 => ev_move rfl) rfl rfl (Sub.refl _) ?_
      refine mx (i := 1) rfl (by decide +kernel) (by decide +kernel) (by decide +kernel) rfl (fun w0 => ev_move rfl) rfl rfl (Sub.refl _) ?_
      refine mx (i := 2) rfl (by decide +kernel) (by decide +kernel) (by decide +kernel) rfl (fun w0 => ev_move rfl) rfl rfl (Sub.refl _) ?_
      refine mx (i := 3) rfl (by decide +kernel) (by decide +kernel) (by decide +kernel) rfl (fun w0 => ev_indexAddr_rdh (h := 1) Try.underlying22 ty55 rfl rfl rfl (by assumption) (by omega) (by omega)) rfl rfl (Sub.refl _) ?_
      refine mx (i := 4) rfl (by decide +kernel) (by decide +kernel) (by decide +kernel) rfl (fun w0 => ld_rdh (h := 1) ty55 rfl rfl rfl (by assumption) (by omega)) rfl rfl (Sub.refl _) ?_
      refine mx (i := 5) rfl (by decide +kernel) (by decide +kernel) (by decide +kernel) rfl (fun w0 => ev_move rfl) rfl rfl (Sub.refl _) ?_
      refine mx (i := 6) rfl (by decide +kernel) (by decide +kernel) (by decide +kernel) rfl (fun w0 => ev_move rfl) rfl rfl (Sub.refl _) ?_
      refine mx (i := 7) rfl (by decide +kernel) (by decide +kernel) (by decide +kernel) rfl (fun w0 => ev_indexAddr_arr Try.underlying153 ty3 rfl rfl (by omega) (by omega)) rfl rfl (Sub.refl _) ?_
      refine mx (i := 8) rfl (by decide +kernel) (by decide +kernel) (by decide +kernel) rfl (fun w0 => ld_mem1 (h := 6) ty3 rfl rfl rfl (Nat.zero_add _).symm (ints_get _ _ _ (by first | omega | (simp only [List.length_append, List.length_cons, List.length_nil, List.length_set, List.length_replicate, List.length_take, List.length_drop, ints_length, wr_length, sha_len, way_len _ (by assumption), secret_len, digits_len, recov_len] <;> omega) | rfl))) rfl rfl (Sub.refl _) ?_
      refine mx_one (i := 9) (by decide +kernel) (Sub.refl _) ?_
      refine wo (i := 9) rfl ?_
      refine st_callv has95 rfl (fun w1 sw => rwalk_any (cs.getD (x.1 : Int).toNat []) x.1 ((Ots.digits m).getD (0 + (x.1 : Int).toNat * 1) 0) 3 w1 hgx2 (by omega)) rfl rfl ?_
      have hwl := walk_len (h := cs.getD (x.1 : Int).toNat []) x.1 ((Ots.digits m).getD (0 + (x.1 : Int).toNat * 1) 0) 3 hgx2
      refine op_nil ?_
      refine ax_then ?_
      refine mx_one (i := 10) (by decide +kernel) (Sub.refl _) ?_
      refine wo (i := 10) rfl ?_
      refine st_bsh1 (h := 29) Try.underlying22 ty55 rfl (by first | assumption | omega) rfl rfl (fun b29 hu29 => ?_)
      refine op_nil ?_
      refine ax_then ?_
      refine mx_one (i := 11) (by decide +kernel) (Sub.refl _) ?_
      refine wo (i := 11) rfl ?_
      refine st_appendh (h := 7) Try.underlying22 Try.underlying22 ty55 rfl rfl rfl rfl (fun w1 sw => sw.own_rd (h := 29) rfl) (by assumption) (by assumption) (by first | omega | (simp only [List.length_append, List.length_cons, List.length_nil, List.length_set, List.length_replicate, List.length_take, List.length_drop, ints_length, wr_length, sha_len, way_len _ (by assumption), secret_len, digits_len, recov_len] <;> omega)) (by decide) rfl rfl (fun v30 hu30 => ?_)
      refine op_nil ?_
      refine ax_then ?_
      refine mx (i := 12) rfl (by decide +kernel) (by decide +kernel) (by decide +kernel) rfl (fun w0 => ev_assign rfl) rfl rfl (Sub.refl _) ?_
      refine mx_done (by decide +kernel) (Sub.refl _) ?_
      refine ax_block ?_
      refine ax_then ?_
      refine At.regs (L' := [(1, _), (4, _), (6, _), (7, _), (8, _), (15, _), (16, _), (19, _), (20, _), (21, _), (22, _), (23, _), (24, _), (25, _), (26, _), (27, _), (28, _), (29, _), (30, _)]) (.cons rfl (.cons rfl (.cons rfl (.cons rfl (.cons rfl (.cons rfl (.cons rfl (.cons rfl (.cons rfl (.cons rfl (.cons rfl (.cons rfl (.cons rfl (.cons rfl (.cons rfl (.cons rfl (.cons rfl (.cons rfl (.cons rfl (.nil _)))))))))))))))))))) ?_
      refine cd_region ?_
      refine st (ev_move rfl) rfl rfl rfl ?_
      refine st (ev_add64 rfl rfl (by omega) (by omega)) rfl rfl rfl ?_
      refine st (ev_assign rfl) rfl rfl rfl ?_
      refine op_nil ?_
      refine ax_heq (i := 7) (v' := .own (v30) 55 32 (flat (recs m cs (x.1 + 1)))) rfl (by rw [recs_snoc, e0, e1]) ?_
      exact at_again ((x.1 + 1, v30)) (by show x.1 + 1 ≤ 36; omega) (by omega) (.cons rfl (.cons rfl (.cons rfl (.cons rfl (.cons rfl (.nil _)))))) (.cons rfl (.cons rfl (.nil _))) (.cons rfl (.cons rfl (.nil _)))
    ·
      obtain ⟨j, u⟩ := x
      dsimp only at hi hc16 ⊢
      obtain rfl : j = 36 := by omega
      refine cd_exit ?_
      refine ax_then_exit ?_
      refine ax_then_exit ?_
      refine ax_block_hit ?_
      refine ax_then ?_
      refine At.regs (L' := [(4, _), (7, _)]) (.cons rfl (.cons rfl (.nil _))) ?_
      refine cd_seq ?_
      refine cd_region ?_
      refine st (ev_move rfl) rfl rfl rfl ?_
      refine st_callv has97 rfl (fun w1 sw => rends_any u (recs m cs 36) w1 (recs_h32 m hu 36 (by omega)) (recs_len m cs 36) (sw.own_rd (h := 7) rfl)) rfl rfl ?_
      refine at_eq (i := 32) (v' := .agg (ints .u8 (recov m cs)).toArray) rfl (by rw [recs_ends m cs hn]) ?_
      have hrl := recov_len m cs
      refine st_store_all 4 ty55 rfl rfl rfl rfl (by first | omega | (simp only [List.length_append, List.length_cons, List.length_nil, List.length_set, List.length_replicate, List.length_take, List.length_drop, ints_length, wr_length, sha_len, way_len _ (by assumption), secret_len, digits_len, recov_len] <;> omega) | rfl) (ints_one _ _) (by first | omega | (simp only [List.length_append, List.length_cons, List.length_nil, List.length_set, List.length_replicate, List.length_take, List.length_drop, ints_length, wr_length, sha_len, way_len _ (by assumption), secret_len, digits_len, recov_len] <;> omega) | rfl) rfl ?_
      refine st (ev_assign rfl) rfl rfl rfl ?_
      refine op_nil ?_
      refine ax_then ?_
      refine At.regs (L' := [(4, _), (5, _)]) (.cons rfl (.cons rfl (.nil _))) ?_
      refine cd_ret ?_
      refine rt_cell_tmp (h0 := 4) (.inl rfl) Try.results121 ty55 rfl rfl rfl (by first | omega | (simp only [List.length_append, List.length_cons, List.length_nil, List.length_set, List.length_replicate, List.length_take, List.length_drop, ints_length, wr_length, sha_len, way_len _ (by assumption), secret_len, digits_len, recov_len] <;> omega) | rfl) rfl ?_
      exact fun w1 sw => ⟨by rw [decide_eq_true (by omega)], sw.gives (.nil _)⟩
theorem hashes_ext {a b : List (List Int)} (hl : a.length = b.length) (h : ∀ i, i < a.length → a.getD i [] = b.getD i []) : a = b := by
  apply List.ext_getElem hl
  intro i h1 h2
  have := h i h1
  simpa [List.getD_eq_getElem?_getD, h1, h2] using this
set_option maxRecDepth 20000 in
set_option maxHeartbeats 2000000 in
theorem hashes_any (p q : Value) (a b : List (List Int)) (w : World) (ha : H32 a) (hb : H32 b) (hal : a.length ≤ 140737488352000) (hbl : b.length ≤ 140737488352000) (h : Rd w p 32 (flat a)) (h' : Rd w q 32 (flat b)) : Calls Try.prog 65 #[p, q] w (PostV w (.bool (decide (a = b)))) := by
  refine calls_at (vs := [p, q]) (X := []) (H := []) (F := [(1, .sl q 32 (flat (b))), (0, .sl p 32 (flat (a)))]) 26 Try.func65 rfl rfl rfl ((Sat.rd0 0 h).more 1 h') ?_
  refine cd_seq ?_
  refine cd_region ?_
  refine st (ev_assign rfl) rfl rfl rfl ?_
  refine op_nil ?_
  refine ax_then ?_
  refine At.regs (L' := [(0, _), (1, _), (4, _)]) (.cons rfl (.cons rfl (.cons rfl (.nil _)))) ?_
  refine cd_seq ?_
  refine cd_seq ?_
  refine cd_region ?_
  refine st (ev_move rfl) rfl rfl rfl ?_
  refine st (ev_len_rdh (h := 0) Try.underlying22 rfl rfl (by assumption)) rfl rfl rfl ?_
  refine st (ev_move rfl) rfl rfl rfl ?_
  refine st (ev_len_rdh (h := 1) Try.underlying22 rfl rfl (by assumption)) rfl rfl rfl ?_
  refine st (ev_neq rfl rfl) rfl rfl rfl ?_
  refine op_nil ?_
  refine ax_then ?_
  refine At.regs (L' := [(0, _), (1, _), (4, _), (10, _)]) (.cons rfl (.cons rfl (.cons rfl (.cons rfl (.nil _))))) ?_
  refine cd_if rfl (fun hc10 => ?_) (fun hc10 => ?_)
  ·
    refine cd_seq ?_
    refine cd_region ?_
    refine st (ev_assign rfl) rfl rfl rfl ?_
    refine op_nil ?_
    refine ax_then ?_
    refine At.regs (L' := [(0, _), (1, _), (4, _)]) (.cons rfl (.cons rfl (.cons rfl (.nil _)))) ?_
    refine cd_ret ?_
    refine ax_then_ret ?_
    refine rt_tmp (.inl rfl) Try.results65 rfl ?_
    exact fun w1 sw => ⟨by rw [decide_eq_false (by intro e; subst e; omega)], sw.gives (.nil _)⟩
  ·
    have hab : a.length = b.length := by omega
    refine cd_skip ?_
    refine ax_then ?_
    refine At.regs (L' := [(0, _), (1, _), (4, _)]) (.cons rfl (.cons rfl (.cons rfl (.nil _)))) ?_
    refine cd_seq ?_
    refine cd_seq ?_
    refine cd_region ?_
    refine st (ev_assign rfl) rfl rfl rfl ?_
    refine op_nil ?_
    refine ax_then ?_
    refine At.regs (L' := [(0, _), (1, _), (4, _), (5, _)]) (.cons rfl (.cons rfl (.cons rfl (.cons rfl (.nil _))))) ?_
    refine cd_block ?_
    refine cd_loop (ι := Nat) (fun i => i ≤ a.length ∧ ∀ j, j < i → a.getD j [] = b.getD j []) (fun i => a.length - i)
        (fun i => [(0, p), (1, q), (5, .int .i64 (i : Int))])
        (fun i => [])
        (fun i => [(0, .sl p 32 (flat (a))), (1, .sl q 32 (flat (b)))])
        0 (⟨by omega, fun j hj => by omega⟩) (.cons rfl (.cons rfl (.cons rfl (.nil _)))) (.nil _) (.cons rfl (.cons rfl (.nil _))) (fun i hi => ?_)
    have hi1 := hi.1
    have e0 : (i : Int).toNat = i := by omega
    have ga : i < a.length → (a.getD (i : Int).toNat []).length = 32 := fun hx => ha.get (by omega)
    have gb : i < a.length → (b.getD (i : Int).toNat []).length = 32 := fun hx => hb.get (by omega)
    refine cd_seq ?_
    refine cd_seq ?_
    refine cd_region ?_
    refine st (ev_move rfl) rfl rfl rfl ?_
    refine st (ev_move rfl) rfl rfl rfl ?_
    refine st (ev_len_rdh (h := 0) Try.underlying22 rfl rfl (by assumption)) rfl rfl rfl ?_
    refine st (ev_lss rfl rfl) rfl rfl rfl ?_
    refine op_nil ?_
    refine ax_then ?_
    refine At.regs (L' := [(0, _), (1, _), (5, _), (11, _), (12, _), (13, _), (14, _)]) (.cons rfl (.cons rfl (.cons rfl (.cons rfl (.cons rfl (.cons rfl (.cons rfl (.nil _)))))))) ?_
    refine cd_if rfl (fun hc14 => ?_) (fun hc14 => ?_)
    ·
      have ga2 := ga (by omega)
      have gb2 := gb (by omega)
      refine cd_skip ?_
      refine ax_then ?_
      refine At.regs (L' := [(0, _), (1, _), (5, _), (11, _), (12, _), (13, _), (14, _)]) (.cons rfl (.cons rfl (.cons rfl (.cons rfl (.cons rfl (.cons rfl (.cons rfl (.nil _)))))))) ?_
      refine cd_seq ?_
      refine cd_block ?_
      refine cd_seq ?_
      refine cd_open hmix (by decide +kernel) ?_
      refine qt (ev_move rfl) rfl rfl rfl ?_
      refine qt (ev_move rfl) rfl rfl rfl ?_
      refine qt (ev_indexAddr_rdh (h := 0) Try.underlying22 ty55 rfl rfl rfl (by assumption) (by omega) (by omega)) rfl rfl rfl ?_
      refine qt (ld_rdh (h := 0) ty55 rfl rfl rfl (by assumption) (by omega)) rfl rfl rfl ?_
      refine qt (ev_move rfl) rfl rfl rfl ?_
      refine qt (ev_move rfl) rfl rfl rfl ?_
      refine qt (ev_indexAddr_rdh (h := 1) Try.underlying22 ty55 rfl rfl rfl (by assumption) (by omega) (by omega)) rfl rfl rfl ?_
      refine qt (ld_rdh (h := 1) ty55 rfl rfl rfl (by assumption) (by omega)) rfl rfl rfl ?_
      refine qt (ev_neq_arr Try.underlying55 ty5 eqg55 rfl rfl (by first | omega | (simp only [List.length_append, List.length_cons, List.length_nil, List.length_set, List.length_replicate, List.length_take, List.length_drop, ints_length, wr_length, sha_len, way_len _ (by assumption), secret_len, digits_len, recov_len] <;> omega) | rfl) (by first | omega | (simp only [List.length_append, List.length_cons, List.length_nil, List.length_set, List.length_replicate, List.length_take, List.length_drop, ints_length, wr_length, sha_len, way_len _ (by assumption), secret_len, digits_len, recov_len] <;> omega) | rfl)) rfl rfl rfl ?_
      refine qt_end ?_
      refine op_nil ?_
      refine ax_then ?_
      refine At.regs (L' := [(0, _), (1, _), (5, _), (11, _), (12, _), (13, _), (14, _), (17, _), (18, _), (19, _), (20, _), (21, _), (22, _), (23, _), (24, _), (25, _)]) (.cons rfl (.cons rfl (.cons rfl (.cons rfl (.cons rfl (.cons rfl (.cons rfl (.cons rfl (.cons rfl (.cons rfl (.cons rfl (.cons rfl (.cons rfl (.cons rfl (.cons rfl (.cons rfl (.nil _))))))))))))))))) ?_
      refine cd_if rfl (fun hc25 => ?_) (fun hc25 => ?_)
      ·
        have hne : a ≠ b := by intro e; subst e; exact hc25 rfl
        refine cd_seq ?_
        refine cd_region ?_
        refine st (ev_assign rfl) rfl rfl rfl ?_
        refine op_nil ?_
        refine ax_then ?_
        refine At.regs (L' := [(0, _), (1, _), (4, _), (5, _), (11, _), (12, _), (13, _), (14, _), (17, _), (18, _), (19, _), (20, _), (21, _), (22, _), (23, _), (24, _), (25, _)]) (.cons rfl (.cons rfl (.cons rfl (.cons rfl (.cons rfl (.cons rfl (.cons rfl (.cons rfl (.cons rfl (.cons rfl (.cons rfl (.cons rfl (.cons rfl (.cons rfl (.cons rfl (.cons rfl (.cons rfl (.nil _)))))))))))))))))) ?_
        refine cd_ret ?_
        refine ax_block_ret ?_
        refine ax_then_ret ?_
        refine ax_then_ret ?_
        refine ax_block_ret ?_
        refine ax_then_ret ?_
        refine rt_tmp (.inl rfl) Try.results65 rfl ?_
        exact fun w1 sw => ⟨by rw [decide_eq_false hne], sw.gives (.nil _)⟩
      ·
        refine cd_skip ?_
        refine ax_block ?_
        refine ax_then ?_
        refine At.regs (L' := [(0, _), (1, _), (5, _), (11, _), (12, _), (13, _), (14, _), (17, _), (18, _), (19, _), (20, _), (21, _), (22, _), (23, _), (24, _), (25, _)]) (.cons rfl (.cons rfl (.cons rfl (.cons rfl (.cons rfl (.cons rfl (.cons rfl (.cons rfl (.cons rfl (.cons rfl (.cons rfl (.cons rfl (.cons rfl (.cons rfl (.cons rfl (.cons rfl (.nil _))))))))))))))))) ?_
        refine cd_region ?_
        refine st (ev_move rfl) rfl rfl rfl ?_
        refine st (ev_add64 rfl rfl (by omega) (by omega)) rfl rfl rfl ?_
        refine st (ev_assign rfl) rfl rfl rfl ?_
        refine op_nil ?_
        exact at_again (i + 1) (⟨by omega, fun j hj => (Nat.lt_succ_iff_lt_or_eq.1 hj).elim (hi.2 j) (fun e => by subst e; simpa using hc25)⟩) (by omega) (.cons rfl (.cons rfl (.cons rfl (.nil _)))) (.nil _) (.cons rfl (.cons rfl (.nil _)))
    ·
      obtain rfl : i = a.length := by omega
      refine cd_exit ?_
      refine ax_then_exit ?_
      refine ax_then_exit ?_
      refine ax_block_hit ?_
      refine ax_then ?_
      refine At.regs (L' := []) (.nil _) ?_
      refine cd_seq ?_
      refine cd_region ?_
      refine st (ev_assign rfl) rfl rfl rfl ?_
      refine op_nil ?_
      refine ax_then ?_
      refine At.regs (L' := [(4, _)]) (.cons rfl (.nil _)) ?_
      refine cd_ret ?_
      refine rt_tmp (.inl rfl) Try.results65 rfl ?_
      exact fun w1 sw => ⟨by rw [decide_eq_true (hashes_ext hab hi.2)], sw.gives (.nil _)⟩
end Go.Proofs.Ytgfnmolbagilmaa
namespace Go.Proofs.Ytgfnmolbagilmaa
open Go Go.RowKit Fw
open Sha
open Ots
set_option linter.unusedVariables false
set_option linter.unusedSimpArgs false
theorem recov_sign (s : List Int) (l : Int) (m : List Int) : recov m (sign s l m 36) = pub s l := by
  rw [recov, if_pos (sign_len _ _ _ _)]
  refine ends_congr fun i hi => ?_
  have e1 : (sign s l m 36).getD i [] = walk (secret s l i) i 0 ((Ots.digits m).getD i 0) := by
    rw [sign, List.getD_eq_getElem?_getD, List.getElem?_map, List.getElem?_range hi]
    rfl
  have hr := digits_range m i
  rw [e1]
  generalize (Ots.digits m).getD i 0 = d at *
  obtain ⟨n, rfl⟩ := Int.eq_ofNat_of_zero_le hr.1
  have a1 : (max (0 : Int) 0).toNat = 0 := rfl
  have a2 : (min (n : Int) 3 - max (0 : Int) 0).toNat = n := by omega
  have a3 : (max (n : Int) 0).toNat = n := by omega
  have a4 : (min (3 : Int) 3 - max (n : Int) 0).toNat = 3 - n := by omega
  have a5 : (min (3 : Int) 3 - max (0 : Int) 0).toNat = 3 := rfl
  rw [walk, walk, walk, a1, a2, a3, a4, a5]
  have := way_add i (secret s l i) 0 n (3 - n)
  rw [Nat.zero_add, show n + (3 - n) = 3 by omega] at this
  exact this
end Go.Proofs.Ytgfnmolbagilmaa

namespace Go.Proofs.Ytgfnmolbagilmaa.Ky
open Go Fw Sha Ots Mk Go.Proofs.Ytgfnmolbagilmaa
set_option linter.unusedSimpArgs false
set_option linter.unusedVariables false
def leaves (s : List Int) (n : Nat) : List (List Int) := (List.range n).map fun (l : Nat) => pub s l
theorem leaves_snoc (s : List Int) (n : Nat) : leaves s (n + 1) = leaves s n ++ [pub s n] := by simp [leaves, List.range_succ]
theorem leaves_len (s : List Int) (n : Nat) : (leaves s n).length = n := by simp [leaves]
theorem leaves_h32 (s : List Int) (n : Nat) : H32 (leaves s n) := fun h hh => by
  simp only [leaves, List.mem_map] at hh
  obtain ⟨c, _, rfl⟩ := hh
  exact sha_len _
theorem leaves_get (s : List Int) {n i : Nat} (hi : i < n) : (leaves s n).getD i [] = pub s i := by
  rw [leaves, List.getD_eq_getElem?_getD, List.getElem?_map, List.getElem?_range hi]
  rfl
def named (r : List Int) : List Int := sha ([4] ++ r)
theorem named_len (r : List Int) : (named r).length = 32 := sha_len _
def keyPub (s : List Int) : List Int := named (root (leaves s 16))
theorem keyPub_len (s : List Int) : (keyPub s).length = 32 := sha_len _
def isSig (leaf : Int) (cs ps : List (List Int)) : Prop := 0 ≤ leaf ∧ leaf < 16 ∧ cs.length = 36 ∧ ps.length = 4
instance (leaf : Int) (cs ps : List (List Int)) : Decidable (isSig leaf cs ps) := by unfold isSig; infer_instance
def verP (p m : List Int) (leaf : Int) (cs ps : List (List Int)) : Prop := isSig leaf cs ps ∧ named (up (recov m cs) leaf ps) = p
instance (p m : List Int) (leaf : Int) (cs ps : List (List Int)) : Decidable (verP p m leaf cs ps) := by unfold verP; infer_instance
def clamp (u : Int) : Int := min (max u 0) 16
/-- each leaf's way leads to the key's name -/
theorem way_up (s : List Int) {n : Nat} (hn : n < 16) : (path (leaves s 16) n).length = 4 ∧ named (up (pub s n) n (path (leaves s 16) n)) = keyPub s := by
  have h := up_root 4 (leaves s 16) n (leaves_len s 16) hn
  rw [leaves_get s hn] at h
  exact ⟨h.1, by rw [h.2]; rfl⟩
theorem ver_sign (s : List Int) (m : List Int) {n : Nat} (hn : n < 16) : verP (keyPub s) m n (sign s n m 36) (path (leaves s 16) n) := by
  refine ⟨⟨by omega, by omega, sign_len _ _ _ _, (way_up s hn).1⟩, ?_⟩
  rw [recov_sign]
  exact (way_up s hn).2
/-- the cells of a key: its seed, what it holds, how many are used -/
def cells (s : List Int) (v : Value) (n : Int) : List Value := ints .u8 s ++ [v, .int .i64 n]
theorem cells_len {s : List Int} (hl : s.length = 32) (v : Value) (n : Int) : (cells s v n).length = 34 := by simp [cells, hl, ints_length]
theorem cells_seed {s : List Int} (hl : s.length = 32) (v : Value) (n : Int) : ((cells s v n).drop 0).take 32 = ints .u8 s := by
  rw [List.drop_zero, cells, List.take_left' (by rw [ints_length, hl])]
theorem cells_32 {s : List Int} (hl : s.length = 32) (v : Value) (n : Int) : (cells s v n)[32]? = some v := by
  rw [cells, List.getElem?_append_right (by rw [ints_length, hl]; decide), ints_length, hl]; rfl
theorem cells_33 {s : List Int} (hl : s.length = 32) (v : Value) (n : Int) : (cells s v n)[33]? = some (.int .i64 n) := by
  rw [cells, List.getElem?_append_right (by rw [ints_length, hl]; decide), ints_length, hl]; rfl
theorem cells_set32 {s : List Int} (hl : s.length = 32) (v v' : Value) (n : Int) : (cells s v n).set 32 v' = cells s v' n := by
  rw [cells, List.set_append_right _ _ (by rw [ints_length, hl]; decide), ints_length, hl]; rfl
theorem cells_set33 {s : List Int} (hl : s.length = 32) (v : Value) (n n' : Int) : (cells s v n).set 33 (.int .i64 n') = cells s v n' := by
  rw [cells, List.set_append_right _ _ (by rw [ints_length, hl]; decide), ints_length, hl]; rfl
theorem key_new {s : List Int} (hl : s.length = 32) (n : Int) : wr (wr (ints .u8 (List.replicate 32 0) ++ [.slice none 0 0, .int .i64 0]) 0 (ints .u8 s)) 33 [.int .i64 n] = cells s (.slice none 0 0) n := by
  have h1 : wr (ints .u8 (List.replicate 32 0) ++ [Value.slice none 0 0, .int .i64 0]) 0 (ints .u8 s) = ints .u8 s ++ [.slice none 0 0, .int .i64 0] := by
    rw [wr, List.take_zero, List.nil_append, ints_length, hl, Nat.zero_add, List.drop_left' (by simp [ints_length])]
  rw [h1, wr_one (by simp [hl, ints_length])]
  exact cells_set33 hl _ _ _
/-- the reference's cells of a key -/
def rcells (s : List Int) (v : Value) (p : List Int) (n : Int) : List Value := ints .u8 s ++ ([v] ++ (ints .u8 p ++ [.int .i64 n]))
theorem rcells_len {s p : List Int} (hl : s.length = 32) (hp : p.length = 32) (v : Value) (n : Int) : (rcells s v p n).length = 66 := by simp [rcells, hl, hp, ints_length]
theorem rcells_seed {s p : List Int} (hl : s.length = 32) (v : Value) (n : Int) : ((rcells s v p n).drop 0).take 32 = ints .u8 s := by
  rw [List.drop_zero, rcells, List.take_left' (by rw [ints_length, hl])]
theorem rcells_32 {s p : List Int} (hl : s.length = 32) (v : Value) (n : Int) : (rcells s v p n)[32]? = some v := by
  rw [rcells, List.getElem?_append_right (by rw [ints_length, hl]; decide), ints_length, hl]; rfl
theorem rcells_pub {s p : List Int} (hl : s.length = 32) (hp : p.length = 32) (v : Value) (n : Int) : ((rcells s v p n).drop 33).take 32 = ints .u8 p := by
  rw [rcells, List.drop_append, List.drop_eq_nil_of_le (by rw [ints_length, hl]; decide), ints_length, hl, List.nil_append, show 33 - 32 = 1 from rfl, List.singleton_append, List.drop_succ_cons, List.drop_zero, List.take_left' (by rw [ints_length, hp])]
theorem rcells_65 {s p : List Int} (hl : s.length = 32) (hp : p.length = 32) (v : Value) (n : Int) : (rcells s v p n)[65]? = some (.int .i64 n) := by
  rw [rcells, List.getElem?_append_right (by rw [ints_length, hl]; decide), ints_length, hl, List.getElem?_append_right (by simp), List.getElem?_append_right (by simp [ints_length, hp]), ints_length, hp]; rfl
theorem rcells_set32 {s p : List Int} (hl : s.length = 32) (v v' : Value) (n : Int) : (rcells s v p n).set 32 v' = rcells s v' p n := by
  rw [rcells, List.set_append_right _ _ (by rw [ints_length, hl]; decide), ints_length, hl]; rfl
theorem rcells_set65 {s p : List Int} (hl : s.length = 32) (hp : p.length = 32) (v : Value) (n n' : Int) : (rcells s v p n).set 65 (.int .i64 n') = rcells s v p n' := by
  rw [rcells, List.set_append_right _ _ (by rw [ints_length, hl]; decide), ints_length, hl, List.set_append_right _ _ (by simp), List.set_append_right _ _ (by simp [ints_length, hp]), ints_length, hp]; rfl
theorem rcells_wr {s p q : List Int} (hl : s.length = 32) (hp : p.length = 32) (hq : q.length = 32) (v : Value) (n : Int) : wr (rcells s v p n) 33 (ints .u8 q) = rcells s v q n := by
  have h1 : (ints .u8 s ++ [v]).length = 33 := by simp [hl, ints_length]
  have e : ∀ r, rcells s v r n = (ints .u8 s ++ [v]) ++ (ints .u8 r ++ [.int .i64 n]) := fun r => by simp [rcells]
  rw [e p, e q, wr, List.take_left' h1, ints_length, hq, List.drop_append, List.drop_eq_nil_of_le (by omega), h1, List.nil_append, List.drop_left' (by rw [ints_length, hp])]
  simp
end Go.Proofs.Ytgfnmolbagilmaa.Ky

namespace Go.Proofs.Ytgfnmolbagilmaa.Qm
open Go Fw Sha Ots Mk Go.Proofs.Ytgfnmolbagilmaa
set_option linter.unusedSimpArgs false
set_option linter.unusedVariables false
structure Mark where
  key : List Int
  leaf : Int
  vc : Value
  vp : Value
  cs : List (List Int)
  ps : List (List Int)
def mcells (x : Mark) : List Value := ints .u8 x.key ++ [.int .i64 x.leaf, x.vc, x.vp]
def mflat (ms : List Mark) : List Value := ms.flatMap mcells
def MOk (x : Mark) : Prop := x.key.length = 32 ∧ H32 x.cs ∧ H32 x.ps ∧ x.cs.length ≤ 140737488352000 ∧ x.ps.length ≤ 140737488352000
def AOk (ms : List Mark) : Prop := ∀ x, x ∈ ms → MOk x
def MRd (w : World) (x : Mark) : Prop := Rd w x.vc 32 (flat x.cs) ∧ Rd w x.vp 32 (flat x.ps)
def Keeps (w w1 : World) : Prop := ∀ b, b < w.heap.size → w1.heap[b]? = w.heap[b]?
theorem Keeps.rd {w w1 : World} (k : Keeps w w1) {v : Value} {sz : Nat} {l : List Value} (h : Rd w v sz l) : Rd w1 v sz l := h.keep fun b hb _ _ => k b hb
theorem Keeps.lies {w w1 : World} (k : Keeps w w1) {b off : Nat} {l : List Value} (h : Lies w b off l) : Lies w1 b off l := h.keep fun hb _ => k b hb
theorem Keeps.mrd {w w1 : World} (k : Keeps w w1) {x : Mark} (h : MRd w x) : MRd w1 x := ⟨k.rd h.1, k.rd h.2⟩
theorem Keeps.of {w0 w1 : World} {H : List (Nat × Ent)} {F : List (Nat × FE)} (sw : Sat w0 [] H F w1) : Keeps w0 w1 := fun b hb => sw.old b hb (by simp)
theorem mcells_len {x : Mark} (h : MOk x) : (mcells x).length = 35 := by simp [mcells, ints_length, h.1]
theorem mflat_len : ∀ {ms : List Mark}, AOk ms → (mflat ms).length = ms.length * 35
  | [], _ => rfl
  | x :: ms, h => by
    have h1 := mcells_len (h x (by simp))
    have h2 := mflat_len (ms := ms) fun y hy => h y (by simp [hy])
    rw [mflat, List.flatMap_cons, List.length_append, h1, List.length_cons]
    have : (List.flatMap mcells ms).length = ms.length * 35 := h2
    omega
theorem mflat_drop : ∀ {ms : List Mark} (i : Nat), AOk ms → (mflat ms).drop (i * 35) = mflat (ms.drop i)
  | ms, 0, _ => by simp
  | [], i + 1, _ => by simp [mflat]
  | x :: ms, i + 1, h => by
    have h1 := mcells_len (h x (by simp))
    have h2 := mflat_drop (ms := ms) i fun y hy => h y (by simp [hy])
    rw [mflat, List.flatMap_cons, List.drop_append, List.drop_eq_nil_of_le (by omega), h1, List.nil_append, show (i + 1) * 35 - 35 = i * 35 by omega]
    exact h2
theorem mflat_get {ms : List Mark} {i : Nat} (h : AOk ms) (hi : i < ms.length) : ((mflat ms).drop (i * 35)).take 35 = mcells ms[i] := by
  have h1 := mcells_len (h ms[i] (List.getElem_mem hi))
  rw [mflat_drop i h, List.drop_eq_getElem_cons hi, mflat, List.flatMap_cons, List.take_left' h1]
theorem mflat_take {ms : List Mark} (n : Nat) (h : AOk ms) : (mflat ms).take (n * 35) = mflat (ms.take n) := by
  induction ms generalizing n with
  | nil => simp [mflat]
  | cons x ms ih =>
    cases n with
    | zero => simp [mflat]
    | succ n =>
      have h1 := mcells_len (h x (by simp))
      have h2 := ih n fun y hy => h y (by simp [hy])
      rw [mflat, List.flatMap_cons, List.take_append, h1, List.take_of_length_le (by omega), show (n + 1) * 35 - 35 = n * 35 by omega, List.take_succ_cons, mflat, List.flatMap_cons]
      congr 1
theorem AOk.take {ms : List Mark} (h : AOk ms) (n : Nat) : AOk (ms.take n) := fun x hx => h x (List.mem_of_mem_take hx)
theorem mkey {x : Mark} (h : MOk x) : ((mcells x).drop 0).take 32 = ints .u8 x.key := by
  rw [List.drop_zero, mcells, List.take_left' (by rw [ints_length, h.1])]
theorem msig {x : Mark} (h : MOk x) : ((mcells x).drop 32).take 3 = [.int .i64 x.leaf, x.vc, x.vp] := by
  rw [mcells, List.drop_left' (by rw [ints_length, h.1])]; rfl
def hits (h body : List Int) (x : Mark) : Prop := x.key = h ∧ Ky.verP h body x.leaf x.cs x.ps
instance (h body : List Int) (x : Mark) : Decidable (hits h body x) := by unfold hits; infer_instance
def some4 (body : List Int) (ms : List Mark) (h : List Int) : Prop := ∃ x, x ∈ ms.take 4 ∧ hits h body x
instance (body : List Int) (ms : List Mark) (h : List Int) : Decidable (some4 body ms h) := by unfold some4; infer_instance
/-- those keys that signed -/
def who (body : List Int) (ms : List Mark) : List (List Int) → List (List Int)
  | ks => ks.foldl (fun l h => if h ∉ l ∧ some4 body ms h then l ++ [h] else l) []
theorem who_snoc (body : List Int) (ms : List Mark) (ks : List (List Int)) (h : List Int) : who body ms (ks ++ [h]) = if h ∉ who body ms ks ∧ some4 body ms h then who body ms ks ++ [h] else who body ms ks := by
  rw [who, List.foldl_append]; rfl
theorem who_h32 (body : List Int) (ms : List Mark) {ks : List (List Int)} (hu : H32 ks) : H32 (who body ms ks) ∧ (who body ms ks).length ≤ ks.length := by
  have key : ∀ n, n ≤ ks.length → H32 (who body ms (ks.take n)) ∧ (who body ms (ks.take n)).length ≤ n := by
    intro n
    induction n with
    | zero => intro _; exact ⟨by rw [List.take_zero]; exact H32.nil, by rw [List.take_zero]; exact Nat.le_refl _⟩
    | succ n ih =>
      intro hn
      obtain ⟨h1, h2⟩ := ih (by omega)
      rw [List.take_succ_eq_append_getElem (by omega), who_snoc]
      split
      · exact ⟨h1.snoc (hu _ (List.getElem_mem _)), by rw [List.length_append]; simp; omega⟩
      · exact ⟨h1, by omega⟩
  have := key ks.length (Nat.le_refl _)
  rwa [List.take_length] at this
/-- the first that p holds of, or -1 -/
def firstP {α : Type} (p : α → Bool) (l : List α) : Int := match l.findIdx? p with | some i => i | none => -1
theorem firstP_ge {α : Type} (p : α → Bool) (l : List α) : decide (0 ≤ firstP p l) = l.any p := by
  cases h : l.findIdx? p with
  | none =>
    rw [firstP, h]
    have := List.findIdx?_eq_none_iff.1 h
    have h2 : l.any p = false := by rw [List.any_eq_false]; intro x hx; rw [this x hx]; simp
    rw [h2]; rfl
  | some i =>
    rw [firstP, h]
    have := List.findIdx?_eq_some_iff_getElem.1 h
    obtain ⟨hi, hp, _⟩ := this
    have h2 : l.any p = true := List.any_eq_true.2 ⟨l[i], List.getElem_mem hi, hp⟩
    rw [h2]
    exact decide_eq_true (Int.natCast_nonneg i)
theorem firstP_hit {α : Type} {p : α → Bool} {l : List α} {i : Nat} (hi : i < l.length) (h1 : ∀ j, (hj : j < i) → p (l[j]'(by omega)) = false) (h2 : p l[i] = true) : firstP p l = i := by
  have : l.findIdx? p = some i := List.findIdx?_eq_some_iff_getElem.2 ⟨hi, h2, fun j hj => by rw [h1 j hj]; simp⟩
  rw [firstP, this]
theorem firstP_miss {α : Type} {p : α → Bool} {l : List α} (h1 : ∀ j, (hj : j < l.length) → p l[j] = false) : firstP p l = -1 := by
  have : l.findIdx? p = none := List.findIdx?_eq_none_iff.2 fun x hx => by
    obtain ⟨j, hj, rfl⟩ := List.getElem_of_mem hx
    exact h1 j hj
  rw [firstP, this]
end Go.Proofs.Ytgfnmolbagilmaa.Qm

namespace Go.Proofs.Ytgfnmolbagilmaa
open Go Go.RowKit Fw
open Sha
open Mk
set_option linter.unusedVariables false
set_option linter.unusedSimpArgs false
def len8 (n : Nat) : Nat := if n = 0 then 0 else Nat.log2 n + 1
theorem len8_at {s : ByteArray} (h : ((List.range 256).all fun n => s[n]? == some (UInt8.ofNat (len8 n))) = true) {n : Nat} (hn : n < 256) : s[n]? = some (UInt8.ofNat (len8 n)) := by
  have := List.all_eq_true.1 h n (List.mem_range.2 hn)
  exact eq_of_beq this
theorem len8_le : ∀ n, n < 256 → len8 n ≤ 8 := by decide +kernel
theorem ishl1 : ∀ j : Nat, j < 9 → ishl .i64 1 (j : Int) = ((2 ^ j : Nat) : Int) := by decide +kernel
theorem half_of {n j : Nat} (h1 : 2 ^ j < n) (h2 : ¬ 2 * 2 ^ j < n) : half n = 2 ^ j := by
  rw [half, (Nat.log2_eq_iff (k := j) (by have := Nat.pow_pos (n := j) (show 0 < 2 by decide); omega)).2 ⟨by omega, by rw [Nat.pow_succ]; omega⟩]
theorem takeh {w : World} {v : Value} {hs : List (List Int)} {i : Nat} (h : Rd w v 32 (flat hs)) (hu : H32 hs) (hi : i ≤ hs.length) : Rd w (cutAt 32 v 0 i) 32 (flat (hs.take i)) := by
  have := h.cuth (lo := 0) (hi := i) hu (by omega) hi
  simpa using this
theorem droph {w : World} {v : Value} {hs : List (List Int)} {i : Nat} (h : Rd w v 32 (flat hs)) (hu : H32 hs) (hi : i ≤ hs.length) : Rd w (cutAt 32 v i hs.length) 32 (flat (hs.drop i)) := by
  have := h.cuth (lo := i) (hi := hs.length) hu hi (Nat.le_refl _)
  rwa [List.take_of_length_le (by rw [List.length_drop]; exact Nat.le_refl _)] at this
theorem up_take (leaf : List Int) (i : Int) {p : List (List Int)} {k : Nat} (hk : k < p.length) : up leaf i (p.take (k + 1)) = if i / 2 ^ k % 2 = 0 then node (up leaf i (p.take k)) (p.getD k []) else node (p.getD k []) (up leaf i (p.take k)) := by
  have e : p.take (k + 1) = p.take k ++ [p.getD k []] := by
    rw [List.take_succ_eq_append_getElem hk, List.getD_eq_getElem?_getD, List.getElem?_eq_getElem hk]
    rfl
  rw [e, up_snoc, List.length_take, Nat.min_eq_left (by omega)]
theorem div_step (i : Int) (k : Nat) : i / 2 ^ k / 2 = i / 2 ^ (k + 1) := by
  rw [Int.pow_succ]
  exact Int.ediv_ediv_of_nonneg (Int.le_of_lt (Int.pow_pos (by decide)))
theorem div_range {i : Int} (h : 0 ≤ i) (k : Nat) : 0 ≤ i / 2 ^ k ∧ i / 2 ^ k ≤ i :=
  ⟨Int.ediv_nonneg h (Int.le_of_lt (Int.pow_pos (by decide))), Int.ediv_le_self _ h⟩
theorem root_small {cs : List (List Int)} (h : cs.length = 1) : root cs = cs.getD 0 [] := by
  match cs, h with
  | [a], _ => exact root_one a
set_option maxRecDepth 20000 in
set_option maxHeartbeats 1000000 in
theorem len64_any (n : Nat) (w : World) (hn : n < 256) : Calls Try.prog 138 #[.int .u64 (n : Int)] w (PostV w (.int .i64 (len8 n : Int))) := by
  have hl8 := len8_le n hn
  have hw : IntKind.u8.wrap (n : Int) = (n : Int) := by simp [IntKind.wrap, IntKind.bits, IntKind.signed]; omega
  have hub : ((UInt8.ofNat (len8 n)).toNat : Int) = (len8 n : Int) := by rw [UInt8.toNat_ofNat']; omega
  refine calls_at (vs := [.int .u64 (n : Int)]) (X := []) (H := []) (F := []) 25 Try.func138 rfl rfl rfl (Sat.start0 w) ?_
  refine cd_seq ?_
  refine cd_region ?_
  refine st (ev_assign rfl) rfl rfl rfl ?_
  refine op_nil ?_
  refine ax_then ?_
  refine At.regs (L' := [(0, _), (2, _)]) (.cons rfl (.cons rfl (.nil _))) ?_
  refine cd_seq ?_
  refine cd_seq ?_
  refine cd_region ?_
  refine st (ev_move rfl) rfl rfl rfl ?_
  refine st (ev_geq rfl rfl) rfl rfl rfl ?_
  refine op_nil ?_
  refine ax_then ?_
  refine At.regs (L' := [(0, _), (2, _), (4, _)]) (.cons rfl (.cons rfl (.cons rfl (.nil _)))) ?_
  refine cd_if_f rfl (by omega) ?_
  refine cd_skip ?_
  refine ax_then ?_
  refine At.regs (L' := [(0, _), (2, _)]) (.cons rfl (.cons rfl (.nil _))) ?_
  refine cd_seq ?_
  refine cd_seq ?_
  refine cd_region ?_
  refine st (ev_move rfl) rfl rfl rfl ?_
  refine st (ev_geq rfl rfl) rfl rfl rfl ?_
  refine op_nil ?_
  refine ax_then ?_
  refine At.regs (L' := [(0, _), (2, _), (8, _)]) (.cons rfl (.cons rfl (.cons rfl (.nil _)))) ?_
  refine cd_if_f rfl (by omega) ?_
  refine cd_skip ?_
  refine ax_then ?_
  refine At.regs (L' := [(0, _), (2, _)]) (.cons rfl (.cons rfl (.nil _))) ?_
  refine cd_seq ?_
  refine cd_seq ?_
  refine cd_region ?_
  refine st (ev_move rfl) rfl rfl rfl ?_
  refine st (ev_geq rfl rfl) rfl rfl rfl ?_
  refine op_nil ?_
  refine ax_then ?_
  refine At.regs (L' := [(0, _), (2, _), (14, _)]) (.cons rfl (.cons rfl (.cons rfl (.nil _)))) ?_
  refine cd_if_f rfl (by omega) ?_
  refine cd_skip ?_
  refine ax_then ?_
  refine At.regs (L' := [(0, _), (2, _)]) (.cons rfl (.cons rfl (.nil _))) ?_
  refine cd_seq ?_
  refine cd_region ?_
  refine st (ev_move rfl) rfl rfl rfl ?_
  refine st (ev_move rfl) rfl rfl rfl ?_
  refine st (ev_conv Try.underlying135 Try.underlying5 rfl) rfl rfl rfl ?_
  refine at_eq (i := 21) (v' := .int .u8 (n : Int)) rfl (by rw [hw]) ?_
  refine st (ev_index_str Try.underlying9 rfl rfl (by omega) (by rw [Int.toNat_natCast]; exact len8_at (by decide +kernel) hn)) rfl rfl rfl ?_
  refine at_eq (i := 22) (v' := .int .u8 (len8 n : Int)) rfl (by rw [hub]) ?_
  refine st (ev_conv64 Try.underlying5 Try.underlying3 rfl (by omega) (by omega)) rfl rfl rfl ?_
  refine st (ev_add64 rfl rfl (by omega) (by omega)) rfl rfl rfl ?_
  refine at_eq (i := 24) (v' := .int .i64 (len8 n : Int)) rfl (by rw [Int.zero_add]) ?_
  refine st (ev_assign rfl) rfl rfl rfl ?_
  refine op_nil ?_
  refine ax_then ?_
  refine At.regs (L' := [(2, _)]) (.cons rfl (.nil _)) ?_
  refine cd_ret ?_
  refine rt_tmp (.inl rfl) Try.results138 rfl ?_
  exact fun w1 sw => ⟨rfl, sw.gives (.nil _)⟩
set_option maxRecDepth 20000 in
set_option maxHeartbeats 1000000 in
theorem len_any (n : Nat) (w : World) (hn : n < 256) : Calls Try.prog 127 #[.int .u64 (n : Int)] w (PostV w (.int .i64 (len8 n : Int))) := by
  refine calls_at (vs := [.int .u64 (n : Int)]) (X := []) (H := []) (F := []) 8 Try.func127 rfl rfl rfl (Sat.start0 w) ?_
  refine cd_seq ?_
  refine cd_region ?_
  refine st (ev_assign rfl) rfl rfl rfl ?_
  refine op_nil ?_
  refine ax_then ?_
  refine At.regs (L' := [(0, _), (2, _)]) (.cons rfl (.cons rfl (.nil _))) ?_
  refine cd_seq ?_
  refine cd_false rfl ?_
  refine cd_skip ?_
  refine ax_then ?_
  refine At.regs (L' := [(0, _), (2, _)]) (.cons rfl (.cons rfl (.nil _))) ?_
  refine cd_seq ?_
  refine cd_region ?_
  refine st (ev_move rfl) rfl rfl rfl ?_
  refine st_callv has138 rfl (fun w1 sw => len64_any n w1 hn) rfl rfl ?_
  refine st (ev_assign rfl) rfl rfl rfl ?_
  refine op_nil ?_
  refine ax_then ?_
  refine At.regs (L' := [(2, _)]) (.cons rfl (.nil _)) ?_
  refine cd_ret ?_
  refine rt_tmp (.inl rfl) Try.results127 rfl ?_
  exact fun w1 sw => ⟨rfl, sw.gives (.nil _)⟩
set_option maxRecDepth 20000 in
set_option maxHeartbeats 1000000 in
theorem half_any (n : Nat) (w : World) (h2 : 2 ≤ n) (hn : n ≤ 256) : Calls Try.prog 108 #[.int .i64 (n : Int)] w (PostV w (.int .i64 (half n : Int))) := by
  have hl8 := len8_le (n - 1) (by omega)
  have hl1 : len8 (n - 1) = Nat.log2 (n - 1) + 1 := by rw [len8, if_neg (by omega)]
  refine calls_at (vs := [.int .i64 (n : Int)]) (X := []) (H := []) (F := []) 9 Try.func108 rfl rfl rfl (Sat.start0 w) ?_
  refine cd_seq ?_
  refine cd_region ?_
  refine st (ev_assign rfl) rfl rfl rfl ?_
  refine op_nil ?_
  refine ax_then ?_
  refine At.regs (L' := [(0, _), (2, _)]) (.cons rfl (.cons rfl (.nil _))) ?_
  refine cd_seq ?_
  refine cd_region ?_
  refine st (ev_move rfl) rfl rfl rfl ?_
  refine st (ev_sub64 rfl rfl (by omega) (by omega)) rfl rfl rfl ?_
  refine st (ev_convu64 Try.underlying3 Try.underlying136 rfl (by omega) (by omega)) rfl rfl rfl ?_
  refine at_eq (i := 5) (v' := .int .u64 ((n - 1 : Nat) : Int)) rfl (by congr 1; omega) ?_
  refine st_callv has127 rfl (fun w1 sw => len_any (n - 1) w1 (by omega)) rfl rfl ?_
  refine st (ev_sub64 rfl rfl (by omega) (by omega)) rfl rfl rfl ?_
  refine at_eq (i := 7) (v' := .int .i64 (Nat.log2 (n - 1) : Nat)) rfl (by congr 1; omega) ?_
  refine st (ev_shl rfl rfl (by omega)) rfl rfl rfl ?_
  refine at_eq (i := 8) (v' := .int .i64 (half n : Int)) rfl (by rw [ishl1 _ (by omega)]; rfl) ?_
  refine st (ev_assign rfl) rfl rfl rfl ?_
  refine op_nil ?_
  refine ax_then ?_
  refine At.regs (L' := [(2, _)]) (.cons rfl (.nil _)) ?_
  refine cd_ret ?_
  refine rt_tmp (.inl rfl) Try.results108 rfl ?_
  exact fun w1 sw => ⟨rfl, sw.gives (.nil _)⟩
set_option maxRecDepth 20000 in
set_option maxHeartbeats 1000000 in
theorem rhalf_any (n : Nat) (w : World) (h2 : 2 ≤ n) (hn : n ≤ 1000000000000) : Calls Try.prog 99 #[.int .i64 (n : Int)] w (PostV w (.int .i64 (half n : Int))) := by
  refine calls_at (vs := [.int .i64 (n : Int)]) (X := []) (H := []) (F := []) 11 Try.func99 rfl rfl rfl (Sat.start0 w) ?_
  refine cd_seq ?_
  refine cd_region ?_
  refine st (ev_assign rfl) rfl rfl rfl ?_
  refine op_nil ?_
  refine ax_then ?_
  refine At.regs (L' := [(0, _), (2, _)]) (.cons rfl (.cons rfl (.nil _))) ?_
  refine cd_seq ?_
  refine cd_region ?_
  refine st (ev_assign rfl) rfl rfl rfl ?_
  refine op_nil ?_
  refine ax_then ?_
  refine At.regs (L' := [(0, _), (2, _), (3, _)]) (.cons rfl (.cons rfl (.cons rfl (.nil _)))) ?_
  refine cd_seq ?_
  refine cd_block ?_
  refine cd_loop (ι := Nat) (fun j => 2 ^ j < n) (fun j => n - 2 ^ j)
      (fun j => [(0, .int .i64 (n : Int)), (3, .int .i64 ((2 ^ j : Nat) : Int))])
      (fun j => [])
      (fun j => [])
      0 (by omega) (.cons rfl (.cons rfl (.nil _))) (.nil _) (.nil _) (fun j hi => ?_)
  have hp : 0 < 2 ^ j := Nat.pow_pos (by decide)
  refine cd_seq ?_
  refine cd_seq ?_
  refine cd_region ?_
  refine st (ev_move rfl) rfl rfl rfl ?_
  refine st (ev_mul64 rfl rfl (by omega) (by omega)) rfl rfl rfl ?_
  refine st (ev_move rfl) rfl rfl rfl ?_
  refine st (ev_lss rfl rfl) rfl rfl rfl ?_
  refine op_nil ?_
  refine ax_then ?_
  refine At.regs (L' := [(0, _), (3, _), (4, _), (5, _), (6, _), (7, _)]) (.cons rfl (.cons rfl (.cons rfl (.cons rfl (.cons rfl (.cons rfl (.nil _))))))) ?_
  refine cd_if rfl (fun hc7 => ?_) (fun hc7 => ?_)
  ·
    refine cd_skip ?_
    refine ax_then ?_
    refine At.regs (L' := [(0, _), (3, _), (4, _), (5, _), (6, _), (7, _)]) (.cons rfl (.cons rfl (.cons rfl (.cons rfl (.cons rfl (.cons rfl (.nil _))))))) ?_
    refine cd_block ?_
    refine cd_region ?_
    refine st (ev_move rfl) rfl rfl rfl ?_
    refine st (ev_mul64 rfl rfl (by omega) (by omega)) rfl rfl rfl ?_
    refine st (ev_assign rfl) rfl rfl rfl ?_
    refine op_nil ?_
    refine ax_block ?_
    refine ax_eq (i := 3) (v' := .int .i64 ((2 ^ (j + 1) : Nat) : Int)) rfl (by congr 1; rw [Nat.pow_succ]; omega) ?_
    exact at_again (j + 1) (by rw [Nat.pow_succ]; omega) (by rw [Nat.pow_succ]; omega) (.cons rfl (.cons rfl (.nil _))) (.nil _) (.nil _)
  ·
    refine at_eq (i := 3) (v' := .int .i64 (half n : Int)) rfl (by rw [half_of hi (by omega)]) ?_
    refine cd_exit ?_
    refine ax_then_exit ?_
    refine ax_then_exit ?_
    refine ax_block_hit ?_
    refine ax_then ?_
    refine At.regs (L' := [(3, _)]) (.cons rfl (.nil _)) ?_
    refine cd_seq ?_
    refine cd_region ?_
    refine st (ev_move rfl) rfl rfl rfl ?_
    refine st (ev_assign rfl) rfl rfl rfl ?_
    refine op_nil ?_
    refine ax_then ?_
    refine At.regs (L' := [(2, _)]) (.cons rfl (.nil _)) ?_
    refine cd_ret ?_
    refine rt_tmp (.inl rfl) Try.results99 rfl ?_
    exact fun w1 sw => ⟨rfl, sw.gives (.nil _)⟩
set_option maxRecDepth 20000 in
set_option maxHeartbeats 1000000 in
theorem node_any (a b : List Int) (w : World) (ha : a.length = 32) (hb : b.length = 32) : Calls Try.prog 109 #[.agg (ints .u8 (a)).toArray, .agg (ints .u8 (b)).toArray] w (PostV w (.agg (ints .u8 (node a b)).toArray)) := by
  refine calls_at (vs := [.agg (ints .u8 (a)).toArray, .agg (ints .u8 (b)).toArray]) (X := []) (H := []) (F := []) 11 Try.func109 rfl rfl rfl (Sat.start0 w) ?_
  refine cd_seq ?_
  refine cd_region ?_
  refine st_box (h := 2) rfl rfl rfl rfl (fun b2 => ?_)
  refine st_box (h := 3) rfl rfl rfl rfl (fun b3 => ?_)
  refine st_alloc (h := 4) ty55 rfl rfl rfl (fun b4 => ?_)
  refine op_nil ?_
  refine ax_then ?_
  refine At.regs (L' := [(2, _), (3, _), (4, _)]) (.cons rfl (.cons rfl (.cons rfl (.nil _)))) ?_
  refine cd_seq ?_
  refine cd_mix hmix ?_
  refine mx (i := 1) rfl (by decide +kernel) (by decide +kernel) (by decide +kernel) rfl (fun w0 => ev_slice_arr_all Try.underlying55 ty5 rfl) rfl rfl (Sub.refl _) ?_
  refine mx (i := 3) rfl (by decide +kernel) (by decide +kernel) (by decide +kernel) rfl (fun w0 => ev_slice_arr_all Try.underlying55 ty5 rfl) rfl rfl (Sub.refl _) ?_
  refine mx_one (i := 0) (by decide +kernel) (Sub.refl _) ?_
  refine wo (i := 0) rfl ?_
  refine st_bsi (h := 5) (xs := [_]) Try.underlying28 ty5 (by decide) rfl rfl (by decide) rfl rfl (fun b5 => ?_)
  refine op_nil ?_
  refine ax_then ?_
  refine mx_one (i := 2) (by decide +kernel) (Sub.refl _) ?_
  refine wo (i := 2) rfl ?_
  refine st_appendi (h := 5) Try.underlying28 Try.underlying28 ty5 rfl rfl rfl rfl (fun w1 sw => rd_blk_all sw (h := 2) rfl (by first | omega | (simp only [List.length_append, List.length_cons, List.length_nil, List.length_set, List.length_replicate, List.length_take, List.length_drop, ints_length, wr_length, node_len] <;> omega) | rfl)) (by first | omega | (simp only [List.length_append, List.length_cons, List.length_nil, List.length_set, List.length_replicate, List.length_take, List.length_drop, ints_length, wr_length, node_len] <;> omega)) (by decide) rfl rfl (fun v7 => ?_)
  refine op_nil ?_
  refine ax_then ?_
  refine mx_one (i := 4) (by decide +kernel) (Sub.refl _) ?_
  refine wo (i := 4) rfl ?_
  refine st_appendi (h := 5) Try.underlying28 Try.underlying28 ty5 rfl rfl rfl rfl (fun w1 sw => rd_blk_all sw (h := 3) rfl (by first | omega | (simp only [List.length_append, List.length_cons, List.length_nil, List.length_set, List.length_replicate, List.length_take, List.length_drop, ints_length, wr_length, node_len] <;> omega) | rfl)) (by first | omega | (simp only [List.length_append, List.length_cons, List.length_nil, List.length_set, List.length_replicate, List.length_take, List.length_drop, ints_length, wr_length, node_len] <;> omega)) (by decide) rfl rfl (fun v9 => ?_)
  refine op_nil ?_
  refine ax_then ?_
  refine mx_one (i := 5) (by decide +kernel) (Sub.refl _) ?_
  refine wo (i := 5) rfl ?_
  refine st_callv has107 rfl (fun w1 sw => sum_any v9 ([3] ++ a ++ b) w1 (by simp only [List.length_append, List.length_cons, List.length_nil]; omega) (sw.own_rd (h := 5) rfl)) rfl rfl ?_
  refine at_eq (i := 10) (v' := .agg (ints .u8 (node a b)).toArray) rfl rfl ?_
  refine op_nil ?_
  refine ax_then ?_
  refine mx_one (i := 6) (by decide +kernel) (Sub.refl _) ?_
  refine wo (i := 6) rfl ?_
  refine st_store_all 4 ty55 rfl rfl rfl rfl (by first | omega | (simp only [List.length_append, List.length_cons, List.length_nil, List.length_set, List.length_replicate, List.length_take, List.length_drop, ints_length, wr_length, node_len] <;> omega) | rfl) (ints_one _ _) (by first | omega | (simp only [List.length_append, List.length_cons, List.length_nil, List.length_set, List.length_replicate, List.length_take, List.length_drop, ints_length, wr_length, node_len] <;> omega) | rfl) rfl ?_
  refine op_nil ?_
  refine ax_then ?_
  refine mx_done (by decide +kernel) (Sub.refl _) ?_
  refine ax_then ?_
  refine At.regs (L' := [(4, _)]) (.cons rfl (.nil _)) ?_
  refine cd_ret ?_
  refine rt_cell (h0 := 4) (.inl rfl) Try.results109 ty55 rfl rfl rfl (by first | omega | (simp only [List.length_append, List.length_cons, List.length_nil, List.length_set, List.length_replicate, List.length_take, List.length_drop, ints_length, wr_length, node_len] <;> omega) | rfl) ?_
  exact fun w1 sw => ⟨rfl, sw.gives (.nil _)⟩
set_option maxRecDepth 20000 in
set_option maxHeartbeats 1000000 in
theorem rnode_any (a b : List Int) (w : World) (ha : a.length = 32) (hb : b.length = 32) : Calls Try.prog 100 #[.agg (ints .u8 (a)).toArray, .agg (ints .u8 (b)).toArray] w (PostV w (.agg (ints .u8 (node a b)).toArray)) := by
  refine calls_at (vs := [.agg (ints .u8 (a)).toArray, .agg (ints .u8 (b)).toArray]) (X := []) (H := []) (F := []) 13 Try.func100 rfl rfl rfl (Sat.start0 w) ?_
  refine cd_seq ?_
  refine cd_region ?_
  refine st_box (h := 2) rfl rfl rfl rfl (fun b2 => ?_)
  refine st_box (h := 3) rfl rfl rfl rfl (fun b3 => ?_)
  refine st_alloc (h := 4) ty55 rfl rfl rfl (fun b4 => ?_)
  refine op_nil ?_
  refine ax_then ?_
  refine At.regs (L' := [(2, _), (3, _), (4, _)]) (.cons rfl (.cons rfl (.cons rfl (.nil _)))) ?_
  refine cd_seq ?_
  refine cd_region ?_
  refine st_bsi (h := 6) (xs := [_]) Try.underlying28 ty5 (by decide) rfl rfl (by decide) rfl rfl (fun b6 => ?_)
  refine st (ev_slice_arr_all Try.underlying55 ty5 rfl) rfl rfl rfl ?_
  refine st_appendi (h := 6) Try.underlying28 Try.underlying28 ty5 rfl rfl rfl rfl (fun w1 sw => rd_blk_all sw (h := 2) rfl (by first | omega | (simp only [List.length_append, List.length_cons, List.length_nil, List.length_set, List.length_replicate, List.length_take, List.length_drop, ints_length, wr_length, node_len] <;> omega) | rfl)) (by first | omega | (simp only [List.length_append, List.length_cons, List.length_nil, List.length_set, List.length_replicate, List.length_take, List.length_drop, ints_length, wr_length, node_len] <;> omega)) (by decide) rfl rfl (fun v8 => ?_)
  refine st (ev_assign rfl) rfl rfl rfl ?_
  refine op_nil ?_
  refine ax_then ?_
  refine At.regs (L' := [(3, _), (4, _), (5, _)]) (.cons rfl (.cons rfl (.cons rfl (.nil _)))) ?_
  refine cd_seq ?_
  refine cd_region ?_
  refine st (ev_move rfl) rfl rfl rfl ?_
  refine st (ev_slice_arr_all Try.underlying55 ty5 rfl) rfl rfl rfl ?_
  refine st_appendi (h := 6) Try.underlying28 Try.underlying28 ty5 rfl rfl rfl rfl (fun w1 sw => rd_blk_all sw (h := 3) rfl (by first | omega | (simp only [List.length_append, List.length_cons, List.length_nil, List.length_set, List.length_replicate, List.length_take, List.length_drop, ints_length, wr_length, node_len] <;> omega) | rfl)) (by first | omega | (simp only [List.length_append, List.length_cons, List.length_nil, List.length_set, List.length_replicate, List.length_take, List.length_drop, ints_length, wr_length, node_len] <;> omega)) (by decide) rfl rfl (fun v11 => ?_)
  refine st_callv has98 rfl (fun w1 sw => rsum_any v11 ([3] ++ a ++ b) w1 (by simp only [List.length_append, List.length_cons, List.length_nil]; omega) (sw.own_rd (h := 6) rfl)) rfl rfl ?_
  refine at_eq (i := 12) (v' := .agg (ints .u8 (node a b)).toArray) rfl rfl ?_
  refine st_store_all 4 ty55 rfl rfl rfl rfl (by first | omega | (simp only [List.length_append, List.length_cons, List.length_nil, List.length_set, List.length_replicate, List.length_take, List.length_drop, ints_length, wr_length, node_len] <;> omega) | rfl) (ints_one _ _) (by first | omega | (simp only [List.length_append, List.length_cons, List.length_nil, List.length_set, List.length_replicate, List.length_take, List.length_drop, ints_length, wr_length, node_len] <;> omega) | rfl) rfl ?_
  refine op_nil ?_
  refine ax_then ?_
  refine At.regs (L' := [(4, _)]) (.cons rfl (.nil _)) ?_
  refine cd_ret ?_
  refine rt_cell (h0 := 4) (.inl rfl) Try.results100 ty55 rfl rfl rfl (by first | omega | (simp only [List.length_append, List.length_cons, List.length_nil, List.length_set, List.length_replicate, List.length_take, List.length_drop, ints_length, wr_length, node_len] <;> omega) | rfl) ?_
  exact fun w1 sw => ⟨rfl, sw.gives (.nil _)⟩
set_option maxRecDepth 20000 in
set_option maxHeartbeats 2000000 in
theorem root_step (N : Nat) (ih : ∀ (p : Value) (cs : List (List Int)) (w : World), cs.length < N → H32 cs → cs.length ≤ 256 → Rd w p 32 (flat cs) → Calls Try.prog 77 #[p] w (PostV w (.agg (ints .u8 (root cs)).toArray))) (p : Value) (cs : List (List Int)) (w : World) (hN : cs.length = N) (hu : H32 cs) (hcl : cs.length ≤ 256) (h : Rd w p 32 (flat cs)) : Calls Try.prog 77 #[p] w (PostV w (.agg (ints .u8 (root cs)).toArray)) := by
  refine calls_at (vs := [p]) (X := []) (H := []) (F := [(0, .sl p 32 (flat (cs)))]) 26 Try.func77 rfl rfl rfl (Sat.rd0 0 h) ?_
  refine cd_seq ?_
  refine cd_region ?_
  refine st_alloc (h := 2) ty55 rfl rfl rfl (fun b2 => ?_)
  refine op_nil ?_
  refine ax_then ?_
  refine At.regs (L' := [(0, _), (2, _)]) (.cons rfl (.cons rfl (.nil _))) ?_
  refine cd_seq ?_
  refine cd_seq ?_
  refine cd_region ?_
  refine st (ev_move rfl) rfl rfl rfl ?_
  refine st (ev_len_rdh (h := 0) Try.underlying22 rfl rfl (by assumption)) rfl rfl rfl ?_
  refine op_nil ?_
  refine ax_then ?_
  refine At.regs (L' := [(0, _), (2, _), (5, _)]) (.cons rfl (.cons rfl (.cons rfl (.nil _)))) ?_
  refine cd_block ?_
  refine cd_seq ?_
  refine cd_region ?_
  refine st (ev_eql rfl rfl) rfl rfl rfl ?_
  refine st (ev_assign rfl) rfl rfl rfl ?_
  refine op_nil ?_
  refine ax_then ?_
  refine At.regs (L' := [(0, _), (2, _), (5, _), (6, _)]) (.cons rfl (.cons rfl (.cons rfl (.cons rfl (.nil _))))) ?_
  refine cd_if rfl (fun hc6 => ?_) (fun hc6 => ?_)
  ·
    have hc0 : cs = [] := List.length_eq_zero_iff.1 (by omega)
    refine cd_seq ?_
    refine cd_region ?_
    refine st (ev_build_array ty55 rfl ty5 rfl rfl) rfl rfl rfl ?_
    refine st_store_all 2 ty55 rfl rfl rfl rfl (by first | omega | (simp only [List.length_append, List.length_cons, List.length_nil, List.length_set, List.length_replicate, List.length_take, List.length_drop, ints_length, wr_length, node_len] <;> omega) | rfl) (ints_one _ _) (by first | omega | (simp only [List.length_append, List.length_cons, List.length_nil, List.length_set, List.length_replicate, List.length_take, List.length_drop, ints_length, wr_length, node_len] <;> omega) | rfl) rfl ?_
    refine op_nil ?_
    refine ax_then ?_
    refine At.regs (L' := [(0, _), (2, _)]) (.cons rfl (.cons rfl (.nil _))) ?_
    refine cd_ret ?_
    refine ax_block_ret ?_
    refine ax_then_ret ?_
    refine rt_cell (h0 := 2) (.inl rfl) Try.results77 ty55 rfl rfl rfl (by first | omega | (simp only [List.length_append, List.length_cons, List.length_nil, List.length_set, List.length_replicate, List.length_take, List.length_drop, ints_length, wr_length, node_len] <;> omega) | rfl) ?_
    exact fun w1 sw => ⟨by rw [hc0, root_nil], sw.gives (.nil _)⟩
  ·
    refine cd_seq ?_
    refine cd_region ?_
    refine st (ev_eql rfl rfl) rfl rfl rfl ?_
    refine st (ev_assign rfl) rfl rfl rfl ?_
    refine op_nil ?_
    refine ax_then ?_
    refine At.regs (L' := [(0, _), (2, _), (9, _)]) (.cons rfl (.cons rfl (.cons rfl (.nil _)))) ?_
    refine cd_if rfl (fun hc9 => ?_) (fun hc9 => ?_)
    ·
      have hg : (cs.getD (Int.toNat 0) []).length = 32 := hu.get (by show 0 < _; omega)
      have hr1 := root_small (cs := cs) (by omega)
      refine cd_seq ?_
      refine cd_region ?_
      refine st (ev_move rfl) rfl rfl rfl ?_
      refine st (ev_indexAddr_rdh (h := 0) Try.underlying22 ty55 rfl rfl rfl (by assumption) (by omega) (by omega)) rfl rfl rfl ?_
      refine st (ld_rdh (h := 0) ty55 rfl rfl rfl (by assumption) (by omega)) rfl rfl rfl ?_
      refine st_store_all 2 ty55 rfl rfl rfl rfl (by first | omega | (simp only [List.length_append, List.length_cons, List.length_nil, List.length_set, List.length_replicate, List.length_take, List.length_drop, ints_length, wr_length, node_len] <;> omega) | rfl) (ints_one _ _) (by first | omega | (simp only [List.length_append, List.length_cons, List.length_nil, List.length_set, List.length_replicate, List.length_take, List.length_drop, ints_length, wr_length, node_len] <;> omega) | rfl) rfl ?_
      refine op_nil ?_
      refine ax_then ?_
      refine At.regs (L' := [(0, _), (2, _)]) (.cons rfl (.cons rfl (.nil _))) ?_
      refine cd_ret ?_
      refine ax_block_ret ?_
      refine ax_then_ret ?_
      refine rt_cell (h0 := 2) (.inl rfl) Try.results77 ty55 rfl rfl rfl (by first | omega | (simp only [List.length_append, List.length_cons, List.length_nil, List.length_set, List.length_replicate, List.length_take, List.length_drop, ints_length, wr_length, node_len] <;> omega) | rfl) ?_
      exact fun w1 sw => ⟨by rw [hr1]; rfl, sw.gives (.nil _)⟩
    ·
      have hge : 2 ≤ cs.length := by omega
      have hlt := half_lt hge
      have hps := half_pos cs.length
      refine cd_skip ?_
      refine ax_block ?_
      refine ax_then ?_
      refine At.regs (L' := [(0, _), (2, _)]) (.cons rfl (.cons rfl (.nil _))) ?_
      refine cd_seq ?_
      refine cd_region ?_
      refine st (ev_move rfl) rfl rfl rfl ?_
      refine st (ev_len_rdh (h := 0) Try.underlying22 rfl rfl (by assumption)) rfl rfl rfl ?_
      refine at_eq (i := 15) (v' := .int .i64 (cs.length : Int)) rfl rfl ?_
      refine st_callv has108 rfl (fun w1 sw => half_any cs.length w1 hge (by omega)) rfl rfl ?_
      refine st (ev_assign rfl) rfl rfl rfl ?_
      refine op_nil ?_
      refine ax_then ?_
      refine At.regs (L' := [(0, _), (2, _), (3, _)]) (.cons rfl (.cons rfl (.cons rfl (.nil _)))) ?_
      refine cd_seq ?_
      refine cd_open_tail 9 hmix (by decide +kernel) ?_
      refine qt (ev_move rfl) rfl rfl rfl ?_
      refine qt (ev_move rfl) rfl rfl rfl ?_
      refine qt (ev_sliceh_hi Try.underlying22 ty55 rfl rfl (fun w1 sw => sw.sl_rd (h := 0) rfl) (by assumption) (by omega) (by first | omega | (simp only [List.length_append, List.length_cons, List.length_nil, List.length_set, List.length_replicate, List.length_take, List.length_drop, ints_length, wr_length, node_len] <;> omega))) rfl rfl rfl ?_
      refine qt_eq (i := 19) (v' := cutAt 32 p 0 (half cs.length)) rfl (by rw [Int.toNat_natCast]) ?_
      refine qt_callv has77 rfl (fun w1 sw => ih (cutAt 32 p 0 (half cs.length)) (cs.take (half cs.length)) w1 (by rw [List.length_take]; omega) (hu.take _) (by rw [List.length_take]; omega) (takeh (sw.sl_rd (h := 0) rfl) hu (by omega))) rfl rfl ?_
      refine qt (ev_move rfl) rfl rfl rfl ?_
      refine qt (ev_move rfl) rfl rfl rfl ?_
      refine qt (ev_sliceh_lo Try.underlying22 ty55 rfl rfl (fun w1 sw => sw.sl_rd (h := 0) rfl) (by assumption) (by omega) (by first | omega | (simp only [List.length_append, List.length_cons, List.length_nil, List.length_set, List.length_replicate, List.length_take, List.length_drop, ints_length, wr_length, node_len] <;> omega))) rfl rfl rfl ?_
      refine qt_eq (i := 23) (v' := cutAt 32 p (half cs.length) cs.length) rfl (by rw [Int.toNat_natCast]) ?_
      refine qt_callv has77 rfl (fun w1 sw => ih (cutAt 32 p (half cs.length) cs.length) (cs.drop (half cs.length)) w1 (by rw [List.length_drop]; omega) (hu.drop _) (by rw [List.length_drop]; omega) (droph (sw.sl_rd (h := 0) rfl) hu (by omega))) rfl rfl ?_
      refine qt_callv has109 rfl (fun w1 sw => node_any (root (cs.take (half cs.length))) (root (cs.drop (half cs.length))) w1 (root_len (hu.take _)) (root_len (hu.drop _))) rfl rfl ?_
      refine qt_end ?_
      refine st_store_all 2 ty55 rfl rfl rfl rfl (by first | omega | (simp only [List.length_append, List.length_cons, List.length_nil, List.length_set, List.length_replicate, List.length_take, List.length_drop, ints_length, wr_length, node_len] <;> omega) | rfl) (ints_one _ _) (by first | omega | (simp only [List.length_append, List.length_cons, List.length_nil, List.length_set, List.length_replicate, List.length_take, List.length_drop, ints_length, wr_length, node_len] <;> omega) | rfl) rfl ?_
      refine op_nil ?_
      refine ax_then ?_
      refine At.regs (L' := [(2, _)]) (.cons rfl (.nil _)) ?_
      refine cd_ret ?_
      refine rt_cell (h0 := 2) (.inl rfl) Try.results77 ty55 rfl rfl rfl (by first | omega | (simp only [List.length_append, List.length_cons, List.length_nil, List.length_set, List.length_replicate, List.length_take, List.length_drop, ints_length, wr_length, node_len] <;> omega) | rfl) ?_
      exact fun w1 sw => ⟨by rw [root_two hge], sw.gives (.nil _)⟩
theorem root_all : ∀ (N : Nat) (p : Value) (cs : List (List Int)) (w : World), cs.length < N → H32 cs → cs.length ≤ 256 → Rd w p 32 (flat cs) → Calls Try.prog 77 #[p] w (PostV w (.agg (ints .u8 (root cs)).toArray))
  | 0, _, _, _, hN, _, _, _ => absurd hN (Nat.not_lt_zero _)
  | N + 1, p, cs, w, hN, hu, hcl, h => root_step cs.length (fun p' cs' w' h1 => root_all N p' cs' w' (by omega)) p cs w rfl hu hcl h
theorem root_any (p : Value) (cs : List (List Int)) (w : World) (hu : H32 cs) (hcl : cs.length ≤ 256) (h : Rd w p 32 (flat cs)) : Calls Try.prog 77 #[p] w (PostV w (.agg (ints .u8 (root cs)).toArray)) := root_all (cs.length + 1) p cs w (by omega) hu hcl h
set_option maxRecDepth 20000 in
set_option maxHeartbeats 2000000 in
theorem rroot_step (N : Nat) (ih : ∀ (p : Value) (cs : List (List Int)) (w : World), cs.length < N → H32 cs → cs.length ≤ 256 → Rd w p 32 (flat cs) → Calls Try.prog 69 #[p] w (PostV w (.agg (ints .u8 (root cs)).toArray))) (p : Value) (cs : List (List Int)) (w : World) (hN : cs.length = N) (hu : H32 cs) (hcl : cs.length ≤ 256) (h : Rd w p 32 (flat cs)) : Calls Try.prog 69 #[p] w (PostV w (.agg (ints .u8 (root cs)).toArray)) := by
  refine calls_at (vs := [p]) (X := []) (H := []) (F := [(0, .sl p 32 (flat (cs)))]) 26 Try.func69 rfl rfl rfl (Sat.rd0 0 h) ?_
  refine cd_seq ?_
  refine cd_region ?_
  refine st_alloc (h := 2) ty55 rfl rfl rfl (fun b2 => ?_)
  refine op_nil ?_
  refine ax_then ?_
  refine At.regs (L' := [(0, _), (2, _)]) (.cons rfl (.cons rfl (.nil _))) ?_
  refine cd_seq ?_
  refine cd_seq ?_
  refine cd_region ?_
  refine st (ev_move rfl) rfl rfl rfl ?_
  refine st (ev_len_rdh (h := 0) Try.underlying22 rfl rfl (by assumption)) rfl rfl rfl ?_
  refine op_nil ?_
  refine ax_then ?_
  refine At.regs (L' := [(0, _), (2, _), (5, _)]) (.cons rfl (.cons rfl (.cons rfl (.nil _)))) ?_
  refine cd_block ?_
  refine cd_seq ?_
  refine cd_region ?_
  refine st (ev_eql rfl rfl) rfl rfl rfl ?_
  refine st (ev_assign rfl) rfl rfl rfl ?_
  refine op_nil ?_
  refine ax_then ?_
  refine At.regs (L' := [(0, _), (2, _), (5, _), (6, _)]) (.cons rfl (.cons rfl (.cons rfl (.cons rfl (.nil _))))) ?_
  refine cd_if rfl (fun hc6 => ?_) (fun hc6 => ?_)
  ·
    have hc0 : cs = [] := List.length_eq_zero_iff.1 (by omega)
    refine cd_seq ?_
    refine cd_region ?_
    refine st (ev_build_array ty55 rfl ty5 rfl rfl) rfl rfl rfl ?_
    refine st_store_all 2 ty55 rfl rfl rfl rfl (by first | omega | (simp only [List.length_append, List.length_cons, List.length_nil, List.length_set, List.length_replicate, List.length_take, List.length_drop, ints_length, wr_length, node_len] <;> omega) | rfl) (ints_one _ _) (by first | omega | (simp only [List.length_append, List.length_cons, List.length_nil, List.length_set, List.length_replicate, List.length_take, List.length_drop, ints_length, wr_length, node_len] <;> omega) | rfl) rfl ?_
    refine op_nil ?_
    refine ax_then ?_
    refine At.regs (L' := [(0, _), (2, _)]) (.cons rfl (.cons rfl (.nil _))) ?_
    refine cd_ret ?_
    refine ax_block_ret ?_
    refine ax_then_ret ?_
    refine rt_cell (h0 := 2) (.inl rfl) Try.results69 ty55 rfl rfl rfl (by first | omega | (simp only [List.length_append, List.length_cons, List.length_nil, List.length_set, List.length_replicate, List.length_take, List.length_drop, ints_length, wr_length, node_len] <;> omega) | rfl) ?_
    exact fun w1 sw => ⟨by rw [hc0, root_nil], sw.gives (.nil _)⟩
  ·
    refine cd_seq ?_
    refine cd_region ?_
    refine st (ev_eql rfl rfl) rfl rfl rfl ?_
    refine st (ev_assign rfl) rfl rfl rfl ?_
    refine op_nil ?_
    refine ax_then ?_
    refine At.regs (L' := [(0, _), (2, _), (9, _)]) (.cons rfl (.cons rfl (.cons rfl (.nil _)))) ?_
    refine cd_if rfl (fun hc9 => ?_) (fun hc9 => ?_)
    ·
      have hg : (cs.getD (Int.toNat 0) []).length = 32 := hu.get (by show 0 < _; omega)
      have hr1 := root_small (cs := cs) (by omega)
      refine cd_seq ?_
      refine cd_region ?_
      refine st (ev_move rfl) rfl rfl rfl ?_
      refine st (ev_indexAddr_rdh (h := 0) Try.underlying22 ty55 rfl rfl rfl (by assumption) (by omega) (by omega)) rfl rfl rfl ?_
      refine st (ld_rdh (h := 0) ty55 rfl rfl rfl (by assumption) (by omega)) rfl rfl rfl ?_
      refine st_store_all 2 ty55 rfl rfl rfl rfl (by first | omega | (simp only [List.length_append, List.length_cons, List.length_nil, List.length_set, List.length_replicate, List.length_take, List.length_drop, ints_length, wr_length, node_len] <;> omega) | rfl) (ints_one _ _) (by first | omega | (simp only [List.length_append, List.length_cons, List.length_nil, List.length_set, List.length_replicate, List.length_take, List.length_drop, ints_length, wr_length, node_len] <;> omega) | rfl) rfl ?_
      refine op_nil ?_
      refine ax_then ?_
      refine At.regs (L' := [(0, _), (2, _)]) (.cons rfl (.cons rfl (.nil _))) ?_
      refine cd_ret ?_
      refine ax_block_ret ?_
      refine ax_then_ret ?_
      refine rt_cell (h0 := 2) (.inl rfl) Try.results69 ty55 rfl rfl rfl (by first | omega | (simp only [List.length_append, List.length_cons, List.length_nil, List.length_set, List.length_replicate, List.length_take, List.length_drop, ints_length, wr_length, node_len] <;> omega) | rfl) ?_
      exact fun w1 sw => ⟨by rw [hr1]; rfl, sw.gives (.nil _)⟩
    ·
      have hge : 2 ≤ cs.length := by omega
      have hlt := half_lt hge
      have hps := half_pos cs.length
      refine cd_skip ?_
      refine ax_block ?_
      refine ax_then ?_
      refine At.regs (L' := [(0, _), (2, _)]) (.cons rfl (.cons rfl (.nil _))) ?_
      refine cd_seq ?_
      refine cd_region ?_
      refine st (ev_move rfl) rfl rfl rfl ?_
      refine st (ev_len_rdh (h := 0) Try.underlying22 rfl rfl (by assumption)) rfl rfl rfl ?_
      refine at_eq (i := 15) (v' := .int .i64 (cs.length : Int)) rfl rfl ?_
      refine st_callv has99 rfl (fun w1 sw => rhalf_any cs.length w1 hge (by omega)) rfl rfl ?_
      refine st (ev_assign rfl) rfl rfl rfl ?_
      refine op_nil ?_
      refine ax_then ?_
      refine At.regs (L' := [(0, _), (2, _), (3, _)]) (.cons rfl (.cons rfl (.cons rfl (.nil _)))) ?_
      refine cd_seq ?_
      refine cd_open_tail 9 hmix (by decide +kernel) ?_
      refine qt (ev_move rfl) rfl rfl rfl ?_
      refine qt (ev_move rfl) rfl rfl rfl ?_
      refine qt (ev_sliceh_hi Try.underlying22 ty55 rfl rfl (fun w1 sw => sw.sl_rd (h := 0) rfl) (by assumption) (by omega) (by first | omega | (simp only [List.length_append, List.length_cons, List.length_nil, List.length_set, List.length_replicate, List.length_take, List.length_drop, ints_length, wr_length, node_len] <;> omega))) rfl rfl rfl ?_
      refine qt_eq (i := 19) (v' := cutAt 32 p 0 (half cs.length)) rfl (by rw [Int.toNat_natCast]) ?_
      refine qt_callv has69 rfl (fun w1 sw => ih (cutAt 32 p 0 (half cs.length)) (cs.take (half cs.length)) w1 (by rw [List.length_take]; omega) (hu.take _) (by rw [List.length_take]; omega) (takeh (sw.sl_rd (h := 0) rfl) hu (by omega))) rfl rfl ?_
      refine qt (ev_move rfl) rfl rfl rfl ?_
      refine qt (ev_move rfl) rfl rfl rfl ?_
      refine qt (ev_sliceh_lo Try.underlying22 ty55 rfl rfl (fun w1 sw => sw.sl_rd (h := 0) rfl) (by assumption) (by omega) (by first | omega | (simp only [List.length_append, List.length_cons, List.length_nil, List.length_set, List.length_replicate, List.length_take, List.length_drop, ints_length, wr_length, node_len] <;> omega))) rfl rfl rfl ?_
      refine qt_eq (i := 23) (v' := cutAt 32 p (half cs.length) cs.length) rfl (by rw [Int.toNat_natCast]) ?_
      refine qt_callv has69 rfl (fun w1 sw => ih (cutAt 32 p (half cs.length) cs.length) (cs.drop (half cs.length)) w1 (by rw [List.length_drop]; omega) (hu.drop _) (by rw [List.length_drop]; omega) (droph (sw.sl_rd (h := 0) rfl) hu (by omega))) rfl rfl ?_
      refine qt_callv has100 rfl (fun w1 sw => rnode_any (root (cs.take (half cs.length))) (root (cs.drop (half cs.length))) w1 (root_len (hu.take _)) (root_len (hu.drop _))) rfl rfl ?_
      refine qt_end ?_
      refine st_store_all 2 ty55 rfl rfl rfl rfl (by first | omega | (simp only [List.length_append, List.length_cons, List.length_nil, List.length_set, List.length_replicate, List.length_take, List.length_drop, ints_length, wr_length, node_len] <;> omega) | rfl) (ints_one _ _) (by first | omega | (simp only [List.length_append, List.length_cons, List.length_nil, List.length_set, List.length_replicate, List.length_take, List.length_drop, ints_length, wr_length, node_len] <;> omega) | rfl) rfl ?_
      refine op_nil ?_
      refine ax_then ?_
      refine At.regs (L' := [(2, _)]) (.cons rfl (.nil _)) ?_
      refine cd_ret ?_
      refine rt_cell (h0 := 2) (.inl rfl) Try.results69 ty55 rfl rfl rfl (by first | omega | (simp only [List.length_append, List.length_cons, List.length_nil, List.length_set, List.length_replicate, List.length_take, List.length_drop, ints_length, wr_length, node_len] <;> omega) | rfl) ?_
      exact fun w1 sw => ⟨by rw [root_two hge], sw.gives (.nil _)⟩
theorem rroot_all : ∀ (N : Nat) (p : Value) (cs : List (List Int)) (w : World), cs.length < N → H32 cs → cs.length ≤ 256 → Rd w p 32 (flat cs) → Calls Try.prog 69 #[p] w (PostV w (.agg (ints .u8 (root cs)).toArray))
  | 0, _, _, _, hN, _, _, _ => absurd hN (Nat.not_lt_zero _)
  | N + 1, p, cs, w, hN, hu, hcl, h => rroot_step cs.length (fun p' cs' w' h1 => rroot_all N p' cs' w' (by omega)) p cs w rfl hu hcl h
theorem rroot_any (p : Value) (cs : List (List Int)) (w : World) (hu : H32 cs) (hcl : cs.length ≤ 256) (h : Rd w p 32 (flat cs)) : Calls Try.prog 69 #[p] w (PostV w (.agg (ints .u8 (root cs)).toArray)) := rroot_all (cs.length + 1) p cs w (by omega) hu hcl h
end Go.Proofs.Ytgfnmolbagilmaa

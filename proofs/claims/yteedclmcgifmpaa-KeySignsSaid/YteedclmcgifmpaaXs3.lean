/- The statement's proof, part 3: what its walks and its plain laws need. -/
import Derived.Test.YteedclmcgifmpaaRows
import Derived.Tactics
import Derived.Deep.Quiet
import Derived.StillTail
import Derived.Laws.World
import Derived.Laws.Sem
import Derived.Laws.Entries
import Derived.Below
import Derived.Deep.LoopGhost
import Derived.Laws.BytesString
import Derived.Laws.IdiomStrings
import Derived.KernelRfl
import Derived.Carry
import Derived.OpenShut
import Derived.ProofKit
import Derived.ChangeSame
import Derived.HandedShaped
import Derived.SizedLaws
import Derived.Test.YteedclmcgifmpaaProg
import Derived.Test.YteedclmcgifmpaaXs2
namespace Go.Proofs.Yteedclmcgifmpaa
open Go Go.RowKit Fw
open Sha
open Ots
set_option linter.unusedVariables false
set_option linter.unusedSimpArgs false
set_option maxRecDepth 20000 in
set_option maxHeartbeats 1000000 in
theorem walk_any (h0 : List Int) (c f t : Int) (w : World) (hl : h0.length = 32) (hf : f ≤ 9223372036854775807) : Calls Try.prog 87 #[.agg (ints .u8 (h0)).toArray, .int .i64 c, .int .i64 f, .int .i64 t] w (PostV w (.agg (ints .u8 (walk h0 c f t)).toArray)) := by
  refine calls_at (vs := [.agg (ints .u8 (h0)).toArray, .int .i64 c, .int .i64 f, .int .i64 t]) (X := []) (H := []) (F := []) 27 Try.func87 rfl rfl rfl (Sat.start0 w) ?_
  refine cd_seq ?_
  refine cd_region ?_
  refine st_box (h := 4) rfl rfl rfl rfl (fun b4 => ?_)
  refine st_alloc (h := 8) ty39 rfl rfl rfl (fun b8 => ?_)
  refine op_nil ?_
  refine ax_then ?_
  refine At.regs (L' := [(1, _), (2, _), (3, _), (4, _), (8, _)]) (.cons rfl (.cons rfl (.cons rfl (.cons rfl (.cons rfl (.nil _)))))) ?_
  refine cd_seq ?_
  refine cd_seq ?_
  refine cd_region ?_
  refine st (ev_move rfl) rfl rfl rfl ?_
  refine st (ev_max2 rfl rfl) rfl rfl rfl ?_
  obtain ⟨a, ha⟩ : ∃ a : Nat, max f 0 = (a : Int) := ⟨(max f 0).toNat, (Int.toNat_of_nonneg (by omega)).symm⟩
  refine at_eq (i := 11) (v' := .int .i64 ((a + 0 : Nat) : Int)) rfl (by rw [ha]; rfl) ?_
  refine st (ev_assign rfl) rfl rfl rfl ?_
  refine op_nil ?_
  refine ax_then ?_
  refine At.regs (L' := [(1, _), (3, _), (4, _), (8, _), (9, _)]) (.cons rfl (.cons rfl (.cons rfl (.cons rfl (.cons rfl (.nil _)))))) ?_
  refine cd_block ?_
  refine cd_loop (ι := Nat) (fun k => k ≤ (min t 3 - a).toNat) (fun k => (min t 3 - a).toNat - k)
      (fun k => [(1, .int .i64 c), (3, .int .i64 t), (4, .pointer (some ⟨b4, 0, none⟩)), (8, .pointer (some ⟨b8, 0, none⟩)), (9, .int .i64 ((a + k : Nat) : Int))])
      (fun k => [(4, .blk b4 (.cells (ints .u8 (way c h0 a k)).toArray 39)), (8, .blk b8 (.cells (ints .u8 (List.replicate 32 0)).toArray 39))])
      (fun k => [])
      0 (by omega) (.cons rfl (.cons rfl (.cons rfl (.cons rfl (.cons rfl (.nil _)))))) (.cons rfl (.cons rfl (.nil _))) (.nil _) (fun k hi => ?_)
  have hwl := way_len c hl a k
  have hwl1 := way_len c hl a (k + 1)
  refine cd_seq ?_
  refine cd_seq ?_
  refine cd_region ?_
  refine st (ev_move rfl) rfl rfl rfl ?_
  refine st (ev_move rfl) rfl rfl rfl ?_
  refine st (ev_min2 rfl rfl) rfl rfl rfl ?_
  refine st (ev_lss rfl rfl) rfl rfl rfl ?_
  refine op_nil ?_
  refine ax_then ?_
  refine At.regs (L' := [(1, _), (3, _), (4, _), (8, _), (9, _), (12, _), (13, _), (14, _), (15, _)]) (.cons rfl (.cons rfl (.cons rfl (.cons rfl (.cons rfl (.cons rfl (.cons rfl (.cons rfl (.cons rfl (.nil _)))))))))) ?_
  refine cd_if rfl (fun hc15 => ?_) (fun hc15 => ?_)
  ·
    refine cd_skip ?_
    refine ax_then ?_
    refine At.regs (L' := [(1, _), (3, _), (4, _), (8, _), (9, _), (12, _), (13, _), (14, _), (15, _)]) (.cons rfl (.cons rfl (.cons rfl (.cons rfl (.cons rfl (.cons rfl (.cons rfl (.cons rfl (.cons rfl (.nil _)))))))))) ?_
    refine cd_seq ?_
    refine cd_block ?_
    refine cd_region ?_
    refine st (ev_move rfl) rfl rfl rfl ?_
    refine st (ev_conv Try.underlying3 Try.underlying5 rfl) rfl rfl rfl ?_
    refine st (ev_move rfl) rfl rfl rfl ?_
    refine st (ev_conv Try.underlying3 Try.underlying5 rfl) rfl rfl rfl ?_
    refine st_bsi (h := 22) (xs := [_, _, _]) Try.underlying22 ty5 (by decide) rfl rfl (by decide) rfl rfl (fun b22 => ?_)
    refine st (ev_slice_arr_all Try.underlying39 ty5 rfl) rfl rfl rfl ?_
    refine st_appendi (h := 22) Try.underlying22 Try.underlying22 ty5 rfl rfl rfl rfl (fun w1 sw => rd_blk_all sw (h := 4) rfl (by first | omega | (simp only [List.length_append, List.length_cons, List.length_nil, List.length_set, List.length_replicate, List.length_take, List.length_drop, ints_length, wr_length, sha_len, way_len _ (by assumption), secret_len, digits_len] <;> omega) | rfl)) (by first | omega | (simp only [List.length_append, List.length_cons, List.length_nil, List.length_set, List.length_replicate, List.length_take, List.length_drop, ints_length, wr_length, sha_len, way_len _ (by assumption), secret_len, digits_len] <;> omega)) (by decide) rfl rfl (fun v24 => ?_)
    refine st_callv has83 rfl (fun w1 sw => sum_any v24 ([1, IntKind.u8.wrap c, IntKind.u8.wrap ((a + k : Nat) : Int)] ++ way c h0 a k) w1 (by simp only [List.length_append, List.length_cons, List.length_nil, hwl]; omega) (sw.own_rd (h := 22) rfl)) rfl rfl ?_
    refine at_eq (i := 25) (v' := .agg (ints .u8 (way c h0 a (k + 1))).toArray) rfl rfl ?_
    refine st_store_all 4 ty39 rfl rfl rfl rfl (by first | omega | (simp only [List.length_append, List.length_cons, List.length_nil, List.length_set, List.length_replicate, List.length_take, List.length_drop, ints_length, wr_length, sha_len, way_len _ (by assumption), secret_len, digits_len] <;> omega) | rfl) (ints_one _ _) (by first | omega | (simp only [List.length_append, List.length_cons, List.length_nil, List.length_set, List.length_replicate, List.length_take, List.length_drop, ints_length, wr_length, sha_len, way_len _ (by assumption), secret_len, digits_len] <;> omega) | rfl) rfl ?_
    refine op_nil ?_
    refine ax_block ?_
    refine ax_then ?_
    refine At.regs (L' := [(1, _), (3, _), (4, _), (8, _), (9, _), (12, _), (13, _), (14, _), (15, _), (18, _), (19, _), (20, _), (21, _), (22, _), (23, _), (24, _), (25, _)]) (.cons rfl (.cons rfl (.cons rfl (.cons rfl (.cons rfl (.cons rfl (.cons rfl (.cons rfl (.cons rfl (.cons rfl (.cons rfl (.cons rfl (.cons rfl (.cons rfl (.cons rfl (.cons rfl (.cons rfl (.nil _)))))))))))))))))) ?_
    refine cd_region ?_
    refine st (ev_move rfl) rfl rfl rfl ?_
    refine st (ev_add64 rfl rfl (by omega) (by omega)) rfl rfl rfl ?_
    refine st (ev_assign rfl) rfl rfl rfl ?_
    refine op_nil ?_
    refine ax_eq (i := 9) (v' := .int .i64 ((a + (k + 1) : Nat) : Int)) rfl (by congr 1) ?_
    exact at_again (k + 1) (by omega) (by omega) (.cons rfl (.cons rfl (.cons rfl (.cons rfl (.cons rfl (.nil _)))))) (.cons rfl (.cons rfl (.nil _))) (.nil _)
  ·
    obtain rfl : k = (min t 3 - a).toNat := by omega
    have hwk : way c h0 a (min t 3 - a).toNat = walk h0 c f t := by rw [walk, ha]; rfl
    refine at_heq (i := 4) (v' := .blk b4 (.cells (ints .u8 (walk h0 c f t)).toArray 39)) rfl (by rw [hwk]) ?_
    have hwl2 := walk_len c f t hl
    refine cd_exit ?_
    refine ax_then_exit ?_
    refine ax_then_exit ?_
    refine ax_block_hit ?_
    refine ax_then ?_
    refine At.regs (L' := [(4, _), (8, _)]) (.cons rfl (.cons rfl (.nil _))) ?_
    refine cd_seq ?_
    refine cd_region ?_
    refine st (ld_blk_all (h := 4) ty39 rfl rfl rfl (by first | omega | (simp only [List.length_append, List.length_cons, List.length_nil, List.length_set, List.length_replicate, List.length_take, List.length_drop, ints_length, wr_length, sha_len, way_len _ (by assumption), secret_len, digits_len] <;> omega) | rfl)) rfl rfl rfl ?_
    refine st_store_all 8 ty39 rfl rfl rfl rfl (by first | omega | (simp only [List.length_append, List.length_cons, List.length_nil, List.length_set, List.length_replicate, List.length_take, List.length_drop, ints_length, wr_length, sha_len, way_len _ (by assumption), secret_len, digits_len] <;> omega) | rfl) (ints_one _ _) (by first | omega | (simp only [List.length_append, List.length_cons, List.length_nil, List.length_set, List.length_replicate, List.length_take, List.length_drop, ints_length, wr_length, sha_len, way_len _ (by assumption), secret_len, digits_len] <;> omega) | rfl) rfl ?_
    refine op_nil ?_
    refine ax_then ?_
    refine At.regs (L' := [(8, _)]) (.cons rfl (.nil _)) ?_
    refine cd_ret ?_
    refine rt_cell (h0 := 8) (.inl rfl) Try.results87 ty39 rfl rfl rfl (by first | omega | (simp only [List.length_append, List.length_cons, List.length_nil, List.length_set, List.length_replicate, List.length_take, List.length_drop, ints_length, wr_length, sha_len, way_len _ (by assumption), secret_len, digits_len] <;> omega) | rfl) ?_
    exact fun w1 sw => ⟨rfl, sw.gives (.nil _)⟩
set_option maxRecDepth 20000 in
set_option maxHeartbeats 1000000 in
theorem rwalk_any (h0 : List Int) (c f t : Int) (w : World) (hl : h0.length = 32) (hf : f ≤ 9223372036854775807) : Calls Try.prog 77 #[.agg (ints .u8 (h0)).toArray, .int .i64 c, .int .i64 f, .int .i64 t] w (PostV w (.agg (ints .u8 (walk h0 c f t)).toArray)) := by
  refine calls_at (vs := [.agg (ints .u8 (h0)).toArray, .int .i64 c, .int .i64 f, .int .i64 t]) (X := []) (H := []) (F := []) 27 Try.func77 rfl rfl rfl (Sat.start0 w) ?_
  refine cd_seq ?_
  refine cd_region ?_
  refine st_box (h := 4) rfl rfl rfl rfl (fun b4 => ?_)
  refine st_alloc (h := 8) ty39 rfl rfl rfl (fun b8 => ?_)
  refine op_nil ?_
  refine ax_then ?_
  refine At.regs (L' := [(1, _), (2, _), (3, _), (4, _), (8, _)]) (.cons rfl (.cons rfl (.cons rfl (.cons rfl (.cons rfl (.nil _)))))) ?_
  refine cd_seq ?_
  refine cd_seq ?_
  refine cd_region ?_
  refine st (ev_move rfl) rfl rfl rfl ?_
  refine st (ev_max2 rfl rfl) rfl rfl rfl ?_
  obtain ⟨a, ha⟩ : ∃ a : Nat, max f 0 = (a : Int) := ⟨(max f 0).toNat, (Int.toNat_of_nonneg (by omega)).symm⟩
  refine at_eq (i := 11) (v' := .int .i64 ((a + 0 : Nat) : Int)) rfl (by rw [ha]; rfl) ?_
  refine st (ev_assign rfl) rfl rfl rfl ?_
  refine op_nil ?_
  refine ax_then ?_
  refine At.regs (L' := [(1, _), (3, _), (4, _), (8, _), (9, _)]) (.cons rfl (.cons rfl (.cons rfl (.cons rfl (.cons rfl (.nil _)))))) ?_
  refine cd_block ?_
  refine cd_loop (ι := Nat) (fun k => k ≤ (min t 3 - a).toNat) (fun k => (min t 3 - a).toNat - k)
      (fun k => [(1, .int .i64 c), (3, .int .i64 t), (4, .pointer (some ⟨b4, 0, none⟩)), (8, .pointer (some ⟨b8, 0, none⟩)), (9, .int .i64 ((a + k : Nat) : Int))])
      (fun k => [(4, .blk b4 (.cells (ints .u8 (way c h0 a k)).toArray 39)), (8, .blk b8 (.cells (ints .u8 (List.replicate 32 0)).toArray 39))])
      (fun k => [])
      0 (by omega) (.cons rfl (.cons rfl (.cons rfl (.cons rfl (.cons rfl (.nil _)))))) (.cons rfl (.cons rfl (.nil _))) (.nil _) (fun k hi => ?_)
  have hwl := way_len c hl a k
  have hwl1 := way_len c hl a (k + 1)
  refine cd_seq ?_
  refine cd_seq ?_
  refine cd_region ?_
  refine st (ev_move rfl) rfl rfl rfl ?_
  refine st (ev_move rfl) rfl rfl rfl ?_
  refine st (ev_min2 rfl rfl) rfl rfl rfl ?_
  refine st (ev_lss rfl rfl) rfl rfl rfl ?_
  refine op_nil ?_
  refine ax_then ?_
  refine At.regs (L' := [(1, _), (3, _), (4, _), (8, _), (9, _), (12, _), (13, _), (14, _), (15, _)]) (.cons rfl (.cons rfl (.cons rfl (.cons rfl (.cons rfl (.cons rfl (.cons rfl (.cons rfl (.cons rfl (.nil _)))))))))) ?_
  refine cd_if rfl (fun hc15 => ?_) (fun hc15 => ?_)
  ·
    refine cd_skip ?_
    refine ax_then ?_
    refine At.regs (L' := [(1, _), (3, _), (4, _), (8, _), (9, _), (12, _), (13, _), (14, _), (15, _)]) (.cons rfl (.cons rfl (.cons rfl (.cons rfl (.cons rfl (.cons rfl (.cons rfl (.cons rfl (.cons rfl (.nil _)))))))))) ?_
    refine cd_seq ?_
    refine cd_block ?_
    refine cd_region ?_
    refine st (ev_move rfl) rfl rfl rfl ?_
    refine st (ev_conv Try.underlying3 Try.underlying5 rfl) rfl rfl rfl ?_
    refine st (ev_move rfl) rfl rfl rfl ?_
    refine st (ev_conv Try.underlying3 Try.underlying5 rfl) rfl rfl rfl ?_
    refine st_bsi (h := 22) (xs := [_, _, _]) Try.underlying22 ty5 (by decide) rfl rfl (by decide) rfl rfl (fun b22 => ?_)
    refine st (ev_slice_arr_all Try.underlying39 ty5 rfl) rfl rfl rfl ?_
    refine st_appendi (h := 22) Try.underlying22 Try.underlying22 ty5 rfl rfl rfl rfl (fun w1 sw => rd_blk_all sw (h := 4) rfl (by first | omega | (simp only [List.length_append, List.length_cons, List.length_nil, List.length_set, List.length_replicate, List.length_take, List.length_drop, ints_length, wr_length, sha_len, way_len _ (by assumption), secret_len, digits_len] <;> omega) | rfl)) (by first | omega | (simp only [List.length_append, List.length_cons, List.length_nil, List.length_set, List.length_replicate, List.length_take, List.length_drop, ints_length, wr_length, sha_len, way_len _ (by assumption), secret_len, digits_len] <;> omega)) (by decide) rfl rfl (fun v24 => ?_)
    refine st_callv has80 rfl (fun w1 sw => rsum_any v24 ([1, IntKind.u8.wrap c, IntKind.u8.wrap ((a + k : Nat) : Int)] ++ way c h0 a k) w1 (by simp only [List.length_append, List.length_cons, List.length_nil, hwl]; omega) (sw.own_rd (h := 22) rfl)) rfl rfl ?_
    refine at_eq (i := 25) (v' := .agg (ints .u8 (way c h0 a (k + 1))).toArray) rfl rfl ?_
    refine st_store_all 4 ty39 rfl rfl rfl rfl (by first | omega | (simp only [List.length_append, List.length_cons, List.length_nil, List.length_set, List.length_replicate, List.length_take, List.length_drop, ints_length, wr_length, sha_len, way_len _ (by assumption), secret_len, digits_len] <;> omega) | rfl) (ints_one _ _) (by first | omega | (simp only [List.length_append, List.length_cons, List.length_nil, List.length_set, List.length_replicate, List.length_take, List.length_drop, ints_length, wr_length, sha_len, way_len _ (by assumption), secret_len, digits_len] <;> omega) | rfl) rfl ?_
    refine op_nil ?_
    refine ax_block ?_
    refine ax_then ?_
    refine At.regs (L' := [(1, _), (3, _), (4, _), (8, _), (9, _), (12, _), (13, _), (14, _), (15, _), (18, _), (19, _), (20, _), (21, _), (22, _), (23, _), (24, _), (25, _)]) (.cons rfl (.cons rfl (.cons rfl (.cons rfl (.cons rfl (.cons rfl (.cons rfl (.cons rfl (.cons rfl (.cons rfl (.cons rfl (.cons rfl (.cons rfl (.cons rfl (.cons rfl (.cons rfl (.cons rfl (.nil _)))))))))))))))))) ?_
    refine cd_region ?_
    refine st (ev_move rfl) rfl rfl rfl ?_
    refine st (ev_add64 rfl rfl (by omega) (by omega)) rfl rfl rfl ?_
    refine st (ev_assign rfl) rfl rfl rfl ?_
    refine op_nil ?_
    refine ax_eq (i := 9) (v' := .int .i64 ((a + (k + 1) : Nat) : Int)) rfl (by congr 1) ?_
    exact at_again (k + 1) (by omega) (by omega) (.cons rfl (.cons rfl (.cons rfl (.cons rfl (.cons rfl (.nil _)))))) (.cons rfl (.cons rfl (.nil _))) (.nil _)
  ·
    obtain rfl : k = (min t 3 - a).toNat := by omega
    have hwk : way c h0 a (min t 3 - a).toNat = walk h0 c f t := by rw [walk, ha]; rfl
    refine at_heq (i := 4) (v' := .blk b4 (.cells (ints .u8 (walk h0 c f t)).toArray 39)) rfl (by rw [hwk]) ?_
    have hwl2 := walk_len c f t hl
    refine cd_exit ?_
    refine ax_then_exit ?_
    refine ax_then_exit ?_
    refine ax_block_hit ?_
    refine ax_then ?_
    refine At.regs (L' := [(4, _), (8, _)]) (.cons rfl (.cons rfl (.nil _))) ?_
    refine cd_seq ?_
    refine cd_region ?_
    refine st (ld_blk_all (h := 4) ty39 rfl rfl rfl (by first | omega | (simp only [List.length_append, List.length_cons, List.length_nil, List.length_set, List.length_replicate, List.length_take, List.length_drop, ints_length, wr_length, sha_len, way_len _ (by assumption), secret_len, digits_len] <;> omega) | rfl)) rfl rfl rfl ?_
    refine st_store_all 8 ty39 rfl rfl rfl rfl (by first | omega | (simp only [List.length_append, List.length_cons, List.length_nil, List.length_set, List.length_replicate, List.length_take, List.length_drop, ints_length, wr_length, sha_len, way_len _ (by assumption), secret_len, digits_len] <;> omega) | rfl) (ints_one _ _) (by first | omega | (simp only [List.length_append, List.length_cons, List.length_nil, List.length_set, List.length_replicate, List.length_take, List.length_drop, ints_length, wr_length, sha_len, way_len _ (by assumption), secret_len, digits_len] <;> omega) | rfl) rfl ?_
    refine op_nil ?_
    refine ax_then ?_
    refine At.regs (L' := [(8, _)]) (.cons rfl (.nil _)) ?_
    refine cd_ret ?_
    refine rt_cell (h0 := 8) (.inl rfl) Try.results77 ty39 rfl rfl rfl (by first | omega | (simp only [List.length_append, List.length_cons, List.length_nil, List.length_set, List.length_replicate, List.length_take, List.length_drop, ints_length, wr_length, sha_len, way_len _ (by assumption), secret_len, digits_len] <;> omega) | rfl) ?_
    exact fun w1 sw => ⟨rfl, sw.gives (.nil _)⟩
set_option maxRecDepth 20000 in
set_option maxHeartbeats 1000000 in
theorem secret_any (s : List Int) (l c : Int) (w : World) (hl : s.length = 32) : Calls Try.prog 88 #[.agg (ints .u8 (s)).toArray, .int .i64 l, .int .i64 c] w (PostV w (.agg (ints .u8 (secret s l c)).toArray)) := by
  refine calls_at (vs := [.agg (ints .u8 (s)).toArray, .int .i64 l, .int .i64 c]) (X := []) (H := []) (F := []) 17 Try.func88 rfl rfl rfl (Sat.start0 w) ?_
  refine cd_seq ?_
  refine cd_region ?_
  refine st_box (h := 3) rfl rfl rfl rfl (fun b3 => ?_)
  refine st_alloc (h := 6) ty39 rfl rfl rfl (fun b6 => ?_)
  refine op_nil ?_
  refine ax_then ?_
  refine At.regs (L' := [(1, _), (2, _), (3, _), (6, _)]) (.cons rfl (.cons rfl (.cons rfl (.cons rfl (.nil _))))) ?_
  refine cd_seq ?_
  refine cd_region ?_
  refine st_bsi (h := 7) (xs := [_]) Try.underlying22 ty5 (by decide) rfl rfl (by decide) rfl rfl (fun b7 => ?_)
  refine st (ev_slice_arr_all Try.underlying39 ty5 rfl) rfl rfl rfl ?_
  refine st_appendi (h := 7) Try.underlying22 Try.underlying22 ty5 rfl rfl rfl rfl (fun w1 sw => rd_blk_all sw (h := 3) rfl (by first | omega | (simp only [List.length_append, List.length_cons, List.length_nil, List.length_set, List.length_replicate, List.length_take, List.length_drop, ints_length, wr_length, sha_len, way_len _ (by assumption), secret_len, digits_len] <;> omega) | rfl)) (by first | omega | (simp only [List.length_append, List.length_cons, List.length_nil, List.length_set, List.length_replicate, List.length_take, List.length_drop, ints_length, wr_length, sha_len, way_len _ (by assumption), secret_len, digits_len] <;> omega)) (by decide) rfl rfl (fun v9 => ?_)
  refine st (ev_move rfl) rfl rfl rfl ?_
  refine st (ev_conv Try.underlying3 Try.underlying5 rfl) rfl rfl rfl ?_
  refine st (ev_move rfl) rfl rfl rfl ?_
  refine st (ev_conv Try.underlying3 Try.underlying5 rfl) rfl rfl rfl ?_
  refine st_bsi (h := 14) (xs := [_, _]) Try.underlying22 ty5 (by decide) rfl rfl (by decide) rfl rfl (fun b14 => ?_)
  refine st_appendi (h := 7) Try.underlying22 Try.underlying22 ty5 rfl rfl rfl rfl (fun w1 sw => sw.own_rd (h := 14) rfl) (by first | omega | (simp only [List.length_append, List.length_cons, List.length_nil, List.length_set, List.length_replicate, List.length_take, List.length_drop, ints_length, wr_length, sha_len, way_len _ (by assumption), secret_len, digits_len] <;> omega)) (by decide) rfl rfl (fun v15 => ?_)
  refine st_callv has83 rfl (fun w1 sw => sum_any v15 ([0] ++ s ++ [IntKind.u8.wrap l, IntKind.u8.wrap c]) w1 (by simp only [List.length_append, List.length_cons, List.length_nil]; omega) (sw.own_rd (h := 7) rfl)) rfl rfl ?_
  refine at_eq (i := 16) (v' := .agg (ints .u8 (secret s l c)).toArray) rfl rfl ?_
  have hsl := secret_len s l c
  refine st_store_all 6 ty39 rfl rfl rfl rfl (by first | omega | (simp only [List.length_append, List.length_cons, List.length_nil, List.length_set, List.length_replicate, List.length_take, List.length_drop, ints_length, wr_length, sha_len, way_len _ (by assumption), secret_len, digits_len] <;> omega) | rfl) (ints_one _ _) (by first | omega | (simp only [List.length_append, List.length_cons, List.length_nil, List.length_set, List.length_replicate, List.length_take, List.length_drop, ints_length, wr_length, sha_len, way_len _ (by assumption), secret_len, digits_len] <;> omega) | rfl) rfl ?_
  refine op_nil ?_
  refine ax_then ?_
  refine At.regs (L' := [(6, _)]) (.cons rfl (.nil _)) ?_
  refine cd_ret ?_
  refine rt_cell (h0 := 6) (.inl rfl) Try.results88 ty39 rfl rfl rfl (by first | omega | (simp only [List.length_append, List.length_cons, List.length_nil, List.length_set, List.length_replicate, List.length_take, List.length_drop, ints_length, wr_length, sha_len, way_len _ (by assumption), secret_len, digits_len] <;> omega) | rfl) ?_
  exact fun w1 sw => ⟨rfl, sw.gives (.nil _)⟩
set_option maxRecDepth 20000 in
set_option maxHeartbeats 1000000 in
theorem rsecret_any (s : List Int) (l c : Int) (w : World) (hl : s.length = 32) : Calls Try.prog 78 #[.agg (ints .u8 (s)).toArray, .int .i64 l, .int .i64 c] w (PostV w (.agg (ints .u8 (secret s l c)).toArray)) := by
  refine calls_at (vs := [.agg (ints .u8 (s)).toArray, .int .i64 l, .int .i64 c]) (X := []) (H := []) (F := []) 19 Try.func78 rfl rfl rfl (Sat.start0 w) ?_
  refine cd_seq ?_
  refine cd_region ?_
  refine st_box (h := 3) rfl rfl rfl rfl (fun b3 => ?_)
  refine st_alloc (h := 6) ty39 rfl rfl rfl (fun b6 => ?_)
  refine op_nil ?_
  refine ax_then ?_
  refine At.regs (L' := [(1, _), (2, _), (3, _), (6, _)]) (.cons rfl (.cons rfl (.cons rfl (.cons rfl (.nil _))))) ?_
  refine cd_seq ?_
  refine cd_region ?_
  refine st_bsi (h := 8) (xs := [_]) Try.underlying22 ty5 (by decide) rfl rfl (by decide) rfl rfl (fun b8 => ?_)
  refine st (ev_slice_arr_all Try.underlying39 ty5 rfl) rfl rfl rfl ?_
  refine st_appendi (h := 8) Try.underlying22 Try.underlying22 ty5 rfl rfl rfl rfl (fun w1 sw => rd_blk_all sw (h := 3) rfl (by first | omega | (simp only [List.length_append, List.length_cons, List.length_nil, List.length_set, List.length_replicate, List.length_take, List.length_drop, ints_length, wr_length, sha_len, way_len _ (by assumption), secret_len, digits_len] <;> omega) | rfl)) (by first | omega | (simp only [List.length_append, List.length_cons, List.length_nil, List.length_set, List.length_replicate, List.length_take, List.length_drop, ints_length, wr_length, sha_len, way_len _ (by assumption), secret_len, digits_len] <;> omega)) (by decide) rfl rfl (fun v10 => ?_)
  refine st (ev_assign rfl) rfl rfl rfl ?_
  refine op_nil ?_
  refine ax_then ?_
  refine At.regs (L' := [(1, _), (2, _), (6, _), (7, _)]) (.cons rfl (.cons rfl (.cons rfl (.cons rfl (.nil _))))) ?_
  refine cd_seq ?_
  refine cd_region ?_
  refine st (ev_move rfl) rfl rfl rfl ?_
  refine st (ev_move rfl) rfl rfl rfl ?_
  refine st (ev_conv Try.underlying3 Try.underlying5 rfl) rfl rfl rfl ?_
  refine st (ev_move rfl) rfl rfl rfl ?_
  refine st (ev_conv Try.underlying3 Try.underlying5 rfl) rfl rfl rfl ?_
  refine st_bsi (h := 16) (xs := [_, _]) Try.underlying22 ty5 (by decide) rfl rfl (by decide) rfl rfl (fun b16 => ?_)
  refine st_appendi (h := 8) Try.underlying22 Try.underlying22 ty5 rfl rfl rfl rfl (fun w1 sw => sw.own_rd (h := 16) rfl) (by first | omega | (simp only [List.length_append, List.length_cons, List.length_nil, List.length_set, List.length_replicate, List.length_take, List.length_drop, ints_length, wr_length, sha_len, way_len _ (by assumption), secret_len, digits_len] <;> omega)) (by decide) rfl rfl (fun v17 => ?_)
  refine st_callv has80 rfl (fun w1 sw => rsum_any v17 ([0] ++ s ++ [IntKind.u8.wrap l, IntKind.u8.wrap c]) w1 (by simp only [List.length_append, List.length_cons, List.length_nil]; omega) (sw.own_rd (h := 8) rfl)) rfl rfl ?_
  refine at_eq (i := 18) (v' := .agg (ints .u8 (secret s l c)).toArray) rfl rfl ?_
  have hsl := secret_len s l c
  refine st_store_all 6 ty39 rfl rfl rfl rfl (by first | omega | (simp only [List.length_append, List.length_cons, List.length_nil, List.length_set, List.length_replicate, List.length_take, List.length_drop, ints_length, wr_length, sha_len, way_len _ (by assumption), secret_len, digits_len] <;> omega) | rfl) (ints_one _ _) (by first | omega | (simp only [List.length_append, List.length_cons, List.length_nil, List.length_set, List.length_replicate, List.length_take, List.length_drop, ints_length, wr_length, sha_len, way_len _ (by assumption), secret_len, digits_len] <;> omega) | rfl) rfl ?_
  refine op_nil ?_
  refine ax_then ?_
  refine At.regs (L' := [(6, _)]) (.cons rfl (.nil _)) ?_
  refine cd_ret ?_
  refine rt_cell (h0 := 6) (.inl rfl) Try.results78 ty39 rfl rfl rfl (by first | omega | (simp only [List.length_append, List.length_cons, List.length_nil, List.length_set, List.length_replicate, List.length_take, List.length_drop, ints_length, wr_length, sha_len, way_len _ (by assumption), secret_len, digits_len] <;> omega) | rfl) ?_
  exact fun w1 sw => ⟨rfl, sw.gives (.nil _)⟩
theorem byt_at (m : List Int) (k : Nat) : 0 ≤ (sha m).getD k 0 ∧ (sha m).getD k 0 ≤ 255 := (sha_byt m).get
theorem lk_range (m : List Int) (j : Nat) : 0 ≤ lack (sha m) 32 / 4 ^ j ∧ lack (sha m) 32 / 4 ^ j ≤ 96 := by
  have h := lack_range (sha m) 32
  exact ⟨Int.ediv_nonneg h.1 (Int.le_of_lt (Int.pow_pos (by decide))), Int.le_trans (Int.ediv_le_self _ h.1) h.2⟩
set_option maxRecDepth 20000 in
set_option maxHeartbeats 2000000 in
theorem digits_any (p : Value) (m : List Int) (w : World) (hm : m.length ≤ 140737488352000) (h : Rd w p 1 (ints .u8 m)) : Calls Try.prog 86 #[p] w (PostV w (.agg (ints .i64 (digits m)).toArray)) := by
  refine calls_at (vs := [p]) (X := []) (H := []) (F := [(0, .sl p 1 (ints .u8 (m)))]) 44 Try.func86 rfl rfl rfl (Sat.rd0 0 h) ?_
  refine cd_seq ?_
  refine cd_region ?_
  refine st_alloc (h := 2) ty115 rfl rfl rfl (fun b2 => ?_)
  refine op_nil ?_
  refine ax_then ?_
  refine At.regs (L' := [(0, _), (2, _)]) (.cons rfl (.cons rfl (.nil _))) ?_
  refine cd_seq ?_
  refine cd_region ?_
  refine st_alloc (h := 3) ty115 rfl rfl rfl (fun b3 => ?_)
  refine op_nil ?_
  refine ax_then ?_
  refine At.regs (L' := [(0, _), (2, _), (3, _)]) (.cons rfl (.cons rfl (.cons rfl (.nil _)))) ?_
  refine cd_seq ?_
  refine cd_region ?_
  refine st (ev_move rfl) rfl rfl rfl ?_
  refine st_callv has83 rfl (fun w1 sw => sum_any p m w1 hm (sw.sl_rd (h := 0) rfl)) rfl rfl ?_
  refine st_alloc (h := 4) ty39 rfl rfl rfl (fun b4 => ?_)
  refine st_store_all 4 ty39 rfl rfl rfl rfl (by first | omega | (simp only [List.length_append, List.length_cons, List.length_nil, List.length_set, List.length_replicate, List.length_take, List.length_drop, ints_length, wr_length, sha_len, way_len _ (by assumption), secret_len, digits_len] <;> omega) | rfl) (ints_one _ _) (by first | omega | (simp only [List.length_append, List.length_cons, List.length_nil, List.length_set, List.length_replicate, List.length_take, List.length_drop, ints_length, wr_length, sha_len, way_len _ (by assumption), secret_len, digits_len] <;> omega) | rfl) rfl ?_
  refine op_nil ?_
  refine ax_then ?_
  refine At.regs (L' := [(2, _), (3, _), (4, _)]) (.cons rfl (.cons rfl (.cons rfl (.nil _)))) ?_
  refine cd_seq ?_
  refine cd_region ?_
  refine st (ev_assign rfl) rfl rfl rfl ?_
  refine op_nil ?_
  refine ax_then ?_
  refine At.regs (L' := [(2, _), (3, _), (4, _), (5, _)]) (.cons rfl (.cons rfl (.cons rfl (.cons rfl (.nil _))))) ?_
  refine cd_seq ?_
  refine cd_seq ?_
  refine cd_region ?_
  refine st (ev_move rfl) rfl rfl rfl ?_
  refine op_nil ?_
  refine ax_then ?_
  refine At.regs (L' := [(2, _), (3, _), (4, _), (5, _), (10, _)]) (.cons rfl (.cons rfl (.cons rfl (.cons rfl (.cons rfl (.nil _)))))) ?_
  refine cd_block ?_
  have hsl := sha_len m
  refine cd_loop (ι := Nat) (fun i => i ≤ 32) (fun i => 32 - i)
      (fun i => [(2, .pointer (some ⟨b2, 0, none⟩)), (3, .pointer (some ⟨b3, 0, none⟩)), (4, .pointer (some ⟨b4, 0, none⟩)), (5, .int .i64 (lack (sha m) i)), (10, .int .i64 (i : Int))])
      (fun i => [(2, .blk b2 (.cells (ints .i64 (List.replicate 36 0)).toArray 115)), (3, .blk b3 (.cells (ints .i64 (d1 (sha m) (i))).toArray 115)), (4, .blk b4 (.cells (ints .u8 (sha m)).toArray 39))])
      (fun i => [])
      0 (by omega) (.cons rfl (.cons rfl (.cons rfl (.cons rfl (.cons rfl (.nil _)))))) (.cons rfl (.cons rfl (.cons rfl (.nil _)))) (.nil _) (fun i hi => ?_)
  have hlr := lack_range (sha m) i
  have hdl := d1_len (sha m) i (by omega)
  have hb := byt_at m (i / 4)
  have hsd := shr_dg (i := i) hb.1 hb.2
  have hdr := dg_range (sha m) i
  have hsl := sha_len m
  have e4 : 0 + ((i : Int) / 4).toNat * 1 = i / 4 := by omega
  have e0 : 0 + (i : Int).toNat * 1 = i := by omega
  refine cd_seq ?_
  refine cd_region ?_
  refine st (ev_lss rfl rfl) rfl rfl rfl ?_
  refine op_nil ?_
  refine ax_then ?_
  refine At.regs (L' := [(2, _), (3, _), (4, _), (5, _), (10, _), (11, _)]) (.cons rfl (.cons rfl (.cons rfl (.cons rfl (.cons rfl (.cons rfl (.nil _))))))) ?_
  refine cd_seq ?_
  refine cd_if rfl (fun hc11 => ?_) (fun hc11 => ?_)
  ·
    refine cd_skip ?_
    refine ax_then ?_
    refine At.regs (L' := [(2, _), (3, _), (4, _), (5, _), (10, _), (11, _)]) (.cons rfl (.cons rfl (.cons rfl (.cons rfl (.cons rfl (.cons rfl (.nil _))))))) ?_
    refine cd_seq ?_
    refine cd_block ?_
    refine cd_seq ?_
    refine cd_region ?_
    refine st (ev_move rfl) rfl rfl rfl ?_
    refine st (ev_assign rfl) rfl rfl rfl ?_
    refine op_nil ?_
    refine ax_then ?_
    refine At.regs (L' := [(2, _), (3, _), (4, _), (5, _), (6, _), (10, _), (11, _), (12, _)]) (.cons rfl (.cons rfl (.cons rfl (.cons rfl (.cons rfl (.cons rfl (.cons rfl (.cons rfl (.nil _))))))))) ?_
    refine cd_seq ?_
    refine cd_region ?_
    refine st (ev_move rfl) rfl rfl rfl ?_
    refine st (ev_move rfl) rfl rfl rfl ?_
    refine st (ev_quo64 rfl rfl (by omega) (by omega) (by omega)) rfl rfl rfl ?_
    refine st (ev_indexAddr_arr Try.underlying39 ty5 rfl rfl (by omega) (by omega)) rfl rfl rfl ?_
    refine st (ld_blk1 (h := 4) ty5 rfl rfl rfl (ints_get _ _ _ (by first | omega | (simp only [List.length_append, List.length_cons, List.length_nil, List.length_set, List.length_replicate, List.length_take, List.length_drop, ints_length, wr_length, sha_len, way_len _ (by assumption), secret_len, digits_len] <;> omega) | rfl))) rfl rfl rfl ?_
    refine at_eq (i := 17) (v' := .int .u8 ((sha m).getD (i / 4) 0)) rfl (by rw [e4]) ?_
    refine st (ev_move rfl) rfl rfl rfl ?_
    refine st (ev_rem64 rfl rfl (by omega) (by omega)) rfl rfl rfl ?_
    refine st (ev_mul64 rfl rfl (by omega) (by omega)) rfl rfl rfl ?_
    refine st (ev_sub64 rfl rfl (by omega) (by omega)) rfl rfl rfl ?_
    refine st (ev_shr rfl rfl (by omega)) rfl rfl rfl ?_
    refine at_eq (i := 22) (v' := .int .u8 ((sha m).getD (i / 4) 0 / 2 ^ (6 - 2 * (i % 4)))) rfl (by rw [hsd.1]) ?_
    refine st (ev_conv64 Try.underlying5 Try.underlying3 rfl (by omega) (by omega)) rfl rfl rfl ?_
    refine st (ev_and rfl rfl) rfl rfl rfl ?_
    refine at_eq (i := 24) (v' := .int .i64 (dg (sha m) i)) rfl (by rw [and3 hsd.2.1 (by omega)]; rfl) ?_
    refine st (ev_indexAddr_arr Try.underlying115 ty3 rfl rfl (by omega) (by omega)) rfl rfl rfl ?_
    refine st_store1 3 ty3 rfl rfl rfl rfl (by first | omega | (simp only [List.length_append, List.length_cons, List.length_nil, List.length_set, List.length_replicate, List.length_take, List.length_drop, ints_length, wr_length, sha_len, way_len _ (by assumption), secret_len, digits_len] <;> omega) | rfl) rfl ?_
    refine at_heq (i := 3) rfl (by rw [ints_set]) ?_
    have hdl1 := d1_len (sha m) (i + 1) (by omega)
    refine at_heq (i := 3) (v' := .blk b3 (.cells (ints .i64 (d1 (sha m) (i + 1))).toArray 115)) rfl (by rw [e0, d1_set _ _ (by omega)]) ?_
    refine op_nil ?_
    refine ax_then ?_
    refine At.regs (L' := [(2, _), (3, _), (4, _), (5, _), (6, _), (10, _), (11, _), (12, _), (13, _), (14, _), (15, _), (16, _), (17, _), (18, _), (19, _), (20, _), (21, _), (22, _), (23, _), (24, _), (25, _)]) (.cons rfl (.cons rfl (.cons rfl (.cons rfl (.cons rfl (.cons rfl (.cons rfl (.cons rfl (.cons rfl (.cons rfl (.cons rfl (.cons rfl (.cons rfl (.cons rfl (.cons rfl (.cons rfl (.cons rfl (.cons rfl (.cons rfl (.cons rfl (.cons rfl (.nil _)))))))))))))))))))))) ?_
    refine cd_region ?_
    refine st (ev_move rfl) rfl rfl rfl ?_
    refine st (ev_move rfl) rfl rfl rfl ?_
    refine st (ev_indexAddr_arr Try.underlying115 ty3 rfl rfl (by omega) (by omega)) rfl rfl rfl ?_
    refine st (ld_blk1 (h := 3) ty3 rfl rfl rfl (ints_get _ _ _ (by first | omega | (simp only [List.length_append, List.length_cons, List.length_nil, List.length_set, List.length_replicate, List.length_take, List.length_drop, ints_length, wr_length, sha_len, way_len _ (by assumption), secret_len, digits_len] <;> omega) | rfl))) rfl rfl rfl ?_
    refine at_eq (i := 29) (v' := .int .i64 (dg (sha m) i)) rfl (by rw [e0, d1_get _ _ (by omega)]) ?_
    refine st (ev_sub64 rfl rfl (by omega) (by omega)) rfl rfl rfl ?_
    refine st (ev_add64 rfl rfl (by omega) (by omega)) rfl rfl rfl ?_
    refine st (ev_assign rfl) rfl rfl rfl ?_
    refine op_nil ?_
    refine ax_block ?_
    refine ax_then ?_
    refine At.regs (L' := [(2, _), (3, _), (4, _), (5, _), (6, _), (10, _), (11, _), (12, _), (13, _), (14, _), (15, _), (16, _), (17, _), (18, _), (19, _), (20, _), (21, _), (22, _), (23, _), (24, _), (25, _), (26, _), (27, _), (28, _), (29, _), (30, _), (31, _)]) (.cons rfl (.cons rfl (.cons rfl (.cons rfl (.cons rfl (.cons rfl (.cons rfl (.cons rfl (.cons rfl (.cons rfl (.cons rfl (.cons rfl (.cons rfl (.cons rfl (.cons rfl (.cons rfl (.cons rfl (.cons rfl (.cons rfl (.cons rfl (.cons rfl (.cons rfl (.cons rfl (.cons rfl (.cons rfl (.cons rfl (.cons rfl (.nil _)))))))))))))))))))))))))))) ?_
    refine cd_region ?_
    refine st (ev_add64 rfl rfl (by omega) (by omega)) rfl rfl rfl ?_
    refine st (ev_move rfl) rfl rfl rfl ?_
    refine op_nil ?_
    refine ax_eq (i := 5) (v' := .int .i64 (lack (sha m) (i + 1))) rfl (by rw [lack]; skip) ?_
    exact at_again (i + 1) (by omega) (by omega) (.cons rfl (.cons rfl (.cons rfl (.cons rfl (.cons rfl (.nil _)))))) (.cons rfl (.cons rfl (.cons rfl (.nil _)))) (.nil _)
  ·
    obtain rfl : i = 32 := by omega
    refine cd_exit ?_
    refine ax_then_exit ?_
    refine ax_then_exit ?_
    refine ax_block_hit ?_
    refine ax_then ?_
    refine At.regs (L' := [(2, _), (3, _), (5, _)]) (.cons rfl (.cons rfl (.cons rfl (.nil _)))) ?_
    refine cd_seq ?_
    refine cd_seq ?_
    refine cd_region ?_
    refine st (ev_assign rfl) rfl rfl rfl ?_
    refine op_nil ?_
    refine ax_then ?_
    refine At.regs (L' := [(2, _), (3, _), (5, _), (7, _)]) (.cons rfl (.cons rfl (.cons rfl (.cons rfl (.nil _))))) ?_
    refine cd_block ?_
    refine at_eq (i := 5) (v' := .int .i64 (lack (sha m) 32 / 4 ^ 0)) rfl (by rw [Int.pow_zero, Int.ediv_one]) ?_
    refine at_eq (i := 7) (v' := .int .i64 ((32 + 0 : Nat) : Int)) rfl rfl ?_
    refine at_heq (i := 3) (v' := .blk b3 (.cells (ints .i64 (d2 (sha m) (0))).toArray 115)) rfl (by rw [d12]) ?_
    refine cd_loop (ι := Nat) (fun j => j ≤ 4) (fun j => 4 - j)
        (fun j => [(2, .pointer (some ⟨b2, 0, none⟩)), (3, .pointer (some ⟨b3, 0, none⟩)), (5, .int .i64 (lack (sha m) 32 / 4 ^ j)), (7, .int .i64 ((32 + j : Nat) : Int))])
        (fun j => [(2, .blk b2 (.cells (ints .i64 (List.replicate 36 0)).toArray 115)), (3, .blk b3 (.cells (ints .i64 (d2 (sha m) (j))).toArray 115))])
        (fun j => [])
        0 (by omega) (.cons rfl (.cons rfl (.cons rfl (.cons rfl (.nil _))))) (.cons rfl (.cons rfl (.nil _))) (.nil _) (fun j hi => ?_)
    have hlk := lk_range m j
    have hdl := d2_len (sha m) j (by omega)
    have e0 : 0 + ((32 + j : Nat) : Int).toNat * 1 = 32 + j := by omega
    refine cd_seq ?_
    refine cd_seq ?_
    refine cd_region ?_
    refine st (ev_move rfl) rfl rfl rfl ?_
    refine st (ev_lss rfl rfl) rfl rfl rfl ?_
    refine op_nil ?_
    refine ax_then ?_
    refine At.regs (L' := [(2, _), (3, _), (5, _), (7, _), (33, _), (34, _)]) (.cons rfl (.cons rfl (.cons rfl (.cons rfl (.cons rfl (.cons rfl (.nil _))))))) ?_
    refine cd_if rfl (fun hc34 => ?_) (fun hc34 => ?_)
    ·
      refine cd_skip ?_
      refine ax_then ?_
      refine At.regs (L' := [(2, _), (3, _), (5, _), (7, _), (33, _), (34, _)]) (.cons rfl (.cons rfl (.cons rfl (.cons rfl (.cons rfl (.cons rfl (.nil _))))))) ?_
      refine cd_seq ?_
      refine cd_block ?_
      refine cd_seq ?_
      refine cd_region ?_
      refine st (ev_move rfl) rfl rfl rfl ?_
      refine st (ev_move rfl) rfl rfl rfl ?_
      refine st (ev_and rfl rfl) rfl rfl rfl ?_
      refine at_eq (i := 39) (v' := .int .i64 (lack (sha m) 32 / 4 ^ j % 4)) rfl (by rw [and3 hlk.1 (by omega)]) ?_
      refine st (ev_indexAddr_arr Try.underlying115 ty3 rfl rfl (by omega) (by omega)) rfl rfl rfl ?_
      refine st_store1 3 ty3 rfl rfl rfl rfl (by first | omega | (simp only [List.length_append, List.length_cons, List.length_nil, List.length_set, List.length_replicate, List.length_take, List.length_drop, ints_length, wr_length, sha_len, way_len _ (by assumption), secret_len, digits_len] <;> omega) | rfl) rfl ?_
      refine at_heq (i := 3) rfl (by rw [ints_set]) ?_
      have hdl1 := d2_len (sha m) (j + 1) (by omega)
      refine at_heq (i := 3) (v' := .blk b3 (.cells (ints .i64 (d2 (sha m) (j + 1))).toArray 115)) rfl (by rw [e0, d2_set _ _ (by omega)]) ?_
      refine op_nil ?_
      refine ax_then ?_
      refine At.regs (L' := [(2, _), (3, _), (5, _), (7, _), (33, _), (34, _), (37, _), (38, _), (39, _), (40, _)]) (.cons rfl (.cons rfl (.cons rfl (.cons rfl (.cons rfl (.cons rfl (.cons rfl (.cons rfl (.cons rfl (.cons rfl (.nil _))))))))))) ?_
      refine cd_region ?_
      refine st (ev_move rfl) rfl rfl rfl ?_
      refine st (ev_shr rfl rfl (by omega)) rfl rfl rfl ?_
      refine at_eq (i := 42) (v' := .int .i64 (lack (sha m) 32 / 4 ^ (j + 1))) rfl (by rw [shr2 hlk.1, pow_step]) ?_
      refine st (ev_assign rfl) rfl rfl rfl ?_
      refine op_nil ?_
      refine ax_block ?_
      refine ax_then ?_
      refine At.regs (L' := [(2, _), (3, _), (5, _), (7, _), (33, _), (34, _), (37, _), (38, _), (39, _), (40, _), (41, _), (42, _)]) (.cons rfl (.cons rfl (.cons rfl (.cons rfl (.cons rfl (.cons rfl (.cons rfl (.cons rfl (.cons rfl (.cons rfl (.cons rfl (.cons rfl (.nil _))))))))))))) ?_
      refine cd_region ?_
      refine st (ev_move rfl) rfl rfl rfl ?_
      refine st (ev_add64 rfl rfl (by omega) (by omega)) rfl rfl rfl ?_
      refine st (ev_assign rfl) rfl rfl rfl ?_
      refine op_nil ?_
      refine ax_eq (i := 7) (v' := .int .i64 ((32 + (j + 1) : Nat) : Int)) rfl (by congr 1) ?_
      exact at_again (j + 1) (by omega) (by omega) (.cons rfl (.cons rfl (.cons rfl (.cons rfl (.nil _))))) (.cons rfl (.cons rfl (.nil _))) (.nil _)
    ·
      obtain rfl : j = 4 := by omega
      have hdg := digits_len m
      refine at_heq (i := 3) (v' := .blk b3 (.cells (ints .i64 (digits m)).toArray 115)) rfl rfl ?_
      refine cd_exit ?_
      refine ax_then_exit ?_
      refine ax_then_exit ?_
      refine ax_block_hit ?_
      refine ax_then ?_
      refine At.regs (L' := [(2, _), (3, _)]) (.cons rfl (.cons rfl (.nil _))) ?_
      refine cd_seq ?_
      refine cd_region ?_
      refine st (ld_blk_all (h := 3) ty115 rfl rfl rfl (by first | omega | (simp only [List.length_append, List.length_cons, List.length_nil, List.length_set, List.length_replicate, List.length_take, List.length_drop, ints_length, wr_length, sha_len, way_len _ (by assumption), secret_len, digits_len] <;> omega) | rfl)) rfl rfl rfl ?_
      refine st_store_all 2 ty115 rfl rfl rfl rfl (by first | omega | (simp only [List.length_append, List.length_cons, List.length_nil, List.length_set, List.length_replicate, List.length_take, List.length_drop, ints_length, wr_length, sha_len, way_len _ (by assumption), secret_len, digits_len] <;> omega) | rfl) (ints_one _ _) (by first | omega | (simp only [List.length_append, List.length_cons, List.length_nil, List.length_set, List.length_replicate, List.length_take, List.length_drop, ints_length, wr_length, sha_len, way_len _ (by assumption), secret_len, digits_len] <;> omega) | rfl) rfl ?_
      refine op_nil ?_
      refine ax_then ?_
      refine At.regs (L' := [(2, _)]) (.cons rfl (.nil _)) ?_
      refine cd_ret ?_
      refine rt_cell (h0 := 2) (.inl rfl) Try.results86 ty115 rfl rfl rfl (by first | omega | (simp only [List.length_append, List.length_cons, List.length_nil, List.length_set, List.length_replicate, List.length_take, List.length_drop, ints_length, wr_length, sha_len, way_len _ (by assumption), secret_len, digits_len] <;> omega) | rfl) ?_
      exact fun w1 sw => ⟨rfl, sw.gives (.nil _)⟩
set_option maxRecDepth 20000 in
set_option maxHeartbeats 2000000 in
theorem rdigits_any (p : Value) (m : List Int) (w : World) (hm : m.length ≤ 140737488352000) (h : Rd w p 1 (ints .u8 m)) : Calls Try.prog 89 #[p] w (PostV w (.agg (ints .i64 (digits m)).toArray)) := by
  refine calls_at (vs := [p]) (X := []) (H := []) (F := [(0, .sl p 1 (ints .u8 (m)))]) 45 Try.func89 rfl rfl rfl (Sat.rd0 0 h) ?_
  refine cd_seq ?_
  refine cd_region ?_
  refine st_alloc (h := 2) ty115 rfl rfl rfl (fun b2 => ?_)
  refine op_nil ?_
  refine ax_then ?_
  refine At.regs (L' := [(0, _), (2, _)]) (.cons rfl (.cons rfl (.nil _))) ?_
  refine cd_seq ?_
  refine cd_region ?_
  refine st_alloc (h := 3) ty115 rfl rfl rfl (fun b3 => ?_)
  refine op_nil ?_
  refine ax_then ?_
  refine At.regs (L' := [(0, _), (2, _), (3, _)]) (.cons rfl (.cons rfl (.cons rfl (.nil _)))) ?_
  refine cd_seq ?_
  refine cd_region ?_
  refine st (ev_move rfl) rfl rfl rfl ?_
  refine st_callv has80 rfl (fun w1 sw => rsum_any p m w1 hm (sw.sl_rd (h := 0) rfl)) rfl rfl ?_
  refine st_alloc (h := 4) ty39 rfl rfl rfl (fun b4 => ?_)
  refine st_store_all 4 ty39 rfl rfl rfl rfl (by first | omega | (simp only [List.length_append, List.length_cons, List.length_nil, List.length_set, List.length_replicate, List.length_take, List.length_drop, ints_length, wr_length, sha_len, way_len _ (by assumption), secret_len, digits_len] <;> omega) | rfl) (ints_one _ _) (by first | omega | (simp only [List.length_append, List.length_cons, List.length_nil, List.length_set, List.length_replicate, List.length_take, List.length_drop, ints_length, wr_length, sha_len, way_len _ (by assumption), secret_len, digits_len] <;> omega) | rfl) rfl ?_
  refine op_nil ?_
  refine ax_then ?_
  refine At.regs (L' := [(2, _), (3, _), (4, _)]) (.cons rfl (.cons rfl (.cons rfl (.nil _)))) ?_
  refine cd_seq ?_
  refine cd_region ?_
  refine st (ev_assign rfl) rfl rfl rfl ?_
  refine op_nil ?_
  refine ax_then ?_
  refine At.regs (L' := [(2, _), (3, _), (4, _), (5, _)]) (.cons rfl (.cons rfl (.cons rfl (.cons rfl (.nil _))))) ?_
  refine cd_seq ?_
  refine cd_seq ?_
  refine cd_region ?_
  refine st (ev_assign rfl) rfl rfl rfl ?_
  refine op_nil ?_
  refine ax_then ?_
  refine At.regs (L' := [(2, _), (3, _), (4, _), (5, _), (6, _)]) (.cons rfl (.cons rfl (.cons rfl (.cons rfl (.cons rfl (.nil _)))))) ?_
  refine cd_block ?_
  have hsl := sha_len m
  refine cd_loop (ι := Nat) (fun i => i ≤ 32) (fun i => 32 - i)
      (fun i => [(2, .pointer (some ⟨b2, 0, none⟩)), (3, .pointer (some ⟨b3, 0, none⟩)), (4, .pointer (some ⟨b4, 0, none⟩)), (5, .int .i64 (lack (sha m) i)), (6, .int .i64 (i : Int))])
      (fun i => [(2, .blk b2 (.cells (ints .i64 (List.replicate 36 0)).toArray 115)), (3, .blk b3 (.cells (ints .i64 (d1 (sha m) (i))).toArray 115)), (4, .blk b4 (.cells (ints .u8 (sha m)).toArray 39))])
      (fun i => [])
      0 (by omega) (.cons rfl (.cons rfl (.cons rfl (.cons rfl (.cons rfl (.nil _)))))) (.cons rfl (.cons rfl (.cons rfl (.nil _)))) (.nil _) (fun i hi => ?_)
  have hlr := lack_range (sha m) i
  have hdl := d1_len (sha m) i (by omega)
  have hb := byt_at m (i / 4)
  have hsd := shr_dg (i := i) hb.1 hb.2
  have hdr := dg_range (sha m) i
  have hsl := sha_len m
  have e4 : 0 + ((i : Int) / 4).toNat * 1 = i / 4 := by omega
  have e0 : 0 + (i : Int).toNat * 1 = i := by omega
  refine cd_seq ?_
  refine cd_seq ?_
  refine cd_region ?_
  refine st (ev_move rfl) rfl rfl rfl ?_
  refine st (ev_lss rfl rfl) rfl rfl rfl ?_
  refine op_nil ?_
  refine ax_then ?_
  refine At.regs (L' := [(2, _), (3, _), (4, _), (5, _), (6, _), (10, _), (11, _)]) (.cons rfl (.cons rfl (.cons rfl (.cons rfl (.cons rfl (.cons rfl (.cons rfl (.nil _)))))))) ?_
  refine cd_if rfl (fun hc11 => ?_) (fun hc11 => ?_)
  ·
    refine cd_skip ?_
    refine ax_then ?_
    refine At.regs (L' := [(2, _), (3, _), (4, _), (5, _), (6, _), (10, _), (11, _)]) (.cons rfl (.cons rfl (.cons rfl (.cons rfl (.cons rfl (.cons rfl (.cons rfl (.nil _)))))))) ?_
    refine cd_seq ?_
    refine cd_block ?_
    refine cd_seq ?_
    refine cd_region ?_
    refine st (ev_move rfl) rfl rfl rfl ?_
    refine st (ev_move rfl) rfl rfl rfl ?_
    refine st (ev_quo64 rfl rfl (by omega) (by omega) (by omega)) rfl rfl rfl ?_
    refine st (ev_indexAddr_arr Try.underlying39 ty5 rfl rfl (by omega) (by omega)) rfl rfl rfl ?_
    refine st (ld_blk1 (h := 4) ty5 rfl rfl rfl (ints_get _ _ _ (by first | omega | (simp only [List.length_append, List.length_cons, List.length_nil, List.length_set, List.length_replicate, List.length_take, List.length_drop, ints_length, wr_length, sha_len, way_len _ (by assumption), secret_len, digits_len] <;> omega) | rfl))) rfl rfl rfl ?_
    refine at_eq (i := 18) (v' := .int .u8 ((sha m).getD (i / 4) 0)) rfl (by rw [e4]) ?_
    refine st (ev_move rfl) rfl rfl rfl ?_
    refine st (ev_rem64 rfl rfl (by omega) (by omega)) rfl rfl rfl ?_
    refine st (ev_mul64 rfl rfl (by omega) (by omega)) rfl rfl rfl ?_
    refine st (ev_sub64 rfl rfl (by omega) (by omega)) rfl rfl rfl ?_
    refine st (ev_convu64 Try.underlying3 Try.underlying37 rfl (by omega) (by omega)) rfl rfl rfl ?_
    refine st (ev_shr rfl rfl (by omega)) rfl rfl rfl ?_
    refine at_eq (i := 24) (v' := .int .u8 ((sha m).getD (i / 4) 0 / 2 ^ (6 - 2 * (i % 4)))) rfl (by rw [hsd.1]) ?_
    refine st (ev_conv64 Try.underlying5 Try.underlying3 rfl (by omega) (by omega)) rfl rfl rfl ?_
    refine st (ev_and rfl rfl) rfl rfl rfl ?_
    refine at_eq (i := 26) (v' := .int .i64 (dg (sha m) i)) rfl (by rw [and3 hsd.2.1 (by omega)]; rfl) ?_
    refine st (ev_indexAddr_arr Try.underlying115 ty3 rfl rfl (by omega) (by omega)) rfl rfl rfl ?_
    refine st_store1 3 ty3 rfl rfl rfl rfl (by first | omega | (simp only [List.length_append, List.length_cons, List.length_nil, List.length_set, List.length_replicate, List.length_take, List.length_drop, ints_length, wr_length, sha_len, way_len _ (by assumption), secret_len, digits_len] <;> omega) | rfl) rfl ?_
    refine at_heq (i := 3) rfl (by rw [ints_set]) ?_
    have hdl1 := d1_len (sha m) (i + 1) (by omega)
    refine at_heq (i := 3) (v' := .blk b3 (.cells (ints .i64 (d1 (sha m) (i + 1))).toArray 115)) rfl (by rw [e0, d1_set _ _ (by omega)]) ?_
    refine op_nil ?_
    refine ax_then ?_
    refine At.regs (L' := [(2, _), (3, _), (4, _), (5, _), (6, _), (10, _), (11, _), (14, _), (15, _), (16, _), (17, _), (18, _), (19, _), (20, _), (21, _), (22, _), (23, _), (24, _), (25, _), (26, _), (27, _)]) (.cons rfl (.cons rfl (.cons rfl (.cons rfl (.cons rfl (.cons rfl (.cons rfl (.cons rfl (.cons rfl (.cons rfl (.cons rfl (.cons rfl (.cons rfl (.cons rfl (.cons rfl (.cons rfl (.cons rfl (.cons rfl (.cons rfl (.cons rfl (.cons rfl (.nil _)))))))))))))))))))))) ?_
    refine cd_region ?_
    refine st (ev_move rfl) rfl rfl rfl ?_
    refine st (ev_add64 rfl rfl (by omega) (by omega)) rfl rfl rfl ?_
    refine st (ev_move rfl) rfl rfl rfl ?_
    refine st (ev_indexAddr_arr Try.underlying115 ty3 rfl rfl (by omega) (by omega)) rfl rfl rfl ?_
    refine st (ld_blk1 (h := 3) ty3 rfl rfl rfl (ints_get _ _ _ (by first | omega | (simp only [List.length_append, List.length_cons, List.length_nil, List.length_set, List.length_replicate, List.length_take, List.length_drop, ints_length, wr_length, sha_len, way_len _ (by assumption), secret_len, digits_len] <;> omega) | rfl))) rfl rfl rfl ?_
    refine at_eq (i := 32) (v' := .int .i64 (dg (sha m) i)) rfl (by rw [e0, d1_get _ _ (by omega)]) ?_
    refine st (ev_sub64 rfl rfl (by omega) (by omega)) rfl rfl rfl ?_
    refine st (ev_assign rfl) rfl rfl rfl ?_
    refine op_nil ?_
    refine ax_block ?_
    refine ax_then ?_
    refine At.regs (L' := [(2, _), (3, _), (4, _), (5, _), (6, _), (10, _), (11, _), (14, _), (15, _), (16, _), (17, _), (18, _), (19, _), (20, _), (21, _), (22, _), (23, _), (24, _), (25, _), (26, _), (27, _), (28, _), (29, _), (30, _), (31, _), (32, _), (33, _)]) (.cons rfl (.cons rfl (.cons rfl (.cons rfl (.cons rfl (.cons rfl (.cons rfl (.cons rfl (.cons rfl (.cons rfl (.cons rfl (.cons rfl (.cons rfl (.cons rfl (.cons rfl (.cons rfl (.cons rfl (.cons rfl (.cons rfl (.cons rfl (.cons rfl (.cons rfl (.cons rfl (.cons rfl (.cons rfl (.cons rfl (.cons rfl (.nil _)))))))))))))))))))))))))))) ?_
    refine cd_region ?_
    refine st (ev_move rfl) rfl rfl rfl ?_
    refine st (ev_add64 rfl rfl (by omega) (by omega)) rfl rfl rfl ?_
    refine st (ev_assign rfl) rfl rfl rfl ?_
    refine op_nil ?_
    refine ax_eq (i := 5) (v' := .int .i64 (lack (sha m) (i + 1))) rfl (by rw [lack]; congr 1; omega) ?_
    exact at_again (i + 1) (by omega) (by omega) (.cons rfl (.cons rfl (.cons rfl (.cons rfl (.cons rfl (.nil _)))))) (.cons rfl (.cons rfl (.cons rfl (.nil _)))) (.nil _)
  ·
    obtain rfl : i = 32 := by omega
    refine cd_exit ?_
    refine ax_then_exit ?_
    refine ax_then_exit ?_
    refine ax_block_hit ?_
    refine ax_then ?_
    refine At.regs (L' := [(2, _), (3, _), (5, _)]) (.cons rfl (.cons rfl (.cons rfl (.nil _)))) ?_
    refine cd_seq ?_
    refine cd_seq ?_
    refine cd_region ?_
    refine st (ev_assign rfl) rfl rfl rfl ?_
    refine op_nil ?_
    refine ax_then ?_
    refine At.regs (L' := [(2, _), (3, _), (5, _), (7, _)]) (.cons rfl (.cons rfl (.cons rfl (.cons rfl (.nil _))))) ?_
    refine cd_block ?_
    refine at_eq (i := 5) (v' := .int .i64 (lack (sha m) 32 / 4 ^ 0)) rfl (by rw [Int.pow_zero, Int.ediv_one]) ?_
    refine at_eq (i := 7) (v' := .int .i64 ((32 + 0 : Nat) : Int)) rfl rfl ?_
    refine at_heq (i := 3) (v' := .blk b3 (.cells (ints .i64 (d2 (sha m) (0))).toArray 115)) rfl (by rw [d12]) ?_
    refine cd_loop (ι := Nat) (fun j => j ≤ 4) (fun j => 4 - j)
        (fun j => [(2, .pointer (some ⟨b2, 0, none⟩)), (3, .pointer (some ⟨b3, 0, none⟩)), (5, .int .i64 (lack (sha m) 32 / 4 ^ j)), (7, .int .i64 ((32 + j : Nat) : Int))])
        (fun j => [(2, .blk b2 (.cells (ints .i64 (List.replicate 36 0)).toArray 115)), (3, .blk b3 (.cells (ints .i64 (d2 (sha m) (j))).toArray 115))])
        (fun j => [])
        0 (by omega) (.cons rfl (.cons rfl (.cons rfl (.cons rfl (.nil _))))) (.cons rfl (.cons rfl (.nil _))) (.nil _) (fun j hi => ?_)
    have hlk := lk_range m j
    have hdl := d2_len (sha m) j (by omega)
    have e0 : 0 + ((32 + j : Nat) : Int).toNat * 1 = 32 + j := by omega
    refine cd_seq ?_
    refine cd_seq ?_
    refine cd_region ?_
    refine st (ev_move rfl) rfl rfl rfl ?_
    refine st (ev_lss rfl rfl) rfl rfl rfl ?_
    refine op_nil ?_
    refine ax_then ?_
    refine At.regs (L' := [(2, _), (3, _), (5, _), (7, _), (34, _), (35, _)]) (.cons rfl (.cons rfl (.cons rfl (.cons rfl (.cons rfl (.cons rfl (.nil _))))))) ?_
    refine cd_if rfl (fun hc35 => ?_) (fun hc35 => ?_)
    ·
      refine cd_skip ?_
      refine ax_then ?_
      refine At.regs (L' := [(2, _), (3, _), (5, _), (7, _), (34, _), (35, _)]) (.cons rfl (.cons rfl (.cons rfl (.cons rfl (.cons rfl (.cons rfl (.nil _))))))) ?_
      refine cd_seq ?_
      refine cd_block ?_
      refine cd_seq ?_
      refine cd_region ?_
      refine st (ev_move rfl) rfl rfl rfl ?_
      refine st (ev_move rfl) rfl rfl rfl ?_
      refine st (ev_and rfl rfl) rfl rfl rfl ?_
      refine at_eq (i := 40) (v' := .int .i64 (lack (sha m) 32 / 4 ^ j % 4)) rfl (by rw [and3 hlk.1 (by omega)]) ?_
      refine st (ev_indexAddr_arr Try.underlying115 ty3 rfl rfl (by omega) (by omega)) rfl rfl rfl ?_
      refine st_store1 3 ty3 rfl rfl rfl rfl (by first | omega | (simp only [List.length_append, List.length_cons, List.length_nil, List.length_set, List.length_replicate, List.length_take, List.length_drop, ints_length, wr_length, sha_len, way_len _ (by assumption), secret_len, digits_len] <;> omega) | rfl) rfl ?_
      refine at_heq (i := 3) rfl (by rw [ints_set]) ?_
      have hdl1 := d2_len (sha m) (j + 1) (by omega)
      refine at_heq (i := 3) (v' := .blk b3 (.cells (ints .i64 (d2 (sha m) (j + 1))).toArray 115)) rfl (by rw [e0, d2_set _ _ (by omega)]) ?_
      refine op_nil ?_
      refine ax_then ?_
      refine At.regs (L' := [(2, _), (3, _), (5, _), (7, _), (34, _), (35, _), (38, _), (39, _), (40, _), (41, _)]) (.cons rfl (.cons rfl (.cons rfl (.cons rfl (.cons rfl (.cons rfl (.cons rfl (.cons rfl (.cons rfl (.cons rfl (.nil _))))))))))) ?_
      refine cd_region ?_
      refine st (ev_move rfl) rfl rfl rfl ?_
      refine st (ev_shr rfl rfl (by omega)) rfl rfl rfl ?_
      refine at_eq (i := 43) (v' := .int .i64 (lack (sha m) 32 / 4 ^ (j + 1))) rfl (by rw [shr2 hlk.1, pow_step]) ?_
      refine st (ev_assign rfl) rfl rfl rfl ?_
      refine op_nil ?_
      refine ax_block ?_
      refine ax_then ?_
      refine At.regs (L' := [(2, _), (3, _), (5, _), (7, _), (34, _), (35, _), (38, _), (39, _), (40, _), (41, _), (42, _), (43, _)]) (.cons rfl (.cons rfl (.cons rfl (.cons rfl (.cons rfl (.cons rfl (.cons rfl (.cons rfl (.cons rfl (.cons rfl (.cons rfl (.cons rfl (.nil _))))))))))))) ?_
      refine cd_region ?_
      refine st (ev_move rfl) rfl rfl rfl ?_
      refine st (ev_add64 rfl rfl (by omega) (by omega)) rfl rfl rfl ?_
      refine st (ev_assign rfl) rfl rfl rfl ?_
      refine op_nil ?_
      refine ax_eq (i := 7) (v' := .int .i64 ((32 + (j + 1) : Nat) : Int)) rfl (by congr 1) ?_
      exact at_again (j + 1) (by omega) (by omega) (.cons rfl (.cons rfl (.cons rfl (.cons rfl (.nil _))))) (.cons rfl (.cons rfl (.nil _))) (.nil _)
    ·
      obtain rfl : j = 4 := by omega
      have hdg := digits_len m
      refine at_heq (i := 3) (v' := .blk b3 (.cells (ints .i64 (digits m)).toArray 115)) rfl rfl ?_
      refine cd_exit ?_
      refine ax_then_exit ?_
      refine ax_then_exit ?_
      refine ax_block_hit ?_
      refine ax_then ?_
      refine At.regs (L' := [(2, _), (3, _)]) (.cons rfl (.cons rfl (.nil _))) ?_
      refine cd_seq ?_
      refine cd_region ?_
      refine st (ld_blk_all (h := 3) ty115 rfl rfl rfl (by first | omega | (simp only [List.length_append, List.length_cons, List.length_nil, List.length_set, List.length_replicate, List.length_take, List.length_drop, ints_length, wr_length, sha_len, way_len _ (by assumption), secret_len, digits_len] <;> omega) | rfl)) rfl rfl rfl ?_
      refine st_store_all 2 ty115 rfl rfl rfl rfl (by first | omega | (simp only [List.length_append, List.length_cons, List.length_nil, List.length_set, List.length_replicate, List.length_take, List.length_drop, ints_length, wr_length, sha_len, way_len _ (by assumption), secret_len, digits_len] <;> omega) | rfl) (ints_one _ _) (by first | omega | (simp only [List.length_append, List.length_cons, List.length_nil, List.length_set, List.length_replicate, List.length_take, List.length_drop, ints_length, wr_length, sha_len, way_len _ (by assumption), secret_len, digits_len] <;> omega) | rfl) rfl ?_
      refine op_nil ?_
      refine ax_then ?_
      refine At.regs (L' := [(2, _)]) (.cons rfl (.nil _)) ?_
      refine cd_ret ?_
      refine rt_cell (h0 := 2) (.inl rfl) Try.results89 ty115 rfl rfl rfl (by first | omega | (simp only [List.length_append, List.length_cons, List.length_nil, List.length_set, List.length_replicate, List.length_take, List.length_drop, ints_length, wr_length, sha_len, way_len _ (by assumption), secret_len, digits_len] <;> omega) | rfl) ?_
      exact fun w1 sw => ⟨rfl, sw.gives (.nil _)⟩
end Go.Proofs.Yteedclmcgifmpaa
namespace Go.Proofs.Yteedclmcgifmpaa
open Go Go.RowKit Fw
open Sha
open Ots
set_option linter.unusedVariables false
set_option linter.unusedSimpArgs false
set_option maxRecDepth 20000 in
set_option maxHeartbeats 2000000 in
theorem ends_any (k : Nat) (hk : Has Try.prog k) (vf vc : List Value) (v : Value) (cs : List (List Int)) (g : Nat → List Int) (hg : ∀ i, (g i).length = 32) (w : World) (h : Rd w v 32 (flat cs)) (hc : ∀ (w1 : World) (i : Nat), i < 36 → Rd w1 v 32 (flat cs) → Calls Try.prog k (vf ++ [Value.int .i64 (i : Int)] ++ vc).toArray w1 (PostV w1 (.agg (ints .u8 (g i)).toArray))) : Calls Try.prog 75 #[.func (.func k) vf.toArray vc.toArray] w (PostV w (.agg (ints .u8 (ends g)).toArray)) := by
  refine calls_at (vs := [.func (.func k) vf.toArray vc.toArray]) (X := []) (H := []) (F := [(20, .sl v 32 (flat (cs)))]) 19 Try.func75 rfl rfl rfl (Sat.rd0 20 h) ?_
  refine cd_seq ?_
  refine cd_region ?_
  refine st_alloc (h := 2) ty39 rfl rfl rfl (fun b2 => ?_)
  refine op_nil ?_
  refine ax_then ?_
  refine At.regs (L' := [(0, _), (2, _)]) (.cons rfl (.cons rfl (.nil _))) ?_
  refine cd_seq ?_
  refine cd_region ?_
  refine st_bsi (h := 6) (xs := [_]) Try.underlying22 ty5 (by decide) rfl rfl (by decide) rfl rfl (fun b6 => ?_)
  refine st (ev_assign rfl) rfl rfl rfl ?_
  refine op_nil ?_
  refine ax_then ?_
  refine At.regs (L' := [(0, _), (2, _), (3, _)]) (.cons rfl (.cons rfl (.cons rfl (.nil _)))) ?_
  refine cd_seq ?_
  refine cd_seq ?_
  refine cd_region ?_
  refine st (ev_move rfl) rfl rfl rfl ?_
  refine op_nil ?_
  refine ax_then ?_
  refine At.regs (L' := [(0, _), (2, _), (3, _), (7, _)]) (.cons rfl (.cons rfl (.cons rfl (.cons rfl (.nil _))))) ?_
  refine cd_block ?_
  refine cd_loop (ι := Nat × Value) (fun x => x.1 ≤ 36) (fun x => 36 - x.1)
      (fun x => [(0, .func (.func k) vf.toArray vc.toArray), (2, .pointer (some ⟨b2, 0, none⟩)), (3, x.2), (7, .int .i64 (x.1 : Int))])
      (fun x => [(2, .blk b2 (.cells (ints .u8 (List.replicate 32 0)).toArray 39)), (6, .own (x.2) 5 1 (ints .u8 (tex g x.1)))])
      (fun x => [(20, .sl v 32 (flat (cs)))])
      (0, _) (by omega) (.cons rfl (.cons rfl (.cons rfl (.cons rfl (.nil _))))) (.cons rfl (.cons rfl (.nil _))) (.cons rfl (.nil _)) (fun x hi => ?_)
  have htx := tex_len hg x.1
  have hgx := hg x.1
  refine cd_seq ?_
  refine cd_region ?_
  refine st (ev_lss rfl rfl) rfl rfl rfl ?_
  refine op_nil ?_
  refine ax_then ?_
  refine At.regs (L' := [(0, _), (2, _), (3, _), (7, _), (8, _)]) (.cons rfl (.cons rfl (.cons rfl (.cons rfl (.cons rfl (.nil _)))))) ?_
  refine cd_seq ?_
  refine cd_if rfl (fun hc8 => ?_) (fun hc8 => ?_)
  ·
    refine cd_skip ?_
    refine ax_then ?_
    refine At.regs (L' := [(0, _), (2, _), (3, _), (7, _), (8, _)]) (.cons rfl (.cons rfl (.cons rfl (.cons rfl (.cons rfl (.nil _)))))) ?_
    refine cd_seq ?_
    refine cd_block ?_
    refine cd_seq ?_
    refine cd_region ?_
    refine st (ev_move rfl) rfl rfl rfl ?_
    refine st (ev_assign rfl) rfl rfl rfl ?_
    refine op_nil ?_
    refine ax_then ?_
    refine At.regs (L' := [(0, _), (2, _), (3, _), (4, _), (7, _), (8, _), (9, _)]) (.cons rfl (.cons rfl (.cons rfl (.cons rfl (.cons rfl (.cons rfl (.cons rfl (.nil _)))))))) ?_
    refine cd_seq ?_
    refine cd_region ?_
    refine st (ev_move rfl) rfl rfl rfl ?_
    refine st (ev_move rfl) rfl rfl rfl ?_
    refine st_callv_fn hk rfl rfl rfl (fun w1 sw => hc w1 x.1 (by omega) (sw.sl_rd (h := 20) rfl)) rfl rfl ?_
    refine st_alloc (h := 5) ty39 rfl rfl rfl (fun b5 => ?_)
    refine st_store_all 5 ty39 rfl rfl rfl rfl (by first | omega | (simp only [List.length_append, List.length_cons, List.length_nil, List.length_set, List.length_replicate, List.length_take, List.length_drop, ints_length, wr_length, sha_len, way_len _ (by assumption), secret_len, digits_len] <;> omega) | rfl) (ints_one _ _) (by first | omega | (simp only [List.length_append, List.length_cons, List.length_nil, List.length_set, List.length_replicate, List.length_take, List.length_drop, ints_length, wr_length, sha_len, way_len _ (by assumption), secret_len, digits_len] <;> omega) | rfl) rfl ?_
    refine op_nil ?_
    refine ax_then ?_
    refine At.regs (L' := [(0, _), (2, _), (3, _), (4, _), (5, _), (7, _), (8, _), (9, _), (10, _), (11, _), (12, _)]) (.cons rfl (.cons rfl (.cons rfl (.cons rfl (.cons rfl (.cons rfl (.cons rfl (.cons rfl (.cons rfl (.cons rfl (.cons rfl (.nil _)))))))))))) ?_
    refine cd_region ?_
    refine st (ev_move rfl) rfl rfl rfl ?_
    refine st (ev_slice_arr_all Try.underlying39 ty5 rfl) rfl rfl rfl ?_
    refine st_appendi (h := 6) Try.underlying22 Try.underlying22 ty5 rfl rfl rfl rfl (fun w1 sw => rd_blk_all sw (h := 5) rfl (by first | omega | (simp only [List.length_append, List.length_cons, List.length_nil, List.length_set, List.length_replicate, List.length_take, List.length_drop, ints_length, wr_length, sha_len, way_len _ (by assumption), secret_len, digits_len] <;> omega) | rfl)) (by first | omega | (simp only [List.length_append, List.length_cons, List.length_nil, List.length_set, List.length_replicate, List.length_take, List.length_drop, ints_length, wr_length, sha_len, way_len _ (by assumption), secret_len, digits_len] <;> omega)) (by decide) rfl rfl (fun v15 => ?_)
    refine st (ev_assign rfl) rfl rfl rfl ?_
    refine op_nil ?_
    refine ax_block ?_
    refine ax_then ?_
    refine At.regs (L' := [(0, _), (2, _), (3, _), (4, _), (5, _), (7, _), (8, _), (9, _), (10, _), (11, _), (12, _), (13, _), (14, _), (15, _)]) (.cons rfl (.cons rfl (.cons rfl (.cons rfl (.cons rfl (.cons rfl (.cons rfl (.cons rfl (.cons rfl (.cons rfl (.cons rfl (.cons rfl (.cons rfl (.cons rfl (.nil _))))))))))))))) ?_
    refine cd_region ?_
    refine st (ev_add64 rfl rfl (by omega) (by omega)) rfl rfl rfl ?_
    refine st (ev_move rfl) rfl rfl rfl ?_
    refine op_nil ?_
    refine ax_heq (i := 6) (v' := .own (v15) 5 1 (ints .u8 (tex g (x.1 + 1)))) rfl rfl ?_
    exact at_again ((x.1 + 1, v15)) (by show x.1 + 1 ≤ 36; omega) (by omega) (.cons rfl (.cons rfl (.cons rfl (.cons rfl (.nil _))))) (.cons rfl (.cons rfl (.nil _))) (.cons rfl (.nil _))
  ·
    obtain ⟨j, u⟩ := x
    dsimp only at hi hc8 htx hgx ⊢
    obtain rfl : j = 36 := by omega
    refine cd_exit ?_
    refine ax_then_exit ?_
    refine ax_then_exit ?_
    refine ax_block_hit ?_
    refine ax_then ?_
    refine At.regs (L' := [(2, _), (3, _)]) (.cons rfl (.cons rfl (.nil _))) ?_
    refine cd_seq ?_
    refine cd_region ?_
    refine st (ev_move rfl) rfl rfl rfl ?_
    refine st_callv has83 rfl (fun w1 sw => sum_any u (tex g 36) w1 (by rw [htx]; omega) (sw.own_rd (h := 6) rfl)) rfl rfl ?_
    refine st_store_all 2 ty39 rfl rfl rfl rfl (by first | omega | (simp only [List.length_append, List.length_cons, List.length_nil, List.length_set, List.length_replicate, List.length_take, List.length_drop, ints_length, wr_length, sha_len, way_len _ (by assumption), secret_len, digits_len] <;> omega) | rfl) (ints_one _ _) (by first | omega | (simp only [List.length_append, List.length_cons, List.length_nil, List.length_set, List.length_replicate, List.length_take, List.length_drop, ints_length, wr_length, sha_len, way_len _ (by assumption), secret_len, digits_len] <;> omega) | rfl) rfl ?_
    refine op_nil ?_
    refine ax_then ?_
    refine At.regs (L' := [(2, _)]) (.cons rfl (.nil _)) ?_
    refine cd_ret ?_
    refine rt_cell (h0 := 2) (.inl rfl) Try.results75 ty39 rfl rfl rfl (by first | omega | (simp only [List.length_append, List.length_cons, List.length_nil, List.length_set, List.length_replicate, List.length_take, List.length_drop, ints_length, wr_length, sha_len, way_len _ (by assumption), secret_len, digits_len] <;> omega) | rfl) ?_
    exact fun w1 sw => ⟨rfl, sw.gives (.nil _)⟩
theorem cut32 (s : List Int) (x : Value) (hl : s.length = 32) : ((ints .u8 s ++ [x]).drop 0).take 32 = ints .u8 s := by
  rw [List.drop_zero, List.take_left' (by rw [ints_length, hl])]
theorem at32 (s : List Int) (x : Value) (hl : s.length = 32) : (ints .u8 s ++ [x])[32]? = some x := by
  rw [List.getElem?_append_right (by rw [ints_length, hl]; decide), ints_length, hl]
  rfl
set_option maxRecDepth 20000 in
set_option maxHeartbeats 1000000 in
theorem leafEnd_any (s : List Int) (l c : Int) (w : World) (hl : s.length = 32) : Calls Try.prog 76 #[.agg (ints .u8 s ++ [Value.int .i64 l]).toArray, .int .i64 c] w (PostV w (.agg (ints .u8 (walk (secret s l c) c 0 3)).toArray)) := by
  refine calls_at (vs := [.agg (ints .u8 s ++ [Value.int .i64 l]).toArray, .int .i64 c]) (X := []) (H := []) (F := []) 13 Try.func76 rfl rfl rfl (Sat.start0 w) ?_
  refine cd_seq ?_
  refine cd_region ?_
  refine st_box (h := 2) rfl rfl rfl rfl (fun b2 => ?_)
  refine st_alloc (h := 4) ty39 rfl rfl rfl (fun b4 => ?_)
  refine op_nil ?_
  refine ax_then ?_
  refine At.regs (L' := [(1, _), (2, _), (4, _)]) (.cons rfl (.cons rfl (.cons rfl (.nil _)))) ?_
  refine cd_seq ?_
  refine cd_region ?_
  refine st (ev_fieldAddr (b := _) Try.underlying109 (f := _) rfl ty39 (by decide) rfl) rfl rfl rfl ?_
  refine st (ld_blk (h := 2) ty39 rfl rfl rfl (by rw [List.length_append, ints_length, hl]; show 0 + 32 ≤ 32 + 1; decide)) rfl rfl rfl ?_
  refine at_eq (i := 6) (v' := .agg (ints .u8 (s)).toArray) rfl (congrArg (fun x => Value.agg (List.toArray x)) (cut32 s (.int .i64 l) hl)) ?_
  refine st (ev_fieldAddr (b := _) Try.underlying109 (f := _) rfl ty3 (by decide) rfl) rfl rfl rfl ?_
  refine st (ld_blk1 (h := 2) ty3 rfl rfl rfl (at32 s _ hl)) rfl rfl rfl ?_
  refine st (ev_move rfl) rfl rfl rfl ?_
  refine st_callv has88 rfl (fun w1 sw => secret_any s l c w1 hl) rfl rfl ?_
  refine st (ev_move rfl) rfl rfl rfl ?_
  refine st_callv has87 rfl (fun w1 sw => walk_any (secret s l c) c 0 3 w1 (secret_len s l c) (by decide)) rfl rfl ?_
  have hwl := walk_len (h := secret s l c) c 0 3 (secret_len s l c)
  refine st_store_all 4 ty39 rfl rfl rfl rfl (by first | omega | (simp only [List.length_append, List.length_cons, List.length_nil, List.length_set, List.length_replicate, List.length_take, List.length_drop, ints_length, wr_length, sha_len, way_len _ (by assumption), secret_len, digits_len] <;> omega) | rfl) (ints_one _ _) (by first | omega | (simp only [List.length_append, List.length_cons, List.length_nil, List.length_set, List.length_replicate, List.length_take, List.length_drop, ints_length, wr_length, sha_len, way_len _ (by assumption), secret_len, digits_len] <;> omega) | rfl) rfl ?_
  refine op_nil ?_
  refine ax_then ?_
  refine At.regs (L' := [(4, _)]) (.cons rfl (.nil _)) ?_
  refine cd_ret ?_
  refine rt_cell (h0 := 4) (.inl rfl) Try.results76 ty39 rfl rfl rfl (by first | omega | (simp only [List.length_append, List.length_cons, List.length_nil, List.length_set, List.length_replicate, List.length_take, List.length_drop, ints_length, wr_length, sha_len, way_len _ (by assumption), secret_len, digits_len] <;> omega) | rfl) ?_
  exact fun w1 sw => ⟨rfl, sw.gives (.nil _)⟩
theorem rd_nil {w : World} (sz : Nat) : Rd w (.slice none 0 0) sz (flat []) := ⟨none, 0, 0, rfl, by simp [flat, ints], Nat.le_refl _, fun _ => rfl, fun x hx => by cases hx⟩
set_option maxRecDepth 20000 in
set_option maxHeartbeats 1000000 in
theorem public_any (s : List Int) (l : Int) (w : World) (hl : s.length = 32) : Calls Try.prog 46 #[.agg (ints .u8 (s)).toArray, .int .i64 l] w (PostV w (.agg (ints .u8 (pub s l)).toArray)) := by
  refine calls_at (vs := [.agg (ints .u8 (s)).toArray, .int .i64 l]) (X := []) (H := []) (F := []) 10 Try.func46 rfl rfl rfl (Sat.start0 w) ?_
  refine cd_seq ?_
  refine cd_region ?_
  refine st_box (h := 2) rfl rfl rfl rfl (fun b2 => ?_)
  refine st_alloc (h := 4) ty39 rfl rfl rfl (fun b4 => ?_)
  refine op_nil ?_
  refine ax_then ?_
  refine At.regs (L' := [(1, _), (2, _), (4, _)]) (.cons rfl (.cons rfl (.cons rfl (.nil _)))) ?_
  refine cd_seq ?_
  refine cd_region ?_
  refine st (ld_blk_all (h := 2) ty39 rfl rfl rfl (by first | omega | (simp only [List.length_append, List.length_cons, List.length_nil, List.length_set, List.length_replicate, List.length_take, List.length_drop, ints_length, wr_length, sha_len, way_len _ (by assumption), secret_len, digits_len] <;> omega) | rfl)) rfl rfl rfl ?_
  refine st (ev_move rfl) rfl rfl rfl ?_
  refine st (ev_build_struct ty109 rfl pl109 rfl ((fill_put (i := 0) (off := 0) (n := 32) (vs := ints .u8 s) rfl rfl (by rw [ints_length, hl]) (Nat.le_of_ble_eq_true rfl)).trans ((fill_put (i := 1) (off := 32) (n := 1) (vs := [.int .i64 l]) rfl rfl rfl (by rw [wr_length (by rw [ints_length, hl]; exact Nat.le_of_ble_eq_true rfl)]; exact Nat.le_of_ble_eq_true rfl)).trans fill_nil))) rfl rfl rfl ?_
  refine at_eq (i := 7) (v' := .agg (ints .u8 s ++ [Value.int .i64 l]).toArray) rfl (congrArg (fun x => Value.agg (List.toArray x)) (put_last (by rw [ints_length, hl]) rfl)) ?_
  refine st (ev_func rfl rfl) rfl rfl rfl ?_
  refine st_callv has75 rfl (fun w1 sw => ends_any 76 has76 [.agg (ints .u8 s ++ [Value.int .i64 l]).toArray] [] (.slice none 0 0) [] (fun c => walk (secret s l c) c 0 3) (fun i => walk_len _ _ _ (secret_len s l i)) w1 (rd_nil 32) (fun w2 i _ _ => leafEnd_any s l i w2 hl)) rfl rfl ?_
  have hpl : (pub s l).length = 32 := sha_len _
  refine st_store_all 4 ty39 rfl rfl rfl rfl (by first | omega | (simp only [List.length_append, List.length_cons, List.length_nil, List.length_set, List.length_replicate, List.length_take, List.length_drop, ints_length, wr_length, sha_len, way_len _ (by assumption), secret_len, digits_len] <;> omega) | rfl) (ints_one _ _) (by first | omega | (simp only [List.length_append, List.length_cons, List.length_nil, List.length_set, List.length_replicate, List.length_take, List.length_drop, ints_length, wr_length, sha_len, way_len _ (by assumption), secret_len, digits_len] <;> omega) | rfl) rfl ?_
  refine op_nil ?_
  refine ax_then ?_
  refine At.regs (L' := [(4, _)]) (.cons rfl (.nil _)) ?_
  refine cd_ret ?_
  refine rt_cell (h0 := 4) (.inl rfl) Try.results46 ty39 rfl rfl rfl (by first | omega | (simp only [List.length_append, List.length_cons, List.length_nil, List.length_set, List.length_replicate, List.length_take, List.length_drop, ints_length, wr_length, sha_len, way_len _ (by assumption), secret_len, digits_len] <;> omega) | rfl) ?_
  exact fun w1 sw => ⟨rfl, sw.gives (.nil _)⟩
end Go.Proofs.Yteedclmcgifmpaa
namespace Go.Proofs.Yteedclmcgifmpaa
open Go Go.RowKit Fw
open Sha
open Ots
set_option linter.unusedVariables false
set_option linter.unusedSimpArgs false
def sign (s : List Int) (l : Int) (m : List Int) (n : Nat) : List (List Int) := (List.range n).map fun (c : Nat) => walk (secret s l c) c 0 ((digits m).getD c 0)
theorem sign_snoc (s : List Int) (l : Int) (m : List Int) (n : Nat) : sign s l m (n + 1) = sign s l m n ++ [walk (secret s l n) n 0 ((digits m).getD n 0)] := by
  simp [sign, List.range_succ]
theorem sign_h32 (s : List Int) (l : Int) (m : List Int) (n : Nat) : H32 (sign s l m n) := fun h hh => by
  simp only [sign, List.mem_map] at hh
  obtain ⟨c, _, rfl⟩ := hh
  exact walk_len _ _ _ (secret_len _ _ _)
theorem sign_len (s : List Int) (l : Int) (m : List Int) (n : Nat) : (sign s l m n).length = n := by simp [sign]
set_option maxRecDepth 20000 in
set_option maxHeartbeats 2000000 in
theorem sign_any (s : List Int) (l : Int) (p : Value) (m : List Int) (w : World) (hl : s.length = 32) (hm : m.length ≤ 140737488352000) (h : Rd w p 1 (ints .u8 m)) : Calls Try.prog 52 #[.agg (ints .u8 (s)).toArray, .int .i64 l, p] w (Post (ι := Value) w [] (fun _ => True) (fun v => v) (fun v => [(0, .own (v) 39 32 (flat (sign s l m 36)))])) := by
  refine calls_at (vs := [.agg (ints .u8 (s)).toArray, .int .i64 l, p]) (X := []) (H := []) (F := [(2, .sl p 1 (ints .u8 (m)))]) 28 Try.func52 rfl rfl rfl (Sat.rd0 2 h) ?_
  refine cd_seq ?_
  refine cd_region ?_
  refine st_box (h := 3) rfl rfl rfl rfl (fun b3 => ?_)
  refine st (ev_assign rfl) rfl rfl rfl ?_
  refine at_own_nil 6 39 32 ?_
  refine at_heq (i := 6) (v' := .own (.slice none 0 0) 39 32 (flat [])) rfl rfl ?_
  have hu6 := H32.nil
  refine op_nil ?_
  refine ax_then ?_
  refine At.regs (L' := [(1, _), (2, _), (3, _), (6, _)]) (.cons rfl (.cons rfl (.cons rfl (.cons rfl (.nil _))))) ?_
  refine cd_seq ?_
  refine cd_region ?_
  refine st (ev_assign rfl) rfl rfl rfl ?_
  refine at_own_nil 7 39 32 ?_
  refine at_heq (i := 7) (v' := .own (.slice none 0 0) 39 32 (flat [])) rfl rfl ?_
  have hu7 := H32.nil
  refine op_nil ?_
  refine ax_then ?_
  refine At.regs (L' := [(1, _), (2, _), (3, _), (6, _), (7, _)]) (.cons rfl (.cons rfl (.cons rfl (.cons rfl (.cons rfl (.nil _)))))) ?_
  refine cd_seq ?_
  refine cd_seq ?_
  refine cd_region ?_
  refine st (ev_move rfl) rfl rfl rfl ?_
  refine st_callv has86 rfl (fun w1 sw => digits_any p m w1 hm (sw.sl_rd (h := 2) rfl)) rfl rfl ?_
  refine st (ev_move rfl) rfl rfl rfl ?_
  refine op_nil ?_
  refine ax_then ?_
  refine At.regs (L' := [(1, _), (3, _), (6, _), (7, _), (11, _), (12, _)]) (.cons rfl (.cons rfl (.cons rfl (.cons rfl (.cons rfl (.cons rfl (.nil _))))))) ?_
  refine cd_block ?_
  have hdl := digits_len m
  refine cd_loop (ι := Nat × Value) (fun x => x.1 ≤ 36) (fun x => 36 - x.1)
      (fun x => [(1, .int .i64 l), (3, .pointer (some ⟨b3, 0, none⟩)), (7, x.2), (11, .agg (ints .i64 (digits m)).toArray), (12, .int .i64 (x.1 : Int))])
      (fun x => [(3, .blk b3 (.cells (ints .u8 (s)).toArray 39)), (7, .own (x.2) 39 32 (flat (sign s l m x.1)))])
      (fun x => [])
      (0, .slice none 0 0) (by omega) (.cons rfl (.cons rfl (.cons rfl (.cons rfl (.cons rfl (.nil _)))))) (.cons rfl (.cons rfl (.nil _))) (.nil _) (fun x hi => ?_)
  have hsu := sign_h32 s l m x.1
  have hsn := sign_len s l m x.1
  have e0 : (x.1 : Int).toNat = x.1 := by omega
  have hdl := digits_len m
  refine cd_seq ?_
  refine cd_region ?_
  refine st (ev_lss rfl rfl) rfl rfl rfl ?_
  refine op_nil ?_
  refine ax_then ?_
  refine At.regs (L' := [(1, _), (3, _), (7, _), (11, _), (12, _), (13, _)]) (.cons rfl (.cons rfl (.cons rfl (.cons rfl (.cons rfl (.cons rfl (.nil _))))))) ?_
  refine cd_seq ?_
  refine cd_if rfl (fun hc13 => ?_) (fun hc13 => ?_)
  ·
    refine cd_skip ?_
    refine ax_then ?_
    refine At.regs (L' := [(1, _), (3, _), (7, _), (11, _), (12, _), (13, _)]) (.cons rfl (.cons rfl (.cons rfl (.cons rfl (.cons rfl (.cons rfl (.nil _))))))) ?_
    refine cd_seq ?_
    refine cd_block ?_
    refine cd_seq ?_
    refine cd_region ?_
    refine st (ev_move rfl) rfl rfl rfl ?_
    refine st (ev_indexi Try.underlying115 ty3 rfl rfl (by omega) (by omega) (by first | omega | (simp only [List.length_append, List.length_cons, List.length_nil, List.length_set, List.length_replicate, List.length_take, List.length_drop, ints_length, wr_length, sha_len, way_len _ (by assumption), secret_len, digits_len] <;> omega) | rfl)) rfl rfl rfl ?_
    refine st (ev_assign rfl) rfl rfl rfl ?_
    refine st (ev_assign rfl) rfl rfl rfl ?_
    refine op_nil ?_
    refine ax_then ?_
    refine At.regs (L' := [(1, _), (3, _), (7, _), (8, _), (9, _), (11, _), (12, _), (13, _), (14, _), (15, _)]) (.cons rfl (.cons rfl (.cons rfl (.cons rfl (.cons rfl (.cons rfl (.cons rfl (.cons rfl (.cons rfl (.cons rfl (.nil _))))))))))) ?_
    refine cd_region ?_
    refine st (ev_move rfl) rfl rfl rfl ?_
    refine st (ld_blk_all (h := 3) ty39 rfl rfl rfl (by first | omega | (simp only [List.length_append, List.length_cons, List.length_nil, List.length_set, List.length_replicate, List.length_take, List.length_drop, ints_length, wr_length, sha_len, way_len _ (by assumption), secret_len, digits_len] <;> omega) | rfl)) rfl rfl rfl ?_
    refine st (ev_move rfl) rfl rfl rfl ?_
    refine st (ev_move rfl) rfl rfl rfl ?_
    refine st_callv has88 rfl (fun w1 sw => secret_any s l x.1 w1 hl) rfl rfl ?_
    refine st (ev_move rfl) rfl rfl rfl ?_
    refine st (ev_move rfl) rfl rfl rfl ?_
    refine st_callv has87 rfl (fun w1 sw => walk_any (secret s l x.1) x.1 0 ((digits m).getD (x.1 : Int).toNat 0) w1 (secret_len s l x.1) (by decide)) rfl rfl ?_
    have hwl := walk_len (h := secret s l x.1) x.1 0 ((digits m).getD (x.1 : Int).toNat 0) (secret_len s l x.1)
    refine st_bsh1 (h := 24) Try.underlying26 ty39 rfl (by first | assumption | omega) rfl rfl (fun b24 hu24 => ?_)
    refine st_appendh (h := 7) Try.underlying26 Try.underlying26 ty39 rfl rfl rfl rfl (fun w1 sw => sw.own_rd (h := 24) rfl) (by assumption) (by assumption) (by first | omega | (simp only [List.length_append, List.length_cons, List.length_nil, List.length_set, List.length_replicate, List.length_take, List.length_drop, ints_length, wr_length, sha_len, way_len _ (by assumption), secret_len, digits_len] <;> omega)) (by decide) rfl rfl (fun v25 hu25 => ?_)
    refine st (ev_assign rfl) rfl rfl rfl ?_
    refine op_nil ?_
    refine ax_block ?_
    refine ax_then ?_
    refine At.regs (L' := [(1, _), (3, _), (7, _), (8, _), (9, _), (11, _), (12, _), (13, _), (14, _), (15, _), (16, _), (17, _), (18, _), (19, _), (20, _), (21, _), (22, _), (23, _), (24, _), (25, _)]) (.cons rfl (.cons rfl (.cons rfl (.cons rfl (.cons rfl (.cons rfl (.cons rfl (.cons rfl (.cons rfl (.cons rfl (.cons rfl (.cons rfl (.cons rfl (.cons rfl (.cons rfl (.cons rfl (.cons rfl (.cons rfl (.cons rfl (.cons rfl (.nil _))))))))))))))))))))) ?_
    refine cd_region ?_
    refine st (ev_add64 rfl rfl (by omega) (by omega)) rfl rfl rfl ?_
    refine st (ev_move rfl) rfl rfl rfl ?_
    refine op_nil ?_
    refine ax_heq (i := 7) (v' := .own (v25) 39 32 (flat (sign s l m (x.1 + 1)))) rfl (by rw [sign_snoc, e0]) ?_
    exact at_again ((x.1 + 1, v25)) (by show x.1 + 1 ≤ 36; omega) (by omega) (.cons rfl (.cons rfl (.cons rfl (.cons rfl (.cons rfl (.nil _)))))) (.cons rfl (.cons rfl (.nil _))) (.nil _)
  ·
    obtain ⟨j, u⟩ := x
    dsimp only at hi hc13 ⊢
    obtain rfl : j = 36 := by omega
    refine cd_exit ?_
    refine ax_then_exit ?_
    refine ax_then_exit ?_
    refine ax_block_hit ?_
    refine ax_then ?_
    refine At.regs (L' := [(7, _)]) (.cons rfl (.nil _)) ?_
    refine cd_seq ?_
    refine cd_region ?_
    refine st (ev_move rfl) rfl rfl rfl ?_
    refine st (ev_assign rfl) rfl rfl rfl ?_
    refine op_nil ?_
    refine ax_then ?_
    refine At.regs (L' := [(6, _)]) (.cons rfl (.nil _)) ?_
    refine cd_ret ?_
    refine rt_tmp (.inl rfl) Try.results52 rfl ?_
    exact fun w1 sw => ⟨_, trivial, rfl, (sw.gives (N := [(7, _)]) (.cons rfl (.nil _))).rn 0⟩
end Go.Proofs.Yteedclmcgifmpaa
namespace Go.Proofs.Yteedclmcgifmpaa
open Go Go.RowKit Fw
open Sha
open Ots
set_option linter.unusedVariables false
set_option linter.unusedSimpArgs false
theorem tex_len' {f : Nat → List Int} : ∀ n, (∀ i, i < n → (f i).length = 32) → (tex f n).length = 1 + 32 * n
  | 0, _ => rfl
  | n + 1, h => by rw [tex, List.length_append, tex_len' n (fun i hi => h i (by omega)), h n (by omega)]; omega
def pubs (s : List Int) (l : Int) (n : Nat) : List (List Int) := (List.range n).map fun (c : Nat) => walk (secret s l c) c 0 3
theorem pubs_snoc (s : List Int) (l : Int) (n : Nat) : pubs s l (n + 1) = pubs s l n ++ [walk (secret s l n) n 0 3] := by simp [pubs, List.range_succ]
theorem pubs_h32 (s : List Int) (l : Int) (n : Nat) : H32 (pubs s l n) := fun h hh => by
  simp only [pubs, List.mem_map] at hh
  obtain ⟨c, _, rfl⟩ := hh
  exact walk_len _ _ _ (secret_len _ _ _)
theorem pubs_len (s : List Int) (l : Int) (n : Nat) : (pubs s l n).length = n := by simp [pubs]
theorem pubs_ends (s : List Int) (l : Int) : ends (fun i => (pubs s l 36).getD i []) = pub s l := ends_congr fun i hi => by
  rw [pubs, List.getD_eq_getElem?_getD, List.getElem?_map, List.getElem?_range hi]
  rfl
set_option maxRecDepth 20000 in
set_option maxHeartbeats 2000000 in
theorem rends_any (p : Value) (hs : List (List Int)) (w : World) (hu : H32 hs) (hn : hs.length = 36) (h : Rd w p 32 (flat hs)) : Calls Try.prog 79 #[p] w (PostV w (.agg (ints .u8 (ends fun i => hs.getD i [])).toArray)) := by
  refine calls_at (vs := [p]) (X := []) (H := []) (F := [(0, .sl p 32 (flat (hs)))]) 20 Try.func79 rfl rfl rfl (Sat.rd0 0 h) ?_
  refine cd_seq ?_
  refine cd_region ?_
  refine st_alloc (h := 2) ty39 rfl rfl rfl (fun b2 => ?_)
  refine op_nil ?_
  refine ax_then ?_
  refine At.regs (L' := [(0, _), (2, _)]) (.cons rfl (.cons rfl (.nil _))) ?_
  refine cd_seq ?_
  refine cd_region ?_
  refine st_bsi (h := 5) (xs := [_]) Try.underlying22 ty5 (by decide) rfl rfl (by decide) rfl rfl (fun b5 => ?_)
  refine st (ev_assign rfl) rfl rfl rfl ?_
  refine op_nil ?_
  refine ax_then ?_
  refine At.regs (L' := [(0, _), (2, _), (3, _)]) (.cons rfl (.cons rfl (.cons rfl (.nil _)))) ?_
  refine cd_seq ?_
  refine cd_seq ?_
  refine cd_region ?_
  refine st (ev_assign rfl) rfl rfl rfl ?_
  refine op_nil ?_
  refine ax_then ?_
  refine At.regs (L' := [(0, _), (2, _), (3, _), (4, _)]) (.cons rfl (.cons rfl (.cons rfl (.cons rfl (.nil _))))) ?_
  refine cd_block ?_
  refine cd_loop (ι := Nat × Value) (fun x => x.1 ≤ 36) (fun x => 36 - x.1)
      (fun x => [(0, p), (2, .pointer (some ⟨b2, 0, none⟩)), (3, x.2), (4, .int .i64 (x.1 : Int))])
      (fun x => [(2, .blk b2 (.cells (ints .u8 (List.replicate 32 0)).toArray 39)), (5, .own (x.2) 5 1 (ints .u8 (tex (fun i => hs.getD i []) x.1)))])
      (fun x => [(0, .sl p 32 (flat (hs)))])
      (0, _) (by omega) (.cons rfl (.cons rfl (.cons rfl (.cons rfl (.nil _))))) (.cons rfl (.cons rfl (.nil _))) (.cons rfl (.nil _)) (fun x hi => ?_)
  have htx := tex_len' (f := fun i => hs.getD i []) x.1 (fun i hi2 => hu.get (by omega))
  have hgx : x.1 < 36 → (hs.getD (x.1 : Int).toNat []).length = 32 := fun hx => hu.get (by omega)
  have e0 : (x.1 : Int).toNat = x.1 := by omega
  refine cd_seq ?_
  refine cd_seq ?_
  refine cd_region ?_
  refine st (ev_move rfl) rfl rfl rfl ?_
  refine st (ev_move rfl) rfl rfl rfl ?_
  refine st (ev_len_rdh (h := 0) Try.underlying26 rfl rfl (by assumption)) rfl rfl rfl ?_
  refine st (ev_lss rfl rfl) rfl rfl rfl ?_
  refine op_nil ?_
  refine ax_then ?_
  refine At.regs (L' := [(0, _), (2, _), (3, _), (4, _), (6, _), (7, _), (8, _), (9, _)]) (.cons rfl (.cons rfl (.cons rfl (.cons rfl (.cons rfl (.cons rfl (.cons rfl (.cons rfl (.nil _))))))))) ?_
  refine cd_if rfl (fun hc9 => ?_) (fun hc9 => ?_)
  ·
    have hgx2 := hgx (by omega)
    refine cd_skip ?_
    refine ax_then ?_
    refine At.regs (L' := [(0, _), (2, _), (3, _), (4, _), (6, _), (7, _), (8, _), (9, _)]) (.cons rfl (.cons rfl (.cons rfl (.cons rfl (.cons rfl (.cons rfl (.cons rfl (.cons rfl (.nil _))))))))) ?_
    refine cd_seq ?_
    refine cd_block ?_
    refine cd_region ?_
    refine st (ev_move rfl) rfl rfl rfl ?_
    refine st (ev_move rfl) rfl rfl rfl ?_
    refine st (ev_move rfl) rfl rfl rfl ?_
    refine st (ev_indexAddr_rdh (h := 0) Try.underlying26 ty39 rfl rfl rfl (by assumption) (by omega) (by omega)) rfl rfl rfl ?_
    refine st (ev_arrAt Try.underlying39 ty5 rfl (fun w1 sw => sw.sl_rd (h := 0) rfl) (by rw [flat_len (by assumption)]; omega)) rfl rfl rfl ?_
    refine st_appendi (h := 5) Try.underlying22 Try.underlying22 ty5 rfl rfl rfl rfl (fun w1 sw => rd_arrh (sw.sl_rd (h := 0) rfl) (by assumption) (by omega)) (by first | omega | (simp only [List.length_append, List.length_cons, List.length_nil, List.length_set, List.length_replicate, List.length_take, List.length_drop, ints_length, wr_length, sha_len, way_len _ (by assumption), secret_len, digits_len] <;> omega)) (by decide) rfl rfl (fun v17 => ?_)
    refine st (ev_assign rfl) rfl rfl rfl ?_
    refine op_nil ?_
    refine ax_block ?_
    refine ax_then ?_
    refine At.regs (L' := [(0, _), (2, _), (3, _), (4, _), (6, _), (7, _), (8, _), (9, _), (12, _), (13, _), (14, _), (15, _), (16, _), (17, _)]) (.cons rfl (.cons rfl (.cons rfl (.cons rfl (.cons rfl (.cons rfl (.cons rfl (.cons rfl (.cons rfl (.cons rfl (.cons rfl (.cons rfl (.cons rfl (.cons rfl (.nil _))))))))))))))) ?_
    refine cd_region ?_
    refine st (ev_move rfl) rfl rfl rfl ?_
    refine st (ev_add64 rfl rfl (by omega) (by omega)) rfl rfl rfl ?_
    refine st (ev_assign rfl) rfl rfl rfl ?_
    refine op_nil ?_
    refine ax_heq (i := 5) (v' := .own (v17) 5 1 (ints .u8 (tex (fun i => hs.getD i []) (x.1 + 1)))) rfl (by rw [e0]; rfl) ?_
    exact at_again ((x.1 + 1, v17)) (by show x.1 + 1 ≤ 36; omega) (by omega) (.cons rfl (.cons rfl (.cons rfl (.cons rfl (.nil _))))) (.cons rfl (.cons rfl (.nil _))) (.cons rfl (.nil _))
  ·
    obtain ⟨j, u⟩ := x
    dsimp only at hi hc9 htx ⊢
    obtain rfl : j = 36 := by omega
    refine cd_exit ?_
    refine ax_then_exit ?_
    refine ax_then_exit ?_
    refine ax_block_hit ?_
    refine ax_then ?_
    refine At.regs (L' := [(2, _), (3, _)]) (.cons rfl (.cons rfl (.nil _))) ?_
    refine cd_seq ?_
    refine cd_region ?_
    refine st (ev_move rfl) rfl rfl rfl ?_
    refine st_callv has80 rfl (fun w1 sw => rsum_any u (tex (fun i => hs.getD i []) 36) w1 (by rw [htx]; omega) (sw.own_rd (h := 5) rfl)) rfl rfl ?_
    refine st_store_all 2 ty39 rfl rfl rfl rfl (by first | omega | (simp only [List.length_append, List.length_cons, List.length_nil, List.length_set, List.length_replicate, List.length_take, List.length_drop, ints_length, wr_length, sha_len, way_len _ (by assumption), secret_len, digits_len] <;> omega) | rfl) (ints_one _ _) (by first | omega | (simp only [List.length_append, List.length_cons, List.length_nil, List.length_set, List.length_replicate, List.length_take, List.length_drop, ints_length, wr_length, sha_len, way_len _ (by assumption), secret_len, digits_len] <;> omega) | rfl) rfl ?_
    refine op_nil ?_
    refine ax_then ?_
    refine At.regs (L' := [(2, _)]) (.cons rfl (.nil _)) ?_
    refine cd_ret ?_
    refine rt_cell (h0 := 2) (.inl rfl) Try.results79 ty39 rfl rfl rfl (by first | omega | (simp only [List.length_append, List.length_cons, List.length_nil, List.length_set, List.length_replicate, List.length_take, List.length_drop, ints_length, wr_length, sha_len, way_len _ (by assumption), secret_len, digits_len] <;> omega) | rfl) ?_
    exact fun w1 sw => ⟨rfl, sw.gives (.nil _)⟩
set_option maxRecDepth 20000 in
set_option maxHeartbeats 2000000 in
theorem rpublic_any (s : List Int) (l : Int) (w : World) (hl : s.length = 32) : Calls Try.prog 47 #[.agg (ints .u8 (s)).toArray, .int .i64 l] w (PostV w (.agg (ints .u8 (pub s l)).toArray)) := by
  refine calls_at (vs := [.agg (ints .u8 (s)).toArray, .int .i64 l]) (X := []) (H := []) (F := []) 22 Try.func47 rfl rfl rfl (Sat.start0 w) ?_
  refine cd_seq ?_
  refine cd_region ?_
  refine st_box (h := 2) rfl rfl rfl rfl (fun b2 => ?_)
  refine st_alloc (h := 4) ty39 rfl rfl rfl (fun b4 => ?_)
  refine op_nil ?_
  refine ax_then ?_
  refine At.regs (L' := [(1, _), (2, _), (4, _)]) (.cons rfl (.cons rfl (.cons rfl (.nil _)))) ?_
  refine cd_seq ?_
  refine cd_region ?_
  refine st (ev_assign rfl) rfl rfl rfl ?_
  refine at_own_nil 5 39 32 ?_
  refine at_heq (i := 5) (v' := .own (.slice none 0 0) 39 32 (flat [])) rfl rfl ?_
  have hu5 := H32.nil
  refine op_nil ?_
  refine ax_then ?_
  refine At.regs (L' := [(1, _), (2, _), (4, _), (5, _)]) (.cons rfl (.cons rfl (.cons rfl (.cons rfl (.nil _))))) ?_
  refine cd_seq ?_
  refine cd_seq ?_
  refine cd_region ?_
  refine st (ev_assign rfl) rfl rfl rfl ?_
  refine op_nil ?_
  refine ax_then ?_
  refine At.regs (L' := [(1, _), (2, _), (4, _), (5, _), (6, _)]) (.cons rfl (.cons rfl (.cons rfl (.cons rfl (.cons rfl (.nil _)))))) ?_
  refine cd_block ?_
  refine cd_loop (ι := Nat × Value) (fun x => x.1 ≤ 36) (fun x => 36 - x.1)
      (fun x => [(1, .int .i64 l), (2, .pointer (some ⟨b2, 0, none⟩)), (4, .pointer (some ⟨b4, 0, none⟩)), (5, x.2), (6, .int .i64 (x.1 : Int))])
      (fun x => [(2, .blk b2 (.cells (ints .u8 (s)).toArray 39)), (4, .blk b4 (.cells (ints .u8 (List.replicate 32 0)).toArray 39)), (5, .own (x.2) 39 32 (flat (pubs s l x.1)))])
      (fun x => [])
      (0, .slice none 0 0) (by omega) (.cons rfl (.cons rfl (.cons rfl (.cons rfl (.cons rfl (.nil _)))))) (.cons rfl (.cons rfl (.cons rfl (.nil _)))) (.nil _) (fun x hi => ?_)
  have hsu := pubs_h32 s l x.1
  have hsn := pubs_len s l x.1
  have e0 : (x.1 : Int).toNat = x.1 := by omega
  refine cd_seq ?_
  refine cd_seq ?_
  refine cd_region ?_
  refine st (ev_move rfl) rfl rfl rfl ?_
  refine st (ev_lss rfl rfl) rfl rfl rfl ?_
  refine op_nil ?_
  refine ax_then ?_
  refine At.regs (L' := [(1, _), (2, _), (4, _), (5, _), (6, _), (7, _), (8, _)]) (.cons rfl (.cons rfl (.cons rfl (.cons rfl (.cons rfl (.cons rfl (.cons rfl (.nil _)))))))) ?_
  refine cd_if rfl (fun hc8 => ?_) (fun hc8 => ?_)
  ·
    refine cd_skip ?_
    refine ax_then ?_
    refine At.regs (L' := [(1, _), (2, _), (4, _), (5, _), (6, _), (7, _), (8, _)]) (.cons rfl (.cons rfl (.cons rfl (.cons rfl (.cons rfl (.cons rfl (.cons rfl (.nil _)))))))) ?_
    refine cd_seq ?_
    refine cd_block ?_
    refine cd_region ?_
    refine st (ev_move rfl) rfl rfl rfl ?_
    refine st (ld_blk_all (h := 2) ty39 rfl rfl rfl (by first | omega | (simp only [List.length_append, List.length_cons, List.length_nil, List.length_set, List.length_replicate, List.length_take, List.length_drop, ints_length, wr_length, sha_len, way_len _ (by assumption), secret_len, digits_len] <;> omega) | rfl)) rfl rfl rfl ?_
    refine st (ev_move rfl) rfl rfl rfl ?_
    refine st (ev_move rfl) rfl rfl rfl ?_
    refine st_callv has78 rfl (fun w1 sw => rsecret_any s l x.1 w1 hl) rfl rfl ?_
    refine st (ev_move rfl) rfl rfl rfl ?_
    refine st_callv has77 rfl (fun w1 sw => rwalk_any (secret s l x.1) x.1 0 3 w1 (secret_len s l x.1) (by decide)) rfl rfl ?_
    have hwl := walk_len (h := secret s l x.1) x.1 0 3 (secret_len s l x.1)
    refine st_bsh1 (h := 18) Try.underlying26 ty39 rfl (by first | assumption | omega) rfl rfl (fun b18 hu18 => ?_)
    refine st_appendh (h := 5) Try.underlying26 Try.underlying26 ty39 rfl rfl rfl rfl (fun w1 sw => sw.own_rd (h := 18) rfl) (by assumption) (by assumption) (by first | omega | (simp only [List.length_append, List.length_cons, List.length_nil, List.length_set, List.length_replicate, List.length_take, List.length_drop, ints_length, wr_length, sha_len, way_len _ (by assumption), secret_len, digits_len] <;> omega)) (by decide) rfl rfl (fun v19 hu19 => ?_)
    refine st (ev_assign rfl) rfl rfl rfl ?_
    refine op_nil ?_
    refine ax_block ?_
    refine ax_then ?_
    refine At.regs (L' := [(1, _), (2, _), (4, _), (5, _), (6, _), (7, _), (8, _), (11, _), (12, _), (13, _), (14, _), (15, _), (16, _), (17, _), (18, _), (19, _)]) (.cons rfl (.cons rfl (.cons rfl (.cons rfl (.cons rfl (.cons rfl (.cons rfl (.cons rfl (.cons rfl (.cons rfl (.cons rfl (.cons rfl (.cons rfl (.cons rfl (.cons rfl (.cons rfl (.nil _))))))))))))))))) ?_
    refine cd_region ?_
    refine st (ev_move rfl) rfl rfl rfl ?_
    refine st (ev_add64 rfl rfl (by omega) (by omega)) rfl rfl rfl ?_
    refine st (ev_assign rfl) rfl rfl rfl ?_
    refine op_nil ?_
    refine ax_heq (i := 5) (v' := .own (v19) 39 32 (flat (pubs s l (x.1 + 1)))) rfl (by rw [pubs_snoc]) ?_
    exact at_again ((x.1 + 1, v19)) (by show x.1 + 1 ≤ 36; omega) (by omega) (.cons rfl (.cons rfl (.cons rfl (.cons rfl (.cons rfl (.nil _)))))) (.cons rfl (.cons rfl (.cons rfl (.nil _)))) (.nil _)
  ·
    obtain ⟨j, u⟩ := x
    dsimp only at hi hc8 ⊢
    obtain rfl : j = 36 := by omega
    refine cd_exit ?_
    refine ax_then_exit ?_
    refine ax_then_exit ?_
    refine ax_block_hit ?_
    refine ax_then ?_
    refine At.regs (L' := [(4, _), (5, _)]) (.cons rfl (.cons rfl (.nil _))) ?_
    refine cd_seq ?_
    refine cd_region ?_
    refine st (ev_move rfl) rfl rfl rfl ?_
    refine st_callv has79 rfl (fun w1 sw => rends_any u (pubs s l 36) w1 (pubs_h32 s l 36) (pubs_len s l 36) (sw.own_rd (h := 5) rfl)) rfl rfl ?_
    refine at_eq (i := 21) (v' := .agg (ints .u8 (pub s l)).toArray) rfl (by rw [pubs_ends]) ?_
    have hpl : (pub s l).length = 32 := sha_len _
    refine st_store_all 4 ty39 rfl rfl rfl rfl (by first | omega | (simp only [List.length_append, List.length_cons, List.length_nil, List.length_set, List.length_replicate, List.length_take, List.length_drop, ints_length, wr_length, sha_len, way_len _ (by assumption), secret_len, digits_len] <;> omega) | rfl) (ints_one _ _) (by first | omega | (simp only [List.length_append, List.length_cons, List.length_nil, List.length_set, List.length_replicate, List.length_take, List.length_drop, ints_length, wr_length, sha_len, way_len _ (by assumption), secret_len, digits_len] <;> omega) | rfl) rfl ?_
    refine op_nil ?_
    refine ax_then ?_
    refine At.regs (L' := [(4, _)]) (.cons rfl (.nil _)) ?_
    refine cd_ret ?_
    refine rt_cell (h0 := 4) (.inl rfl) Try.results47 ty39 rfl rfl rfl (by first | omega | (simp only [List.length_append, List.length_cons, List.length_nil, List.length_set, List.length_replicate, List.length_take, List.length_drop, ints_length, wr_length, sha_len, way_len _ (by assumption), secret_len, digits_len] <;> omega) | rfl) ?_
    exact fun w1 sw => ⟨rfl, sw.gives (.nil _)⟩
end Go.Proofs.Yteedclmcgifmpaa
namespace Go.Proofs.Yteedclmcgifmpaa
open Go Go.RowKit Fw
open Sha
open Ots
set_option linter.unusedVariables false
set_option linter.unusedSimpArgs false
def recov (m : List Int) (cs : List (List Int)) : List Int := if cs.length = 36 then ends (fun c => walk (cs.getD c []) c ((digits m).getD c 0) 3) else List.replicate 32 0
theorem recov_len (m : List Int) (cs : List (List Int)) : (recov m cs).length = 32 := by
  rw [recov]
  split
  · exact sha_len _
  · simp
set_option maxRecDepth 20000 in
set_option maxHeartbeats 2000000 in
theorem rsign_any (s : List Int) (l : Int) (p : Value) (m : List Int) (w : World) (hl : s.length = 32) (hm : m.length ≤ 140737488352000) (h : Rd w p 1 (ints .u8 m)) : Calls Try.prog 54 #[.agg (ints .u8 (s)).toArray, .int .i64 l, p] w (Post (ι := Value) w [] (fun _ => True) (fun v => v) (fun v => [(0, .own (v) 39 32 (flat (sign s l m 36)))])) := by
  refine calls_at (vs := [.agg (ints .u8 (s)).toArray, .int .i64 l, p]) (X := []) (H := []) (F := [(2, .sl p 1 (ints .u8 (m)))]) 29 Try.func54 rfl rfl rfl (Sat.rd0 2 h) ?_
  refine cd_seq ?_
  refine cd_region ?_
  refine st_box (h := 3) rfl rfl rfl rfl (fun b3 => ?_)
  refine st (ev_assign rfl) rfl rfl rfl ?_
  refine at_own_nil 6 39 32 ?_
  refine at_heq (i := 6) (v' := .own (.slice none 0 0) 39 32 (flat [])) rfl rfl ?_
  have hu6 := H32.nil
  refine op_nil ?_
  refine ax_then ?_
  refine At.regs (L' := [(1, _), (2, _), (3, _), (6, _)]) (.cons rfl (.cons rfl (.cons rfl (.cons rfl (.nil _))))) ?_
  refine cd_seq ?_
  refine cd_region ?_
  refine st (ev_move rfl) rfl rfl rfl ?_
  refine st_callv has89 rfl (fun w1 sw => rdigits_any p m w1 hm (sw.sl_rd (h := 2) rfl)) rfl rfl ?_
  have hdl0 := digits_len m
  refine st_alloc (h := 7) ty115 rfl rfl rfl (fun b7 => ?_)
  refine st_store_all 7 ty115 rfl rfl rfl rfl (by first | omega | (simp only [List.length_append, List.length_cons, List.length_nil, List.length_set, List.length_replicate, List.length_take, List.length_drop, ints_length, wr_length, sha_len, way_len _ (by assumption), secret_len, digits_len] <;> omega) | rfl) (ints_one _ _) (by first | omega | (simp only [List.length_append, List.length_cons, List.length_nil, List.length_set, List.length_replicate, List.length_take, List.length_drop, ints_length, wr_length, sha_len, way_len _ (by assumption), secret_len, digits_len] <;> omega) | rfl) rfl ?_
  refine op_nil ?_
  refine ax_then ?_
  refine At.regs (L' := [(1, _), (3, _), (6, _), (7, _)]) (.cons rfl (.cons rfl (.cons rfl (.cons rfl (.nil _))))) ?_
  refine cd_seq ?_
  refine at_freeze_blk (h := 3) (H' := [(7, _)]) 3 rfl (.cons rfl (.nil _)) rfl ?_
  refine at_freeze_blk (h := 7) (H' := []) 7 rfl (.nil _) rfl ?_
  refine cd_region ?_
  refine st (ev_assign rfl) rfl rfl rfl ?_
  refine at_own_nil 8 39 32 ?_
  refine at_heq (i := 8) (v' := .own (.slice none 0 0) 39 32 (flat [])) rfl rfl ?_
  have hu8 := H32.nil
  refine op_nil ?_
  refine ax_then ?_
  refine At.regs (L' := [(1, _), (3, _), (6, _), (7, _), (8, _)]) (.cons rfl (.cons rfl (.cons rfl (.cons rfl (.cons rfl (.nil _)))))) ?_
  refine cd_seq ?_
  refine cd_seq ?_
  refine cd_region ?_
  refine st (ev_assign rfl) rfl rfl rfl ?_
  refine op_nil ?_
  refine ax_then ?_
  refine At.regs (L' := [(1, _), (3, _), (6, _), (7, _), (8, _), (9, _)]) (.cons rfl (.cons rfl (.cons rfl (.cons rfl (.cons rfl (.cons rfl (.nil _))))))) ?_
  refine cd_block ?_
  have hdl := digits_len m
  refine cd_loop (ι := Nat × Value) (fun x => x.1 ≤ 36) (fun x => 36 - x.1)
      (fun x => [(1, .int .i64 l), (3, .pointer (some ⟨b3, 0, none⟩)), (7, .pointer (some ⟨b7, 0, none⟩)), (8, x.2), (9, .int .i64 (x.1 : Int))])
      (fun x => [(8, .own (x.2) 39 32 (flat (sign s l m x.1)))])
      (fun x => [(3, .mem b3 0 (ints .u8 s)), (7, .mem b7 0 (ints .i64 (digits m)))])
      (0, .slice none 0 0) (by omega) (.cons rfl (.cons rfl (.cons rfl (.cons rfl (.cons rfl (.nil _)))))) (.cons rfl (.nil _)) (.cons rfl (.cons rfl (.nil _))) (fun x hi => ?_)
  have hsu := sign_h32 s l m x.1
  have hsn := sign_len s l m x.1
  have e0 : 0 + (x.1 : Int).toNat * 1 = x.1 := by omega
  have hdl := digits_len m
  refine cd_seq ?_
  refine cd_seq ?_
  refine cd_region ?_
  refine st (ev_move rfl) rfl rfl rfl ?_
  refine st (ev_lss rfl rfl) rfl rfl rfl ?_
  refine op_nil ?_
  refine ax_then ?_
  refine At.regs (L' := [(1, _), (3, _), (7, _), (8, _), (9, _), (12, _), (13, _)]) (.cons rfl (.cons rfl (.cons rfl (.cons rfl (.cons rfl (.cons rfl (.cons rfl (.nil _)))))))) ?_
  refine cd_if rfl (fun hc13 => ?_) (fun hc13 => ?_)
  ·
    refine cd_skip ?_
    refine ax_then ?_
    refine At.regs (L' := [(1, _), (3, _), (7, _), (8, _), (9, _), (12, _), (13, _)]) (.cons rfl (.cons rfl (.cons rfl (.cons rfl (.cons rfl (.cons rfl (.cons rfl (.nil _)))))))) ?_
    refine cd_seq ?_
    refine cd_block ?_
    refine cd_mix hmix ?_
    refine mx (i := 0) rfl (by decide +kernel) (by decide +kernel) (by decide +kernel) rfl (fun w0 => ev_move rfl) rfl rfl (Sub.refl _) ?_
    refine mx (i := 1) rfl (by decide +kernel) (by decide +kernel) (by decide +kernel) rfl (fun w0 => ld_mem_all (h := 3) ty39 rfl rfl rfl (by first | omega | (simp only [List.length_append, List.length_cons, List.length_nil, List.length_set, List.length_replicate, List.length_take, List.length_drop, ints_length, wr_length, sha_len, way_len _ (by assumption), secret_len, digits_len] <;> omega) | rfl)) rfl rfl (Sub.refl _) ?_
    refine mx (i := 2) rfl (by decide +kernel) (by decide +kernel) (by decide +kernel) rfl (fun w0 => ev_move rfl) rfl rfl (Sub.refl _) ?_
    refine mx (i := 3) rfl (by decide +kernel) (by decide +kernel) (by decide +kernel) rfl (fun w0 => ev_move rfl) rfl rfl (Sub.refl _) ?_
    refine mx (i := 5) rfl (by decide +kernel) (by decide +kernel) (by decide +kernel) rfl (fun w0 => ev_move rfl) rfl rfl (Sub.refl _) ?_
    refine mx (i := 6) rfl (by decide +kernel) (by decide +kernel) (by decide +kernel) rfl (fun w0 => ev_move rfl) rfl rfl (Sub.refl _) ?_
    refine mx (i := 7) rfl (by decide +kernel) (by decide +kernel) (by decide +kernel) rfl (fun w0 => ev_indexAddr_arr Try.underlying115 ty3 rfl rfl (by omega) (by omega)) rfl rfl (Sub.refl _) ?_
    refine mx (i := 8) rfl (by decide +kernel) (by decide +kernel) (by decide +kernel) rfl (fun w0 => ld_mem1 (h := 7) ty3 rfl rfl rfl (Nat.zero_add _).symm (ints_get _ _ _ (by first | omega | (simp only [List.length_append, List.length_cons, List.length_nil, List.length_set, List.length_replicate, List.length_take, List.length_drop, ints_length, wr_length, sha_len, way_len _ (by assumption), secret_len, digits_len] <;> omega) | rfl))) rfl rfl (Sub.refl _) ?_
    refine mx_one (i := 4) (by decide +kernel) (Sub.refl _) ?_
    refine wo (i := 4) rfl ?_
    refine st_callv has78 rfl (fun w1 sw => rsecret_any s l x.1 w1 hl) rfl rfl ?_
    refine op_nil ?_
    refine ax_then ?_
    refine mx_one (i := 9) (by decide +kernel) (Sub.refl _) ?_
    refine wo (i := 9) rfl ?_
    refine st_callv has77 rfl (fun w1 sw => rwalk_any (secret s l x.1) x.1 0 ((digits m).getD (0 + (x.1 : Int).toNat * 1) 0) w1 (secret_len s l x.1) (by decide)) rfl rfl ?_
    have hwl := walk_len (h := secret s l x.1) x.1 0 ((digits m).getD (0 + (x.1 : Int).toNat * 1) 0) (secret_len s l x.1)
    refine op_nil ?_
    refine ax_then ?_
    refine mx_one (i := 10) (by decide +kernel) (Sub.refl _) ?_
    refine wo (i := 10) rfl ?_
    refine st_bsh1 (h := 26) Try.underlying26 ty39 rfl (by first | assumption | omega) rfl rfl (fun b26 hu26 => ?_)
    refine op_nil ?_
    refine ax_then ?_
    refine mx_one (i := 11) (by decide +kernel) (Sub.refl _) ?_
    refine wo (i := 11) rfl ?_
    refine st_appendh (h := 8) Try.underlying26 Try.underlying26 ty39 rfl rfl rfl rfl (fun w1 sw => sw.own_rd (h := 26) rfl) (by assumption) (by assumption) (by first | omega | (simp only [List.length_append, List.length_cons, List.length_nil, List.length_set, List.length_replicate, List.length_take, List.length_drop, ints_length, wr_length, sha_len, way_len _ (by assumption), secret_len, digits_len] <;> omega)) (by decide) rfl rfl (fun v27 hu27 => ?_)
    refine op_nil ?_
    refine ax_then ?_
    refine mx (i := 12) rfl (by decide +kernel) (by decide +kernel) (by decide +kernel) rfl (fun w0 => ev_assign rfl) rfl rfl (Sub.refl _) ?_
    refine mx_done (by decide +kernel) (Sub.refl _) ?_
    refine ax_block ?_
    refine ax_then ?_
    refine At.regs (L' := [(1, _), (3, _), (7, _), (8, _), (9, _), (12, _), (13, _), (16, _), (17, _), (18, _), (19, _), (20, _), (21, _), (22, _), (23, _), (24, _), (25, _), (26, _), (27, _)]) (.cons rfl (.cons rfl (.cons rfl (.cons rfl (.cons rfl (.cons rfl (.cons rfl (.cons rfl (.cons rfl (.cons rfl (.cons rfl (.cons rfl (.cons rfl (.cons rfl (.cons rfl (.cons rfl (.cons rfl (.cons rfl (.cons rfl (.nil _)))))))))))))))))))) ?_
    refine cd_region ?_
    refine st (ev_move rfl) rfl rfl rfl ?_
    refine st (ev_add64 rfl rfl (by omega) (by omega)) rfl rfl rfl ?_
    refine st (ev_assign rfl) rfl rfl rfl ?_
    refine op_nil ?_
    refine ax_heq (i := 8) (v' := .own (v27) 39 32 (flat (sign s l m (x.1 + 1)))) rfl (by rw [sign_snoc, e0]) ?_
    exact at_again ((x.1 + 1, v27)) (by show x.1 + 1 ≤ 36; omega) (by omega) (.cons rfl (.cons rfl (.cons rfl (.cons rfl (.cons rfl (.nil _)))))) (.cons rfl (.nil _)) (.cons rfl (.cons rfl (.nil _)))
  ·
    obtain ⟨j, u⟩ := x
    dsimp only at hi hc13 ⊢
    obtain rfl : j = 36 := by omega
    refine cd_exit ?_
    refine ax_then_exit ?_
    refine ax_then_exit ?_
    refine ax_block_hit ?_
    refine ax_then ?_
    refine At.regs (L' := [(8, _)]) (.cons rfl (.nil _)) ?_
    refine cd_seq ?_
    refine cd_region ?_
    refine st (ev_move rfl) rfl rfl rfl ?_
    refine st (ev_assign rfl) rfl rfl rfl ?_
    refine op_nil ?_
    refine ax_then ?_
    refine At.regs (L' := [(6, _)]) (.cons rfl (.nil _)) ?_
    refine cd_ret ?_
    refine rt_tmp (.inl rfl) Try.results54 rfl ?_
    exact fun w1 sw => ⟨_, trivial, rfl, (sw.gives (N := [(8, _)]) (.cons rfl (.nil _))).rn 0⟩
end Go.Proofs.Yteedclmcgifmpaa
namespace Go.Proofs.Yteedclmcgifmpaa
open Go Go.RowKit Fw
open Sha
open Ots
set_option linter.unusedVariables false
set_option linter.unusedSimpArgs false
theorem hashes_ext {a b : List (List Int)} (hl : a.length = b.length) (h : ∀ i, i < a.length → a.getD i [] = b.getD i []) : a = b := by
  apply List.ext_getElem hl
  intro i h1 h2
  have := h i h1
  simpa [List.getD_eq_getElem?_getD, h1, h2] using this
set_option maxRecDepth 20000 in
set_option maxHeartbeats 2000000 in
theorem hashes_any (p q : Value) (a b : List (List Int)) (w : World) (ha : H32 a) (hb : H32 b) (hal : a.length ≤ 140737488352000) (hbl : b.length ≤ 140737488352000) (h : Rd w p 32 (flat a)) (h' : Rd w q 32 (flat b)) : Calls Try.prog 16 #[p, q] w (PostV w (.bool (decide (a = b)))) := by
  refine calls_at (vs := [p, q]) (X := []) (H := []) (F := [(1, .sl q 32 (flat (b))), (0, .sl p 32 (flat (a)))]) 26 Try.func16 rfl rfl rfl ((Sat.rd0 0 h).more 1 h') ?_
  refine cd_seq ?_
  refine cd_region ?_
  refine st (ev_assign rfl) rfl rfl rfl ?_
  refine op_nil ?_
  refine ax_then ?_
  refine At.regs (L' := [(0, _), (1, _), (4, _)]) (.cons rfl (.cons rfl (.cons rfl (.nil _)))) ?_
  refine cd_seq ?_
  refine cd_seq ?_
  refine cd_region ?_
  refine st (ev_move rfl) rfl rfl rfl ?_
  refine st (ev_len_rdh (h := 0) Try.underlying26 rfl rfl (by assumption)) rfl rfl rfl ?_
  refine st (ev_move rfl) rfl rfl rfl ?_
  refine st (ev_len_rdh (h := 1) Try.underlying26 rfl rfl (by assumption)) rfl rfl rfl ?_
  refine st (ev_neq rfl rfl) rfl rfl rfl ?_
  refine op_nil ?_
  refine ax_then ?_
  refine At.regs (L' := [(0, _), (1, _), (4, _), (10, _)]) (.cons rfl (.cons rfl (.cons rfl (.cons rfl (.nil _))))) ?_
  refine cd_if rfl (fun hc10 => ?_) (fun hc10 => ?_)
  ·
    refine cd_seq ?_
    refine cd_region ?_
    refine st (ev_assign rfl) rfl rfl rfl ?_
    refine op_nil ?_
    refine ax_then ?_
    refine At.regs (L' := [(0, _), (1, _), (4, _)]) (.cons rfl (.cons rfl (.cons rfl (.nil _)))) ?_
    refine cd_ret ?_
    refine ax_then_ret ?_
    refine rt_tmp (.inl rfl) Try.results16 rfl ?_
    exact fun w1 sw => ⟨by rw [decide_eq_false (by intro e; subst e; omega)], sw.gives (.nil _)⟩
  ·
    have hab : a.length = b.length := by omega
    refine cd_skip ?_
    refine ax_then ?_
    refine At.regs (L' := [(0, _), (1, _), (4, _)]) (.cons rfl (.cons rfl (.cons rfl (.nil _)))) ?_
    refine cd_seq ?_
    refine cd_seq ?_
    refine cd_region ?_
    refine st (ev_assign rfl) rfl rfl rfl ?_
    refine op_nil ?_
    refine ax_then ?_
    refine At.regs (L' := [(0, _), (1, _), (4, _), (5, _)]) (.cons rfl (.cons rfl (.cons rfl (.cons rfl (.nil _))))) ?_
    refine cd_block ?_
    refine cd_loop (ι := Nat) (fun i => i ≤ a.length ∧ ∀ j, j < i → a.getD j [] = b.getD j []) (fun i => a.length - i)
        (fun i => [(0, p), (1, q), (5, .int .i64 (i : Int))])
        (fun i => [])
        (fun i => [(0, .sl p 32 (flat (a))), (1, .sl q 32 (flat (b)))])
        0 (⟨by omega, fun j hj => by omega⟩) (.cons rfl (.cons rfl (.cons rfl (.nil _)))) (.nil _) (.cons rfl (.cons rfl (.nil _))) (fun i hi => ?_)
    have hi1 := hi.1
    have e0 : (i : Int).toNat = i := by omega
    have ga : i < a.length → (a.getD (i : Int).toNat []).length = 32 := fun hx => ha.get (by omega)
    have gb : i < a.length → (b.getD (i : Int).toNat []).length = 32 := fun hx => hb.get (by omega)
    refine cd_seq ?_
    refine cd_seq ?_
    refine cd_region ?_
    refine st (ev_move rfl) rfl rfl rfl ?_
    refine st (ev_move rfl) rfl rfl rfl ?_
    refine st (ev_len_rdh (h := 0) Try.underlying26 rfl rfl (by assumption)) rfl rfl rfl ?_
    refine st (ev_lss rfl rfl) rfl rfl rfl ?_
    refine op_nil ?_
    refine ax_then ?_
    refine At.regs (L' := [(0, _), (1, _), (5, _), (11, _), (12, _), (13, _), (14, _)]) (.cons rfl (.cons rfl (.cons rfl (.cons rfl (.cons rfl (.cons rfl (.cons rfl (.nil _)))))))) ?_
    refine cd_if rfl (fun hc14 => ?_) (fun hc14 => ?_)
    ·
      have ga2 := ga (by omega)
      have gb2 := gb (by omega)
      refine cd_skip ?_
      refine ax_then ?_
      refine At.regs (L' := [(0, _), (1, _), (5, _), (11, _), (12, _), (13, _), (14, _)]) (.cons rfl (.cons rfl (.cons rfl (.cons rfl (.cons rfl (.cons rfl (.cons rfl (.nil _)))))))) ?_
      refine cd_seq ?_
      refine cd_block ?_
      refine cd_seq ?_
      refine cd_open hmix (by decide +kernel) ?_
      refine qt (ev_move rfl) rfl rfl rfl ?_
      refine qt (ev_move rfl) rfl rfl rfl ?_
      refine qt (ev_indexAddr_rdh (h := 0) Try.underlying26 ty39 rfl rfl rfl (by assumption) (by omega) (by omega)) rfl rfl rfl ?_
      refine qt (ld_rdh (h := 0) ty39 rfl rfl rfl (by assumption) (by omega)) rfl rfl rfl ?_
      refine qt (ev_move rfl) rfl rfl rfl ?_
      refine qt (ev_move rfl) rfl rfl rfl ?_
      refine qt (ev_indexAddr_rdh (h := 1) Try.underlying26 ty39 rfl rfl rfl (by assumption) (by omega) (by omega)) rfl rfl rfl ?_
      refine qt (ld_rdh (h := 1) ty39 rfl rfl rfl (by assumption) (by omega)) rfl rfl rfl ?_
      refine qt (ev_neq_arr Try.underlying39 ty5 eqg39 rfl rfl (by first | omega | (simp only [List.length_append, List.length_cons, List.length_nil, List.length_set, List.length_replicate, List.length_take, List.length_drop, ints_length, wr_length, sha_len, way_len _ (by assumption), secret_len, digits_len, recov_len] <;> omega) | rfl) (by first | omega | (simp only [List.length_append, List.length_cons, List.length_nil, List.length_set, List.length_replicate, List.length_take, List.length_drop, ints_length, wr_length, sha_len, way_len _ (by assumption), secret_len, digits_len, recov_len] <;> omega) | rfl)) rfl rfl rfl ?_
      refine qt_end ?_
      refine op_nil ?_
      refine ax_then ?_
      refine At.regs (L' := [(0, _), (1, _), (5, _), (11, _), (12, _), (13, _), (14, _), (17, _), (18, _), (19, _), (20, _), (21, _), (22, _), (23, _), (24, _), (25, _)]) (.cons rfl (.cons rfl (.cons rfl (.cons rfl (.cons rfl (.cons rfl (.cons rfl (.cons rfl (.cons rfl (.cons rfl (.cons rfl (.cons rfl (.cons rfl (.cons rfl (.cons rfl (.cons rfl (.nil _))))))))))))))))) ?_
      refine cd_if rfl (fun hc25 => ?_) (fun hc25 => ?_)
      ·
        have hne : a ≠ b := by intro e; subst e; exact hc25 rfl
        refine cd_seq ?_
        refine cd_region ?_
        refine st (ev_assign rfl) rfl rfl rfl ?_
        refine op_nil ?_
        refine ax_then ?_
        refine At.regs (L' := [(0, _), (1, _), (4, _), (5, _), (11, _), (12, _), (13, _), (14, _), (17, _), (18, _), (19, _), (20, _), (21, _), (22, _), (23, _), (24, _), (25, _)]) (.cons rfl (.cons rfl (.cons rfl (.cons rfl (.cons rfl (.cons rfl (.cons rfl (.cons rfl (.cons rfl (.cons rfl (.cons rfl (.cons rfl (.cons rfl (.cons rfl (.cons rfl (.cons rfl (.cons rfl (.nil _)))))))))))))))))) ?_
        refine cd_ret ?_
        refine ax_block_ret ?_
        refine ax_then_ret ?_
        refine ax_then_ret ?_
        refine ax_block_ret ?_
        refine ax_then_ret ?_
        refine rt_tmp (.inl rfl) Try.results16 rfl ?_
        exact fun w1 sw => ⟨by rw [decide_eq_false hne], sw.gives (.nil _)⟩
      ·
        refine cd_skip ?_
        refine ax_block ?_
        refine ax_then ?_
        refine At.regs (L' := [(0, _), (1, _), (5, _), (11, _), (12, _), (13, _), (14, _), (17, _), (18, _), (19, _), (20, _), (21, _), (22, _), (23, _), (24, _), (25, _)]) (.cons rfl (.cons rfl (.cons rfl (.cons rfl (.cons rfl (.cons rfl (.cons rfl (.cons rfl (.cons rfl (.cons rfl (.cons rfl (.cons rfl (.cons rfl (.cons rfl (.cons rfl (.cons rfl (.nil _))))))))))))))))) ?_
        refine cd_region ?_
        refine st (ev_move rfl) rfl rfl rfl ?_
        refine st (ev_add64 rfl rfl (by omega) (by omega)) rfl rfl rfl ?_
        refine st (ev_assign rfl) rfl rfl rfl ?_
        refine op_nil ?_
        exact at_again (i + 1) (⟨by omega, fun j hj => (Nat.lt_succ_iff_lt_or_eq.1 hj).elim (hi.2 j) (fun e => by subst e; simpa using hc25)⟩) (by omega) (.cons rfl (.cons rfl (.cons rfl (.nil _)))) (.nil _) (.cons rfl (.cons rfl (.nil _)))
    ·
      obtain rfl : i = a.length := by omega
      refine cd_exit ?_
      refine ax_then_exit ?_
      refine ax_then_exit ?_
      refine ax_block_hit ?_
      refine ax_then ?_
      refine At.regs (L' := []) (.nil _) ?_
      refine cd_seq ?_
      refine cd_region ?_
      refine st (ev_assign rfl) rfl rfl rfl ?_
      refine op_nil ?_
      refine ax_then ?_
      refine At.regs (L' := [(4, _)]) (.cons rfl (.nil _)) ?_
      refine cd_ret ?_
      refine rt_tmp (.inl rfl) Try.results16 rfl ?_
      exact fun w1 sw => ⟨by rw [decide_eq_true (hashes_ext hab hi.2)], sw.gives (.nil _)⟩
end Go.Proofs.Yteedclmcgifmpaa
namespace Go.Proofs.Yteedclmcgifmpaa
open Go Go.RowKit Fw
open Sha
open Ots
set_option linter.unusedVariables false
set_option linter.unusedSimpArgs false
end Go.Proofs.Yteedclmcgifmpaa

namespace Go.Proofs.Yteedclmcgifmpaa.Ky
open Go Fw Sha Ots Mk Go.Proofs.Yteedclmcgifmpaa
set_option linter.unusedSimpArgs false
set_option linter.unusedVariables false
def leaves (s : List Int) (n : Nat) : List (List Int) := (List.range n).map fun (l : Nat) => pub s l
theorem leaves_snoc (s : List Int) (n : Nat) : leaves s (n + 1) = leaves s n ++ [pub s n] := by simp [leaves, List.range_succ]
theorem leaves_len (s : List Int) (n : Nat) : (leaves s n).length = n := by simp [leaves]
theorem leaves_h32 (s : List Int) (n : Nat) : H32 (leaves s n) := fun h hh => by
  simp only [leaves, List.mem_map] at hh
  obtain ⟨c, _, rfl⟩ := hh
  exact sha_len _
theorem leaves_get (s : List Int) {n i : Nat} (hi : i < n) : (leaves s n).getD i [] = pub s i := by
  rw [leaves, List.getD_eq_getElem?_getD, List.getElem?_map, List.getElem?_range hi]
  rfl
def named (r : List Int) : List Int := sha ([4] ++ r)
theorem named_len (r : List Int) : (named r).length = 32 := sha_len _
def keyPub (s : List Int) : List Int := named (root (leaves s 16))
theorem keyPub_len (s : List Int) : (keyPub s).length = 32 := sha_len _
def clamp (u : Int) : Int := min (max u 0) 16
theorem clamp_range (u : Int) : 0 ≤ clamp u ∧ clamp u ≤ 16 := by unfold clamp; omega
/-- each leaf's way leads to the key's name -/
theorem way_up (s : List Int) {n : Nat} (hn : n < 16) : (path (leaves s 16) n).length = 4 ∧ named (up (pub s n) n (path (leaves s 16) n)) = keyPub s := by
  have h := up_root 4 (leaves s 16) n (leaves_len s 16) hn
  rw [leaves_get s hn] at h
  exact ⟨h.1, by rw [h.2]; rfl⟩
/-- the cells of a key: its seed, what it holds, how many are used -/
def cells (s : List Int) (v : Value) (n : Int) : List Value := ints .u8 s ++ [v, .int .i64 n]
theorem cells_len {s : List Int} (hl : s.length = 32) (v : Value) (n : Int) : (cells s v n).length = 34 := by simp [cells, hl, ints_length]
theorem cells_seed {s : List Int} (hl : s.length = 32) (v : Value) (n : Int) : ((cells s v n).drop 0).take 32 = ints .u8 s := by
  rw [List.drop_zero, cells, List.take_left' (by rw [ints_length, hl])]
theorem cells_32 {s : List Int} (hl : s.length = 32) (v : Value) (n : Int) : (cells s v n)[32]? = some v := by
  rw [cells, List.getElem?_append_right (by rw [ints_length, hl]; decide), ints_length, hl]; rfl
theorem cells_33 {s : List Int} (hl : s.length = 32) (v : Value) (n : Int) : (cells s v n)[33]? = some (.int .i64 n) := by
  rw [cells, List.getElem?_append_right (by rw [ints_length, hl]; decide), ints_length, hl]; rfl
theorem cells_set32 {s : List Int} (hl : s.length = 32) (v v' : Value) (n : Int) : (cells s v n).set 32 v' = cells s v' n := by
  rw [cells, List.set_append_right _ _ (by rw [ints_length, hl]; decide), ints_length, hl]; rfl
theorem cells_set33 {s : List Int} (hl : s.length = 32) (v : Value) (n n' : Int) : (cells s v n).set 33 (.int .i64 n') = cells s v n' := by
  rw [cells, List.set_append_right _ _ (by rw [ints_length, hl]; decide), ints_length, hl]; rfl
theorem key_new {s : List Int} (hl : s.length = 32) (n : Int) : wr (wr (ints .u8 (List.replicate 32 0) ++ [.slice none 0 0, .int .i64 0]) 0 (ints .u8 s)) 33 [.int .i64 n] = cells s (.slice none 0 0) n := by
  have h1 : wr (ints .u8 (List.replicate 32 0) ++ [Value.slice none 0 0, .int .i64 0]) 0 (ints .u8 s) = ints .u8 s ++ [.slice none 0 0, .int .i64 0] := by
    rw [wr, List.take_zero, List.nil_append, ints_length, hl, Nat.zero_add, List.drop_left' (by simp [ints_length])]
  rw [h1, wr_one (by simp [hl, ints_length])]
  exact cells_set33 hl _ _ _
/-- the reference's cells of a key -/
def rcells (s : List Int) (v : Value) (p : List Int) (n : Int) : List Value := ints .u8 s ++ ([v] ++ (ints .u8 p ++ [.int .i64 n]))
theorem rcells_len {s p : List Int} (hl : s.length = 32) (hp : p.length = 32) (v : Value) (n : Int) : (rcells s v p n).length = 66 := by simp [rcells, hl, hp, ints_length]
theorem rcells_seed {s p : List Int} (hl : s.length = 32) (v : Value) (n : Int) : ((rcells s v p n).drop 0).take 32 = ints .u8 s := by
  rw [List.drop_zero, rcells, List.take_left' (by rw [ints_length, hl])]
theorem rcells_32 {s p : List Int} (hl : s.length = 32) (v : Value) (n : Int) : (rcells s v p n)[32]? = some v := by
  rw [rcells, List.getElem?_append_right (by rw [ints_length, hl]; decide), ints_length, hl]; rfl
theorem rcells_pub {s p : List Int} (hl : s.length = 32) (hp : p.length = 32) (v : Value) (n : Int) : ((rcells s v p n).drop 33).take 32 = ints .u8 p := by
  rw [rcells, List.drop_append, List.drop_eq_nil_of_le (by rw [ints_length, hl]; decide), ints_length, hl, List.nil_append, show 33 - 32 = 1 from rfl, List.singleton_append, List.drop_succ_cons, List.drop_zero, List.take_left' (by rw [ints_length, hp])]
theorem rcells_65 {s p : List Int} (hl : s.length = 32) (hp : p.length = 32) (v : Value) (n : Int) : (rcells s v p n)[65]? = some (.int .i64 n) := by
  rw [rcells, List.getElem?_append_right (by rw [ints_length, hl]; decide), ints_length, hl, List.getElem?_append_right (by simp), List.getElem?_append_right (by simp [ints_length, hp]), ints_length, hp]; rfl
theorem rcells_set32 {s p : List Int} (hl : s.length = 32) (v v' : Value) (n : Int) : (rcells s v p n).set 32 v' = rcells s v' p n := by
  rw [rcells, List.set_append_right _ _ (by rw [ints_length, hl]; decide), ints_length, hl]; rfl
theorem rcells_set65 {s p : List Int} (hl : s.length = 32) (hp : p.length = 32) (v : Value) (n n' : Int) : (rcells s v p n).set 65 (.int .i64 n') = rcells s v p n' := by
  rw [rcells, List.set_append_right _ _ (by rw [ints_length, hl]; decide), ints_length, hl, List.set_append_right _ _ (by simp), List.set_append_right _ _ (by simp [ints_length, hp]), ints_length, hp]; rfl
theorem rcells_wr {s p q : List Int} (hl : s.length = 32) (hp : p.length = 32) (hq : q.length = 32) (v : Value) (n : Int) : wr (rcells s v p n) 33 (ints .u8 q) = rcells s v q n := by
  have h1 : (ints .u8 s ++ [v]).length = 33 := by simp [hl, ints_length]
  have e : ∀ r, rcells s v r n = (ints .u8 s ++ [v]) ++ (ints .u8 r ++ [.int .i64 n]) := fun r => by simp [rcells]
  rw [e p, e q, wr, List.take_left' h1, ints_length, hq, List.drop_append, List.drop_eq_nil_of_le (by omega), h1, List.nil_append, List.drop_left' (by rw [ints_length, hp])]
  simp
end Go.Proofs.Yteedclmcgifmpaa.Ky

namespace Go.Proofs.Yteedclmcgifmpaa.Fw
open Go Go.RowKit Go.Proofs.Yteedclmcgifmpaa
set_option linter.unusedSimpArgs false
set_option linter.unusedVariables false
theorem lk_zip : ∀ {ks : List Nat} {es : List Ent} {h : Nat} {e : Ent}, lk (ks.zip es) h = some e → es[ks.idxOf h]? = some e ∧ h ∈ ks
  | [], _, _, _, hh => by simp [lk] at hh
  | _ :: _, [], _, _, hh => by simp [lk] at hh
  | k :: ks, x :: es, h, e, hh => by
    by_cases e1 : k = h
    · subst e1
      rw [List.zip_cons_cons, lk_cons_same] at hh
      simp [List.idxOf_cons, hh]
    · rw [List.zip_cons_cons, lk_cons_ne e1] at hh
      obtain ⟨h1, h2⟩ := lk_zip (es := es) hh
      have hb : (k == h) = false := by simpa using e1
      refine ⟨?_, List.mem_cons_of_mem _ h2⟩
      rw [List.idxOf_cons, hb]
      simpa using h1
theorem lk_range {es : List Ent} {n i : Nat} {e : Ent} (hi : i < n) (h : es[i]? = some e) : lk ((List.range n).zip es) i = some e := by
  have key : ∀ (m s : Nat) (es : List Ent), i < s + m → s ≤ i → es[i - s]? = some e → lk ((List.range' s m).zip es) i = some e := by
    intro m
    induction m with
    | zero => intro s es h1 h2; omega
    | succ m ih =>
      intro s es h1 h2 h3
      cases es with
      | nil => simp at h3
      | cons x es =>
        rw [List.range'_succ, List.zip_cons_cons]
        by_cases e1 : s = i
        · subst e1
          rw [lk_cons_same]
          simpa using h3
        · rw [lk_cons_ne e1]
          refine ih (s + 1) es (by omega) (by omega) ?_
          have : i - s = (i - (s + 1)) + 1 := by omega
          rw [this] at h3
          simpa using h3
  have := key n 0 es (by omega) (Nat.zero_le _) (by simpa using h)
  rwa [← List.range_eq_range'] at this
/-- Nothing was written: a block is as it was; what is handed back besides is nil. -/
theorem Gives.still {w w' : World} {b : Nat} {o : Obj} {es : List Ent} {n : Nat} (hb : w.heap[b]? = some o) (g : Gives w w' [] []) (he : ∀ (i : Nat) (e : Ent), es[i]? = some e → (i = 0 ∧ e = .blk b o) ∨ (e.ids = [] ∧ e.holds w')) : Gives w w' [b] ((List.range n).zip es) := by
  have key : ∀ h e, lk ((List.range n).zip es) h = some e → es[h]? = some e := fun h e hh => by
    obtain ⟨h1, h2⟩ := lk_zip hh
    have h4 := List.getElem_idxOf (List.idxOf_lt_length_of_mem h2)
    rw [List.getElem_range] at h4
    rwa [h4] at h1
  have hlt : b < w.heap.size := (Array.getElem?_eq_some_iff.1 hb).1
  refine ⟨g.tape, g.os, g.output, g.size, fun b' h1 _ => g.old b' h1 (by simp), fun h e hh => ?_, fun h e hh b' hb' => ?_, fun h e h' e' hh hh' hne b' hb' => ?_⟩
  · rcases he h e (key h e hh) with ⟨_, rfl⟩ | ⟨_, h2⟩
    · show w'.heap[b]? = some o
      rw [g.old b hlt (by simp)]
      exact hb
    · exact h2
  · rcases he h e (key h e hh) with ⟨_, rfl⟩ | ⟨h2, _⟩
    · simp only [Ent.ids, List.mem_singleton] at hb'
      exact .inr (by simp [hb'])
    · rw [h2] at hb'; cases hb'
  · rcases he h e (key h e hh) with ⟨h1, rfl⟩ | ⟨h2, _⟩
    · rcases he h' e' (key h' e' hh') with ⟨h1', rfl⟩ | ⟨h2', _⟩
      · exact absurd (h1.trans h1'.symm) hne
      · rw [h2']; simp
    · rw [h2] at hb'; cases hb'
theorem own_nil0 {w : World} (T sz : Nat) : (Ent.own (.slice none 0 0) T sz []).ids = [] ∧ (Ent.own (.slice none 0 0) T sz []).holds w := ⟨rfl, .inl ⟨rfl, rfl⟩⟩
end Go.Proofs.Yteedclmcgifmpaa.Fw

namespace Go.Proofs.Yteedclmcgifmpaa.Fw
open Go Go.RowKit Go.Proofs.Yteedclmcgifmpaa
theorem Gives.still3 {w w' : World} {b : Nat} {o : Obj} {T1 T2 s1 s2 : Nat} (hb : w.heap[b]? = some o) (g : Gives w w' [] []) :
    Gives w w' [b] [(0, .blk b o), (1, .own (.slice none 0 0) T1 s1 []), (2, .own (.slice none 0 0) T2 s2 [])] :=
  Gives.still (n := 3) (es := [.blk b o, .own (.slice none 0 0) T1 s1 [], .own (.slice none 0 0) T2 s2 []]) hb g (fun i e hi => by
    match i, hi with
    | 0, hi => exact .inl ⟨rfl, (Option.some.inj hi).symm⟩
    | 1, hi => cases hi; exact .inr (own_nil0 _ _)
    | 2, hi => cases hi; exact .inr (own_nil0 _ _)
    | i + 3, hi => simp at hi)
end Go.Proofs.Yteedclmcgifmpaa.Fw
namespace Go.Proofs.Yteedclmcgifmpaa.Ks
open Go Fw Sha Ots Mk Go.Proofs.Yteedclmcgifmpaa
def leaf (n : Nat) : Int := if n < 16 then (n : Int) else 0
def err (n : Nat) : Int := if n < 16 then 0 else 3
def nxt (n : Nat) : Nat := if n < 16 then n + 1 else n
def cs (s : List Int) (n : Nat) (m : List Int) : List (List Int) := if n < 16 then sign s n m 36 else []
def ps (s : List Int) (n : Nat) : List (List Int) := if n < 16 then path (Ky.leaves s 16) n else []
theorem nxt_le {n : Nat} (h : n ≤ 16) : nxt n ≤ 16 := by unfold nxt; split <;> omega
theorem cs_h32 (s : List Int) (n : Nat) (m : List Int) : H32 (cs s n m) := by
  unfold cs
  split
  · exact sign_h32 _ _ _ _
  · exact H32.nil
theorem ps_h32 (s : List Int) (n : Nat) : H32 (ps s n) := by
  unfold ps
  split
  · exact path_h32 _ _ _ (Nat.le_refl _) (Ky.leaves_h32 _ _)
  · exact H32.nil
theorem cs_len (s : List Int) (n : Nat) (m : List Int) : (cs s n m).length ≤ 36 := by
  unfold cs
  split
  · exact Nat.le_of_eq (sign_len _ _ _ _)
  · exact Nat.zero_le _
theorem ps_len (s : List Int) (n : Nat) : (ps s n).length ≤ 4 := by
  unfold ps
  split
  · next h => exact Nat.le_of_eq (Ky.way_up s h).1
  · exact Nat.zero_le _
def rowsB (vs : List Value) (ms : List (List Int)) : List (Value × Nat × List Value) := (vs.zip ms).map fun x => (x.1, 1, ints .u8 x.2)
theorem rowsB_mem {vs : List Value} {ms : List (List Int)} (hl : ms.length = vs.length) {i : Nat} (h : i < vs.length) : (vs.getD i (.slice none 0 0), 1, ints .u8 (ms.getD i [])) ∈ rowsB vs ms := by
  have h2 : i < (vs.zip ms).length := by rw [List.length_zip]; omega
  have e : (vs.zip ms)[i] = (vs.getD i (.slice none 0 0), ms.getD i []) := by
    rw [List.getElem_zip, List.getD_eq_getElem?_getD, List.getD_eq_getElem?_getD, List.getElem?_eq_getElem h, List.getElem?_eq_getElem (by omega)]
    rfl
  refine List.mem_map.2 ⟨(vs.zip ms)[i], List.getElem_mem h2, ?_⟩
  rw [e]
theorem rowsB_rd {w : World} {vs : List Value} {ms : List (List Int)} (hr : ∀ (i : Nat) v m, vs[i]? = some v → ms[i]? = some m → Rd w v 1 (ints .u8 m)) : ∀ x, x ∈ rowsB vs ms → Rd w x.1 x.2.1 x.2.2 := fun x hx => by
  obtain ⟨y, hy, rfl⟩ := List.mem_map.1 hx
  obtain ⟨i, hi, rfl⟩ := List.getElem_of_mem hy
  rw [List.length_zip] at hi
  rw [List.getElem_zip]
  exact hr i _ _ (List.getElem?_eq_getElem (by omega)) (List.getElem?_eq_getElem (by omega))
theorem getD_some {vs : List Value} {i : Nat} (h : i < vs.length) : vs[(i : Int).toNat * 1]? = some (vs.getD i (.slice none 0 0)) := by
  rw [Int.toNat_natCast, Nat.mul_one, List.getD_eq_getElem?_getD, List.getElem?_eq_getElem h]; rfl
end Go.Proofs.Yteedclmcgifmpaa.Ks

namespace Go.Proofs.Yteedclmcgifmpaa
open Go Go.RowKit Fw
open Sha
open Mk
set_option linter.unusedVariables false
set_option linter.unusedSimpArgs false
def len8 (n : Nat) : Nat := if n = 0 then 0 else Nat.log2 n + 1
theorem len8_at {s : ByteArray} (h : ((List.range 256).all fun n => s[n]? == some (UInt8.ofNat (len8 n))) = true) {n : Nat} (hn : n < 256) : s[n]? = some (UInt8.ofNat (len8 n)) := by
  have := List.all_eq_true.1 h n (List.mem_range.2 hn)
  exact eq_of_beq this
theorem len8_le : ∀ n, n < 256 → len8 n ≤ 8 := by decide +kernel
theorem ishl1 : ∀ j : Nat, j < 9 → ishl .i64 1 (j : Int) = ((2 ^ j : Nat) : Int) := by decide +kernel
theorem half_of {n j : Nat} (h1 : 2 ^ j < n) (h2 : ¬ 2 * 2 ^ j < n) : half n = 2 ^ j := by
  rw [half, (Nat.log2_eq_iff (k := j) (by have := Nat.pow_pos (n := j) (show 0 < 2 by decide); omega)).2 ⟨by omega, by rw [Nat.pow_succ]; omega⟩]
theorem takeh {w : World} {v : Value} {hs : List (List Int)} {i : Nat} (h : Rd w v 32 (flat hs)) (hu : H32 hs) (hi : i ≤ hs.length) : Rd w (cutAt 32 v 0 i) 32 (flat (hs.take i)) := by
  have := h.cuth (lo := 0) (hi := i) hu (by omega) hi
  simpa using this
theorem droph {w : World} {v : Value} {hs : List (List Int)} {i : Nat} (h : Rd w v 32 (flat hs)) (hu : H32 hs) (hi : i ≤ hs.length) : Rd w (cutAt 32 v i hs.length) 32 (flat (hs.drop i)) := by
  have := h.cuth (lo := i) (hi := hs.length) hu hi (Nat.le_refl _)
  rwa [List.take_of_length_le (by rw [List.length_drop]; exact Nat.le_refl _)] at this
theorem root_small {cs : List (List Int)} (h : cs.length = 1) : root cs = cs.getD 0 [] := by
  match cs, h with
  | [a], _ => exact root_one a
set_option maxRecDepth 20000 in
set_option maxHeartbeats 1000000 in
theorem len64_any (n : Nat) (w : World) (hn : n < 256) : Calls Try.prog 111 #[.int .u64 (n : Int)] w (PostV w (.int .i64 (len8 n : Int))) := by
  have hl8 := len8_le n hn
  have hw : IntKind.u8.wrap (n : Int) = (n : Int) := by simp [IntKind.wrap, IntKind.bits, IntKind.signed]; omega
  have hub : ((UInt8.ofNat (len8 n)).toNat : Int) = (len8 n : Int) := by rw [UInt8.toNat_ofNat']; omega
  refine calls_at (vs := [.int .u64 (n : Int)]) (X := []) (H := []) (F := []) 25 Try.func111 rfl rfl rfl (Sat.start0 w) ?_
  refine cd_seq ?_
  refine cd_region ?_
  refine st (ev_assign rfl) rfl rfl rfl ?_
  refine op_nil ?_
  refine ax_then ?_
  refine At.regs (L' := [(0, _), (2, _)]) (.cons rfl (.cons rfl (.nil _))) ?_
  refine cd_seq ?_
  refine cd_seq ?_
  refine cd_region ?_
  refine st (ev_move rfl) rfl rfl rfl ?_
  refine st (ev_geq rfl rfl) rfl rfl rfl ?_
  refine op_nil ?_
  refine ax_then ?_
  refine At.regs (L' := [(0, _), (2, _), (4, _)]) (.cons rfl (.cons rfl (.cons rfl (.nil _)))) ?_
  refine cd_if_f rfl (by omega) ?_
  refine cd_skip ?_
  refine ax_then ?_
  refine At.regs (L' := [(0, _), (2, _)]) (.cons rfl (.cons rfl (.nil _))) ?_
  refine cd_seq ?_
  refine cd_seq ?_
  refine cd_region ?_
  refine st (ev_move rfl) rfl rfl rfl ?_
  refine st (ev_geq rfl rfl) rfl rfl rfl ?_
  refine op_nil ?_
  refine ax_then ?_
  refine At.regs (L' := [(0, _), (2, _), (8, _)]) (.cons rfl (.cons rfl (.cons rfl (.nil _)))) ?_
  refine cd_if_f rfl (by omega) ?_
  refine cd_skip ?_
  refine ax_then ?_
  refine At.regs (L' := [(0, _), (2, _)]) (.cons rfl (.cons rfl (.nil _))) ?_
  refine cd_seq ?_
  refine cd_seq ?_
  refine cd_region ?_
  refine st (ev_move rfl) rfl rfl rfl ?_
  refine st (ev_geq rfl rfl) rfl rfl rfl ?_
  refine op_nil ?_
  refine ax_then ?_
  refine At.regs (L' := [(0, _), (2, _), (14, _)]) (.cons rfl (.cons rfl (.cons rfl (.nil _)))) ?_
  refine cd_if_f rfl (by omega) ?_
  refine cd_skip ?_
  refine ax_then ?_
  refine At.regs (L' := [(0, _), (2, _)]) (.cons rfl (.cons rfl (.nil _))) ?_
  refine cd_seq ?_
  refine cd_region ?_
  refine st (ev_move rfl) rfl rfl rfl ?_
  refine st (ev_move rfl) rfl rfl rfl ?_
  refine st (ev_conv Try.underlying121 Try.underlying5 rfl) rfl rfl rfl ?_
  refine at_eq (i := 21) (v' := .int .u8 (n : Int)) rfl (by rw [hw]) ?_
  refine st (ev_index_str Try.underlying9 rfl rfl (by omega) (by rw [Int.toNat_natCast]; exact len8_at (by decide +kernel) hn)) rfl rfl rfl ?_
  refine at_eq (i := 22) (v' := .int .u8 (len8 n : Int)) rfl (by rw [hub]) ?_
  refine st (ev_conv64 Try.underlying5 Try.underlying3 rfl (by omega) (by omega)) rfl rfl rfl ?_
  refine st (ev_add64 rfl rfl (by omega) (by omega)) rfl rfl rfl ?_
  refine at_eq (i := 24) (v' := .int .i64 (len8 n : Int)) rfl (by rw [Int.zero_add]) ?_
  refine st (ev_assign rfl) rfl rfl rfl ?_
  refine op_nil ?_
  refine ax_then ?_
  refine At.regs (L' := [(2, _)]) (.cons rfl (.nil _)) ?_
  refine cd_ret ?_
  refine rt_tmp (.inl rfl) Try.results111 rfl ?_
  exact fun w1 sw => ⟨rfl, sw.gives (.nil _)⟩
set_option maxRecDepth 20000 in
set_option maxHeartbeats 1000000 in
theorem len_any (n : Nat) (w : World) (hn : n < 256) : Calls Try.prog 102 #[.int .u64 (n : Int)] w (PostV w (.int .i64 (len8 n : Int))) := by
  refine calls_at (vs := [.int .u64 (n : Int)]) (X := []) (H := []) (F := []) 8 Try.func102 rfl rfl rfl (Sat.start0 w) ?_
  refine cd_seq ?_
  refine cd_region ?_
  refine st (ev_assign rfl) rfl rfl rfl ?_
  refine op_nil ?_
  refine ax_then ?_
  refine At.regs (L' := [(0, _), (2, _)]) (.cons rfl (.cons rfl (.nil _))) ?_
  refine cd_seq ?_
  refine cd_false rfl ?_
  refine cd_skip ?_
  refine ax_then ?_
  refine At.regs (L' := [(0, _), (2, _)]) (.cons rfl (.cons rfl (.nil _))) ?_
  refine cd_seq ?_
  refine cd_region ?_
  refine st (ev_move rfl) rfl rfl rfl ?_
  refine st_callv has111 rfl (fun w1 sw => len64_any n w1 hn) rfl rfl ?_
  refine st (ev_assign rfl) rfl rfl rfl ?_
  refine op_nil ?_
  refine ax_then ?_
  refine At.regs (L' := [(2, _)]) (.cons rfl (.nil _)) ?_
  refine cd_ret ?_
  refine rt_tmp (.inl rfl) Try.results102 rfl ?_
  exact fun w1 sw => ⟨rfl, sw.gives (.nil _)⟩
set_option maxRecDepth 20000 in
set_option maxHeartbeats 1000000 in
theorem half_any (n : Nat) (w : World) (h2 : 2 ≤ n) (hn : n ≤ 256) : Calls Try.prog 84 #[.int .i64 (n : Int)] w (PostV w (.int .i64 (half n : Int))) := by
  have hl8 := len8_le (n - 1) (by omega)
  have hl1 : len8 (n - 1) = Nat.log2 (n - 1) + 1 := by rw [len8, if_neg (by omega)]
  refine calls_at (vs := [.int .i64 (n : Int)]) (X := []) (H := []) (F := []) 9 Try.func84 rfl rfl rfl (Sat.start0 w) ?_
  refine cd_seq ?_
  refine cd_region ?_
  refine st (ev_assign rfl) rfl rfl rfl ?_
  refine op_nil ?_
  refine ax_then ?_
  refine At.regs (L' := [(0, _), (2, _)]) (.cons rfl (.cons rfl (.nil _))) ?_
  refine cd_seq ?_
  refine cd_region ?_
  refine st (ev_move rfl) rfl rfl rfl ?_
  refine st (ev_sub64 rfl rfl (by omega) (by omega)) rfl rfl rfl ?_
  refine st (ev_convu64 Try.underlying3 Try.underlying37 rfl (by omega) (by omega)) rfl rfl rfl ?_
  refine at_eq (i := 5) (v' := .int .u64 ((n - 1 : Nat) : Int)) rfl (by congr 1; omega) ?_
  refine st_callv has102 rfl (fun w1 sw => len_any (n - 1) w1 (by omega)) rfl rfl ?_
  refine st (ev_sub64 rfl rfl (by omega) (by omega)) rfl rfl rfl ?_
  refine at_eq (i := 7) (v' := .int .i64 (Nat.log2 (n - 1) : Nat)) rfl (by congr 1; omega) ?_
  refine st (ev_shl rfl rfl (by omega)) rfl rfl rfl ?_
  refine at_eq (i := 8) (v' := .int .i64 (half n : Int)) rfl (by rw [ishl1 _ (by omega)]; rfl) ?_
  refine st (ev_assign rfl) rfl rfl rfl ?_
  refine op_nil ?_
  refine ax_then ?_
  refine At.regs (L' := [(2, _)]) (.cons rfl (.nil _)) ?_
  refine cd_ret ?_
  refine rt_tmp (.inl rfl) Try.results84 rfl ?_
  exact fun w1 sw => ⟨rfl, sw.gives (.nil _)⟩
set_option maxRecDepth 20000 in
set_option maxHeartbeats 1000000 in
theorem rhalf_any (n : Nat) (w : World) (h2 : 2 ≤ n) (hn : n ≤ 1000000000000) : Calls Try.prog 81 #[.int .i64 (n : Int)] w (PostV w (.int .i64 (half n : Int))) := by
  refine calls_at (vs := [.int .i64 (n : Int)]) (X := []) (H := []) (F := []) 11 Try.func81 rfl rfl rfl (Sat.start0 w) ?_
  refine cd_seq ?_
  refine cd_region ?_
  refine st (ev_assign rfl) rfl rfl rfl ?_
  refine op_nil ?_
  refine ax_then ?_
  refine At.regs (L' := [(0, _), (2, _)]) (.cons rfl (.cons rfl (.nil _))) ?_
  refine cd_seq ?_
  refine cd_region ?_
  refine st (ev_assign rfl) rfl rfl rfl ?_
  refine op_nil ?_
  refine ax_then ?_
  refine At.regs (L' := [(0, _), (2, _), (3, _)]) (.cons rfl (.cons rfl (.cons rfl (.nil _)))) ?_
  refine cd_seq ?_
  refine cd_block ?_
  refine cd_loop (ι := Nat) (fun j => 2 ^ j < n) (fun j => n - 2 ^ j)
      (fun j => [(0, .int .i64 (n : Int)), (3, .int .i64 ((2 ^ j : Nat) : Int))])
      (fun j => [])
      (fun j => [])
      0 (by omega) (.cons rfl (.cons rfl (.nil _))) (.nil _) (.nil _) (fun j hi => ?_)
  have hp : 0 < 2 ^ j := Nat.pow_pos (by decide)
  refine cd_seq ?_
  refine cd_seq ?_
  refine cd_region ?_
  refine st (ev_move rfl) rfl rfl rfl ?_
  refine st (ev_mul64 rfl rfl (by omega) (by omega)) rfl rfl rfl ?_
  refine st (ev_move rfl) rfl rfl rfl ?_
  refine st (ev_lss rfl rfl) rfl rfl rfl ?_
  refine op_nil ?_
  refine ax_then ?_
  refine At.regs (L' := [(0, _), (3, _), (4, _), (5, _), (6, _), (7, _)]) (.cons rfl (.cons rfl (.cons rfl (.cons rfl (.cons rfl (.cons rfl (.nil _))))))) ?_
  refine cd_if rfl (fun hc7 => ?_) (fun hc7 => ?_)
  ·
    refine cd_skip ?_
    refine ax_then ?_
    refine At.regs (L' := [(0, _), (3, _), (4, _), (5, _), (6, _), (7, _)]) (.cons rfl (.cons rfl (.cons rfl (.cons rfl (.cons rfl (.cons rfl (.nil _))))))) ?_
    refine cd_block ?_
    refine cd_region ?_
    refine st (ev_move rfl) rfl rfl rfl ?_
    refine st (ev_mul64 rfl rfl (by omega) (by omega)) rfl rfl rfl ?_
    refine st (ev_assign rfl) rfl rfl rfl ?_
    refine op_nil ?_
    refine ax_block ?_
    refine ax_eq (i := 3) (v' := .int .i64 ((2 ^ (j + 1) : Nat) : Int)) rfl (by congr 1; rw [Nat.pow_succ]; omega) ?_
    exact at_again (j + 1) (by rw [Nat.pow_succ]; omega) (by rw [Nat.pow_succ]; omega) (.cons rfl (.cons rfl (.nil _))) (.nil _) (.nil _)
  ·
    refine at_eq (i := 3) (v' := .int .i64 (half n : Int)) rfl (by rw [half_of hi (by omega)]) ?_
    refine cd_exit ?_
    refine ax_then_exit ?_
    refine ax_then_exit ?_
    refine ax_block_hit ?_
    refine ax_then ?_
    refine At.regs (L' := [(3, _)]) (.cons rfl (.nil _)) ?_
    refine cd_seq ?_
    refine cd_region ?_
    refine st (ev_move rfl) rfl rfl rfl ?_
    refine st (ev_assign rfl) rfl rfl rfl ?_
    refine op_nil ?_
    refine ax_then ?_
    refine At.regs (L' := [(2, _)]) (.cons rfl (.nil _)) ?_
    refine cd_ret ?_
    refine rt_tmp (.inl rfl) Try.results81 rfl ?_
    exact fun w1 sw => ⟨rfl, sw.gives (.nil _)⟩
set_option maxRecDepth 20000 in
set_option maxHeartbeats 1000000 in
theorem node_any (a b : List Int) (w : World) (ha : a.length = 32) (hb : b.length = 32) : Calls Try.prog 85 #[.agg (ints .u8 (a)).toArray, .agg (ints .u8 (b)).toArray] w (PostV w (.agg (ints .u8 (node a b)).toArray)) := by
  refine calls_at (vs := [.agg (ints .u8 (a)).toArray, .agg (ints .u8 (b)).toArray]) (X := []) (H := []) (F := []) 11 Try.func85 rfl rfl rfl (Sat.start0 w) ?_
  refine cd_seq ?_
  refine cd_region ?_
  refine st_box (h := 2) rfl rfl rfl rfl (fun b2 => ?_)
  refine st_box (h := 3) rfl rfl rfl rfl (fun b3 => ?_)
  refine st_alloc (h := 4) ty39 rfl rfl rfl (fun b4 => ?_)
  refine op_nil ?_
  refine ax_then ?_
  refine At.regs (L' := [(2, _), (3, _), (4, _)]) (.cons rfl (.cons rfl (.cons rfl (.nil _)))) ?_
  refine cd_seq ?_
  refine cd_mix hmix ?_
  refine mx (i := 1) rfl (by decide +kernel) (by decide +kernel) (by decide +kernel) rfl (fun w0 => ev_slice_arr_all Try.underlying39 ty5 rfl) rfl rfl (Sub.refl _) ?_
  refine mx (i := 3) rfl (by decide +kernel) (by decide +kernel) (by decide +kernel) rfl (fun w0 => ev_slice_arr_all Try.underlying39 ty5 rfl) rfl rfl (Sub.refl _) ?_
  refine mx_one (i := 0) (by decide +kernel) (Sub.refl _) ?_
  refine wo (i := 0) rfl ?_
  refine st_bsi (h := 5) (xs := [_]) Try.underlying22 ty5 (by decide) rfl rfl (by decide) rfl rfl (fun b5 => ?_)
  refine op_nil ?_
  refine ax_then ?_
  refine mx_one (i := 2) (by decide +kernel) (Sub.refl _) ?_
  refine wo (i := 2) rfl ?_
  refine st_appendi (h := 5) Try.underlying22 Try.underlying22 ty5 rfl rfl rfl rfl (fun w1 sw => rd_blk_all sw (h := 2) rfl (by first | omega | (simp only [List.length_append, List.length_cons, List.length_nil, List.length_set, List.length_replicate, List.length_take, List.length_drop, ints_length, wr_length, node_len] <;> omega) | rfl)) (by first | omega | (simp only [List.length_append, List.length_cons, List.length_nil, List.length_set, List.length_replicate, List.length_take, List.length_drop, ints_length, wr_length, node_len] <;> omega)) (by decide) rfl rfl (fun v7 => ?_)
  refine op_nil ?_
  refine ax_then ?_
  refine mx_one (i := 4) (by decide +kernel) (Sub.refl _) ?_
  refine wo (i := 4) rfl ?_
  refine st_appendi (h := 5) Try.underlying22 Try.underlying22 ty5 rfl rfl rfl rfl (fun w1 sw => rd_blk_all sw (h := 3) rfl (by first | omega | (simp only [List.length_append, List.length_cons, List.length_nil, List.length_set, List.length_replicate, List.length_take, List.length_drop, ints_length, wr_length, node_len] <;> omega) | rfl)) (by first | omega | (simp only [List.length_append, List.length_cons, List.length_nil, List.length_set, List.length_replicate, List.length_take, List.length_drop, ints_length, wr_length, node_len] <;> omega)) (by decide) rfl rfl (fun v9 => ?_)
  refine op_nil ?_
  refine ax_then ?_
  refine mx_one (i := 5) (by decide +kernel) (Sub.refl _) ?_
  refine wo (i := 5) rfl ?_
  refine st_callv has83 rfl (fun w1 sw => sum_any v9 ([3] ++ a ++ b) w1 (by simp only [List.length_append, List.length_cons, List.length_nil]; omega) (sw.own_rd (h := 5) rfl)) rfl rfl ?_
  refine at_eq (i := 10) (v' := .agg (ints .u8 (node a b)).toArray) rfl rfl ?_
  refine op_nil ?_
  refine ax_then ?_
  refine mx_one (i := 6) (by decide +kernel) (Sub.refl _) ?_
  refine wo (i := 6) rfl ?_
  refine st_store_all 4 ty39 rfl rfl rfl rfl (by first | omega | (simp only [List.length_append, List.length_cons, List.length_nil, List.length_set, List.length_replicate, List.length_take, List.length_drop, ints_length, wr_length, node_len] <;> omega) | rfl) (ints_one _ _) (by first | omega | (simp only [List.length_append, List.length_cons, List.length_nil, List.length_set, List.length_replicate, List.length_take, List.length_drop, ints_length, wr_length, node_len] <;> omega) | rfl) rfl ?_
  refine op_nil ?_
  refine ax_then ?_
  refine mx_done (by decide +kernel) (Sub.refl _) ?_
  refine ax_then ?_
  refine At.regs (L' := [(4, _)]) (.cons rfl (.nil _)) ?_
  refine cd_ret ?_
  refine rt_cell (h0 := 4) (.inl rfl) Try.results85 ty39 rfl rfl rfl (by first | omega | (simp only [List.length_append, List.length_cons, List.length_nil, List.length_set, List.length_replicate, List.length_take, List.length_drop, ints_length, wr_length, node_len] <;> omega) | rfl) ?_
  exact fun w1 sw => ⟨rfl, sw.gives (.nil _)⟩
set_option maxRecDepth 20000 in
set_option maxHeartbeats 1000000 in
theorem rnode_any (a b : List Int) (w : World) (ha : a.length = 32) (hb : b.length = 32) : Calls Try.prog 82 #[.agg (ints .u8 (a)).toArray, .agg (ints .u8 (b)).toArray] w (PostV w (.agg (ints .u8 (node a b)).toArray)) := by
  refine calls_at (vs := [.agg (ints .u8 (a)).toArray, .agg (ints .u8 (b)).toArray]) (X := []) (H := []) (F := []) 13 Try.func82 rfl rfl rfl (Sat.start0 w) ?_
  refine cd_seq ?_
  refine cd_region ?_
  refine st_box (h := 2) rfl rfl rfl rfl (fun b2 => ?_)
  refine st_box (h := 3) rfl rfl rfl rfl (fun b3 => ?_)
  refine st_alloc (h := 4) ty39 rfl rfl rfl (fun b4 => ?_)
  refine op_nil ?_
  refine ax_then ?_
  refine At.regs (L' := [(2, _), (3, _), (4, _)]) (.cons rfl (.cons rfl (.cons rfl (.nil _)))) ?_
  refine cd_seq ?_
  refine cd_region ?_
  refine st_bsi (h := 6) (xs := [_]) Try.underlying22 ty5 (by decide) rfl rfl (by decide) rfl rfl (fun b6 => ?_)
  refine st (ev_slice_arr_all Try.underlying39 ty5 rfl) rfl rfl rfl ?_
  refine st_appendi (h := 6) Try.underlying22 Try.underlying22 ty5 rfl rfl rfl rfl (fun w1 sw => rd_blk_all sw (h := 2) rfl (by first | omega | (simp only [List.length_append, List.length_cons, List.length_nil, List.length_set, List.length_replicate, List.length_take, List.length_drop, ints_length, wr_length, node_len] <;> omega) | rfl)) (by first | omega | (simp only [List.length_append, List.length_cons, List.length_nil, List.length_set, List.length_replicate, List.length_take, List.length_drop, ints_length, wr_length, node_len] <;> omega)) (by decide) rfl rfl (fun v8 => ?_)
  refine st (ev_assign rfl) rfl rfl rfl ?_
  refine op_nil ?_
  refine ax_then ?_
  refine At.regs (L' := [(3, _), (4, _), (5, _)]) (.cons rfl (.cons rfl (.cons rfl (.nil _)))) ?_
  refine cd_seq ?_
  refine cd_region ?_
  refine st (ev_move rfl) rfl rfl rfl ?_
  refine st (ev_slice_arr_all Try.underlying39 ty5 rfl) rfl rfl rfl ?_
  refine st_appendi (h := 6) Try.underlying22 Try.underlying22 ty5 rfl rfl rfl rfl (fun w1 sw => rd_blk_all sw (h := 3) rfl (by first | omega | (simp only [List.length_append, List.length_cons, List.length_nil, List.length_set, List.length_replicate, List.length_take, List.length_drop, ints_length, wr_length, node_len] <;> omega) | rfl)) (by first | omega | (simp only [List.length_append, List.length_cons, List.length_nil, List.length_set, List.length_replicate, List.length_take, List.length_drop, ints_length, wr_length, node_len] <;> omega)) (by decide) rfl rfl (fun v11 => ?_)
  refine st_callv has80 rfl (fun w1 sw => rsum_any v11 ([3] ++ a ++ b) w1 (by simp only [List.length_append, List.length_cons, List.length_nil]; omega) (sw.own_rd (h := 6) rfl)) rfl rfl ?_
  refine at_eq (i := 12) (v' := .agg (ints .u8 (node a b)).toArray) rfl rfl ?_
  refine st_store_all 4 ty39 rfl rfl rfl rfl (by first | omega | (simp only [List.length_append, List.length_cons, List.length_nil, List.length_set, List.length_replicate, List.length_take, List.length_drop, ints_length, wr_length, node_len] <;> omega) | rfl) (ints_one _ _) (by first | omega | (simp only [List.length_append, List.length_cons, List.length_nil, List.length_set, List.length_replicate, List.length_take, List.length_drop, ints_length, wr_length, node_len] <;> omega) | rfl) rfl ?_
  refine op_nil ?_
  refine ax_then ?_
  refine At.regs (L' := [(4, _)]) (.cons rfl (.nil _)) ?_
  refine cd_ret ?_
  refine rt_cell (h0 := 4) (.inl rfl) Try.results82 ty39 rfl rfl rfl (by first | omega | (simp only [List.length_append, List.length_cons, List.length_nil, List.length_set, List.length_replicate, List.length_take, List.length_drop, ints_length, wr_length, node_len] <;> omega) | rfl) ?_
  exact fun w1 sw => ⟨rfl, sw.gives (.nil _)⟩
set_option maxRecDepth 20000 in
set_option maxHeartbeats 2000000 in
theorem root_step (N : Nat) (ih : ∀ (p : Value) (cs : List (List Int)) (w : World), cs.length < N → H32 cs → cs.length ≤ 256 → Rd w p 32 (flat cs) → Calls Try.prog 51 #[p] w (PostV w (.agg (ints .u8 (root cs)).toArray))) (p : Value) (cs : List (List Int)) (w : World) (hN : cs.length = N) (hu : H32 cs) (hcl : cs.length ≤ 256) (h : Rd w p 32 (flat cs)) : Calls Try.prog 51 #[p] w (PostV w (.agg (ints .u8 (root cs)).toArray)) := by
  refine calls_at (vs := [p]) (X := []) (H := []) (F := [(0, .sl p 32 (flat (cs)))]) 26 Try.func51 rfl rfl rfl (Sat.rd0 0 h) ?_
  refine cd_seq ?_
  refine cd_region ?_
  refine st_alloc (h := 2) ty39 rfl rfl rfl (fun b2 => ?_)
  refine op_nil ?_
  refine ax_then ?_
  refine At.regs (L' := [(0, _), (2, _)]) (.cons rfl (.cons rfl (.nil _))) ?_
  refine cd_seq ?_
  refine cd_seq ?_
  refine cd_region ?_
  refine st (ev_move rfl) rfl rfl rfl ?_
  refine st (ev_len_rdh (h := 0) Try.underlying26 rfl rfl (by assumption)) rfl rfl rfl ?_
  refine op_nil ?_
  refine ax_then ?_
  refine At.regs (L' := [(0, _), (2, _), (5, _)]) (.cons rfl (.cons rfl (.cons rfl (.nil _)))) ?_
  refine cd_block ?_
  refine cd_seq ?_
  refine cd_region ?_
  refine st (ev_eql rfl rfl) rfl rfl rfl ?_
  refine st (ev_assign rfl) rfl rfl rfl ?_
  refine op_nil ?_
  refine ax_then ?_
  refine At.regs (L' := [(0, _), (2, _), (5, _), (6, _)]) (.cons rfl (.cons rfl (.cons rfl (.cons rfl (.nil _))))) ?_
  refine cd_if rfl (fun hc6 => ?_) (fun hc6 => ?_)
  ·
    have hc0 : cs = [] := List.length_eq_zero_iff.1 (by omega)
    refine cd_seq ?_
    refine cd_region ?_
    refine st (ev_build_array ty39 rfl ty5 rfl rfl) rfl rfl rfl ?_
    refine st_store_all 2 ty39 rfl rfl rfl rfl (by first | omega | (simp only [List.length_append, List.length_cons, List.length_nil, List.length_set, List.length_replicate, List.length_take, List.length_drop, ints_length, wr_length, node_len] <;> omega) | rfl) (ints_one _ _) (by first | omega | (simp only [List.length_append, List.length_cons, List.length_nil, List.length_set, List.length_replicate, List.length_take, List.length_drop, ints_length, wr_length, node_len] <;> omega) | rfl) rfl ?_
    refine op_nil ?_
    refine ax_then ?_
    refine At.regs (L' := [(0, _), (2, _)]) (.cons rfl (.cons rfl (.nil _))) ?_
    refine cd_ret ?_
    refine ax_block_ret ?_
    refine ax_then_ret ?_
    refine rt_cell (h0 := 2) (.inl rfl) Try.results51 ty39 rfl rfl rfl (by first | omega | (simp only [List.length_append, List.length_cons, List.length_nil, List.length_set, List.length_replicate, List.length_take, List.length_drop, ints_length, wr_length, node_len] <;> omega) | rfl) ?_
    exact fun w1 sw => ⟨by rw [hc0, root_nil], sw.gives (.nil _)⟩
  ·
    refine cd_seq ?_
    refine cd_region ?_
    refine st (ev_eql rfl rfl) rfl rfl rfl ?_
    refine st (ev_assign rfl) rfl rfl rfl ?_
    refine op_nil ?_
    refine ax_then ?_
    refine At.regs (L' := [(0, _), (2, _), (9, _)]) (.cons rfl (.cons rfl (.cons rfl (.nil _)))) ?_
    refine cd_if rfl (fun hc9 => ?_) (fun hc9 => ?_)
    ·
      have hg : (cs.getD (Int.toNat 0) []).length = 32 := hu.get (by show 0 < _; omega)
      have hr1 := root_small (cs := cs) (by omega)
      refine cd_seq ?_
      refine cd_region ?_
      refine st (ev_move rfl) rfl rfl rfl ?_
      refine st (ev_indexAddr_rdh (h := 0) Try.underlying26 ty39 rfl rfl rfl (by assumption) (by omega) (by omega)) rfl rfl rfl ?_
      refine st (ld_rdh (h := 0) ty39 rfl rfl rfl (by assumption) (by omega)) rfl rfl rfl ?_
      refine st_store_all 2 ty39 rfl rfl rfl rfl (by first | omega | (simp only [List.length_append, List.length_cons, List.length_nil, List.length_set, List.length_replicate, List.length_take, List.length_drop, ints_length, wr_length, node_len] <;> omega) | rfl) (ints_one _ _) (by first | omega | (simp only [List.length_append, List.length_cons, List.length_nil, List.length_set, List.length_replicate, List.length_take, List.length_drop, ints_length, wr_length, node_len] <;> omega) | rfl) rfl ?_
      refine op_nil ?_
      refine ax_then ?_
      refine At.regs (L' := [(0, _), (2, _)]) (.cons rfl (.cons rfl (.nil _))) ?_
      refine cd_ret ?_
      refine ax_block_ret ?_
      refine ax_then_ret ?_
      refine rt_cell (h0 := 2) (.inl rfl) Try.results51 ty39 rfl rfl rfl (by first | omega | (simp only [List.length_append, List.length_cons, List.length_nil, List.length_set, List.length_replicate, List.length_take, List.length_drop, ints_length, wr_length, node_len] <;> omega) | rfl) ?_
      exact fun w1 sw => ⟨by rw [hr1]; rfl, sw.gives (.nil _)⟩
    ·
      have hge : 2 ≤ cs.length := by omega
      have hlt := half_lt hge
      have hps := half_pos cs.length
      refine cd_skip ?_
      refine ax_block ?_
      refine ax_then ?_
      refine At.regs (L' := [(0, _), (2, _)]) (.cons rfl (.cons rfl (.nil _))) ?_
      refine cd_seq ?_
      refine cd_region ?_
      refine st (ev_move rfl) rfl rfl rfl ?_
      refine st (ev_len_rdh (h := 0) Try.underlying26 rfl rfl (by assumption)) rfl rfl rfl ?_
      refine at_eq (i := 15) (v' := .int .i64 (cs.length : Int)) rfl rfl ?_
      refine st_callv has84 rfl (fun w1 sw => half_any cs.length w1 hge (by omega)) rfl rfl ?_
      refine st (ev_assign rfl) rfl rfl rfl ?_
      refine op_nil ?_
      refine ax_then ?_
      refine At.regs (L' := [(0, _), (2, _), (3, _)]) (.cons rfl (.cons rfl (.cons rfl (.nil _)))) ?_
      refine cd_seq ?_
      refine cd_open_tail 9 hmix (by decide +kernel) ?_
      refine qt (ev_move rfl) rfl rfl rfl ?_
      refine qt (ev_move rfl) rfl rfl rfl ?_
      refine qt (ev_sliceh_hi Try.underlying26 ty39 rfl rfl (fun w1 sw => sw.sl_rd (h := 0) rfl) (by assumption) (by omega) (by first | omega | (simp only [List.length_append, List.length_cons, List.length_nil, List.length_set, List.length_replicate, List.length_take, List.length_drop, ints_length, wr_length, node_len] <;> omega))) rfl rfl rfl ?_
      refine qt_eq (i := 19) (v' := cutAt 32 p 0 (half cs.length)) rfl (by rw [Int.toNat_natCast]) ?_
      refine qt_callv has51 rfl (fun w1 sw => ih (cutAt 32 p 0 (half cs.length)) (cs.take (half cs.length)) w1 (by rw [List.length_take]; omega) (hu.take _) (by rw [List.length_take]; omega) (takeh (sw.sl_rd (h := 0) rfl) hu (by omega))) rfl rfl ?_
      refine qt (ev_move rfl) rfl rfl rfl ?_
      refine qt (ev_move rfl) rfl rfl rfl ?_
      refine qt (ev_sliceh_lo Try.underlying26 ty39 rfl rfl (fun w1 sw => sw.sl_rd (h := 0) rfl) (by assumption) (by omega) (by first | omega | (simp only [List.length_append, List.length_cons, List.length_nil, List.length_set, List.length_replicate, List.length_take, List.length_drop, ints_length, wr_length, node_len] <;> omega))) rfl rfl rfl ?_
      refine qt_eq (i := 23) (v' := cutAt 32 p (half cs.length) cs.length) rfl (by rw [Int.toNat_natCast]) ?_
      refine qt_callv has51 rfl (fun w1 sw => ih (cutAt 32 p (half cs.length) cs.length) (cs.drop (half cs.length)) w1 (by rw [List.length_drop]; omega) (hu.drop _) (by rw [List.length_drop]; omega) (droph (sw.sl_rd (h := 0) rfl) hu (by omega))) rfl rfl ?_
      refine qt_callv has85 rfl (fun w1 sw => node_any (root (cs.take (half cs.length))) (root (cs.drop (half cs.length))) w1 (root_len (hu.take _)) (root_len (hu.drop _))) rfl rfl ?_
      refine qt_end ?_
      refine st_store_all 2 ty39 rfl rfl rfl rfl (by first | omega | (simp only [List.length_append, List.length_cons, List.length_nil, List.length_set, List.length_replicate, List.length_take, List.length_drop, ints_length, wr_length, node_len] <;> omega) | rfl) (ints_one _ _) (by first | omega | (simp only [List.length_append, List.length_cons, List.length_nil, List.length_set, List.length_replicate, List.length_take, List.length_drop, ints_length, wr_length, node_len] <;> omega) | rfl) rfl ?_
      refine op_nil ?_
      refine ax_then ?_
      refine At.regs (L' := [(2, _)]) (.cons rfl (.nil _)) ?_
      refine cd_ret ?_
      refine rt_cell (h0 := 2) (.inl rfl) Try.results51 ty39 rfl rfl rfl (by first | omega | (simp only [List.length_append, List.length_cons, List.length_nil, List.length_set, List.length_replicate, List.length_take, List.length_drop, ints_length, wr_length, node_len] <;> omega) | rfl) ?_
      exact fun w1 sw => ⟨by rw [root_two hge], sw.gives (.nil _)⟩
theorem root_all : ∀ (N : Nat) (p : Value) (cs : List (List Int)) (w : World), cs.length < N → H32 cs → cs.length ≤ 256 → Rd w p 32 (flat cs) → Calls Try.prog 51 #[p] w (PostV w (.agg (ints .u8 (root cs)).toArray))
  | 0, _, _, _, hN, _, _, _ => absurd hN (Nat.not_lt_zero _)
  | N + 1, p, cs, w, hN, hu, hcl, h => root_step cs.length (fun p' cs' w' h1 => root_all N p' cs' w' (by omega)) p cs w rfl hu hcl h
theorem root_any (p : Value) (cs : List (List Int)) (w : World) (hu : H32 cs) (hcl : cs.length ≤ 256) (h : Rd w p 32 (flat cs)) : Calls Try.prog 51 #[p] w (PostV w (.agg (ints .u8 (root cs)).toArray)) := root_all (cs.length + 1) p cs w (by omega) hu hcl h
set_option maxRecDepth 20000 in
set_option maxHeartbeats 2000000 in
theorem rroot_step (N : Nat) (ih : ∀ (p : Value) (cs : List (List Int)) (w : World), cs.length < N → H32 cs → cs.length ≤ 256 → Rd w p 32 (flat cs) → Calls Try.prog 49 #[p] w (PostV w (.agg (ints .u8 (root cs)).toArray))) (p : Value) (cs : List (List Int)) (w : World) (hN : cs.length = N) (hu : H32 cs) (hcl : cs.length ≤ 256) (h : Rd w p 32 (flat cs)) : Calls Try.prog 49 #[p] w (PostV w (.agg (ints .u8 (root cs)).toArray)) := by
  refine calls_at (vs := [p]) (X := []) (H := []) (F := [(0, .sl p 32 (flat (cs)))]) 26 Try.func49 rfl rfl rfl (Sat.rd0 0 h) ?_
  refine cd_seq ?_
  refine cd_region ?_
  refine st_alloc (h := 2) ty39 rfl rfl rfl (fun b2 => ?_)
  refine op_nil ?_
  refine ax_then ?_
  refine At.regs (L' := [(0, _), (2, _)]) (.cons rfl (.cons rfl (.nil _))) ?_
  refine cd_seq ?_
  refine cd_seq ?_
  refine cd_region ?_
  refine st (ev_move rfl) rfl rfl rfl ?_
  refine st (ev_len_rdh (h := 0) Try.underlying26 rfl rfl (by assumption)) rfl rfl rfl ?_
  refine op_nil ?_
  refine ax_then ?_
  refine At.regs (L' := [(0, _), (2, _), (5, _)]) (.cons rfl (.cons rfl (.cons rfl (.nil _)))) ?_
  refine cd_block ?_
  refine cd_seq ?_
  refine cd_region ?_
  refine st (ev_eql rfl rfl) rfl rfl rfl ?_
  refine st (ev_assign rfl) rfl rfl rfl ?_
  refine op_nil ?_
  refine ax_then ?_
  refine At.regs (L' := [(0, _), (2, _), (5, _), (6, _)]) (.cons rfl (.cons rfl (.cons rfl (.cons rfl (.nil _))))) ?_
  refine cd_if rfl (fun hc6 => ?_) (fun hc6 => ?_)
  ·
    have hc0 : cs = [] := List.length_eq_zero_iff.1 (by omega)
    refine cd_seq ?_
    refine cd_region ?_
    refine st (ev_build_array ty39 rfl ty5 rfl rfl) rfl rfl rfl ?_
    refine st_store_all 2 ty39 rfl rfl rfl rfl (by first | omega | (simp only [List.length_append, List.length_cons, List.length_nil, List.length_set, List.length_replicate, List.length_take, List.length_drop, ints_length, wr_length, node_len] <;> omega) | rfl) (ints_one _ _) (by first | omega | (simp only [List.length_append, List.length_cons, List.length_nil, List.length_set, List.length_replicate, List.length_take, List.length_drop, ints_length, wr_length, node_len] <;> omega) | rfl) rfl ?_
    refine op_nil ?_
    refine ax_then ?_
    refine At.regs (L' := [(0, _), (2, _)]) (.cons rfl (.cons rfl (.nil _))) ?_
    refine cd_ret ?_
    refine ax_block_ret ?_
    refine ax_then_ret ?_
    refine rt_cell (h0 := 2) (.inl rfl) Try.results49 ty39 rfl rfl rfl (by first | omega | (simp only [List.length_append, List.length_cons, List.length_nil, List.length_set, List.length_replicate, List.length_take, List.length_drop, ints_length, wr_length, node_len] <;> omega) | rfl) ?_
    exact fun w1 sw => ⟨by rw [hc0, root_nil], sw.gives (.nil _)⟩
  ·
    refine cd_seq ?_
    refine cd_region ?_
    refine st (ev_eql rfl rfl) rfl rfl rfl ?_
    refine st (ev_assign rfl) rfl rfl rfl ?_
    refine op_nil ?_
    refine ax_then ?_
    refine At.regs (L' := [(0, _), (2, _), (9, _)]) (.cons rfl (.cons rfl (.cons rfl (.nil _)))) ?_
    refine cd_if rfl (fun hc9 => ?_) (fun hc9 => ?_)
    ·
      have hg : (cs.getD (Int.toNat 0) []).length = 32 := hu.get (by show 0 < _; omega)
      have hr1 := root_small (cs := cs) (by omega)
      refine cd_seq ?_
      refine cd_region ?_
      refine st (ev_move rfl) rfl rfl rfl ?_
      refine st (ev_indexAddr_rdh (h := 0) Try.underlying26 ty39 rfl rfl rfl (by assumption) (by omega) (by omega)) rfl rfl rfl ?_
      refine st (ld_rdh (h := 0) ty39 rfl rfl rfl (by assumption) (by omega)) rfl rfl rfl ?_
      refine st_store_all 2 ty39 rfl rfl rfl rfl (by first | omega | (simp only [List.length_append, List.length_cons, List.length_nil, List.length_set, List.length_replicate, List.length_take, List.length_drop, ints_length, wr_length, node_len] <;> omega) | rfl) (ints_one _ _) (by first | omega | (simp only [List.length_append, List.length_cons, List.length_nil, List.length_set, List.length_replicate, List.length_take, List.length_drop, ints_length, wr_length, node_len] <;> omega) | rfl) rfl ?_
      refine op_nil ?_
      refine ax_then ?_
      refine At.regs (L' := [(0, _), (2, _)]) (.cons rfl (.cons rfl (.nil _))) ?_
      refine cd_ret ?_
      refine ax_block_ret ?_
      refine ax_then_ret ?_
      refine rt_cell (h0 := 2) (.inl rfl) Try.results49 ty39 rfl rfl rfl (by first | omega | (simp only [List.length_append, List.length_cons, List.length_nil, List.length_set, List.length_replicate, List.length_take, List.length_drop, ints_length, wr_length, node_len] <;> omega) | rfl) ?_
      exact fun w1 sw => ⟨by rw [hr1]; rfl, sw.gives (.nil _)⟩
    ·
      have hge : 2 ≤ cs.length := by omega
      have hlt := half_lt hge
      have hps := half_pos cs.length
      refine cd_skip ?_
      refine ax_block ?_
      refine ax_then ?_
      refine At.regs (L' := [(0, _), (2, _)]) (.cons rfl (.cons rfl (.nil _))) ?_
      refine cd_seq ?_
      refine cd_region ?_
      refine st (ev_move rfl) rfl rfl rfl ?_
      refine st (ev_len_rdh (h := 0) Try.underlying26 rfl rfl (by assumption)) rfl rfl rfl ?_
      refine at_eq (i := 15) (v' := .int .i64 (cs.length : Int)) rfl rfl ?_
      refine st_callv has81 rfl (fun w1 sw => rhalf_any cs.length w1 hge (by omega)) rfl rfl ?_
      refine st (ev_assign rfl) rfl rfl rfl ?_
      refine op_nil ?_
      refine ax_then ?_
      refine At.regs (L' := [(0, _), (2, _), (3, _)]) (.cons rfl (.cons rfl (.cons rfl (.nil _)))) ?_
      refine cd_seq ?_
      refine cd_open_tail 9 hmix (by decide +kernel) ?_
      refine qt (ev_move rfl) rfl rfl rfl ?_
      refine qt (ev_move rfl) rfl rfl rfl ?_
      refine qt (ev_sliceh_hi Try.underlying26 ty39 rfl rfl (fun w1 sw => sw.sl_rd (h := 0) rfl) (by assumption) (by omega) (by first | omega | (simp only [List.length_append, List.length_cons, List.length_nil, List.length_set, List.length_replicate, List.length_take, List.length_drop, ints_length, wr_length, node_len] <;> omega))) rfl rfl rfl ?_
      refine qt_eq (i := 19) (v' := cutAt 32 p 0 (half cs.length)) rfl (by rw [Int.toNat_natCast]) ?_
      refine qt_callv has49 rfl (fun w1 sw => ih (cutAt 32 p 0 (half cs.length)) (cs.take (half cs.length)) w1 (by rw [List.length_take]; omega) (hu.take _) (by rw [List.length_take]; omega) (takeh (sw.sl_rd (h := 0) rfl) hu (by omega))) rfl rfl ?_
      refine qt (ev_move rfl) rfl rfl rfl ?_
      refine qt (ev_move rfl) rfl rfl rfl ?_
      refine qt (ev_sliceh_lo Try.underlying26 ty39 rfl rfl (fun w1 sw => sw.sl_rd (h := 0) rfl) (by assumption) (by omega) (by first | omega | (simp only [List.length_append, List.length_cons, List.length_nil, List.length_set, List.length_replicate, List.length_take, List.length_drop, ints_length, wr_length, node_len] <;> omega))) rfl rfl rfl ?_
      refine qt_eq (i := 23) (v' := cutAt 32 p (half cs.length) cs.length) rfl (by rw [Int.toNat_natCast]) ?_
      refine qt_callv has49 rfl (fun w1 sw => ih (cutAt 32 p (half cs.length) cs.length) (cs.drop (half cs.length)) w1 (by rw [List.length_drop]; omega) (hu.drop _) (by rw [List.length_drop]; omega) (droph (sw.sl_rd (h := 0) rfl) hu (by omega))) rfl rfl ?_
      refine qt_callv has82 rfl (fun w1 sw => rnode_any (root (cs.take (half cs.length))) (root (cs.drop (half cs.length))) w1 (root_len (hu.take _)) (root_len (hu.drop _))) rfl rfl ?_
      refine qt_end ?_
      refine st_store_all 2 ty39 rfl rfl rfl rfl (by first | omega | (simp only [List.length_append, List.length_cons, List.length_nil, List.length_set, List.length_replicate, List.length_take, List.length_drop, ints_length, wr_length, node_len] <;> omega) | rfl) (ints_one _ _) (by first | omega | (simp only [List.length_append, List.length_cons, List.length_nil, List.length_set, List.length_replicate, List.length_take, List.length_drop, ints_length, wr_length, node_len] <;> omega) | rfl) rfl ?_
      refine op_nil ?_
      refine ax_then ?_
      refine At.regs (L' := [(2, _)]) (.cons rfl (.nil _)) ?_
      refine cd_ret ?_
      refine rt_cell (h0 := 2) (.inl rfl) Try.results49 ty39 rfl rfl rfl (by first | omega | (simp only [List.length_append, List.length_cons, List.length_nil, List.length_set, List.length_replicate, List.length_take, List.length_drop, ints_length, wr_length, node_len] <;> omega) | rfl) ?_
      exact fun w1 sw => ⟨by rw [root_two hge], sw.gives (.nil _)⟩
theorem rroot_all : ∀ (N : Nat) (p : Value) (cs : List (List Int)) (w : World), cs.length < N → H32 cs → cs.length ≤ 256 → Rd w p 32 (flat cs) → Calls Try.prog 49 #[p] w (PostV w (.agg (ints .u8 (root cs)).toArray))
  | 0, _, _, _, hN, _, _, _ => absurd hN (Nat.not_lt_zero _)
  | N + 1, p, cs, w, hN, hu, hcl, h => rroot_step cs.length (fun p' cs' w' h1 => rroot_all N p' cs' w' (by omega)) p cs w rfl hu hcl h
theorem rroot_any (p : Value) (cs : List (List Int)) (w : World) (hu : H32 cs) (hcl : cs.length ≤ 256) (h : Rd w p 32 (flat cs)) : Calls Try.prog 49 #[p] w (PostV w (.agg (ints .u8 (root cs)).toArray)) := rroot_all (cs.length + 1) p cs w (by omega) hu hcl h
end Go.Proofs.Yteedclmcgifmpaa

namespace Go.Proofs.Yteedclmcgifmpaa
open Go Go.RowKit Fw
open Sha
open Mk
set_option linter.unusedVariables false
set_option linter.unusedSimpArgs false
set_option maxRecDepth 20000 in
set_option maxHeartbeats 4000000 in
theorem path_step (N : Nat) (ih : ∀ (p : Value) (cs : List (List Int)) (i : Int) (w : World), cs.length < N → H32 cs → cs.length ≤ 256 → (-9223372036854775808 ≤ i ∧ i ≤ 9223372036854775807) → Rd w p 32 (flat cs) → Calls Try.prog 53 #[p, .int .i64 i] w (Post (ι := Value) w [] (fun _ => True) (fun v => v) (fun v => [(0, .own (v) 39 32 (flat (path cs i)))]))) (p : Value) (cs : List (List Int)) (i : Int) (w : World) (hN : cs.length = N) (hu : H32 cs) (hcl : cs.length ≤ 256) (hi : -9223372036854775808 ≤ i ∧ i ≤ 9223372036854775807) (h : Rd w p 32 (flat cs)) : Calls Try.prog 53 #[p, .int .i64 i] w (Post (ι := Value) w [] (fun _ => True) (fun v => v) (fun v => [(0, .own (v) 39 32 (flat (path cs i)))])) := by
  refine calls_at (vs := [p, .int .i64 i]) (X := []) (H := []) (F := [(0, .sl p 32 (flat (cs)))]) 49 Try.func53 rfl rfl rfl (Sat.rd0 0 h) ?_
  refine cd_seq ?_
  refine cd_region ?_
  refine st (ev_assign rfl) rfl rfl rfl ?_
  refine at_own_nil 4 39 32 ?_
  refine at_heq (i := 4) (v' := .own (.slice none 0 0) 39 32 (flat [])) rfl rfl ?_
  have hu4 := H32.nil
  refine op_nil ?_
  refine ax_then ?_
  refine At.regs (L' := [(0, _), (1, _), (4, _)]) (.cons rfl (.cons rfl (.cons rfl (.nil _)))) ?_
  refine cd_seq ?_
  refine cd_seq ?_
  refine cd_region ?_
  refine st (ev_move rfl) rfl rfl rfl ?_
  refine st (ev_lss rfl rfl) rfl rfl rfl ?_
  refine st (ev_move rfl) rfl rfl rfl ?_
  refine at_split_if (i := 8) rfl (fun hg8 => ?_) (fun hg8 => ?_)
  ·
    have hno : path cs i = [] := path_no (by omega)
    refine st_skip rfl rfl rfl ?_
    refine st_skip rfl rfl rfl ?_
    refine st_skip rfl rfl rfl ?_
    refine st_skip rfl rfl rfl ?_
    refine st (ev_pick_t rfl rfl) rfl rfl rfl ?_
    refine st (ev_move rfl) rfl rfl rfl ?_
    refine st_skip rfl rfl rfl ?_
    refine st_skip rfl rfl rfl ?_
    refine st_skip rfl rfl rfl ?_
    refine st (ev_pick_t rfl rfl) rfl rfl rfl ?_
    refine op_nil ?_
    refine ax_then ?_
    refine At.regs (L' := [(0, _), (1, _), (4, _), (18, _)]) (.cons rfl (.cons rfl (.cons rfl (.cons rfl (.nil _))))) ?_
    refine cd_true rfl ?_
    refine cd_seq ?_
    refine cd_region ?_
    refine st (ev_assign rfl) rfl rfl rfl ?_
    refine at_own_nil 4 39 32 ?_
    refine at_heq (i := 4) (v' := .own (.slice none 0 0) 39 32 (flat [])) rfl rfl ?_
    have hu4 := H32.nil
    refine op_nil ?_
    refine ax_then ?_
    refine At.regs (L' := [(0, _), (1, _), (4, _)]) (.cons rfl (.cons rfl (.cons rfl (.nil _)))) ?_
    refine cd_ret ?_
    refine ax_then_ret ?_
    refine rt_tmp (.inl rfl) Try.results53 rfl ?_
    exact fun w1 sw => ⟨_, trivial, rfl, by rw [hno]; exact (sw.gives (N := [(4, _)]) (.cons rfl (.nil _))).rn 0⟩
  ·
    refine st (ev_move rfl) rfl rfl rfl ?_
    refine st (ev_move rfl) rfl rfl rfl ?_
    refine st (ev_len_rdh (h := 0) Try.underlying26 rfl rfl (by assumption)) rfl rfl rfl ?_
    refine st (ev_geq rfl rfl) rfl rfl rfl ?_
    refine st (ev_pick_f rfl rfl) rfl rfl rfl ?_
    refine st (ev_move rfl) rfl rfl rfl ?_
    refine at_split_if (i := 14) rfl (fun hg14 => ?_) (fun hg14 => ?_)
    ·
      have hno : path cs i = [] := path_no (by omega)
      refine st_skip rfl rfl rfl ?_
      refine st_skip rfl rfl rfl ?_
      refine st_skip rfl rfl rfl ?_
      refine st (ev_pick_t rfl rfl) rfl rfl rfl ?_
      refine op_nil ?_
      refine ax_then ?_
      refine At.regs (L' := [(0, _), (1, _), (4, _), (18, _)]) (.cons rfl (.cons rfl (.cons rfl (.cons rfl (.nil _))))) ?_
      refine cd_true rfl ?_
      refine cd_seq ?_
      refine cd_region ?_
      refine st (ev_assign rfl) rfl rfl rfl ?_
      refine at_own_nil 4 39 32 ?_
      refine at_heq (i := 4) (v' := .own (.slice none 0 0) 39 32 (flat [])) rfl rfl ?_
      have hu4 := H32.nil
      refine op_nil ?_
      refine ax_then ?_
      refine At.regs (L' := [(0, _), (1, _), (4, _)]) (.cons rfl (.cons rfl (.cons rfl (.nil _)))) ?_
      refine cd_ret ?_
      refine ax_then_ret ?_
      refine rt_tmp (.inl rfl) Try.results53 rfl ?_
      exact fun w1 sw => ⟨_, trivial, rfl, by rw [hno]; exact (sw.gives (N := [(4, _)]) (.cons rfl (.nil _))).rn 0⟩
    ·
      refine st (ev_move rfl) rfl rfl rfl ?_
      refine st (ev_len_rdh (h := 0) Try.underlying26 rfl rfl (by assumption)) rfl rfl rfl ?_
      refine st (ev_eql rfl rfl) rfl rfl rfl ?_
      refine st (ev_pick_f rfl rfl) rfl rfl rfl ?_
      refine op_nil ?_
      refine ax_then ?_
      refine At.regs (L' := [(0, _), (1, _), (4, _), (18, _)]) (.cons rfl (.cons rfl (.cons rfl (.cons rfl (.nil _))))) ?_
      refine cd_if rfl (fun hc18 => ?_) (fun hc18 => ?_)
      ·
        have hno : path cs i = [] := path_no (by omega)
        refine cd_seq ?_
        refine cd_region ?_
        refine st (ev_assign rfl) rfl rfl rfl ?_
        refine at_own_nil 4 39 32 ?_
        refine at_heq (i := 4) (v' := .own (.slice none 0 0) 39 32 (flat [])) rfl rfl ?_
        have hu4 := H32.nil
        refine op_nil ?_
        refine ax_then ?_
        refine At.regs (L' := [(0, _), (1, _), (4, _)]) (.cons rfl (.cons rfl (.cons rfl (.nil _)))) ?_
        refine cd_ret ?_
        refine ax_then_ret ?_
        refine rt_tmp (.inl rfl) Try.results53 rfl ?_
        exact fun w1 sw => ⟨_, trivial, rfl, by rw [hno]; exact (sw.gives (N := [(4, _)]) (.cons rfl (.nil _))).rn 0⟩
      ·
        have hge : 2 ≤ cs.length := by omega
        have hlt := half_lt hge
        have hps := half_pos cs.length
        refine cd_skip ?_
        refine ax_then ?_
        refine At.regs (L' := [(0, _), (1, _), (4, _)]) (.cons rfl (.cons rfl (.cons rfl (.nil _)))) ?_
        refine cd_seq ?_
        refine cd_region ?_
        refine st (ev_move rfl) rfl rfl rfl ?_
        refine st (ev_len_rdh (h := 0) Try.underlying26 rfl rfl (by assumption)) rfl rfl rfl ?_
        refine at_eq (i := 20) (v' := .int .i64 (cs.length : Int)) rfl rfl ?_
        refine st_callv has84 rfl (fun w1 sw => half_any cs.length w1 hge (by omega)) rfl rfl ?_
        refine st (ev_assign rfl) rfl rfl rfl ?_
        refine op_nil ?_
        refine ax_then ?_
        refine At.regs (L' := [(0, _), (1, _), (4, _), (5, _)]) (.cons rfl (.cons rfl (.cons rfl (.cons rfl (.nil _))))) ?_
        refine cd_seq ?_
        refine cd_seq ?_
        refine cd_region ?_
        refine st (ev_move rfl) rfl rfl rfl ?_
        refine st (ev_move rfl) rfl rfl rfl ?_
        refine st (ev_lss rfl rfl) rfl rfl rfl ?_
        refine op_nil ?_
        refine ax_then ?_
        refine At.regs (L' := [(0, _), (1, _), (4, _), (5, _), (24, _)]) (.cons rfl (.cons rfl (.cons rfl (.cons rfl (.cons rfl (.nil _)))))) ?_
        refine cd_if rfl (fun hc24 => ?_) (fun hc24 => ?_)
        ·
          have hyes := path_lo (by omega) hge hc24
          have hrl := root_len (hu.drop (half cs.length))
          refine cd_seq ?_
          refine cd_mix hmix ?_
          refine mx (i := 0) rfl (by decide +kernel) (by decide +kernel) (by decide +kernel) rfl (fun w0 => ev_move rfl) rfl rfl (Sub.refl _) ?_
          refine mx (i := 1) rfl (by decide +kernel) (by decide +kernel) (by decide +kernel) rfl (fun w0 => ev_move rfl) rfl rfl (Sub.refl _) ?_
          refine mx (i := 2) rfl (by decide +kernel) (by decide +kernel) (by decide +kernel) rfl (fun w0 => ev_sliceh_hi Try.underlying26 ty39 rfl rfl (fun w1 sw => sw.sl_rd (h := 0) rfl) (by assumption) (by omega) (by first | omega | (simp only [List.length_append, List.length_cons, List.length_nil, List.length_set, List.length_replicate, List.length_take, List.length_drop, ints_length, wr_length, node_len] <;> omega))) rfl rfl (Sub.refl _) ?_
          refine at_eq (i := 27) (v' := cutAt 32 p 0 (half cs.length)) rfl (by rw [Int.toNat_natCast]) ?_
          refine mx (i := 3) rfl (by decide +kernel) (by decide +kernel) (by decide +kernel) rfl (fun w0 => ev_move rfl) rfl rfl (Sub.refl _) ?_
          refine mx (i := 5) rfl (by decide +kernel) (by decide +kernel) (by decide +kernel) rfl (fun w0 => ev_move rfl) rfl rfl (Sub.refl _) ?_
          refine mx (i := 6) rfl (by decide +kernel) (by decide +kernel) (by decide +kernel) rfl (fun w0 => ev_move rfl) rfl rfl (Sub.refl _) ?_
          refine mx (i := 7) rfl (by decide +kernel) (by decide +kernel) (by decide +kernel) rfl (fun w0 => ev_sliceh_lo Try.underlying26 ty39 rfl rfl (fun w1 sw => sw.sl_rd (h := 0) rfl) (by assumption) (by omega) (by first | omega | (simp only [List.length_append, List.length_cons, List.length_nil, List.length_set, List.length_replicate, List.length_take, List.length_drop, ints_length, wr_length, node_len] <;> omega))) rfl rfl (Sub.refl _) ?_
          refine at_eq (i := 32) (v' := cutAt 32 p (half cs.length) cs.length) rfl (by rw [Int.toNat_natCast]) ?_
          refine mx_one (i := 4) (by decide +kernel) (Sub.refl _) ?_
          refine wo (i := 4) rfl ?_
          refine st_call has53 rfl (fun w1 sw => rn 29 (ih (cutAt 32 p 0 (half cs.length)) (cs.take (half cs.length)) (i) w1 (by rw [List.length_take]; omega) (hu.take _) (by rw [List.length_take]; omega) (by omega) (takeh (sw.sl_rd (h := 0) rfl) hu (by omega)))) nil_all rfl rfl (fun v29 _ => ?_)
          have hu29 := path_h32 _ (cs.take (half cs.length)) (i) (Nat.le_refl _) (hu.take _)
          have hpm := path_max _ (cs.take (half cs.length)) (i) (Nat.le_refl _)
          have hlt2 : ((cs.take (half cs.length))).length ≤ 256 := (by rw [List.length_take]; omega)
          refine op_nil ?_
          refine ax_then ?_
          refine mx_one (i := 8) (by decide +kernel) (Sub.refl _) ?_
          refine wo (i := 8) rfl ?_
          refine st_callv has51 rfl (fun w1 sw => root_any (cutAt 32 p (half cs.length) cs.length) (cs.drop (half cs.length)) w1 (hu.drop _) (by rw [List.length_drop]; omega) (droph (sw.sl_rd (h := 0) rfl) hu (by omega))) rfl rfl ?_
          refine op_nil ?_
          refine ax_then ?_
          refine mx_one (i := 9) (by decide +kernel) (Sub.refl _) ?_
          refine wo (i := 9) rfl ?_
          refine st_bsh1 (h := 34) Try.underlying26 ty39 rfl (by first | assumption | omega) rfl rfl (fun b34 hu34 => ?_)
          refine op_nil ?_
          refine ax_then ?_
          refine mx_one (i := 10) (by decide +kernel) (Sub.refl _) ?_
          refine wo (i := 10) rfl ?_
          refine st_appendh (h := 29) Try.underlying26 Try.underlying26 ty39 rfl rfl rfl rfl (fun w1 sw => sw.own_rd (h := 34) rfl) (by assumption) (by assumption) (by first | omega | (simp only [List.length_append, List.length_cons, List.length_nil, List.length_set, List.length_replicate, List.length_take, List.length_drop, ints_length, wr_length, node_len] <;> omega)) (by decide) rfl rfl (fun v35 hu35 => ?_)
          refine op_nil ?_
          refine ax_then ?_
          refine mx (i := 11) rfl (by decide +kernel) (by decide +kernel) (by decide +kernel) rfl (fun w0 => ev_assign rfl) rfl rfl (Sub.refl _) ?_
          refine mx_done (by decide +kernel) (Sub.refl _) ?_
          refine ax_then ?_
          refine At.regs (L' := [(0, _), (1, _), (4, _), (5, _)]) (.cons rfl (.cons rfl (.cons rfl (.cons rfl (.nil _))))) ?_
          refine cd_ret ?_
          refine ax_then_ret ?_
          refine rt_tmp (.inl rfl) Try.results53 rfl ?_
          first | exact fun w1 sw => ⟨_, trivial, rfl, by rw [hyes]; exact (sw.gives (N := [(29, _)]) (.cons rfl (.nil _))).rn 0⟩ | exact fun w1 sw => ⟨_, trivial, rfl, by rw [hyes]; exact (sw.gives (N := [(42, _)]) (.cons rfl (.nil _))).rn 0⟩
        ·
          have hyes := path_hi (by omega) hge hc24
          have hrl := root_len (hu.take (half cs.length))
          refine cd_skip ?_
          refine ax_then ?_
          refine At.regs (L' := [(0, _), (1, _), (4, _), (5, _)]) (.cons rfl (.cons rfl (.cons rfl (.cons rfl (.nil _))))) ?_
          refine cd_seq ?_
          refine cd_mix hmix ?_
          refine mx (i := 0) rfl (by decide +kernel) (by decide +kernel) (by decide +kernel) rfl (fun w0 => ev_move rfl) rfl rfl (Sub.refl _) ?_
          refine mx (i := 1) rfl (by decide +kernel) (by decide +kernel) (by decide +kernel) rfl (fun w0 => ev_move rfl) rfl rfl (Sub.refl _) ?_
          refine mx (i := 2) rfl (by decide +kernel) (by decide +kernel) (by decide +kernel) rfl (fun w0 => ev_sliceh_lo Try.underlying26 ty39 rfl rfl (fun w1 sw => sw.sl_rd (h := 0) rfl) (by assumption) (by omega) (by first | omega | (simp only [List.length_append, List.length_cons, List.length_nil, List.length_set, List.length_replicate, List.length_take, List.length_drop, ints_length, wr_length, node_len] <;> omega))) rfl rfl (Sub.refl _) ?_
          refine at_eq (i := 38) (v' := cutAt 32 p (half cs.length) cs.length) rfl (by rw [Int.toNat_natCast]) ?_
          refine mx (i := 3) rfl (by decide +kernel) (by decide +kernel) (by decide +kernel) rfl (fun w0 => ev_move rfl) rfl rfl (Sub.refl _) ?_
          refine mx (i := 4) rfl (by decide +kernel) (by decide +kernel) (by decide +kernel) rfl (fun w0 => ev_move rfl) rfl rfl (Sub.refl _) ?_
          refine mx (i := 5) rfl (by decide +kernel) (by decide +kernel) (by decide +kernel) rfl (fun w0 => ev_sub64 rfl rfl (by omega) (by omega)) rfl rfl (Sub.refl _) ?_
          refine mx (i := 7) rfl (by decide +kernel) (by decide +kernel) (by decide +kernel) rfl (fun w0 => ev_move rfl) rfl rfl (Sub.refl _) ?_
          refine mx (i := 8) rfl (by decide +kernel) (by decide +kernel) (by decide +kernel) rfl (fun w0 => ev_move rfl) rfl rfl (Sub.refl _) ?_
          refine mx (i := 9) rfl (by decide +kernel) (by decide +kernel) (by decide +kernel) rfl (fun w0 => ev_sliceh_hi Try.underlying26 ty39 rfl rfl (fun w1 sw => sw.sl_rd (h := 0) rfl) (by assumption) (by omega) (by first | omega | (simp only [List.length_append, List.length_cons, List.length_nil, List.length_set, List.length_replicate, List.length_take, List.length_drop, ints_length, wr_length, node_len] <;> omega))) rfl rfl (Sub.refl _) ?_
          refine at_eq (i := 45) (v' := cutAt 32 p 0 (half cs.length)) rfl (by rw [Int.toNat_natCast]) ?_
          refine mx_one (i := 6) (by decide +kernel) (Sub.refl _) ?_
          refine wo (i := 6) rfl ?_
          refine st_call has53 rfl (fun w1 sw => rn 42 (ih (cutAt 32 p (half cs.length) cs.length) (cs.drop (half cs.length)) (i - (half cs.length : Int)) w1 (by rw [List.length_drop]; omega) (hu.drop _) (by rw [List.length_drop]; omega) (by omega) (droph (sw.sl_rd (h := 0) rfl) hu (by omega)))) nil_all rfl rfl (fun v42 _ => ?_)
          have hu42 := path_h32 _ (cs.drop (half cs.length)) (i - (half cs.length : Int)) (Nat.le_refl _) (hu.drop _)
          have hpm := path_max _ (cs.drop (half cs.length)) (i - (half cs.length : Int)) (Nat.le_refl _)
          have hlt2 : ((cs.drop (half cs.length))).length ≤ 256 := (by rw [List.length_drop]; omega)
          refine op_nil ?_
          refine ax_then ?_
          refine mx_one (i := 10) (by decide +kernel) (Sub.refl _) ?_
          refine wo (i := 10) rfl ?_
          refine st_callv has51 rfl (fun w1 sw => root_any (cutAt 32 p 0 (half cs.length)) (cs.take (half cs.length)) w1 (hu.take _) (by rw [List.length_take]; omega) (takeh (sw.sl_rd (h := 0) rfl) hu (by omega))) rfl rfl ?_
          refine op_nil ?_
          refine ax_then ?_
          refine mx_one (i := 11) (by decide +kernel) (Sub.refl _) ?_
          refine wo (i := 11) rfl ?_
          refine st_bsh1 (h := 47) Try.underlying26 ty39 rfl (by first | assumption | omega) rfl rfl (fun b47 hu47 => ?_)
          refine op_nil ?_
          refine ax_then ?_
          refine mx_one (i := 12) (by decide +kernel) (Sub.refl _) ?_
          refine wo (i := 12) rfl ?_
          refine st_appendh (h := 42) Try.underlying26 Try.underlying26 ty39 rfl rfl rfl rfl (fun w1 sw => sw.own_rd (h := 47) rfl) (by assumption) (by assumption) (by first | omega | (simp only [List.length_append, List.length_cons, List.length_nil, List.length_set, List.length_replicate, List.length_take, List.length_drop, ints_length, wr_length, node_len] <;> omega)) (by decide) rfl rfl (fun v48 hu48 => ?_)
          refine op_nil ?_
          refine ax_then ?_
          refine mx (i := 13) rfl (by decide +kernel) (by decide +kernel) (by decide +kernel) rfl (fun w0 => ev_assign rfl) rfl rfl (Sub.refl _) ?_
          refine mx_done (by decide +kernel) (Sub.refl _) ?_
          refine ax_then ?_
          refine At.regs (L' := [(4, _)]) (.cons rfl (.nil _)) ?_
          refine cd_ret ?_
          refine rt_tmp (.inl rfl) Try.results53 rfl ?_
          first | exact fun w1 sw => ⟨_, trivial, rfl, by rw [hyes]; exact (sw.gives (N := [(29, _)]) (.cons rfl (.nil _))).rn 0⟩ | exact fun w1 sw => ⟨_, trivial, rfl, by rw [hyes]; exact (sw.gives (N := [(42, _)]) (.cons rfl (.nil _))).rn 0⟩
theorem path_all : ∀ (N : Nat) (p : Value) (cs : List (List Int)) (i : Int) (w : World), cs.length < N → H32 cs → cs.length ≤ 256 → (-9223372036854775808 ≤ i ∧ i ≤ 9223372036854775807) → Rd w p 32 (flat cs) → Calls Try.prog 53 #[p, .int .i64 i] w (Post (ι := Value) w [] (fun _ => True) (fun v => v) (fun v => [(0, .own (v) 39 32 (flat (path cs i)))]))
  | 0, _, _, _, _, hN, _, _, _, _ => absurd hN (Nat.not_lt_zero _)
  | N + 1, p, cs, i, w, hN, hu, hcl, hi, h => path_step cs.length (fun p' cs' i' w' h1 => path_all N p' cs' i' w' (by omega)) p cs i w rfl hu hcl hi h
theorem path_any (p : Value) (cs : List (List Int)) (i : Int) (w : World) (hu : H32 cs) (hcl : cs.length ≤ 256) (hi : -9223372036854775808 ≤ i ∧ i ≤ 9223372036854775807) (h : Rd w p 32 (flat cs)) : Calls Try.prog 53 #[p, .int .i64 i] w (Post (ι := Value) w [] (fun _ => True) (fun v => v) (fun v => [(0, .own (v) 39 32 (flat (path cs i)))])) := path_all (cs.length + 1) p cs i w (by omega) hu hcl hi h
set_option maxRecDepth 20000 in
set_option maxHeartbeats 4000000 in
theorem rpath_step (N : Nat) (ih : ∀ (p : Value) (cs : List (List Int)) (i : Int) (w : World), cs.length < N → H32 cs → cs.length ≤ 256 → (-9223372036854775808 ≤ i ∧ i ≤ 9223372036854775807) → Rd w p 32 (flat cs) → Calls Try.prog 55 #[p, .int .i64 i] w (Post (ι := Value) w [] (fun _ => True) (fun v => v) (fun v => [(0, .own (v) 39 32 (flat (path cs i)))]))) (p : Value) (cs : List (List Int)) (i : Int) (w : World) (hN : cs.length = N) (hu : H32 cs) (hcl : cs.length ≤ 256) (hi : -9223372036854775808 ≤ i ∧ i ≤ 9223372036854775807) (h : Rd w p 32 (flat cs)) : Calls Try.prog 55 #[p, .int .i64 i] w (Post (ι := Value) w [] (fun _ => True) (fun v => v) (fun v => [(0, .own (v) 39 32 (flat (path cs i)))])) := by
  refine calls_at (vs := [p, .int .i64 i]) (X := []) (H := []) (F := [(0, .sl p 32 (flat (cs)))]) 49 Try.func55 rfl rfl rfl (Sat.rd0 0 h) ?_
  refine cd_seq ?_
  refine cd_region ?_
  refine st (ev_assign rfl) rfl rfl rfl ?_
  refine at_own_nil 4 39 32 ?_
  refine at_heq (i := 4) (v' := .own (.slice none 0 0) 39 32 (flat [])) rfl rfl ?_
  have hu4 := H32.nil
  refine op_nil ?_
  refine ax_then ?_
  refine At.regs (L' := [(0, _), (1, _), (4, _)]) (.cons rfl (.cons rfl (.cons rfl (.nil _)))) ?_
  refine cd_seq ?_
  refine cd_seq ?_
  refine cd_region ?_
  refine st (ev_move rfl) rfl rfl rfl ?_
  refine st (ev_lss rfl rfl) rfl rfl rfl ?_
  refine st (ev_move rfl) rfl rfl rfl ?_
  refine at_split_if (i := 8) rfl (fun hg8 => ?_) (fun hg8 => ?_)
  ·
    have hno : path cs i = [] := path_no (by omega)
    refine st_skip rfl rfl rfl ?_
    refine st_skip rfl rfl rfl ?_
    refine st_skip rfl rfl rfl ?_
    refine st_skip rfl rfl rfl ?_
    refine st (ev_pick_t rfl rfl) rfl rfl rfl ?_
    refine st (ev_move rfl) rfl rfl rfl ?_
    refine st_skip rfl rfl rfl ?_
    refine st_skip rfl rfl rfl ?_
    refine st_skip rfl rfl rfl ?_
    refine st (ev_pick_t rfl rfl) rfl rfl rfl ?_
    refine op_nil ?_
    refine ax_then ?_
    refine At.regs (L' := [(0, _), (1, _), (4, _), (18, _)]) (.cons rfl (.cons rfl (.cons rfl (.cons rfl (.nil _))))) ?_
    refine cd_true rfl ?_
    refine cd_seq ?_
    refine cd_region ?_
    refine st (ev_assign rfl) rfl rfl rfl ?_
    refine at_own_nil 4 39 32 ?_
    refine at_heq (i := 4) (v' := .own (.slice none 0 0) 39 32 (flat [])) rfl rfl ?_
    have hu4 := H32.nil
    refine op_nil ?_
    refine ax_then ?_
    refine At.regs (L' := [(0, _), (1, _), (4, _)]) (.cons rfl (.cons rfl (.cons rfl (.nil _)))) ?_
    refine cd_ret ?_
    refine ax_then_ret ?_
    refine rt_tmp (.inl rfl) Try.results55 rfl ?_
    exact fun w1 sw => ⟨_, trivial, rfl, by rw [hno]; exact (sw.gives (N := [(4, _)]) (.cons rfl (.nil _))).rn 0⟩
  ·
    refine st (ev_move rfl) rfl rfl rfl ?_
    refine st (ev_move rfl) rfl rfl rfl ?_
    refine st (ev_len_rdh (h := 0) Try.underlying26 rfl rfl (by assumption)) rfl rfl rfl ?_
    refine st (ev_geq rfl rfl) rfl rfl rfl ?_
    refine st (ev_pick_f rfl rfl) rfl rfl rfl ?_
    refine st (ev_move rfl) rfl rfl rfl ?_
    refine at_split_if (i := 14) rfl (fun hg14 => ?_) (fun hg14 => ?_)
    ·
      have hno : path cs i = [] := path_no (by omega)
      refine st_skip rfl rfl rfl ?_
      refine st_skip rfl rfl rfl ?_
      refine st_skip rfl rfl rfl ?_
      refine st (ev_pick_t rfl rfl) rfl rfl rfl ?_
      refine op_nil ?_
      refine ax_then ?_
      refine At.regs (L' := [(0, _), (1, _), (4, _), (18, _)]) (.cons rfl (.cons rfl (.cons rfl (.cons rfl (.nil _))))) ?_
      refine cd_true rfl ?_
      refine cd_seq ?_
      refine cd_region ?_
      refine st (ev_assign rfl) rfl rfl rfl ?_
      refine at_own_nil 4 39 32 ?_
      refine at_heq (i := 4) (v' := .own (.slice none 0 0) 39 32 (flat [])) rfl rfl ?_
      have hu4 := H32.nil
      refine op_nil ?_
      refine ax_then ?_
      refine At.regs (L' := [(0, _), (1, _), (4, _)]) (.cons rfl (.cons rfl (.cons rfl (.nil _)))) ?_
      refine cd_ret ?_
      refine ax_then_ret ?_
      refine rt_tmp (.inl rfl) Try.results55 rfl ?_
      exact fun w1 sw => ⟨_, trivial, rfl, by rw [hno]; exact (sw.gives (N := [(4, _)]) (.cons rfl (.nil _))).rn 0⟩
    ·
      refine st (ev_move rfl) rfl rfl rfl ?_
      refine st (ev_len_rdh (h := 0) Try.underlying26 rfl rfl (by assumption)) rfl rfl rfl ?_
      refine st (ev_lss rfl rfl) rfl rfl rfl ?_
      refine st (ev_pick_f rfl rfl) rfl rfl rfl ?_
      refine op_nil ?_
      refine ax_then ?_
      refine At.regs (L' := [(0, _), (1, _), (4, _), (18, _)]) (.cons rfl (.cons rfl (.cons rfl (.cons rfl (.nil _))))) ?_
      refine cd_if rfl (fun hc18 => ?_) (fun hc18 => ?_)
      ·
        have hno : path cs i = [] := path_no (by omega)
        refine cd_seq ?_
        refine cd_region ?_
        refine st (ev_assign rfl) rfl rfl rfl ?_
        refine at_own_nil 4 39 32 ?_
        refine at_heq (i := 4) (v' := .own (.slice none 0 0) 39 32 (flat [])) rfl rfl ?_
        have hu4 := H32.nil
        refine op_nil ?_
        refine ax_then ?_
        refine At.regs (L' := [(0, _), (1, _), (4, _)]) (.cons rfl (.cons rfl (.cons rfl (.nil _)))) ?_
        refine cd_ret ?_
        refine ax_then_ret ?_
        refine rt_tmp (.inl rfl) Try.results55 rfl ?_
        exact fun w1 sw => ⟨_, trivial, rfl, by rw [hno]; exact (sw.gives (N := [(4, _)]) (.cons rfl (.nil _))).rn 0⟩
      ·
        have hge : 2 ≤ cs.length := by omega
        have hlt := half_lt hge
        have hps := half_pos cs.length
        refine cd_skip ?_
        refine ax_then ?_
        refine At.regs (L' := [(0, _), (1, _), (4, _)]) (.cons rfl (.cons rfl (.cons rfl (.nil _)))) ?_
        refine cd_seq ?_
        refine cd_region ?_
        refine st (ev_move rfl) rfl rfl rfl ?_
        refine st (ev_len_rdh (h := 0) Try.underlying26 rfl rfl (by assumption)) rfl rfl rfl ?_
        refine at_eq (i := 20) (v' := .int .i64 (cs.length : Int)) rfl rfl ?_
        refine st_callv has81 rfl (fun w1 sw => rhalf_any cs.length w1 hge (by omega)) rfl rfl ?_
        refine st (ev_assign rfl) rfl rfl rfl ?_
        refine op_nil ?_
        refine ax_then ?_
        refine At.regs (L' := [(0, _), (1, _), (4, _), (5, _)]) (.cons rfl (.cons rfl (.cons rfl (.cons rfl (.nil _))))) ?_
        refine cd_seq ?_
        refine cd_seq ?_
        refine cd_region ?_
        refine st (ev_move rfl) rfl rfl rfl ?_
        refine st (ev_move rfl) rfl rfl rfl ?_
        refine st (ev_lss rfl rfl) rfl rfl rfl ?_
        refine op_nil ?_
        refine ax_then ?_
        refine At.regs (L' := [(0, _), (1, _), (4, _), (5, _), (24, _)]) (.cons rfl (.cons rfl (.cons rfl (.cons rfl (.cons rfl (.nil _)))))) ?_
        refine cd_if rfl (fun hc24 => ?_) (fun hc24 => ?_)
        ·
          have hyes := path_lo (by omega) hge hc24
          have hrl := root_len (hu.drop (half cs.length))
          refine cd_seq ?_
          refine cd_mix hmix ?_
          refine mx (i := 0) rfl (by decide +kernel) (by decide +kernel) (by decide +kernel) rfl (fun w0 => ev_move rfl) rfl rfl (Sub.refl _) ?_
          refine mx (i := 1) rfl (by decide +kernel) (by decide +kernel) (by decide +kernel) rfl (fun w0 => ev_move rfl) rfl rfl (Sub.refl _) ?_
          refine mx (i := 2) rfl (by decide +kernel) (by decide +kernel) (by decide +kernel) rfl (fun w0 => ev_sliceh_hi Try.underlying26 ty39 rfl rfl (fun w1 sw => sw.sl_rd (h := 0) rfl) (by assumption) (by omega) (by first | omega | (simp only [List.length_append, List.length_cons, List.length_nil, List.length_set, List.length_replicate, List.length_take, List.length_drop, ints_length, wr_length, node_len] <;> omega))) rfl rfl (Sub.refl _) ?_
          refine at_eq (i := 27) (v' := cutAt 32 p 0 (half cs.length)) rfl (by rw [Int.toNat_natCast]) ?_
          refine mx (i := 3) rfl (by decide +kernel) (by decide +kernel) (by decide +kernel) rfl (fun w0 => ev_move rfl) rfl rfl (Sub.refl _) ?_
          refine mx (i := 5) rfl (by decide +kernel) (by decide +kernel) (by decide +kernel) rfl (fun w0 => ev_move rfl) rfl rfl (Sub.refl _) ?_
          refine mx (i := 6) rfl (by decide +kernel) (by decide +kernel) (by decide +kernel) rfl (fun w0 => ev_move rfl) rfl rfl (Sub.refl _) ?_
          refine mx (i := 7) rfl (by decide +kernel) (by decide +kernel) (by decide +kernel) rfl (fun w0 => ev_sliceh_lo Try.underlying26 ty39 rfl rfl (fun w1 sw => sw.sl_rd (h := 0) rfl) (by assumption) (by omega) (by first | omega | (simp only [List.length_append, List.length_cons, List.length_nil, List.length_set, List.length_replicate, List.length_take, List.length_drop, ints_length, wr_length, node_len] <;> omega))) rfl rfl (Sub.refl _) ?_
          refine at_eq (i := 32) (v' := cutAt 32 p (half cs.length) cs.length) rfl (by rw [Int.toNat_natCast]) ?_
          refine mx_one (i := 4) (by decide +kernel) (Sub.refl _) ?_
          refine wo (i := 4) rfl ?_
          refine st_call has55 rfl (fun w1 sw => rn 29 (ih (cutAt 32 p 0 (half cs.length)) (cs.take (half cs.length)) (i) w1 (by rw [List.length_take]; omega) (hu.take _) (by rw [List.length_take]; omega) (by omega) (takeh (sw.sl_rd (h := 0) rfl) hu (by omega)))) nil_all rfl rfl (fun v29 _ => ?_)
          have hu29 := path_h32 _ (cs.take (half cs.length)) (i) (Nat.le_refl _) (hu.take _)
          have hpm := path_max _ (cs.take (half cs.length)) (i) (Nat.le_refl _)
          have hlt2 : ((cs.take (half cs.length))).length ≤ 256 := (by rw [List.length_take]; omega)
          refine op_nil ?_
          refine ax_then ?_
          refine mx_one (i := 8) (by decide +kernel) (Sub.refl _) ?_
          refine wo (i := 8) rfl ?_
          refine st_callv has49 rfl (fun w1 sw => rroot_any (cutAt 32 p (half cs.length) cs.length) (cs.drop (half cs.length)) w1 (hu.drop _) (by rw [List.length_drop]; omega) (droph (sw.sl_rd (h := 0) rfl) hu (by omega))) rfl rfl ?_
          refine op_nil ?_
          refine ax_then ?_
          refine mx_one (i := 9) (by decide +kernel) (Sub.refl _) ?_
          refine wo (i := 9) rfl ?_
          refine st_bsh1 (h := 34) Try.underlying26 ty39 rfl (by first | assumption | omega) rfl rfl (fun b34 hu34 => ?_)
          refine op_nil ?_
          refine ax_then ?_
          refine mx_one (i := 10) (by decide +kernel) (Sub.refl _) ?_
          refine wo (i := 10) rfl ?_
          refine st_appendh (h := 29) Try.underlying26 Try.underlying26 ty39 rfl rfl rfl rfl (fun w1 sw => sw.own_rd (h := 34) rfl) (by assumption) (by assumption) (by first | omega | (simp only [List.length_append, List.length_cons, List.length_nil, List.length_set, List.length_replicate, List.length_take, List.length_drop, ints_length, wr_length, node_len] <;> omega)) (by decide) rfl rfl (fun v35 hu35 => ?_)
          refine op_nil ?_
          refine ax_then ?_
          refine mx (i := 11) rfl (by decide +kernel) (by decide +kernel) (by decide +kernel) rfl (fun w0 => ev_assign rfl) rfl rfl (Sub.refl _) ?_
          refine mx_done (by decide +kernel) (Sub.refl _) ?_
          refine ax_then ?_
          refine At.regs (L' := [(0, _), (1, _), (4, _), (5, _)]) (.cons rfl (.cons rfl (.cons rfl (.cons rfl (.nil _))))) ?_
          refine cd_ret ?_
          refine ax_then_ret ?_
          refine rt_tmp (.inl rfl) Try.results55 rfl ?_
          first | exact fun w1 sw => ⟨_, trivial, rfl, by rw [hyes]; exact (sw.gives (N := [(29, _)]) (.cons rfl (.nil _))).rn 0⟩ | exact fun w1 sw => ⟨_, trivial, rfl, by rw [hyes]; exact (sw.gives (N := [(42, _)]) (.cons rfl (.nil _))).rn 0⟩
        ·
          have hyes := path_hi (by omega) hge hc24
          have hrl := root_len (hu.take (half cs.length))
          refine cd_skip ?_
          refine ax_then ?_
          refine At.regs (L' := [(0, _), (1, _), (4, _), (5, _)]) (.cons rfl (.cons rfl (.cons rfl (.cons rfl (.nil _))))) ?_
          refine cd_seq ?_
          refine cd_mix hmix ?_
          refine mx (i := 0) rfl (by decide +kernel) (by decide +kernel) (by decide +kernel) rfl (fun w0 => ev_move rfl) rfl rfl (Sub.refl _) ?_
          refine mx (i := 1) rfl (by decide +kernel) (by decide +kernel) (by decide +kernel) rfl (fun w0 => ev_move rfl) rfl rfl (Sub.refl _) ?_
          refine mx (i := 2) rfl (by decide +kernel) (by decide +kernel) (by decide +kernel) rfl (fun w0 => ev_sliceh_lo Try.underlying26 ty39 rfl rfl (fun w1 sw => sw.sl_rd (h := 0) rfl) (by assumption) (by omega) (by first | omega | (simp only [List.length_append, List.length_cons, List.length_nil, List.length_set, List.length_replicate, List.length_take, List.length_drop, ints_length, wr_length, node_len] <;> omega))) rfl rfl (Sub.refl _) ?_
          refine at_eq (i := 38) (v' := cutAt 32 p (half cs.length) cs.length) rfl (by rw [Int.toNat_natCast]) ?_
          refine mx (i := 3) rfl (by decide +kernel) (by decide +kernel) (by decide +kernel) rfl (fun w0 => ev_move rfl) rfl rfl (Sub.refl _) ?_
          refine mx (i := 4) rfl (by decide +kernel) (by decide +kernel) (by decide +kernel) rfl (fun w0 => ev_move rfl) rfl rfl (Sub.refl _) ?_
          refine mx (i := 5) rfl (by decide +kernel) (by decide +kernel) (by decide +kernel) rfl (fun w0 => ev_sub64 rfl rfl (by omega) (by omega)) rfl rfl (Sub.refl _) ?_
          refine mx (i := 7) rfl (by decide +kernel) (by decide +kernel) (by decide +kernel) rfl (fun w0 => ev_move rfl) rfl rfl (Sub.refl _) ?_
          refine mx (i := 8) rfl (by decide +kernel) (by decide +kernel) (by decide +kernel) rfl (fun w0 => ev_move rfl) rfl rfl (Sub.refl _) ?_
          refine mx (i := 9) rfl (by decide +kernel) (by decide +kernel) (by decide +kernel) rfl (fun w0 => ev_sliceh_hi Try.underlying26 ty39 rfl rfl (fun w1 sw => sw.sl_rd (h := 0) rfl) (by assumption) (by omega) (by first | omega | (simp only [List.length_append, List.length_cons, List.length_nil, List.length_set, List.length_replicate, List.length_take, List.length_drop, ints_length, wr_length, node_len] <;> omega))) rfl rfl (Sub.refl _) ?_
          refine at_eq (i := 45) (v' := cutAt 32 p 0 (half cs.length)) rfl (by rw [Int.toNat_natCast]) ?_
          refine mx_one (i := 6) (by decide +kernel) (Sub.refl _) ?_
          refine wo (i := 6) rfl ?_
          refine st_call has55 rfl (fun w1 sw => rn 42 (ih (cutAt 32 p (half cs.length) cs.length) (cs.drop (half cs.length)) (i - (half cs.length : Int)) w1 (by rw [List.length_drop]; omega) (hu.drop _) (by rw [List.length_drop]; omega) (by omega) (droph (sw.sl_rd (h := 0) rfl) hu (by omega)))) nil_all rfl rfl (fun v42 _ => ?_)
          have hu42 := path_h32 _ (cs.drop (half cs.length)) (i - (half cs.length : Int)) (Nat.le_refl _) (hu.drop _)
          have hpm := path_max _ (cs.drop (half cs.length)) (i - (half cs.length : Int)) (Nat.le_refl _)
          have hlt2 : ((cs.drop (half cs.length))).length ≤ 256 := (by rw [List.length_drop]; omega)
          refine op_nil ?_
          refine ax_then ?_
          refine mx_one (i := 10) (by decide +kernel) (Sub.refl _) ?_
          refine wo (i := 10) rfl ?_
          refine st_callv has49 rfl (fun w1 sw => rroot_any (cutAt 32 p 0 (half cs.length)) (cs.take (half cs.length)) w1 (hu.take _) (by rw [List.length_take]; omega) (takeh (sw.sl_rd (h := 0) rfl) hu (by omega))) rfl rfl ?_
          refine op_nil ?_
          refine ax_then ?_
          refine mx_one (i := 11) (by decide +kernel) (Sub.refl _) ?_
          refine wo (i := 11) rfl ?_
          refine st_bsh1 (h := 47) Try.underlying26 ty39 rfl (by first | assumption | omega) rfl rfl (fun b47 hu47 => ?_)
          refine op_nil ?_
          refine ax_then ?_
          refine mx_one (i := 12) (by decide +kernel) (Sub.refl _) ?_
          refine wo (i := 12) rfl ?_
          refine st_appendh (h := 42) Try.underlying26 Try.underlying26 ty39 rfl rfl rfl rfl (fun w1 sw => sw.own_rd (h := 47) rfl) (by assumption) (by assumption) (by first | omega | (simp only [List.length_append, List.length_cons, List.length_nil, List.length_set, List.length_replicate, List.length_take, List.length_drop, ints_length, wr_length, node_len] <;> omega)) (by decide) rfl rfl (fun v48 hu48 => ?_)
          refine op_nil ?_
          refine ax_then ?_
          refine mx (i := 13) rfl (by decide +kernel) (by decide +kernel) (by decide +kernel) rfl (fun w0 => ev_assign rfl) rfl rfl (Sub.refl _) ?_
          refine mx_done (by decide +kernel) (Sub.refl _) ?_
          refine ax_then ?_
          refine At.regs (L' := [(4, _)]) (.cons rfl (.nil _)) ?_
          refine cd_ret ?_
          refine rt_tmp (.inl rfl) Try.results55 rfl ?_
          first | exact fun w1 sw => ⟨_, trivial, rfl, by rw [hyes]; exact (sw.gives (N := [(29, _)]) (.cons rfl (.nil _))).rn 0⟩ | exact fun w1 sw => ⟨_, trivial, rfl, by rw [hyes]; exact (sw.gives (N := [(42, _)]) (.cons rfl (.nil _))).rn 0⟩
theorem rpath_all : ∀ (N : Nat) (p : Value) (cs : List (List Int)) (i : Int) (w : World), cs.length < N → H32 cs → cs.length ≤ 256 → (-9223372036854775808 ≤ i ∧ i ≤ 9223372036854775807) → Rd w p 32 (flat cs) → Calls Try.prog 55 #[p, .int .i64 i] w (Post (ι := Value) w [] (fun _ => True) (fun v => v) (fun v => [(0, .own (v) 39 32 (flat (path cs i)))]))
  | 0, _, _, _, _, hN, _, _, _, _ => absurd hN (Nat.not_lt_zero _)
  | N + 1, p, cs, i, w, hN, hu, hcl, hi, h => rpath_step cs.length (fun p' cs' i' w' h1 => rpath_all N p' cs' i' w' (by omega)) p cs i w rfl hu hcl hi h
theorem rpath_any (p : Value) (cs : List (List Int)) (i : Int) (w : World) (hu : H32 cs) (hcl : cs.length ≤ 256) (hi : -9223372036854775808 ≤ i ∧ i ≤ 9223372036854775807) (h : Rd w p 32 (flat cs)) : Calls Try.prog 55 #[p, .int .i64 i] w (Post (ι := Value) w [] (fun _ => True) (fun v => v) (fun v => [(0, .own (v) 39 32 (flat (path cs i)))])) := rpath_all (cs.length + 1) p cs i w (by omega) hu hcl hi h
end Go.Proofs.Yteedclmcgifmpaa

namespace Go.Proofs.Yteedclmcgifmpaa
open Go Go.RowKit Fw
open Sha
open Ots
open Mk
set_option linter.unusedVariables false
set_option linter.unusedSimpArgs false
set_option maxRecDepth 20000 in
set_option maxHeartbeats 1000000 in
theorem named_any (r : List Int) (w : World) (hr : r.length = 32) : Calls Try.prog 50 #[.agg (ints .u8 (r)).toArray] w (PostV w (.agg (ints .u8 (Ky.named r)).toArray)) := by
  refine calls_at (vs := [.agg (ints .u8 (r)).toArray]) (X := []) (H := []) (F := []) 7 Try.func50 rfl rfl rfl (Sat.start0 w) ?_
  refine cd_seq ?_
  refine cd_region ?_
  refine st_box (h := 1) rfl rfl rfl rfl (fun b1 => ?_)
  refine st_alloc (h := 2) ty39 rfl rfl rfl (fun b2 => ?_)
  refine op_nil ?_
  refine ax_then ?_
  refine At.regs (L' := [(1, _), (2, _)]) (.cons rfl (.cons rfl (.nil _))) ?_
  refine cd_seq ?_
  refine cd_region ?_
  refine st_bsi (h := 3) (xs := [_]) Try.underlying22 ty5 (by decide) rfl rfl (by decide) rfl rfl (fun b3 => ?_)
  refine st (ev_slice_arr_all Try.underlying39 ty5 rfl) rfl rfl rfl ?_
  refine st_appendi (h := 3) Try.underlying22 Try.underlying22 ty5 rfl rfl rfl rfl (fun w1 sw => rd_blk_all sw (h := 1) rfl (by first | omega | (simp only [List.length_append, List.length_cons, List.length_nil, List.length_set, List.length_replicate, List.length_take, List.length_drop, ints_length, wr_length, sha_len, node_len, recov_len, Ky.named_len, Ky.keyPub_len] <;> omega) | rfl)) (by first | omega | (simp only [List.length_append, List.length_cons, List.length_nil, List.length_set, List.length_replicate, List.length_take, List.length_drop, ints_length, wr_length, sha_len, node_len, recov_len, Ky.named_len, Ky.keyPub_len] <;> omega)) (by decide) rfl rfl (fun v5 => ?_)
  refine st_callv has83 rfl (fun w1 sw => sum_any v5 ([4] ++ r) w1 (by simp only [List.length_append, List.length_cons, List.length_nil]; omega) (sw.own_rd (h := 3) rfl)) rfl rfl ?_
  refine at_eq (i := 6) (v' := .agg (ints .u8 (Ky.named r)).toArray) rfl rfl ?_
  refine st_store_all 2 ty39 rfl rfl rfl rfl (by first | omega | (simp only [List.length_append, List.length_cons, List.length_nil, List.length_set, List.length_replicate, List.length_take, List.length_drop, ints_length, wr_length, sha_len, node_len, recov_len, Ky.named_len, Ky.keyPub_len] <;> omega) | rfl) (ints_one _ _) (by first | omega | (simp only [List.length_append, List.length_cons, List.length_nil, List.length_set, List.length_replicate, List.length_take, List.length_drop, ints_length, wr_length, sha_len, node_len, recov_len, Ky.named_len, Ky.keyPub_len] <;> omega) | rfl) rfl ?_
  refine op_nil ?_
  refine ax_then ?_
  refine At.regs (L' := [(2, _)]) (.cons rfl (.nil _)) ?_
  refine cd_ret ?_
  refine rt_cell (h0 := 2) (.inl rfl) Try.results50 ty39 rfl rfl rfl (by first | omega | (simp only [List.length_append, List.length_cons, List.length_nil, List.length_set, List.length_replicate, List.length_take, List.length_drop, ints_length, wr_length, sha_len, node_len, recov_len, Ky.named_len, Ky.keyPub_len] <;> omega) | rfl) ?_
  exact fun w1 sw => ⟨rfl, sw.gives (.nil _)⟩
set_option maxRecDepth 20000 in
set_option maxHeartbeats 1000000 in
theorem rnamed_any (r : List Int) (w : World) (hr : r.length = 32) : Calls Try.prog 48 #[.agg (ints .u8 (r)).toArray] w (PostV w (.agg (ints .u8 (Ky.named r)).toArray)) := by
  refine calls_at (vs := [.agg (ints .u8 (r)).toArray]) (X := []) (H := []) (F := []) 7 Try.func48 rfl rfl rfl (Sat.start0 w) ?_
  refine cd_seq ?_
  refine cd_region ?_
  refine st_box (h := 1) rfl rfl rfl rfl (fun b1 => ?_)
  refine st_alloc (h := 2) ty39 rfl rfl rfl (fun b2 => ?_)
  refine op_nil ?_
  refine ax_then ?_
  refine At.regs (L' := [(1, _), (2, _)]) (.cons rfl (.cons rfl (.nil _))) ?_
  refine cd_seq ?_
  refine cd_region ?_
  refine st_bsi (h := 3) (xs := [_]) Try.underlying22 ty5 (by decide) rfl rfl (by decide) rfl rfl (fun b3 => ?_)
  refine st (ev_slice_arr_all Try.underlying39 ty5 rfl) rfl rfl rfl ?_
  refine st_appendi (h := 3) Try.underlying22 Try.underlying22 ty5 rfl rfl rfl rfl (fun w1 sw => rd_blk_all sw (h := 1) rfl (by first | omega | (simp only [List.length_append, List.length_cons, List.length_nil, List.length_set, List.length_replicate, List.length_take, List.length_drop, ints_length, wr_length, sha_len, node_len, recov_len, Ky.named_len, Ky.keyPub_len] <;> omega) | rfl)) (by first | omega | (simp only [List.length_append, List.length_cons, List.length_nil, List.length_set, List.length_replicate, List.length_take, List.length_drop, ints_length, wr_length, sha_len, node_len, recov_len, Ky.named_len, Ky.keyPub_len] <;> omega)) (by decide) rfl rfl (fun v5 => ?_)
  refine st_callv has80 rfl (fun w1 sw => rsum_any v5 ([4] ++ r) w1 (by simp only [List.length_append, List.length_cons, List.length_nil]; omega) (sw.own_rd (h := 3) rfl)) rfl rfl ?_
  refine at_eq (i := 6) (v' := .agg (ints .u8 (Ky.named r)).toArray) rfl rfl ?_
  refine st_store_all 2 ty39 rfl rfl rfl rfl (by first | omega | (simp only [List.length_append, List.length_cons, List.length_nil, List.length_set, List.length_replicate, List.length_take, List.length_drop, ints_length, wr_length, sha_len, node_len, recov_len, Ky.named_len, Ky.keyPub_len] <;> omega) | rfl) (ints_one _ _) (by first | omega | (simp only [List.length_append, List.length_cons, List.length_nil, List.length_set, List.length_replicate, List.length_take, List.length_drop, ints_length, wr_length, sha_len, node_len, recov_len, Ky.named_len, Ky.keyPub_len] <;> omega) | rfl) rfl ?_
  refine op_nil ?_
  refine ax_then ?_
  refine At.regs (L' := [(2, _)]) (.cons rfl (.nil _)) ?_
  refine cd_ret ?_
  refine rt_cell (h0 := 2) (.inl rfl) Try.results48 ty39 rfl rfl rfl (by first | omega | (simp only [List.length_append, List.length_cons, List.length_nil, List.length_set, List.length_replicate, List.length_take, List.length_drop, ints_length, wr_length, sha_len, node_len, recov_len, Ky.named_len, Ky.keyPub_len] <;> omega) | rfl) ?_
  exact fun w1 sw => ⟨rfl, sw.gives (.nil _)⟩
set_option maxRecDepth 20000 in
set_option maxHeartbeats 1000000 in
theorem rsame5_any (l l2 : Int) (vc vp vc2 vp2 : Value) (cs ps cs2 ps2 : List (List Int)) (w : World) (hu : H32 cs) (hu' : H32 ps) (hu2 : H32 cs2) (hu2' : H32 ps2) (n1 : cs.length ≤ 140737488352000) (n2 : ps.length ≤ 140737488352000) (n3 : cs2.length ≤ 140737488352000) (n4 : ps2.length ≤ 140737488352000) (h : Rd w vc 32 (flat cs)) (h' : Rd w vp 32 (flat ps)) (h2 : Rd w vc2 32 (flat cs2)) (h2' : Rd w vp2 32 (flat ps2)) : Calls Try.prog 31 #[.agg (List.toArray [.int .i64 l, vc, vp]), .agg (List.toArray [.int .i64 l2, vc2, vp2])] w (PostV w (.bool (decide (l = l2 ∧ cs = cs2 ∧ ps = ps2)))) := by
  refine calls_at (vs := [.agg (List.toArray [.int .i64 l, vc, vp]), .agg (List.toArray [.int .i64 l2, vc2, vp2])]) (X := []) (H := []) (F := [(23, .sl vp2 32 (flat (ps2))), (22, .sl vc2 32 (flat (cs2))), (21, .sl vp 32 (flat (ps))), (20, .sl vc 32 (flat (cs)))]) 24 Try.func31 rfl rfl rfl ((((Sat.rd0 20 h).more 21 h').more 22 h2).more 23 h2') ?_
  refine cd_seq ?_
  refine cd_region ?_
  refine st_box (h := 2) rfl rfl rfl rfl (fun b2 => ?_)
  refine st_box (h := 3) rfl rfl rfl rfl (fun b3 => ?_)
  refine st (ev_assign rfl) rfl rfl rfl ?_
  refine op_nil ?_
  refine ax_then ?_
  refine At.regs (L' := [(2, _), (3, _), (4, _)]) (.cons rfl (.cons rfl (.cons rfl (.nil _)))) ?_
  refine cd_seq ?_
  refine cd_region ?_
  refine st (ev_fieldAddr (b := _) Try.underlying42 (f := _) rfl ty3 (by decide) rfl) rfl rfl rfl ?_
  refine st (ld_blk1 (h := 2) ty3 rfl rfl rfl rfl) rfl rfl rfl ?_
  refine st (ev_fieldAddr (b := _) Try.underlying42 (f := _) rfl ty3 (by decide) rfl) rfl rfl rfl ?_
  refine st (ld_blk1 (h := 3) ty3 rfl rfl rfl rfl) rfl rfl rfl ?_
  refine st (ev_eql rfl rfl) rfl rfl rfl ?_
  refine st (ev_move rfl) rfl rfl rfl ?_
  refine at_split_if (i := 10) rfl (fun hg10 => ?_) (fun hg10 => ?_)
  ·
    refine st (ev_fieldAddr (b := _) Try.underlying42 (f := _) rfl ty26 (by decide) rfl) rfl rfl rfl ?_
    refine st (ld_blk1 (h := 2) ty26 rfl rfl rfl rfl) rfl rfl rfl ?_
    refine st (ev_fieldAddr (b := _) Try.underlying42 (f := _) rfl ty26 (by decide) rfl) rfl rfl rfl ?_
    refine st (ld_blk1 (h := 3) ty26 rfl rfl rfl rfl) rfl rfl rfl ?_
    refine st_callv has16 rfl (fun w1 sw => hashes_any vc vc2 cs cs2 w1 hu hu2 n1 n3 (sw.sl_rd (h := 20) rfl) (sw.sl_rd (h := 22) rfl)) rfl rfl ?_
    refine st (ev_pick_t rfl rfl) rfl rfl rfl ?_
    refine st (ev_move rfl) rfl rfl rfl ?_
    refine at_split_if (i := 17) rfl (fun hg17 => ?_) (fun hg17 => ?_)
    ·
      refine st (ev_fieldAddr (b := _) Try.underlying42 (f := _) rfl ty26 (by decide) rfl) rfl rfl rfl ?_
      refine st (ld_blk1 (h := 2) ty26 rfl rfl rfl rfl) rfl rfl rfl ?_
      refine st (ev_fieldAddr (b := _) Try.underlying42 (f := _) rfl ty26 (by decide) rfl) rfl rfl rfl ?_
      refine st (ld_blk1 (h := 3) ty26 rfl rfl rfl rfl) rfl rfl rfl ?_
      refine st_callv has16 rfl (fun w1 sw => hashes_any vp vp2 ps ps2 w1 hu' hu2' n2 n4 (sw.sl_rd (h := 21) rfl) (sw.sl_rd (h := 23) rfl)) rfl rfl ?_
      refine st (ev_pick_t rfl rfl) rfl rfl rfl ?_
      refine st (ev_assign rfl) rfl rfl rfl ?_
      refine op_nil ?_
      refine ax_then ?_
      refine At.regs (L' := [(4, _)]) (.cons rfl (.nil _)) ?_
      refine cd_ret ?_
      refine rt_tmp (.inl rfl) Try.results31 rfl ?_
      exact fun w1 sw => ⟨congrArg (fun b => Ending.returned (Value.bool b)) (by first | exact (decide_eq_false (fun hh => by obtain ⟨a1, a2, a3⟩ := hh; first | exact hg10 a1 | exact hg17 a2)).symm | exact decide_eq_decide.2 ⟨fun h => ⟨hg10, hg17, h⟩, fun h => h.2.2⟩), sw.gives (.nil _)⟩
    ·
      refine st_skip rfl rfl rfl ?_
      refine st_skip rfl rfl rfl ?_
      refine st_skip rfl rfl rfl ?_
      refine st_skip rfl rfl rfl ?_
      refine st_skip rfl rfl rfl ?_
      refine st (ev_pick_f rfl rfl) rfl rfl rfl ?_
      refine st (ev_assign rfl) rfl rfl rfl ?_
      refine op_nil ?_
      refine ax_then ?_
      refine At.regs (L' := [(4, _)]) (.cons rfl (.nil _)) ?_
      refine cd_ret ?_
      refine rt_tmp (.inl rfl) Try.results31 rfl ?_
      exact fun w1 sw => ⟨congrArg (fun b => Ending.returned (Value.bool b)) (by first | exact (decide_eq_false (fun hh => by obtain ⟨a1, a2, a3⟩ := hh; first | exact hg10 a1 | exact hg17 a2)).symm | exact decide_eq_decide.2 ⟨fun h => ⟨hg10, hg17, h⟩, fun h => h.2.2⟩), sw.gives (.nil _)⟩
  ·
    refine st_skip rfl rfl rfl ?_
    refine st_skip rfl rfl rfl ?_
    refine st_skip rfl rfl rfl ?_
    refine st_skip rfl rfl rfl ?_
    refine st_skip rfl rfl rfl ?_
    refine st (ev_pick_f rfl rfl) rfl rfl rfl ?_
    refine st (ev_move rfl) rfl rfl rfl ?_
    refine st_skip rfl rfl rfl ?_
    refine st_skip rfl rfl rfl ?_
    refine st_skip rfl rfl rfl ?_
    refine st_skip rfl rfl rfl ?_
    refine st_skip rfl rfl rfl ?_
    refine st (ev_pick_f rfl rfl) rfl rfl rfl ?_
    refine st (ev_assign rfl) rfl rfl rfl ?_
    refine op_nil ?_
    refine ax_then ?_
    refine At.regs (L' := [(4, _)]) (.cons rfl (.nil _)) ?_
    refine cd_ret ?_
    refine rt_tmp (.inl rfl) Try.results31 rfl ?_
    exact fun w1 sw => ⟨congrArg (fun b => Ending.returned (Value.bool b)) (by first | exact (decide_eq_false (fun hh => by obtain ⟨a1, a2, a3⟩ := hh; first | exact hg10 a1 | exact hg17 a2)).symm | exact decide_eq_decide.2 ⟨fun h => ⟨hg10, hg17, h⟩, fun h => h.2.2⟩), sw.gives (.nil _)⟩
end Go.Proofs.Yteedclmcgifmpaa

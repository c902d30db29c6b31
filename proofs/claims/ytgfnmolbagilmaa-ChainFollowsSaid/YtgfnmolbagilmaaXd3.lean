/- The statement's proof, part 3: what its walks and its plain laws need. -/
import Derived.Test.YtgfnmolbagilmaaRows
import Derived.Tactics
import Derived.Deep.Quiet
import Derived.StillTail
import Derived.Laws.World
import Derived.Laws.Sem
import Derived.Laws.Entries
import Derived.Below
import Derived.Deep.LoopGhost
import Derived.Laws.BytesString
import Derived.Laws.IdiomStrings
import Derived.KernelRfl
import Derived.Carry
import Derived.OpenShut
import Derived.ProofKit
import Derived.ChangeSame
import Derived.HandedShaped
import Derived.SizedLaws
import Derived.Test.YtgfnmolbagilmaaProg
import Derived.Laws.Strings
import Derived.Test.YtgfnmolbagilmaaXd2
namespace Go.Proofs.Ytgfnmolbagilmaa
open Go Go.RowKit Fw
open Sha
open Ots
set_option linter.unusedVariables false
set_option linter.unusedSimpArgs false
set_option maxRecDepth 20000 in
set_option maxHeartbeats 1000000 in
theorem walk_any (h0 : List Int) (c f t : Int) (w : World) (hl : h0.length = 32) (hf : f ≤ 9223372036854775807) : Calls Try.prog 111 #[.agg (ints .u8 (h0)).toArray, .int .i64 c, .int .i64 f, .int .i64 t] w (PostV w (.agg (ints .u8 (walk h0 c f t)).toArray)) := by
  refine calls_at (vs := [.agg (ints .u8 (h0)).toArray, .int .i64 c, .int .i64 f, .int .i64 t]) (X := []) (H := []) (F := []) 27 Try.func111 rfl rfl rfl (Sat.start0 w) ?_
  refine cd_seq ?_
  refine cd_region ?_
  refine st_box (h := 4) rfl rfl rfl rfl (fun b4 => ?_)
  refine st_alloc (h := 8) ty55 rfl rfl rfl (fun b8 => ?_)
  refine op_nil ?_
  refine ax_then ?_
  refine At.regs (L' := [(1, _), (2, _), (3, _), (4, _), (8, _)]) (.cons rfl (.cons rfl (.cons rfl (.cons rfl (.cons rfl (.nil _)))))) ?_
  refine cd_seq ?_
  refine cd_seq ?_
  refine cd_region ?_
  refine st (ev_move rfl) rfl rfl rfl ?_
  refine st (ev_max2 rfl rfl) rfl rfl rfl ?_
  obtain ⟨a, ha⟩ : ∃ a : Nat, max f 0 = (a : Int) := ⟨(max f 0).toNat, (Int.toNat_of_nonneg (by omega)).symm⟩
  refine at_eq (i := 11) (v' := .int .i64 ((a + 0 : Nat) : Int)) rfl (by rw [ha]; rfl) ?_
  refine st (ev_assign rfl) rfl rfl rfl ?_
  refine op_nil ?_
  refine ax_then ?_
  refine At.regs (L' := [(1, _), (3, _), (4, _), (8, _), (9, _)]) (.cons rfl (.cons rfl (.cons rfl (.cons rfl (.cons rfl (.nil _)))))) ?_
  refine cd_block ?_
  refine cd_loop (ι := Nat) (fun k => k ≤ (min t 3 - a).toNat) (fun k => (min t 3 - a).toNat - k)
      (fun k => [(1, .int .i64 c), (3, .int .i64 t), (4, .pointer (some ⟨b4, 0, none⟩)), (8, .pointer (some ⟨b8, 0, none⟩)), (9, .int .i64 ((a + k : Nat) : Int))])
      (fun k => [(4, .blk b4 (.cells (ints .u8 (way c h0 a k)).toArray 55)), (8, .blk b8 (.cells (ints .u8 (List.replicate 32 0)).toArray 55))])
      (fun k => [])
      0 (by omega) (.cons rfl (.cons rfl (.cons rfl (.cons rfl (.cons rfl (.nil _)))))) (.cons rfl (.cons rfl (.nil _))) (.nil _) (fun k hi => ?_)
  have hwl := way_len c hl a k
  have hwl1 := way_len c hl a (k + 1)
  refine cd_seq ?_
  refine cd_seq ?_
  refine cd_region ?_
  refine st (ev_move rfl) rfl rfl rfl ?_
  refine st (ev_move rfl) rfl rfl rfl ?_
  refine st (ev_min2 rfl rfl) rfl rfl rfl ?_
  refine st (ev_lss rfl rfl) rfl rfl rfl ?_
  refine op_nil ?_
  refine ax_then ?_
  refine At.regs (L' := [(1, _), (3, _), (4, _), (8, _), (9, _), (12, _), (13, _), (14, _), (15, _)]) (.cons rfl (.cons rfl (.cons rfl (.cons rfl (.cons rfl (.cons rfl (.cons rfl (.cons rfl (.cons rfl (.nil _)))))))))) ?_
  refine cd_if rfl (fun hc15 => ?_) (fun hc15 => ?_)
  ·
    refine cd_skip ?_
    refine ax_then ?_
    refine At.regs (L' := [(1, _), (3, _), (4, _), (8, _), (9, _), (12, _), (13, _), (14, _), (15, _)]) (.cons rfl (.cons rfl (.cons rfl (.cons rfl (.cons rfl (.cons rfl (.cons rfl (.cons rfl (.cons rfl (.nil _)))))))))) ?_
    refine cd_seq ?_
    refine cd_block ?_
    refine cd_region ?_
    refine st (ev_move rfl) rfl rfl rfl ?_
    refine st (ev_conv Try.underlying3 Try.underlying5 rfl) rfl rfl rfl ?_
    refine st (ev_move rfl) rfl rfl rfl ?_
    refine st (ev_conv Try.underlying3 Try.underlying5 rfl) rfl rfl rfl ?_
    refine st_bsi (h := 22) (xs := [_, _, _]) Try.underlying28 ty5 (by decide) rfl rfl (by decide) rfl rfl (fun b22 => ?_)
    refine st (ev_slice_arr_all Try.underlying55 ty5 rfl) rfl rfl rfl ?_
    refine st_appendi (h := 22) Try.underlying28 Try.underlying28 ty5 rfl rfl rfl rfl (fun w1 sw => rd_blk_all sw (h := 4) rfl (by first | omega | (simp only [List.length_append, List.length_cons, List.length_nil, List.length_set, List.length_replicate, List.length_take, List.length_drop, ints_length, wr_length, sha_len, way_len _ (by assumption), secret_len, digits_len] <;> omega) | rfl)) (by first | omega | (simp only [List.length_append, List.length_cons, List.length_nil, List.length_set, List.length_replicate, List.length_take, List.length_drop, ints_length, wr_length, sha_len, way_len _ (by assumption), secret_len, digits_len] <;> omega)) (by decide) rfl rfl (fun v24 => ?_)
    refine st_callv has107 rfl (fun w1 sw => sum_any v24 ([1, IntKind.u8.wrap c, IntKind.u8.wrap ((a + k : Nat) : Int)] ++ way c h0 a k) w1 (by simp only [List.length_append, List.length_cons, List.length_nil, hwl]; omega) (sw.own_rd (h := 22) rfl)) rfl rfl ?_
    refine at_eq (i := 25) (v' := .agg (ints .u8 (way c h0 a (k + 1))).toArray) rfl rfl ?_
    refine st_store_all 4 ty55 rfl rfl rfl rfl (by first | omega | (simp only [List.length_append, List.length_cons, List.length_nil, List.length_set, List.length_replicate, List.length_take, List.length_drop, ints_length, wr_length, sha_len, way_len _ (by assumption), secret_len, digits_len] <;> omega) | rfl) (ints_one _ _) (by first | omega | (simp only [List.length_append, List.length_cons, List.length_nil, List.length_set, List.length_replicate, List.length_take, List.length_drop, ints_length, wr_length, sha_len, way_len _ (by assumption), secret_len, digits_len] <;> omega) | rfl) rfl ?_
    refine op_nil ?_
    refine ax_block ?_
    refine ax_then ?_
    refine At.regs (L' := [(1, _), (3, _), (4, _), (8, _), (9, _), (12, _), (13, _), (14, _), (15, _), (18, _), (19, _), (20, _), (21, _), (22, _), (23, _), (24, _), (25, _)]) (.cons rfl (.cons rfl (.cons rfl (.cons rfl (.cons rfl (.cons rfl (.cons rfl (.cons rfl (.cons rfl (.cons rfl (.cons rfl (.cons rfl (.cons rfl (.cons rfl (.cons rfl (.cons rfl (.cons rfl (.nil _)))))))))))))))))) ?_
    refine cd_region ?_
    refine st (ev_move rfl) rfl rfl rfl ?_
    refine st (ev_add64 rfl rfl (by omega) (by omega)) rfl rfl rfl ?_
    refine st (ev_assign rfl) rfl rfl rfl ?_
    refine op_nil ?_
    refine ax_eq (i := 9) (v' := .int .i64 ((a + (k + 1) : Nat) : Int)) rfl (by congr 1) ?_
    exact at_again (k + 1) (by omega) (by omega) (.cons rfl (.cons rfl (.cons rfl (.cons rfl (.cons rfl (.nil _)))))) (.cons rfl (.cons rfl (.nil _))) (.nil _)
  ·
    obtain rfl : k = (min t 3 - a).toNat := by omega
    have hwk : way c h0 a (min t 3 - a).toNat = walk h0 c f t := by rw [walk, ha]; rfl
    refine at_heq (i := 4) (v' := .blk b4 (.cells (ints .u8 (walk h0 c f t)).toArray 55)) rfl (by rw [hwk]) ?_
    have hwl2 := walk_len c f t hl
    refine cd_exit ?_
    refine ax_then_exit ?_
    refine ax_then_exit ?_
    refine ax_block_hit ?_
    refine ax_then ?_
    refine At.regs (L' := [(4, _), (8, _)]) (.cons rfl (.cons rfl (.nil _))) ?_
    refine cd_seq ?_
    refine cd_region ?_
    refine st (ld_blk_all (h := 4) ty55 rfl rfl rfl (by first | omega | (simp only [List.length_append, List.length_cons, List.length_nil, List.length_set, List.length_replicate, List.length_take, List.length_drop, ints_length, wr_length, sha_len, way_len _ (by assumption), secret_len, digits_len] <;> omega) | rfl)) rfl rfl rfl ?_
    refine st_store_all 8 ty55 rfl rfl rfl rfl (by first | omega | (simp only [List.length_append, List.length_cons, List.length_nil, List.length_set, List.length_replicate, List.length_take, List.length_drop, ints_length, wr_length, sha_len, way_len _ (by assumption), secret_len, digits_len] <;> omega) | rfl) (ints_one _ _) (by first | omega | (simp only [List.length_append, List.length_cons, List.length_nil, List.length_set, List.length_replicate, List.length_take, List.length_drop, ints_length, wr_length, sha_len, way_len _ (by assumption), secret_len, digits_len] <;> omega) | rfl) rfl ?_
    refine op_nil ?_
    refine ax_then ?_
    refine At.regs (L' := [(8, _)]) (.cons rfl (.nil _)) ?_
    refine cd_ret ?_
    refine rt_cell (h0 := 8) (.inl rfl) Try.results111 ty55 rfl rfl rfl (by first | omega | (simp only [List.length_append, List.length_cons, List.length_nil, List.length_set, List.length_replicate, List.length_take, List.length_drop, ints_length, wr_length, sha_len, way_len _ (by assumption), secret_len, digits_len] <;> omega) | rfl) ?_
    exact fun w1 sw => ⟨rfl, sw.gives (.nil _)⟩
set_option maxRecDepth 20000 in
set_option maxHeartbeats 1000000 in
theorem rwalk_any (h0 : List Int) (c f t : Int) (w : World) (hl : h0.length = 32) (hf : f ≤ 9223372036854775807) : Calls Try.prog 95 #[.agg (ints .u8 (h0)).toArray, .int .i64 c, .int .i64 f, .int .i64 t] w (PostV w (.agg (ints .u8 (walk h0 c f t)).toArray)) := by
  refine calls_at (vs := [.agg (ints .u8 (h0)).toArray, .int .i64 c, .int .i64 f, .int .i64 t]) (X := []) (H := []) (F := []) 27 Try.func95 rfl rfl rfl (Sat.start0 w) ?_
  refine cd_seq ?_
  refine cd_region ?_
  refine st_box (h := 4) rfl rfl rfl rfl (fun b4 => ?_)
  refine st_alloc (h := 8) ty55 rfl rfl rfl (fun b8 => ?_)
  refine op_nil ?_
  refine ax_then ?_
  refine At.regs (L' := [(1, _), (2, _), (3, _), (4, _), (8, _)]) (.cons rfl (.cons rfl (.cons rfl (.cons rfl (.cons rfl (.nil _)))))) ?_
  refine cd_seq ?_
  refine cd_seq ?_
  refine cd_region ?_
  refine st (ev_move rfl) rfl rfl rfl ?_
  refine st (ev_max2 rfl rfl) rfl rfl rfl ?_
  obtain ⟨a, ha⟩ : ∃ a : Nat, max f 0 = (a : Int) := ⟨(max f 0).toNat, (Int.toNat_of_nonneg (by omega)).symm⟩
  refine at_eq (i := 11) (v' := .int .i64 ((a + 0 : Nat) : Int)) rfl (by rw [ha]; rfl) ?_
  refine st (ev_assign rfl) rfl rfl rfl ?_
  refine op_nil ?_
  refine ax_then ?_
  refine At.regs (L' := [(1, _), (3, _), (4, _), (8, _), (9, _)]) (.cons rfl (.cons rfl (.cons rfl (.cons rfl (.cons rfl (.nil _)))))) ?_
  refine cd_block ?_
  refine cd_loop (ι := Nat) (fun k => k ≤ (min t 3 - a).toNat) (fun k => (min t 3 - a).toNat - k)
      (fun k => [(1, .int .i64 c), (3, .int .i64 t), (4, .pointer (some ⟨b4, 0, none⟩)), (8, .pointer (some ⟨b8, 0, none⟩)), (9, .int .i64 ((a + k : Nat) : Int))])
      (fun k => [(4, .blk b4 (.cells (ints .u8 (way c h0 a k)).toArray 55)), (8, .blk b8 (.cells (ints .u8 (List.replicate 32 0)).toArray 55))])
      (fun k => [])
      0 (by omega) (.cons rfl (.cons rfl (.cons rfl (.cons rfl (.cons rfl (.nil _)))))) (.cons rfl (.cons rfl (.nil _))) (.nil _) (fun k hi => ?_)
  have hwl := way_len c hl a k
  have hwl1 := way_len c hl a (k + 1)
  refine cd_seq ?_
  refine cd_seq ?_
  refine cd_region ?_
  refine st (ev_move rfl) rfl rfl rfl ?_
  refine st (ev_move rfl) rfl rfl rfl ?_
  refine st (ev_min2 rfl rfl) rfl rfl rfl ?_
  refine st (ev_lss rfl rfl) rfl rfl rfl ?_
  refine op_nil ?_
  refine ax_then ?_
  refine At.regs (L' := [(1, _), (3, _), (4, _), (8, _), (9, _), (12, _), (13, _), (14, _), (15, _)]) (.cons rfl (.cons rfl (.cons rfl (.cons rfl (.cons rfl (.cons rfl (.cons rfl (.cons rfl (.cons rfl (.nil _)))))))))) ?_
  refine cd_if rfl (fun hc15 => ?_) (fun hc15 => ?_)
  ·
    refine cd_skip ?_
    refine ax_then ?_
    refine At.regs (L' := [(1, _), (3, _), (4, _), (8, _), (9, _), (12, _), (13, _), (14, _), (15, _)]) (.cons rfl (.cons rfl (.cons rfl (.cons rfl (.cons rfl (.cons rfl (.cons rfl (.cons rfl (.cons rfl (.nil _)))))))))) ?_
    refine cd_seq ?_
    refine cd_block ?_
    refine cd_region ?_
    refine st (ev_move rfl) rfl rfl rfl ?_
    refine st (ev_conv Try.underlying3 Try.underlying5 rfl) rfl rfl rfl ?_
    refine st (ev_move rfl) rfl rfl rfl ?_
    refine st (ev_conv Try.underlying3 Try.underlying5 rfl) rfl rfl rfl ?_
    refine st_bsi (h := 22) (xs := [_, _, _]) Try.underlying28 ty5 (by decide) rfl rfl (by decide) rfl rfl (fun b22 => ?_)
    refine st (ev_slice_arr_all Try.underlying55 ty5 rfl) rfl rfl rfl ?_
    refine st_appendi (h := 22) Try.underlying28 Try.underlying28 ty5 rfl rfl rfl rfl (fun w1 sw => rd_blk_all sw (h := 4) rfl (by first | omega | (simp only [List.length_append, List.length_cons, List.length_nil, List.length_set, List.length_replicate, List.length_take, List.length_drop, ints_length, wr_length, sha_len, way_len _ (by assumption), secret_len, digits_len] <;> omega) | rfl)) (by first | omega | (simp only [List.length_append, List.length_cons, List.length_nil, List.length_set, List.length_replicate, List.length_take, List.length_drop, ints_length, wr_length, sha_len, way_len _ (by assumption), secret_len, digits_len] <;> omega)) (by decide) rfl rfl (fun v24 => ?_)
    refine st_callv has98 rfl (fun w1 sw => rsum_any v24 ([1, IntKind.u8.wrap c, IntKind.u8.wrap ((a + k : Nat) : Int)] ++ way c h0 a k) w1 (by simp only [List.length_append, List.length_cons, List.length_nil, hwl]; omega) (sw.own_rd (h := 22) rfl)) rfl rfl ?_
    refine at_eq (i := 25) (v' := .agg (ints .u8 (way c h0 a (k + 1))).toArray) rfl rfl ?_
    refine st_store_all 4 ty55 rfl rfl rfl rfl (by first | omega | (simp only [List.length_append, List.length_cons, List.length_nil, List.length_set, List.length_replicate, List.length_take, List.length_drop, ints_length, wr_length, sha_len, way_len _ (by assumption), secret_len, digits_len] <;> omega) | rfl) (ints_one _ _) (by first | omega | (simp only [List.length_append, List.length_cons, List.length_nil, List.length_set, List.length_replicate, List.length_take, List.length_drop, ints_length, wr_length, sha_len, way_len _ (by assumption), secret_len, digits_len] <;> omega) | rfl) rfl ?_
    refine op_nil ?_
    refine ax_block ?_
    refine ax_then ?_
    refine At.regs (L' := [(1, _), (3, _), (4, _), (8, _), (9, _), (12, _), (13, _), (14, _), (15, _), (18, _), (19, _), (20, _), (21, _), (22, _), (23, _), (24, _), (25, _)]) (.cons rfl (.cons rfl (.cons rfl (.cons rfl (.cons rfl (.cons rfl (.cons rfl (.cons rfl (.cons rfl (.cons rfl (.cons rfl (.cons rfl (.cons rfl (.cons rfl (.cons rfl (.cons rfl (.cons rfl (.nil _)))))))))))))))))) ?_
    refine cd_region ?_
    refine st (ev_move rfl) rfl rfl rfl ?_
    refine st (ev_add64 rfl rfl (by omega) (by omega)) rfl rfl rfl ?_
    refine st (ev_assign rfl) rfl rfl rfl ?_
    refine op_nil ?_
    refine ax_eq (i := 9) (v' := .int .i64 ((a + (k + 1) : Nat) : Int)) rfl (by congr 1) ?_
    exact at_again (k + 1) (by omega) (by omega) (.cons rfl (.cons rfl (.cons rfl (.cons rfl (.cons rfl (.nil _)))))) (.cons rfl (.cons rfl (.nil _))) (.nil _)
  ·
    obtain rfl : k = (min t 3 - a).toNat := by omega
    have hwk : way c h0 a (min t 3 - a).toNat = walk h0 c f t := by rw [walk, ha]; rfl
    refine at_heq (i := 4) (v' := .blk b4 (.cells (ints .u8 (walk h0 c f t)).toArray 55)) rfl (by rw [hwk]) ?_
    have hwl2 := walk_len c f t hl
    refine cd_exit ?_
    refine ax_then_exit ?_
    refine ax_then_exit ?_
    refine ax_block_hit ?_
    refine ax_then ?_
    refine At.regs (L' := [(4, _), (8, _)]) (.cons rfl (.cons rfl (.nil _))) ?_
    refine cd_seq ?_
    refine cd_region ?_
    refine st (ld_blk_all (h := 4) ty55 rfl rfl rfl (by first | omega | (simp only [List.length_append, List.length_cons, List.length_nil, List.length_set, List.length_replicate, List.length_take, List.length_drop, ints_length, wr_length, sha_len, way_len _ (by assumption), secret_len, digits_len] <;> omega) | rfl)) rfl rfl rfl ?_
    refine st_store_all 8 ty55 rfl rfl rfl rfl (by first | omega | (simp only [List.length_append, List.length_cons, List.length_nil, List.length_set, List.length_replicate, List.length_take, List.length_drop, ints_length, wr_length, sha_len, way_len _ (by assumption), secret_len, digits_len] <;> omega) | rfl) (ints_one _ _) (by first | omega | (simp only [List.length_append, List.length_cons, List.length_nil, List.length_set, List.length_replicate, List.length_take, List.length_drop, ints_length, wr_length, sha_len, way_len _ (by assumption), secret_len, digits_len] <;> omega) | rfl) rfl ?_
    refine op_nil ?_
    refine ax_then ?_
    refine At.regs (L' := [(8, _)]) (.cons rfl (.nil _)) ?_
    refine cd_ret ?_
    refine rt_cell (h0 := 8) (.inl rfl) Try.results95 ty55 rfl rfl rfl (by first | omega | (simp only [List.length_append, List.length_cons, List.length_nil, List.length_set, List.length_replicate, List.length_take, List.length_drop, ints_length, wr_length, sha_len, way_len _ (by assumption), secret_len, digits_len] <;> omega) | rfl) ?_
    exact fun w1 sw => ⟨rfl, sw.gives (.nil _)⟩
theorem byt_at (m : List Int) (k : Nat) : 0 ≤ (sha m).getD k 0 ∧ (sha m).getD k 0 ≤ 255 := (sha_byt m).get
theorem lk_range (m : List Int) (j : Nat) : 0 ≤ lack (sha m) 32 / 4 ^ j ∧ lack (sha m) 32 / 4 ^ j ≤ 96 := by
  have h := lack_range (sha m) 32
  exact ⟨Int.ediv_nonneg h.1 (Int.le_of_lt (Int.pow_pos (by decide))), Int.le_trans (Int.ediv_le_self _ h.1) h.2⟩
set_option maxRecDepth 20000 in
set_option maxHeartbeats 2000000 in
theorem digits_any (p : Value) (m : List Int) (w : World) (hm : m.length ≤ 140737488352000) (h : Rd w p 1 (ints .u8 m)) : Calls Try.prog 110 #[p] w (PostV w (.agg (ints .i64 (digits m)).toArray)) := by
  refine calls_at (vs := [p]) (X := []) (H := []) (F := [(0, .sl p 1 (ints .u8 (m)))]) 44 Try.func110 rfl rfl rfl (Sat.rd0 0 h) ?_
  refine cd_seq ?_
  refine cd_region ?_
  refine st_alloc (h := 2) ty153 rfl rfl rfl (fun b2 => ?_)
  refine op_nil ?_
  refine ax_then ?_
  refine At.regs (L' := [(0, _), (2, _)]) (.cons rfl (.cons rfl (.nil _))) ?_
  refine cd_seq ?_
  refine cd_region ?_
  refine st_alloc (h := 3) ty153 rfl rfl rfl (fun b3 => ?_)
  refine op_nil ?_
  refine ax_then ?_
  refine At.regs (L' := [(0, _), (2, _), (3, _)]) (.cons rfl (.cons rfl (.cons rfl (.nil _)))) ?_
  refine cd_seq ?_
  refine cd_region ?_
  refine st (ev_move rfl) rfl rfl rfl ?_
  refine st_callv has107 rfl (fun w1 sw => sum_any p m w1 hm (sw.sl_rd (h := 0) rfl)) rfl rfl ?_
  refine st_alloc (h := 4) ty55 rfl rfl rfl (fun b4 => ?_)
  refine st_store_all 4 ty55 rfl rfl rfl rfl (by first | omega | (simp only [List.length_append, List.length_cons, List.length_nil, List.length_set, List.length_replicate, List.length_take, List.length_drop, ints_length, wr_length, sha_len, way_len _ (by assumption), secret_len, digits_len] <;> omega) | rfl) (ints_one _ _) (by first | omega | (simp only [List.length_append, List.length_cons, List.length_nil, List.length_set, List.length_replicate, List.length_take, List.length_drop, ints_length, wr_length, sha_len, way_len _ (by assumption), secret_len, digits_len] <;> omega) | rfl) rfl ?_
  refine op_nil ?_
  refine ax_then ?_
  refine At.regs (L' := [(2, _), (3, _), (4, _)]) (.cons rfl (.cons rfl (.cons rfl (.nil _)))) ?_
  refine cd_seq ?_
  refine cd_region ?_
  refine st (ev_assign rfl) rfl rfl rfl ?_
  refine op_nil ?_
  refine ax_then ?_
  refine At.regs (L' := [(2, _), (3, _), (4, _), (5, _)]) (.cons rfl (.cons rfl (.cons rfl (.cons rfl (.nil _))))) ?_
  refine cd_seq ?_
  refine cd_seq ?_
  refine cd_region ?_
  refine st (ev_move rfl) rfl rfl rfl ?_
  refine op_nil ?_
  refine ax_then ?_
  refine At.regs (L' := [(2, _), (3, _), (4, _), (5, _), (10, _)]) (.cons rfl (.cons rfl (.cons rfl (.cons rfl (.cons rfl (.nil _)))))) ?_
  refine cd_block ?_
  have hsl := sha_len m
  refine cd_loop (ι := Nat) (fun i => i ≤ 32) (fun i => 32 - i)
      (fun i => [(2, .pointer (some ⟨b2, 0, none⟩)), (3, .pointer (some ⟨b3, 0, none⟩)), (4, .pointer (some ⟨b4, 0, none⟩)), (5, .int .i64 (lack (sha m) i)), (10, .int .i64 (i : Int))])
      (fun i => [(2, .blk b2 (.cells (ints .i64 (List.replicate 36 0)).toArray 153)), (3, .blk b3 (.cells (ints .i64 (d1 (sha m) (i))).toArray 153)), (4, .blk b4 (.cells (ints .u8 (sha m)).toArray 55))])
      (fun i => [])
      0 (by omega) (.cons rfl (.cons rfl (.cons rfl (.cons rfl (.cons rfl (.nil _)))))) (.cons rfl (.cons rfl (.cons rfl (.nil _)))) (.nil _) (fun i hi => ?_)
  have hlr := lack_range (sha m) i
  have hdl := d1_len (sha m) i (by omega)
  have hb := byt_at m (i / 4)
  have hsd := shr_dg (i := i) hb.1 hb.2
  have hdr := dg_range (sha m) i
  have hsl := sha_len m
  have e4 : 0 + ((i : Int) / 4).toNat * 1 = i / 4 := by omega
  have e0 : 0 + (i : Int).toNat * 1 = i := by omega
  refine cd_seq ?_
  refine cd_region ?_
  refine st (ev_lss rfl rfl) rfl rfl rfl ?_
  refine op_nil ?_
  refine ax_then ?_
  refine At.regs (L' := [(2, _), (3, _), (4, _), (5, _), (10, _), (11, _)]) (.cons rfl (.cons rfl (.cons rfl (.cons rfl (.cons rfl (.cons rfl (.nil _))))))) ?_
  refine cd_seq ?_
  refine cd_if rfl (fun hc11 => ?_) (fun hc11 => ?_)
  ·
    refine cd_skip ?_
    refine ax_then ?_
    refine At.regs (L' := [(2, _), (3, _), (4, _), (5, _), (10, _), (11, _)]) (.cons rfl (.cons rfl (.cons rfl (.cons rfl (.cons rfl (.cons rfl (.nil _))))))) ?_
    refine cd_seq ?_
    refine cd_block ?_
    refine cd_seq ?_
    refine cd_region ?_
    refine st (ev_move rfl) rfl rfl rfl ?_
    refine st (ev_assign rfl) rfl rfl rfl ?_
    refine op_nil ?_
    refine ax_then ?_
    refine At.regs (L' := [(2, _), (3, _), (4, _), (5, _), (6, _), (10, _), (11, _), (12, _)]) (.cons rfl (.cons rfl (.cons rfl (.cons rfl (.cons rfl (.cons rfl (.cons rfl (.cons rfl (.nil _))))))))) ?_
    refine cd_seq ?_
    refine cd_region ?_
    refine st (ev_move rfl) rfl rfl rfl ?_
    refine st (ev_move rfl) rfl rfl rfl ?_
    refine st (ev_quo64 rfl rfl (by omega) (by omega) (by omega)) rfl rfl rfl ?_
    refine st (ev_indexAddr_arr Try.underlying55 ty5 rfl rfl (by omega) (by omega)) rfl rfl rfl ?_
    refine st (ld_blk1 (h := 4) ty5 rfl rfl rfl (ints_get _ _ _ (by first | omega | (simp only [List.length_append, List.length_cons, List.length_nil, List.length_set, List.length_replicate, List.length_take, List.length_drop, ints_length, wr_length, sha_len, way_len _ (by assumption), secret_len, digits_len] <;> omega) | rfl))) rfl rfl rfl ?_
    refine at_eq (i := 17) (v' := .int .u8 ((sha m).getD (i / 4) 0)) rfl (by rw [e4]) ?_
    refine st (ev_move rfl) rfl rfl rfl ?_
    refine st (ev_rem64 rfl rfl (by omega) (by omega)) rfl rfl rfl ?_
    refine st (ev_mul64 rfl rfl (by omega) (by omega)) rfl rfl rfl ?_
    refine st (ev_sub64 rfl rfl (by omega) (by omega)) rfl rfl rfl ?_
    refine st (ev_shr rfl rfl (by omega)) rfl rfl rfl ?_
    refine at_eq (i := 22) (v' := .int .u8 ((sha m).getD (i / 4) 0 / 2 ^ (6 - 2 * (i % 4)))) rfl (by rw [hsd.1]) ?_
    refine st (ev_conv64 Try.underlying5 Try.underlying3 rfl (by omega) (by omega)) rfl rfl rfl ?_
    refine st (ev_and rfl rfl) rfl rfl rfl ?_
    refine at_eq (i := 24) (v' := .int .i64 (dg (sha m) i)) rfl (by rw [and3 hsd.2.1 (by omega)]; rfl) ?_
    refine st (ev_indexAddr_arr Try.underlying153 ty3 rfl rfl (by omega) (by omega)) rfl rfl rfl ?_
    refine st_store1 3 ty3 rfl rfl rfl rfl (by first | omega | (simp only [List.length_append, List.length_cons, List.length_nil, List.length_set, List.length_replicate, List.length_take, List.length_drop, ints_length, wr_length, sha_len, way_len _ (by assumption), secret_len, digits_len] <;> omega) | rfl) rfl ?_
    refine at_heq (i := 3) rfl (by rw [ints_set]) ?_
    have hdl1 := d1_len (sha m) (i + 1) (by omega)
    refine at_heq (i := 3) (v' := .blk b3 (.cells (ints .i64 (d1 (sha m) (i + 1))).toArray 153)) rfl (by rw [e0, d1_set _ _ (by omega)]) ?_
    refine op_nil ?_
    refine ax_then ?_
    refine At.regs (L' := [(2, _), (3, _), (4, _), (5, _), (6, _), (10, _), (11, _), (12, _), (13, _), (14, _), (15, _), (16, _), (17, _), (18, _), (19, _), (20, _), (21, _), (22, _), (23, _), (24, _), (25, _)]) (.cons rfl (.cons rfl (.cons rfl (.cons rfl (.cons rfl (.cons rfl (.cons rfl (.cons rfl (.cons rfl (.cons rfl (.cons rfl (.cons rfl (.cons rfl (.cons rfl (.cons rfl (.cons rfl (.cons rfl (.cons rfl (.cons rfl (.cons rfl (.cons rfl (.nil _)))))))))))))))))))))) ?_
    refine cd_region ?_
    refine st (ev_move rfl) rfl rfl rfl ?_
    refine st (ev_move rfl) rfl rfl rfl ?_
    refine st (ev_indexAddr_arr Try.underlying153 ty3 rfl rfl (by omega) (by omega)) rfl rfl rfl ?_
    refine st (ld_blk1 (h := 3) ty3 rfl rfl rfl (ints_get _ _ _ (by first | omega | (simp only [List.length_append, List.length_cons, List.length_nil, List.length_set, List.length_replicate, List.length_take, List.length_drop, ints_length, wr_length, sha_len, way_len _ (by assumption), secret_len, digits_len] <;> omega) | rfl))) rfl rfl rfl ?_
    refine at_eq (i := 29) (v' := .int .i64 (dg (sha m) i)) rfl (by rw [e0, d1_get _ _ (by omega)]) ?_
    refine st (ev_sub64 rfl rfl (by omega) (by omega)) rfl rfl rfl ?_
    refine st (ev_add64 rfl rfl (by omega) (by omega)) rfl rfl rfl ?_
    refine st (ev_assign rfl) rfl rfl rfl ?_
    refine op_nil ?_
    refine ax_block ?_
    refine ax_then ?_
    refine At.regs (L' := [(2, _), (3, _), (4, _), (5, _), (6, _), (10, _), (11, _), (12, _), (13, _), (14, _), (15, _), (16, _), (17, _), (18, _), (19, _), (20, _), (21, _), (22, _), (23, _), (24, _), (25, _), (26, _), (27, _), (28, _), (29, _), (30, _), (31, _)]) (.cons rfl (.cons rfl (.cons rfl (.cons rfl (.cons rfl (.cons rfl (.cons rfl (.cons rfl (.cons rfl (.cons rfl (.cons rfl (.cons rfl (.cons rfl (.cons rfl (.cons rfl (.cons rfl (.cons rfl (.cons rfl (.cons rfl (.cons rfl (.cons rfl (.cons rfl (.cons rfl (.cons rfl (.cons rfl (.cons rfl (.cons rfl (.nil _)))))))))))))))))))))))))))) ?_
    refine cd_region ?_
    refine st (ev_add64 rfl rfl (by omega) (by omega)) rfl rfl rfl ?_
    refine st (ev_move rfl) rfl rfl rfl ?_
    refine op_nil ?_
    refine ax_eq (i := 5) (v' := .int .i64 (lack (sha m) (i + 1))) rfl (by rw [lack]; skip) ?_
    exact at_again (i + 1) (by omega) (by omega) (.cons rfl (.cons rfl (.cons rfl (.cons rfl (.cons rfl (.nil _)))))) (.cons rfl (.cons rfl (.cons rfl (.nil _)))) (.nil _)
  ·
    obtain rfl : i = 32 := by omega
    refine cd_exit ?_
    refine ax_then_exit ?_
    refine ax_then_exit ?_
    refine ax_block_hit ?_
    refine ax_then ?_
    refine At.regs (L' := [(2, _), (3, _), (5, _)]) (.cons rfl (.cons rfl (.cons rfl (.nil _)))) ?_
    refine cd_seq ?_
    refine cd_seq ?_
    refine cd_region ?_
    refine st (ev_assign rfl) rfl rfl rfl ?_
    refine op_nil ?_
    refine ax_then ?_
    refine At.regs (L' := [(2, _), (3, _), (5, _), (7, _)]) (.cons rfl (.cons rfl (.cons rfl (.cons rfl (.nil _))))) ?_
    refine cd_block ?_
    refine at_eq (i := 5) (v' := .int .i64 (lack (sha m) 32 / 4 ^ 0)) rfl (by rw [Int.pow_zero, Int.ediv_one]) ?_
    refine at_eq (i := 7) (v' := .int .i64 ((32 + 0 : Nat) : Int)) rfl rfl ?_
    refine at_heq (i := 3) (v' := .blk b3 (.cells (ints .i64 (d2 (sha m) (0))).toArray 153)) rfl (by rw [d12]) ?_
    refine cd_loop (ι := Nat) (fun j => j ≤ 4) (fun j => 4 - j)
        (fun j => [(2, .pointer (some ⟨b2, 0, none⟩)), (3, .pointer (some ⟨b3, 0, none⟩)), (5, .int .i64 (lack (sha m) 32 / 4 ^ j)), (7, .int .i64 ((32 + j : Nat) : Int))])
        (fun j => [(2, .blk b2 (.cells (ints .i64 (List.replicate 36 0)).toArray 153)), (3, .blk b3 (.cells (ints .i64 (d2 (sha m) (j))).toArray 153))])
        (fun j => [])
        0 (by omega) (.cons rfl (.cons rfl (.cons rfl (.cons rfl (.nil _))))) (.cons rfl (.cons rfl (.nil _))) (.nil _) (fun j hi => ?_)
    have hlk := lk_range m j
    have hdl := d2_len (sha m) j (by omega)
    have e0 : 0 + ((32 + j : Nat) : Int).toNat * 1 = 32 + j := by omega
    refine cd_seq ?_
    refine cd_seq ?_
    refine cd_region ?_
    refine st (ev_move rfl) rfl rfl rfl ?_
    refine st (ev_lss rfl rfl) rfl rfl rfl ?_
    refine op_nil ?_
    refine ax_then ?_
    refine At.regs (L' := [(2, _), (3, _), (5, _), (7, _), (33, _), (34, _)]) (.cons rfl (.cons rfl (.cons rfl (.cons rfl (.cons rfl (.cons rfl (.nil _))))))) ?_
    refine cd_if rfl (fun hc34 => ?_) (fun hc34 => ?_)
    ·
      refine cd_skip ?_
      refine ax_then ?_
      refine At.regs (L' := [(2, _), (3, _), (5, _), (7, _), (33, _), (34, _)]) (.cons rfl (.cons rfl (.cons rfl (.cons rfl (.cons rfl (.cons rfl (.nil _))))))) ?_
      refine cd_seq ?_
      refine cd_block ?_
      refine cd_seq ?_
      refine cd_region ?_
      refine st (ev_move rfl) rfl rfl rfl ?_
      refine st (ev_move rfl) rfl rfl rfl ?_
      refine st (ev_and rfl rfl) rfl rfl rfl ?_
      refine at_eq (i := 39) (v' := .int .i64 (lack (sha m) 32 / 4 ^ j % 4)) rfl (by rw [and3 hlk.1 (by omega)]) ?_
      refine st (ev_indexAddr_arr Try.underlying153 ty3 rfl rfl (by omega) (by omega)) rfl rfl rfl ?_
      refine st_store1 3 ty3 rfl rfl rfl rfl (by first | omega | (simp only [List.length_append, List.length_cons, List.length_nil, List.length_set, List.length_replicate, List.length_take, List.length_drop, ints_length, wr_length, sha_len, way_len _ (by assumption), secret_len, digits_len] <;> omega) | rfl) rfl ?_
      refine at_heq (i := 3) rfl (by rw [ints_set]) ?_
      have hdl1 := d2_len (sha m) (j + 1) (by omega)
      refine at_heq (i := 3) (v' := .blk b3 (.cells (ints .i64 (d2 (sha m) (j + 1))).toArray 153)) rfl (by rw [e0, d2_set _ _ (by omega)]) ?_
      refine op_nil ?_
      refine ax_then ?_
      refine At.regs (L' := [(2, _), (3, _), (5, _), (7, _), (33, _), (34, _), (37, _), (38, _), (39, _), (40, _)]) (.cons rfl (.cons rfl (.cons rfl (.cons rfl (.cons rfl (.cons rfl (.cons rfl (.cons rfl (.cons rfl (.cons rfl (.nil _))))))))))) ?_
      refine cd_region ?_
      refine st (ev_move rfl) rfl rfl rfl ?_
      refine st (ev_shr rfl rfl (by omega)) rfl rfl rfl ?_
      refine at_eq (i := 42) (v' := .int .i64 (lack (sha m) 32 / 4 ^ (j + 1))) rfl (by rw [shr2 hlk.1, pow_step]) ?_
      refine st (ev_assign rfl) rfl rfl rfl ?_
      refine op_nil ?_
      refine ax_block ?_
      refine ax_then ?_
      refine At.regs (L' := [(2, _), (3, _), (5, _), (7, _), (33, _), (34, _), (37, _), (38, _), (39, _), (40, _), (41, _), (42, _)]) (.cons rfl (.cons rfl (.cons rfl (.cons rfl (.cons rfl (.cons rfl (.cons rfl (.cons rfl (.cons rfl (.cons rfl (.cons rfl (.cons rfl (.nil _))))))))))))) ?_
      refine cd_region ?_
      refine st (ev_move rfl) rfl rfl rfl ?_
      refine st (ev_add64 rfl rfl (by omega) (by omega)) rfl rfl rfl ?_
      refine st (ev_assign rfl) rfl rfl rfl ?_
      refine op_nil ?_
      refine ax_eq (i := 7) (v' := .int .i64 ((32 + (j + 1) : Nat) : Int)) rfl (by congr 1) ?_
      exact at_again (j + 1) (by omega) (by omega) (.cons rfl (.cons rfl (.cons rfl (.cons rfl (.nil _))))) (.cons rfl (.cons rfl (.nil _))) (.nil _)
    ·
      obtain rfl : j = 4 := by omega
      have hdg := digits_len m
      refine at_heq (i := 3) (v' := .blk b3 (.cells (ints .i64 (digits m)).toArray 153)) rfl rfl ?_
      refine cd_exit ?_
      refine ax_then_exit ?_
      refine ax_then_exit ?_
      refine ax_block_hit ?_
      refine ax_then ?_
      refine At.regs (L' := [(2, _), (3, _)]) (.cons rfl (.cons rfl (.nil _))) ?_
      refine cd_seq ?_
      refine cd_region ?_
      refine st (ld_blk_all (h := 3) ty153 rfl rfl rfl (by first | omega | (simp only [List.length_append, List.length_cons, List.length_nil, List.length_set, List.length_replicate, List.length_take, List.length_drop, ints_length, wr_length, sha_len, way_len _ (by assumption), secret_len, digits_len] <;> omega) | rfl)) rfl rfl rfl ?_
      refine st_store_all 2 ty153 rfl rfl rfl rfl (by first | omega | (simp only [List.length_append, List.length_cons, List.length_nil, List.length_set, List.length_replicate, List.length_take, List.length_drop, ints_length, wr_length, sha_len, way_len _ (by assumption), secret_len, digits_len] <;> omega) | rfl) (ints_one _ _) (by first | omega | (simp only [List.length_append, List.length_cons, List.length_nil, List.length_set, List.length_replicate, List.length_take, List.length_drop, ints_length, wr_length, sha_len, way_len _ (by assumption), secret_len, digits_len] <;> omega) | rfl) rfl ?_
      refine op_nil ?_
      refine ax_then ?_
      refine At.regs (L' := [(2, _)]) (.cons rfl (.nil _)) ?_
      refine cd_ret ?_
      refine rt_cell (h0 := 2) (.inl rfl) Try.results110 ty153 rfl rfl rfl (by first | omega | (simp only [List.length_append, List.length_cons, List.length_nil, List.length_set, List.length_replicate, List.length_take, List.length_drop, ints_length, wr_length, sha_len, way_len _ (by assumption), secret_len, digits_len] <;> omega) | rfl) ?_
      exact fun w1 sw => ⟨rfl, sw.gives (.nil _)⟩
set_option maxRecDepth 20000 in
set_option maxHeartbeats 2000000 in
theorem rdigits_any (p : Value) (m : List Int) (w : World) (hm : m.length ≤ 140737488352000) (h : Rd w p 1 (ints .u8 m)) : Calls Try.prog 104 #[p] w (PostV w (.agg (ints .i64 (digits m)).toArray)) := by
  refine calls_at (vs := [p]) (X := []) (H := []) (F := [(0, .sl p 1 (ints .u8 (m)))]) 45 Try.func104 rfl rfl rfl (Sat.rd0 0 h) ?_
  refine cd_seq ?_
  refine cd_region ?_
  refine st_alloc (h := 2) ty153 rfl rfl rfl (fun b2 => ?_)
  refine op_nil ?_
  refine ax_then ?_
  refine At.regs (L' := [(0, _), (2, _)]) (.cons rfl (.cons rfl (.nil _))) ?_
  refine cd_seq ?_
  refine cd_region ?_
  refine st_alloc (h := 3) ty153 rfl rfl rfl (fun b3 => ?_)
  refine op_nil ?_
  refine ax_then ?_
  refine At.regs (L' := [(0, _), (2, _), (3, _)]) (.cons rfl (.cons rfl (.cons rfl (.nil _)))) ?_
  refine cd_seq ?_
  refine cd_region ?_
  refine st (ev_move rfl) rfl rfl rfl ?_
  refine st_callv has98 rfl (fun w1 sw => rsum_any p m w1 hm (sw.sl_rd (h := 0) rfl)) rfl rfl ?_
  refine st_alloc (h := 4) ty55 rfl rfl rfl (fun b4 => ?_)
  refine st_store_all 4 ty55 rfl rfl rfl rfl (by first | omega | (simp only [List.length_append, List.length_cons, List.length_nil, List.length_set, List.length_replicate, List.length_take, List.length_drop, ints_length, wr_length, sha_len, way_len _ (by assumption), secret_len, digits_len] <;> omega) | rfl) (ints_one _ _) (by first | omega | (simp only [List.length_append, List.length_cons, List.length_nil, List.length_set, List.length_replicate, List.length_take, List.length_drop, ints_length, wr_length, sha_len, way_len _ (by assumption), secret_len, digits_len] <;> omega) | rfl) rfl ?_
  refine op_nil ?_
  refine ax_then ?_
  refine At.regs (L' := [(2, _), (3, _), (4, _)]) (.cons rfl (.cons rfl (.cons rfl (.nil _)))) ?_
  refine cd_seq ?_
  refine cd_region ?_
  refine st (ev_assign rfl) rfl rfl rfl ?_
  refine op_nil ?_
  refine ax_then ?_
  refine At.regs (L' := [(2, _), (3, _), (4, _), (5, _)]) (.cons rfl (.cons rfl (.cons rfl (.cons rfl (.nil _))))) ?_
  refine cd_seq ?_
  refine cd_seq ?_
  refine cd_region ?_
  refine st (ev_assign rfl) rfl rfl rfl ?_
  refine op_nil ?_
  refine ax_then ?_
  refine At.regs (L' := [(2, _), (3, _), (4, _), (5, _), (6, _)]) (.cons rfl (.cons rfl (.cons rfl (.cons rfl (.cons rfl (.nil _)))))) ?_
  refine cd_block ?_
  have hsl := sha_len m
  refine cd_loop (ι := Nat) (fun i => i ≤ 32) (fun i => 32 - i)
      (fun i => [(2, .pointer (some ⟨b2, 0, none⟩)), (3, .pointer (some ⟨b3, 0, none⟩)), (4, .pointer (some ⟨b4, 0, none⟩)), (5, .int .i64 (lack (sha m) i)), (6, .int .i64 (i : Int))])
      (fun i => [(2, .blk b2 (.cells (ints .i64 (List.replicate 36 0)).toArray 153)), (3, .blk b3 (.cells (ints .i64 (d1 (sha m) (i))).toArray 153)), (4, .blk b4 (.cells (ints .u8 (sha m)).toArray 55))])
      (fun i => [])
      0 (by omega) (.cons rfl (.cons rfl (.cons rfl (.cons rfl (.cons rfl (.nil _)))))) (.cons rfl (.cons rfl (.cons rfl (.nil _)))) (.nil _) (fun i hi => ?_)
  have hlr := lack_range (sha m) i
  have hdl := d1_len (sha m) i (by omega)
  have hb := byt_at m (i / 4)
  have hsd := shr_dg (i := i) hb.1 hb.2
  have hdr := dg_range (sha m) i
  have hsl := sha_len m
  have e4 : 0 + ((i : Int) / 4).toNat * 1 = i / 4 := by omega
  have e0 : 0 + (i : Int).toNat * 1 = i := by omega
  refine cd_seq ?_
  refine cd_seq ?_
  refine cd_region ?_
  refine st (ev_move rfl) rfl rfl rfl ?_
  refine st (ev_lss rfl rfl) rfl rfl rfl ?_
  refine op_nil ?_
  refine ax_then ?_
  refine At.regs (L' := [(2, _), (3, _), (4, _), (5, _), (6, _), (10, _), (11, _)]) (.cons rfl (.cons rfl (.cons rfl (.cons rfl (.cons rfl (.cons rfl (.cons rfl (.nil _)))))))) ?_
  refine cd_if rfl (fun hc11 => ?_) (fun hc11 => ?_)
  ·
    refine cd_skip ?_
    refine ax_then ?_
    refine At.regs (L' := [(2, _), (3, _), (4, _), (5, _), (6, _), (10, _), (11, _)]) (.cons rfl (.cons rfl (.cons rfl (.cons rfl (.cons rfl (.cons rfl (.cons rfl (.nil _)))))))) ?_
    refine cd_seq ?_
    refine cd_block ?_
    refine cd_seq ?_
    refine cd_region ?_
    refine st (ev_move rfl) rfl rfl rfl ?_
    refine st (ev_move rfl) rfl rfl rfl ?_
    refine st (ev_quo64 rfl rfl (by omega) (by omega) (by omega)) rfl rfl rfl ?_
    refine st (ev_indexAddr_arr Try.underlying55 ty5 rfl rfl (by omega) (by omega)) rfl rfl rfl ?_
    refine st (ld_blk1 (h := 4) ty5 rfl rfl rfl (ints_get _ _ _ (by first | omega | (simp only [List.length_append, List.length_cons, List.length_nil, List.length_set, List.length_replicate, List.length_take, List.length_drop, ints_length, wr_length, sha_len, way_len _ (by assumption), secret_len, digits_len] <;> omega) | rfl))) rfl rfl rfl ?_
    refine at_eq (i := 18) (v' := .int .u8 ((sha m).getD (i / 4) 0)) rfl (by rw [e4]) ?_
    refine st (ev_move rfl) rfl rfl rfl ?_
    refine st (ev_rem64 rfl rfl (by omega) (by omega)) rfl rfl rfl ?_
    refine st (ev_mul64 rfl rfl (by omega) (by omega)) rfl rfl rfl ?_
    refine st (ev_sub64 rfl rfl (by omega) (by omega)) rfl rfl rfl ?_
    refine st (ev_convu64 Try.underlying3 Try.underlying136 rfl (by omega) (by omega)) rfl rfl rfl ?_
    refine st (ev_shr rfl rfl (by omega)) rfl rfl rfl ?_
    refine at_eq (i := 24) (v' := .int .u8 ((sha m).getD (i / 4) 0 / 2 ^ (6 - 2 * (i % 4)))) rfl (by rw [hsd.1]) ?_
    refine st (ev_conv64 Try.underlying5 Try.underlying3 rfl (by omega) (by omega)) rfl rfl rfl ?_
    refine st (ev_and rfl rfl) rfl rfl rfl ?_
    refine at_eq (i := 26) (v' := .int .i64 (dg (sha m) i)) rfl (by rw [and3 hsd.2.1 (by omega)]; rfl) ?_
    refine st (ev_indexAddr_arr Try.underlying153 ty3 rfl rfl (by omega) (by omega)) rfl rfl rfl ?_
    refine st_store1 3 ty3 rfl rfl rfl rfl (by first | omega | (simp only [List.length_append, List.length_cons, List.length_nil, List.length_set, List.length_replicate, List.length_take, List.length_drop, ints_length, wr_length, sha_len, way_len _ (by assumption), secret_len, digits_len] <;> omega) | rfl) rfl ?_
    refine at_heq (i := 3) rfl (by rw [ints_set]) ?_
    have hdl1 := d1_len (sha m) (i + 1) (by omega)
    refine at_heq (i := 3) (v' := .blk b3 (.cells (ints .i64 (d1 (sha m) (i + 1))).toArray 153)) rfl (by rw [e0, d1_set _ _ (by omega)]) ?_
    refine op_nil ?_
    refine ax_then ?_
    refine At.regs (L' := [(2, _), (3, _), (4, _), (5, _), (6, _), (10, _), (11, _), (14, _), (15, _), (16, _), (17, _), (18, _), (19, _), (20, _), (21, _), (22, _), (23, _), (24, _), (25, _), (26, _), (27, _)]) (.cons rfl (.cons rfl (.cons rfl (.cons rfl (.cons rfl (.cons rfl (.cons rfl (.cons rfl (.cons rfl (.cons rfl (.cons rfl (.cons rfl (.cons rfl (.cons rfl (.cons rfl (.cons rfl (.cons rfl (.cons rfl (.cons rfl (.cons rfl (.cons rfl (.nil _)))))))))))))))))))))) ?_
    refine cd_region ?_
    refine st (ev_move rfl) rfl rfl rfl ?_
    refine st (ev_add64 rfl rfl (by omega) (by omega)) rfl rfl rfl ?_
    refine st (ev_move rfl) rfl rfl rfl ?_
    refine st (ev_indexAddr_arr Try.underlying153 ty3 rfl rfl (by omega) (by omega)) rfl rfl rfl ?_
    refine st (ld_blk1 (h := 3) ty3 rfl rfl rfl (ints_get _ _ _ (by first | omega | (simp only [List.length_append, List.length_cons, List.length_nil, List.length_set, List.length_replicate, List.length_take, List.length_drop, ints_length, wr_length, sha_len, way_len _ (by assumption), secret_len, digits_len] <;> omega) | rfl))) rfl rfl rfl ?_
    refine at_eq (i := 32) (v' := .int .i64 (dg (sha m) i)) rfl (by rw [e0, d1_get _ _ (by omega)]) ?_
    refine st (ev_sub64 rfl rfl (by omega) (by omega)) rfl rfl rfl ?_
    refine st (ev_assign rfl) rfl rfl rfl ?_
    refine op_nil ?_
    refine ax_block ?_
    refine ax_then ?_
    refine At.regs (L' := [(2, _), (3, _), (4, _), (5, _), (6, _), (10, _), (11, _), (14, _), (15, _), (16, _), (17, _), (18, _), (19, _), (20, _), (21, _), (22, _), (23, _), (24, _), (25, _), (26, _), (27, _), (28, _), (29, _), (30, _), (31, _), (32, _), (33, _)]) (.cons rfl (.cons rfl (.cons rfl (.cons rfl (.cons rfl (.cons rfl (.cons rfl (.cons rfl (.cons rfl (.cons rfl (.cons rfl (.cons rfl (.cons rfl (.cons rfl (.cons rfl (.cons rfl (.cons rfl (.cons rfl (.cons rfl (.cons rfl (.cons rfl (.cons rfl (.cons rfl (.cons rfl (.cons rfl (.cons rfl (.cons rfl (.nil _)))))))))))))))))))))))))))) ?_
    refine cd_region ?_
    refine st (ev_move rfl) rfl rfl rfl ?_
    refine st (ev_add64 rfl rfl (by omega) (by omega)) rfl rfl rfl ?_
    refine st (ev_assign rfl) rfl rfl rfl ?_
    refine op_nil ?_
    refine ax_eq (i := 5) (v' := .int .i64 (lack (sha m) (i + 1))) rfl (by rw [lack]; congr 1; omega) ?_
    exact at_again (i + 1) (by omega) (by omega) (.cons rfl (.cons rfl (.cons rfl (.cons rfl (.cons rfl (.nil _)))))) (.cons rfl (.cons rfl (.cons rfl (.nil _)))) (.nil _)
  ·
    obtain rfl : i = 32 := by omega
    refine cd_exit ?_
    refine ax_then_exit ?_
    refine ax_then_exit ?_
    refine ax_block_hit ?_
    refine ax_then ?_
    refine At.regs (L' := [(2, _), (3, _), (5, _)]) (.cons rfl (.cons rfl (.cons rfl (.nil _)))) ?_
    refine cd_seq ?_
    refine cd_seq ?_
    refine cd_region ?_
    refine st (ev_assign rfl) rfl rfl rfl ?_
    refine op_nil ?_
    refine ax_then ?_
    refine At.regs (L' := [(2, _), (3, _), (5, _), (7, _)]) (.cons rfl (.cons rfl (.cons rfl (.cons rfl (.nil _))))) ?_
    refine cd_block ?_
    refine at_eq (i := 5) (v' := .int .i64 (lack (sha m) 32 / 4 ^ 0)) rfl (by rw [Int.pow_zero, Int.ediv_one]) ?_
    refine at_eq (i := 7) (v' := .int .i64 ((32 + 0 : Nat) : Int)) rfl rfl ?_
    refine at_heq (i := 3) (v' := .blk b3 (.cells (ints .i64 (d2 (sha m) (0))).toArray 153)) rfl (by rw [d12]) ?_
    refine cd_loop (ι := Nat) (fun j => j ≤ 4) (fun j => 4 - j)
        (fun j => [(2, .pointer (some ⟨b2, 0, none⟩)), (3, .pointer (some ⟨b3, 0, none⟩)), (5, .int .i64 (lack (sha m) 32 / 4 ^ j)), (7, .int .i64 ((32 + j : Nat) : Int))])
        (fun j => [(2, .blk b2 (.cells (ints .i64 (List.replicate 36 0)).toArray 153)), (3, .blk b3 (.cells (ints .i64 (d2 (sha m) (j))).toArray 153))])
        (fun j => [])
        0 (by omega) (.cons rfl (.cons rfl (.cons rfl (.cons rfl (.nil _))))) (.cons rfl (.cons rfl (.nil _))) (.nil _) (fun j hi => ?_)
    have hlk := lk_range m j
    have hdl := d2_len (sha m) j (by omega)
    have e0 : 0 + ((32 + j : Nat) : Int).toNat * 1 = 32 + j := by omega
    refine cd_seq ?_
    refine cd_seq ?_
    refine cd_region ?_
    refine st (ev_move rfl) rfl rfl rfl ?_
    refine st (ev_lss rfl rfl) rfl rfl rfl ?_
    refine op_nil ?_
    refine ax_then ?_
    refine At.regs (L' := [(2, _), (3, _), (5, _), (7, _), (34, _), (35, _)]) (.cons rfl (.cons rfl (.cons rfl (.cons rfl (.cons rfl (.cons rfl (.nil _))))))) ?_
    refine cd_if rfl (fun hc35 => ?_) (fun hc35 => ?_)
    ·
      refine cd_skip ?_
      refine ax_then ?_
      refine At.regs (L' := [(2, _), (3, _), (5, _), (7, _), (34, _), (35, _)]) (.cons rfl (.cons rfl (.cons rfl (.cons rfl (.cons rfl (.cons rfl (.nil _))))))) ?_
      refine cd_seq ?_
      refine cd_block ?_
      refine cd_seq ?_
      refine cd_region ?_
      refine st (ev_move rfl) rfl rfl rfl ?_
      refine st (ev_move rfl) rfl rfl rfl ?_
      refine st (ev_and rfl rfl) rfl rfl rfl ?_
      refine at_eq (i := 40) (v' := .int .i64 (lack (sha m) 32 / 4 ^ j % 4)) rfl (by rw [and3 hlk.1 (by omega)]) ?_
      refine st (ev_indexAddr_arr Try.underlying153 ty3 rfl rfl (by omega) (by omega)) rfl rfl rfl ?_
      refine st_store1 3 ty3 rfl rfl rfl rfl (by first | omega | (simp only [List.length_append, List.length_cons, List.length_nil, List.length_set, List.length_replicate, List.length_take, List.length_drop, ints_length, wr_length, sha_len, way_len _ (by assumption), secret_len, digits_len] <;> omega) | rfl) rfl ?_
      refine at_heq (i := 3) rfl (by rw [ints_set]) ?_
      have hdl1 := d2_len (sha m) (j + 1) (by omega)
      refine at_heq (i := 3) (v' := .blk b3 (.cells (ints .i64 (d2 (sha m) (j + 1))).toArray 153)) rfl (by rw [e0, d2_set _ _ (by omega)]) ?_
      refine op_nil ?_
      refine ax_then ?_
      refine At.regs (L' := [(2, _), (3, _), (5, _), (7, _), (34, _), (35, _), (38, _), (39, _), (40, _), (41, _)]) (.cons rfl (.cons rfl (.cons rfl (.cons rfl (.cons rfl (.cons rfl (.cons rfl (.cons rfl (.cons rfl (.cons rfl (.nil _))))))))))) ?_
      refine cd_region ?_
      refine st (ev_move rfl) rfl rfl rfl ?_
      refine st (ev_shr rfl rfl (by omega)) rfl rfl rfl ?_
      refine at_eq (i := 43) (v' := .int .i64 (lack (sha m) 32 / 4 ^ (j + 1))) rfl (by rw [shr2 hlk.1, pow_step]) ?_
      refine st (ev_assign rfl) rfl rfl rfl ?_
      refine op_nil ?_
      refine ax_block ?_
      refine ax_then ?_
      refine At.regs (L' := [(2, _), (3, _), (5, _), (7, _), (34, _), (35, _), (38, _), (39, _), (40, _), (41, _), (42, _), (43, _)]) (.cons rfl (.cons rfl (.cons rfl (.cons rfl (.cons rfl (.cons rfl (.cons rfl (.cons rfl (.cons rfl (.cons rfl (.cons rfl (.cons rfl (.nil _))))))))))))) ?_
      refine cd_region ?_
      refine st (ev_move rfl) rfl rfl rfl ?_
      refine st (ev_add64 rfl rfl (by omega) (by omega)) rfl rfl rfl ?_
      refine st (ev_assign rfl) rfl rfl rfl ?_
      refine op_nil ?_
      refine ax_eq (i := 7) (v' := .int .i64 ((32 + (j + 1) : Nat) : Int)) rfl (by congr 1) ?_
      exact at_again (j + 1) (by omega) (by omega) (.cons rfl (.cons rfl (.cons rfl (.cons rfl (.nil _))))) (.cons rfl (.cons rfl (.nil _))) (.nil _)
    ·
      obtain rfl : j = 4 := by omega
      have hdg := digits_len m
      refine at_heq (i := 3) (v' := .blk b3 (.cells (ints .i64 (digits m)).toArray 153)) rfl rfl ?_
      refine cd_exit ?_
      refine ax_then_exit ?_
      refine ax_then_exit ?_
      refine ax_block_hit ?_
      refine ax_then ?_
      refine At.regs (L' := [(2, _), (3, _)]) (.cons rfl (.cons rfl (.nil _))) ?_
      refine cd_seq ?_
      refine cd_region ?_
      refine st (ld_blk_all (h := 3) ty153 rfl rfl rfl (by first | omega | (simp only [List.length_append, List.length_cons, List.length_nil, List.length_set, List.length_replicate, List.length_take, List.length_drop, ints_length, wr_length, sha_len, way_len _ (by assumption), secret_len, digits_len] <;> omega) | rfl)) rfl rfl rfl ?_
      refine st_store_all 2 ty153 rfl rfl rfl rfl (by first | omega | (simp only [List.length_append, List.length_cons, List.length_nil, List.length_set, List.length_replicate, List.length_take, List.length_drop, ints_length, wr_length, sha_len, way_len _ (by assumption), secret_len, digits_len] <;> omega) | rfl) (ints_one _ _) (by first | omega | (simp only [List.length_append, List.length_cons, List.length_nil, List.length_set, List.length_replicate, List.length_take, List.length_drop, ints_length, wr_length, sha_len, way_len _ (by assumption), secret_len, digits_len] <;> omega) | rfl) rfl ?_
      refine op_nil ?_
      refine ax_then ?_
      refine At.regs (L' := [(2, _)]) (.cons rfl (.nil _)) ?_
      refine cd_ret ?_
      refine rt_cell (h0 := 2) (.inl rfl) Try.results104 ty153 rfl rfl rfl (by first | omega | (simp only [List.length_append, List.length_cons, List.length_nil, List.length_set, List.length_replicate, List.length_take, List.length_drop, ints_length, wr_length, sha_len, way_len _ (by assumption), secret_len, digits_len] <;> omega) | rfl) ?_
      exact fun w1 sw => ⟨rfl, sw.gives (.nil _)⟩
end Go.Proofs.Ytgfnmolbagilmaa
namespace Go.Proofs.Ytgfnmolbagilmaa
open Go Go.RowKit Fw
open Sha
open Ots
set_option linter.unusedVariables false
set_option linter.unusedSimpArgs false
set_option maxRecDepth 20000 in
set_option maxHeartbeats 2000000 in
theorem ends_any (k : Nat) (hk : Has Try.prog k) (vf vc : List Value) (v : Value) (cs : List (List Int)) (g : Nat → List Int) (hg : ∀ i, (g i).length = 32) (w : World) (h : Rd w v 32 (flat cs)) (hc : ∀ (w1 : World) (i : Nat), i < 36 → Rd w1 v 32 (flat cs) → Calls Try.prog k (vf ++ [Value.int .i64 (i : Int)] ++ vc).toArray w1 (PostV w1 (.agg (ints .u8 (g i)).toArray))) : Calls Try.prog 105 #[.func (.func k) vf.toArray vc.toArray] w (PostV w (.agg (ints .u8 (ends g)).toArray)) := by
  refine calls_at (vs := [.func (.func k) vf.toArray vc.toArray]) (X := []) (H := []) (F := [(20, .sl v 32 (flat (cs)))]) 19 Try.func105 rfl rfl rfl (Sat.rd0 20 h) ?_
  refine cd_seq ?_
  refine cd_region ?_
  refine st_alloc (h := 2) ty55 rfl rfl rfl (fun b2 => ?_)
  refine op_nil ?_
  refine ax_then ?_
  refine At.regs (L' := [(0, _), (2, _)]) (.cons rfl (.cons rfl (.nil _))) ?_
  refine cd_seq ?_
  refine cd_region ?_
  refine st_bsi (h := 6) (xs := [_]) Try.underlying28 ty5 (by decide) rfl rfl (by decide) rfl rfl (fun b6 => ?_)
  refine st (ev_assign rfl) rfl rfl rfl ?_
  refine op_nil ?_
  refine ax_then ?_
  refine At.regs (L' := [(0, _), (2, _), (3, _)]) (.cons rfl (.cons rfl (.cons rfl (.nil _)))) ?_
  refine cd_seq ?_
  refine cd_seq ?_
  refine cd_region ?_
  refine st (ev_move rfl) rfl rfl rfl ?_
  refine op_nil ?_
  refine ax_then ?_
  refine At.regs (L' := [(0, _), (2, _), (3, _), (7, _)]) (.cons rfl (.cons rfl (.cons rfl (.cons rfl (.nil _))))) ?_
  refine cd_block ?_
  refine cd_loop (ι := Nat × Value) (fun x => x.1 ≤ 36) (fun x => 36 - x.1)
      (fun x => [(0, .func (.func k) vf.toArray vc.toArray), (2, .pointer (some ⟨b2, 0, none⟩)), (3, x.2), (7, .int .i64 (x.1 : Int))])
      (fun x => [(2, .blk b2 (.cells (ints .u8 (List.replicate 32 0)).toArray 55)), (6, .own (x.2) 5 1 (ints .u8 (tex g x.1)))])
      (fun x => [(20, .sl v 32 (flat (cs)))])
      (0, _) (by omega) (.cons rfl (.cons rfl (.cons rfl (.cons rfl (.nil _))))) (.cons rfl (.cons rfl (.nil _))) (.cons rfl (.nil _)) (fun x hi => ?_)
  have htx := tex_len hg x.1
  have hgx := hg x.1
  refine cd_seq ?_
  refine cd_region ?_
  refine st (ev_lss rfl rfl) rfl rfl rfl ?_
  refine op_nil ?_
  refine ax_then ?_
  refine At.regs (L' := [(0, _), (2, _), (3, _), (7, _), (8, _)]) (.cons rfl (.cons rfl (.cons rfl (.cons rfl (.cons rfl (.nil _)))))) ?_
  refine cd_seq ?_
  refine cd_if rfl (fun hc8 => ?_) (fun hc8 => ?_)
  ·
    refine cd_skip ?_
    refine ax_then ?_
    refine At.regs (L' := [(0, _), (2, _), (3, _), (7, _), (8, _)]) (.cons rfl (.cons rfl (.cons rfl (.cons rfl (.cons rfl (.nil _)))))) ?_
    refine cd_seq ?_
    refine cd_block ?_
    refine cd_seq ?_
    refine cd_region ?_
    refine st (ev_move rfl) rfl rfl rfl ?_
    refine st (ev_assign rfl) rfl rfl rfl ?_
    refine op_nil ?_
    refine ax_then ?_
    refine At.regs (L' := [(0, _), (2, _), (3, _), (4, _), (7, _), (8, _), (9, _)]) (.cons rfl (.cons rfl (.cons rfl (.cons rfl (.cons rfl (.cons rfl (.cons rfl (.nil _)))))))) ?_
    refine cd_seq ?_
    refine cd_region ?_
    refine st (ev_move rfl) rfl rfl rfl ?_
    refine st (ev_move rfl) rfl rfl rfl ?_
    refine st_callv_fn hk rfl rfl rfl (fun w1 sw => hc w1 x.1 (by omega) (sw.sl_rd (h := 20) rfl)) rfl rfl ?_
    refine st_alloc (h := 5) ty55 rfl rfl rfl (fun b5 => ?_)
    refine st_store_all 5 ty55 rfl rfl rfl rfl (by first | omega | (simp only [List.length_append, List.length_cons, List.length_nil, List.length_set, List.length_replicate, List.length_take, List.length_drop, ints_length, wr_length, sha_len, way_len _ (by assumption), secret_len, digits_len] <;> omega) | rfl) (ints_one _ _) (by first | omega | (simp only [List.length_append, List.length_cons, List.length_nil, List.length_set, List.length_replicate, List.length_take, List.length_drop, ints_length, wr_length, sha_len, way_len _ (by assumption), secret_len, digits_len] <;> omega) | rfl) rfl ?_
    refine op_nil ?_
    refine ax_then ?_
    refine At.regs (L' := [(0, _), (2, _), (3, _), (4, _), (5, _), (7, _), (8, _), (9, _), (10, _), (11, _), (12, _)]) (.cons rfl (.cons rfl (.cons rfl (.cons rfl (.cons rfl (.cons rfl (.cons rfl (.cons rfl (.cons rfl (.cons rfl (.cons rfl (.nil _)))))))))))) ?_
    refine cd_region ?_
    refine st (ev_move rfl) rfl rfl rfl ?_
    refine st (ev_slice_arr_all Try.underlying55 ty5 rfl) rfl rfl rfl ?_
    refine st_appendi (h := 6) Try.underlying28 Try.underlying28 ty5 rfl rfl rfl rfl (fun w1 sw => rd_blk_all sw (h := 5) rfl (by first | omega | (simp only [List.length_append, List.length_cons, List.length_nil, List.length_set, List.length_replicate, List.length_take, List.length_drop, ints_length, wr_length, sha_len, way_len _ (by assumption), secret_len, digits_len] <;> omega) | rfl)) (by first | omega | (simp only [List.length_append, List.length_cons, List.length_nil, List.length_set, List.length_replicate, List.length_take, List.length_drop, ints_length, wr_length, sha_len, way_len _ (by assumption), secret_len, digits_len] <;> omega)) (by decide) rfl rfl (fun v15 => ?_)
    refine st (ev_assign rfl) rfl rfl rfl ?_
    refine op_nil ?_
    refine ax_block ?_
    refine ax_then ?_
    refine At.regs (L' := [(0, _), (2, _), (3, _), (4, _), (5, _), (7, _), (8, _), (9, _), (10, _), (11, _), (12, _), (13, _), (14, _), (15, _)]) (.cons rfl (.cons rfl (.cons rfl (.cons rfl (.cons rfl (.cons rfl (.cons rfl (.cons rfl (.cons rfl (.cons rfl (.cons rfl (.cons rfl (.cons rfl (.cons rfl (.nil _))))))))))))))) ?_
    refine cd_region ?_
    refine st (ev_add64 rfl rfl (by omega) (by omega)) rfl rfl rfl ?_
    refine st (ev_move rfl) rfl rfl rfl ?_
    refine op_nil ?_
    refine ax_heq (i := 6) (v' := .own (v15) 5 1 (ints .u8 (tex g (x.1 + 1)))) rfl rfl ?_
    exact at_again ((x.1 + 1, v15)) (by show x.1 + 1 ≤ 36; omega) (by omega) (.cons rfl (.cons rfl (.cons rfl (.cons rfl (.nil _))))) (.cons rfl (.cons rfl (.nil _))) (.cons rfl (.nil _))
  ·
    obtain ⟨j, u⟩ := x
    dsimp only at hi hc8 htx hgx ⊢
    obtain rfl : j = 36 := by omega
    refine cd_exit ?_
    refine ax_then_exit ?_
    refine ax_then_exit ?_
    refine ax_block_hit ?_
    refine ax_then ?_
    refine At.regs (L' := [(2, _), (3, _)]) (.cons rfl (.cons rfl (.nil _))) ?_
    refine cd_seq ?_
    refine cd_region ?_
    refine st (ev_move rfl) rfl rfl rfl ?_
    refine st_callv has107 rfl (fun w1 sw => sum_any u (tex g 36) w1 (by rw [htx]; omega) (sw.own_rd (h := 6) rfl)) rfl rfl ?_
    refine st_store_all 2 ty55 rfl rfl rfl rfl (by first | omega | (simp only [List.length_append, List.length_cons, List.length_nil, List.length_set, List.length_replicate, List.length_take, List.length_drop, ints_length, wr_length, sha_len, way_len _ (by assumption), secret_len, digits_len] <;> omega) | rfl) (ints_one _ _) (by first | omega | (simp only [List.length_append, List.length_cons, List.length_nil, List.length_set, List.length_replicate, List.length_take, List.length_drop, ints_length, wr_length, sha_len, way_len _ (by assumption), secret_len, digits_len] <;> omega) | rfl) rfl ?_
    refine op_nil ?_
    refine ax_then ?_
    refine At.regs (L' := [(2, _)]) (.cons rfl (.nil _)) ?_
    refine cd_ret ?_
    refine rt_cell (h0 := 2) (.inl rfl) Try.results105 ty55 rfl rfl rfl (by first | omega | (simp only [List.length_append, List.length_cons, List.length_nil, List.length_set, List.length_replicate, List.length_take, List.length_drop, ints_length, wr_length, sha_len, way_len _ (by assumption), secret_len, digits_len] <;> omega) | rfl) ?_
    exact fun w1 sw => ⟨rfl, sw.gives (.nil _)⟩
end Go.Proofs.Ytgfnmolbagilmaa
namespace Go.Proofs.Ytgfnmolbagilmaa
open Go Go.RowKit Fw
open Sha
open Ots
set_option linter.unusedVariables false
set_option linter.unusedSimpArgs false
end Go.Proofs.Ytgfnmolbagilmaa
namespace Go.Proofs.Ytgfnmolbagilmaa
open Go Go.RowKit Fw
open Sha
open Ots
set_option linter.unusedVariables false
set_option linter.unusedSimpArgs false
theorem tex_len' {f : Nat → List Int} : ∀ n, (∀ i, i < n → (f i).length = 32) → (tex f n).length = 1 + 32 * n
  | 0, _ => rfl
  | n + 1, h => by rw [tex, List.length_append, tex_len' n (fun i hi => h i (by omega)), h n (by omega)]; omega
set_option maxRecDepth 20000 in
set_option maxHeartbeats 2000000 in
theorem rends_any (p : Value) (hs : List (List Int)) (w : World) (hu : H32 hs) (hn : hs.length = 36) (h : Rd w p 32 (flat hs)) : Calls Try.prog 97 #[p] w (PostV w (.agg (ints .u8 (ends fun i => hs.getD i [])).toArray)) := by
  refine calls_at (vs := [p]) (X := []) (H := []) (F := [(0, .sl p 32 (flat (hs)))]) 20 Try.func97 rfl rfl rfl (Sat.rd0 0 h) ?_
  refine cd_seq ?_
  refine cd_region ?_
  refine st_alloc (h := 2) ty55 rfl rfl rfl (fun b2 => ?_)
  refine op_nil ?_
  refine ax_then ?_
  refine At.regs (L' := [(0, _), (2, _)]) (.cons rfl (.cons rfl (.nil _))) ?_
  refine cd_seq ?_
  refine cd_region ?_
  refine st_bsi (h := 5) (xs := [_]) Try.underlying28 ty5 (by decide) rfl rfl (by decide) rfl rfl (fun b5 => ?_)
  refine st (ev_assign rfl) rfl rfl rfl ?_
  refine op_nil ?_
  refine ax_then ?_
  refine At.regs (L' := [(0, _), (2, _), (3, _)]) (.cons rfl (.cons rfl (.cons rfl (.nil _)))) ?_
  refine cd_seq ?_
  refine cd_seq ?_
  refine cd_region ?_
  refine st (ev_assign rfl) rfl rfl rfl ?_
  refine op_nil ?_
  refine ax_then ?_
  refine At.regs (L' := [(0, _), (2, _), (3, _), (4, _)]) (.cons rfl (.cons rfl (.cons rfl (.cons rfl (.nil _))))) ?_
  refine cd_block ?_
  refine cd_loop (ι := Nat × Value) (fun x => x.1 ≤ 36) (fun x => 36 - x.1)
      (fun x => [(0, p), (2, .pointer (some ⟨b2, 0, none⟩)), (3, x.2), (4, .int .i64 (x.1 : Int))])
      (fun x => [(2, .blk b2 (.cells (ints .u8 (List.replicate 32 0)).toArray 55)), (5, .own (x.2) 5 1 (ints .u8 (tex (fun i => hs.getD i []) x.1)))])
      (fun x => [(0, .sl p 32 (flat (hs)))])
      (0, _) (by omega) (.cons rfl (.cons rfl (.cons rfl (.cons rfl (.nil _))))) (.cons rfl (.cons rfl (.nil _))) (.cons rfl (.nil _)) (fun x hi => ?_)
  have htx := tex_len' (f := fun i => hs.getD i []) x.1 (fun i hi2 => hu.get (by omega))
  have hgx : x.1 < 36 → (hs.getD (x.1 : Int).toNat []).length = 32 := fun hx => hu.get (by omega)
  have e0 : (x.1 : Int).toNat = x.1 := by omega
  refine cd_seq ?_
  refine cd_seq ?_
  refine cd_region ?_
  refine st (ev_move rfl) rfl rfl rfl ?_
  refine st (ev_move rfl) rfl rfl rfl ?_
  refine st (ev_len_rdh (h := 0) Try.underlying22 rfl rfl (by assumption)) rfl rfl rfl ?_
  refine st (ev_lss rfl rfl) rfl rfl rfl ?_
  refine op_nil ?_
  refine ax_then ?_
  refine At.regs (L' := [(0, _), (2, _), (3, _), (4, _), (6, _), (7, _), (8, _), (9, _)]) (.cons rfl (.cons rfl (.cons rfl (.cons rfl (.cons rfl (.cons rfl (.cons rfl (.cons rfl (.nil _))))))))) ?_
  refine cd_if rfl (fun hc9 => ?_) (fun hc9 => ?_)
  ·
    have hgx2 := hgx (by omega)
    refine cd_skip ?_
    refine ax_then ?_
    refine At.regs (L' := [(0, _), (2, _), (3, _), (4, _), (6, _), (7, _), (8, _), (9, _)]) (.cons rfl (.cons rfl (.cons rfl (.cons rfl (.cons rfl (.cons rfl (.cons rfl (.cons rfl (.nil _))))))))) ?_
    refine cd_seq ?_
    refine cd_block ?_
    refine cd_region ?_
    refine st (ev_move rfl) rfl rfl rfl ?_
    refine st (ev_move rfl) rfl rfl rfl ?_
    refine st (ev_move rfl) rfl rfl rfl ?_
    refine st (ev_indexAddr_rdh (h := 0) Try.underlying22 ty55 rfl rfl rfl (by assumption) (by omega) (by omega)) rfl rfl rfl ?_
    refine st (ev_arrAt Try.underlying55 ty5 rfl (fun w1 sw => sw.sl_rd (h := 0) rfl) (by rw [flat_len (by assumption)]; omega)) rfl rfl rfl ?_
    refine st_appendi (h := 5) Try.underlying28 Try.underlying28 ty5 rfl rfl rfl rfl (fun w1 sw => rd_arrh (sw.sl_rd (h := 0) rfl) (by assumption) (by omega)) (by first | omega | (simp only [List.length_append, List.length_cons, List.length_nil, List.length_set, List.length_replicate, List.length_take, List.length_drop, ints_length, wr_length, sha_len, way_len _ (by assumption), secret_len, digits_len] <;> omega)) (by decide) rfl rfl (fun v17 => ?_)
    refine st (ev_assign rfl) rfl rfl rfl ?_
    refine op_nil ?_
    refine ax_block ?_
    refine ax_then ?_
    refine At.regs (L' := [(0, _), (2, _), (3, _), (4, _), (6, _), (7, _), (8, _), (9, _), (12, _), (13, _), (14, _), (15, _), (16, _), (17, _)]) (.cons rfl (.cons rfl (.cons rfl (.cons rfl (.cons rfl (.cons rfl (.cons rfl (.cons rfl (.cons rfl (.cons rfl (.cons rfl (.cons rfl (.cons rfl (.cons rfl (.nil _))))))))))))))) ?_
    refine cd_region ?_
    refine st (ev_move rfl) rfl rfl rfl ?_
    refine st (ev_add64 rfl rfl (by omega) (by omega)) rfl rfl rfl ?_
    refine st (ev_assign rfl) rfl rfl rfl ?_
    refine op_nil ?_
    refine ax_heq (i := 5) (v' := .own (v17) 5 1 (ints .u8 (tex (fun i => hs.getD i []) (x.1 + 1)))) rfl (by rw [e0]; rfl) ?_
    exact at_again ((x.1 + 1, v17)) (by show x.1 + 1 ≤ 36; omega) (by omega) (.cons rfl (.cons rfl (.cons rfl (.cons rfl (.nil _))))) (.cons rfl (.cons rfl (.nil _))) (.cons rfl (.nil _))
  ·
    obtain ⟨j, u⟩ := x
    dsimp only at hi hc9 htx ⊢
    obtain rfl : j = 36 := by omega
    refine cd_exit ?_
    refine ax_then_exit ?_
    refine ax_then_exit ?_
    refine ax_block_hit ?_
    refine ax_then ?_
    refine At.regs (L' := [(2, _), (3, _)]) (.cons rfl (.cons rfl (.nil _))) ?_
    refine cd_seq ?_
    refine cd_region ?_
    refine st (ev_move rfl) rfl rfl rfl ?_
    refine st_callv has98 rfl (fun w1 sw => rsum_any u (tex (fun i => hs.getD i []) 36) w1 (by rw [htx]; omega) (sw.own_rd (h := 5) rfl)) rfl rfl ?_
    refine st_store_all 2 ty55 rfl rfl rfl rfl (by first | omega | (simp only [List.length_append, List.length_cons, List.length_nil, List.length_set, List.length_replicate, List.length_take, List.length_drop, ints_length, wr_length, sha_len, way_len _ (by assumption), secret_len, digits_len] <;> omega) | rfl) (ints_one _ _) (by first | omega | (simp only [List.length_append, List.length_cons, List.length_nil, List.length_set, List.length_replicate, List.length_take, List.length_drop, ints_length, wr_length, sha_len, way_len _ (by assumption), secret_len, digits_len] <;> omega) | rfl) rfl ?_
    refine op_nil ?_
    refine ax_then ?_
    refine At.regs (L' := [(2, _)]) (.cons rfl (.nil _)) ?_
    refine cd_ret ?_
    refine rt_cell (h0 := 2) (.inl rfl) Try.results97 ty55 rfl rfl rfl (by first | omega | (simp only [List.length_append, List.length_cons, List.length_nil, List.length_set, List.length_replicate, List.length_take, List.length_drop, ints_length, wr_length, sha_len, way_len _ (by assumption), secret_len, digits_len] <;> omega) | rfl) ?_
    exact fun w1 sw => ⟨rfl, sw.gives (.nil _)⟩
end Go.Proofs.Ytgfnmolbagilmaa
namespace Go.Proofs.Ytgfnmolbagilmaa
open Go Go.RowKit Fw
open Sha
open Ots
set_option linter.unusedVariables false
set_option linter.unusedSimpArgs false
theorem digits_range (m : List Int) (i : Nat) : 0 ≤ (digits m).getD i 0 ∧ (digits m).getD i 0 ≤ 3 := by
  have h : ∀ x, x ∈ digits m → 0 ≤ x ∧ x ≤ 3 := by
    intro x hx
    simp only [Ots.digits, d2, List.mem_append, List.mem_map, List.mem_replicate] at hx
    rcases hx with (⟨c, _, rfl⟩ | ⟨c, _, rfl⟩) | ⟨_, rfl⟩
    · exact dg_range _ _
    · omega
    · omega
  rw [List.getD_eq_getElem?_getD]
  cases e : (digits m)[i]? with
  | none => decide
  | some x => exact h x (List.mem_of_getElem? e)
/-- what chains are recovered to -/
def recs (m : List Int) (cs : List (List Int)) (n : Nat) : List (List Int) := (List.range n).map fun (c : Nat) => walk (cs.getD c []) c ((digits m).getD c 0) 3
theorem recs_snoc (m : List Int) (cs : List (List Int)) (n : Nat) : recs m cs (n + 1) = recs m cs n ++ [walk (cs.getD n []) n ((digits m).getD n 0) 3] := by simp [recs, List.range_succ]
theorem recs_h32 (m : List Int) {cs : List (List Int)} (hu : H32 cs) (n : Nat) (hn : n ≤ cs.length) : H32 (recs m cs n) := fun h hh => by
  simp only [recs, List.mem_map, List.mem_range] at hh
  obtain ⟨c, hc, rfl⟩ := hh
  exact walk_len _ _ _ (hu.get (by omega))
theorem recs_len (m : List Int) (cs : List (List Int)) (n : Nat) : (recs m cs n).length = n := by simp [recs]
def recov (m : List Int) (cs : List (List Int)) : List Int := if cs.length = 36 then ends (fun c => walk (cs.getD c []) c ((digits m).getD c 0) 3) else List.replicate 32 0
theorem recs_ends (m : List Int) (cs : List (List Int)) (h : cs.length = 36) : ends (fun i => (recs m cs 36).getD i []) = recov m cs := by
  rw [recov, if_pos h]
  exact ends_congr fun i hi => by
    rw [recs, List.getD_eq_getElem?_getD, List.getElem?_map, List.getElem?_range hi]
    rfl
theorem recov_len (m : List Int) (cs : List (List Int)) : (recov m cs).length = 32 := by
  rw [recov]
  split
  · exact sha_len _
  · simp
theorem at36 (d : List Int) (x : Value) (hl : d.length = 36) : (ints .i64 d ++ [x])[36]? = some x := by
  rw [List.getElem?_append_right (by rw [ints_length, hl]; decide), ints_length, hl]
  rfl
theorem lt36 (d : List Int) (x : Value) (hl : d.length = 36) (i : Nat) (hi : i < 36) : (ints .i64 d ++ [x])[i]? = some (.int .i64 (d.getD i 0)) := by
  rw [List.getElem?_append_left (by rw [ints_length, hl]; exact hi)]
  exact ints_get _ _ _ (by omega)
end Go.Proofs.Ytgfnmolbagilmaa
namespace Go.Proofs.Ytgfnmolbagilmaa
open Go Go.RowKit Fw
open Sha
open Ots
set_option linter.unusedVariables false
set_option linter.unusedSimpArgs false
set_option maxRecDepth 20000 in
set_option maxHeartbeats 1000000 in
theorem sigEnd_any (d : List Int) (v : Value) (cs : List (List Int)) (c : Nat) (w : World) (hd : d.length = 36) (hd3 : ∀ i, d.getD i 0 ≤ 3) (hu : H32 cs) (hn : cs.length = 36) (hc : c < 36) (h : Rd w v 32 (flat cs)) : Calls Try.prog 129 #[.agg (ints .i64 (d) ++ [v]).toArray, .int .i64 (c : Int)] w (PostV w (.agg (ints .u8 (walk (cs.getD c []) c (d.getD c 0) 3)).toArray)) := by
  have hwl := walk_len (h := cs.getD c []) c (d.getD c 0) 3 (hu.get (by omega))
  refine calls_at (vs := [.agg (ints .i64 (d) ++ [v]).toArray, .int .i64 (c : Int)]) (X := []) (H := []) (F := [(20, .sl v 32 (flat (cs)))]) 16 Try.func129 rfl rfl rfl (Sat.rd0 20 h) ?_
  refine cd_seq ?_
  refine cd_region ?_
  refine st_box (h := 2) rfl rfl rfl rfl (fun b2 => ?_)
  refine st_alloc (h := 4) ty55 rfl rfl rfl (fun b4 => ?_)
  refine op_nil ?_
  refine ax_then ?_
  refine At.regs (L' := [(1, _), (2, _), (4, _)]) (.cons rfl (.cons rfl (.cons rfl (.nil _)))) ?_
  refine cd_seq ?_
  refine cd_open_tail 11 hmix (by decide +kernel) ?_
  refine qt (ev_fieldAddr (b := _) Try.underlying178 (f := _) rfl ty22 (by decide) rfl) rfl rfl rfl ?_
  refine qt (ld_blk1 (h := 2) ty22 rfl rfl rfl (at36 d v hd)) rfl rfl rfl ?_
  refine qt (ev_move rfl) rfl rfl rfl ?_
  refine qt (ev_indexAddr_rdh (h := 20) Try.underlying22 ty55 rfl rfl rfl (by assumption) (by omega) (by omega)) rfl rfl rfl ?_
  refine qt (ld_rdh (h := 20) ty55 rfl rfl rfl (by assumption) (by omega)) rfl rfl rfl ?_
  refine qt_eq (i := 9) (v' := .agg (ints .u8 (cs.getD c [])).toArray) rfl (by rw [Int.toNat_natCast]) ?_
  refine qt (ev_move rfl) rfl rfl rfl ?_
  refine qt (ev_move rfl) rfl rfl rfl ?_
  refine qt (ev_fieldAddr (b := _) Try.underlying178 (f := _) rfl ty153 (by decide) rfl) rfl rfl rfl ?_
  refine qt (ev_indexAddr_arr Try.underlying153 ty3 rfl rfl (by omega) (by omega)) rfl rfl rfl ?_
  refine qt (ld_blk1 (h := 2) ty3 rfl rfl rfl (lt36 d v hd _ (by show 0 + 0 + (c : Int).toNat * 1 < 36; omega))) rfl rfl rfl ?_
  have e0 : 0 + 0 + (c : Int).toNat * 1 = c := by omega
  refine qt_eq (i := 14) (v' := .int .i64 (d.getD c 0)) rfl (by show Value.int .i64 (d.getD (0 + 0 + (c : Int).toNat * 1) 0) = _; rw [e0]) ?_
  have hgc := hu.get (i := c) (by omega)
  refine qt_callv has111 rfl (fun w1 sw => walk_any (cs.getD c []) c (d.getD c 0) 3 w1 hgc (by have := hd3 c; omega)) rfl rfl ?_
  refine qt_end ?_
  refine st_store_all 4 ty55 rfl rfl rfl rfl (by first | omega | (simp only [List.length_append, List.length_cons, List.length_nil, List.length_set, List.length_replicate, List.length_take, List.length_drop, ints_length, wr_length, sha_len, way_len _ (by assumption), secret_len, digits_len, recov_len] <;> omega) | rfl) (ints_one _ _) (by first | omega | (simp only [List.length_append, List.length_cons, List.length_nil, List.length_set, List.length_replicate, List.length_take, List.length_drop, ints_length, wr_length, sha_len, way_len _ (by assumption), secret_len, digits_len, recov_len] <;> omega) | rfl) rfl ?_
  refine op_nil ?_
  refine ax_then ?_
  refine At.regs (L' := [(4, _)]) (.cons rfl (.nil _)) ?_
  refine cd_ret ?_
  refine rt_cell (h0 := 4) (.inl rfl) Try.results129 ty55 rfl rfl rfl (by first | omega | (simp only [List.length_append, List.length_cons, List.length_nil, List.length_set, List.length_replicate, List.length_take, List.length_drop, ints_length, wr_length, sha_len, way_len _ (by assumption), secret_len, digits_len, recov_len] <;> omega) | rfl) ?_
  exact fun w1 sw => ⟨rfl, sw.gives (.nil _)⟩
def gS (m : List Int) (cs : List (List Int)) (c : Nat) : List Int := if c < 36 then walk (cs.getD c []) c ((Ots.digits m).getD c 0) 3 else List.replicate 32 0
theorem gS_len (m : List Int) {cs : List (List Int)} (hu : H32 cs) (hn : cs.length = 36) (i : Nat) : (gS m cs i).length = 32 := by
  rw [gS]
  split
  · exact walk_len _ _ _ (hu.get (by omega))
  · simp
theorem gS_ends (m : List Int) {cs : List (List Int)} (hn : cs.length = 36) : ends (gS m cs) = recov m cs := by
  rw [recov, if_pos hn]
  exact ends_congr fun i hi => by rw [gS, if_pos hi]
set_option maxRecDepth 20000 in
set_option maxHeartbeats 2000000 in
theorem recover_any (p q : Value) (m : List Int) (cs : List (List Int)) (w : World) (hm : m.length ≤ 140737488352000) (hu : H32 cs) (hcl : cs.length ≤ 140737488352000) (h : Rd w p 1 (ints .u8 m)) (h' : Rd w q 32 (flat cs)) : Calls Try.prog 116 #[p, q] w (PostV w (.tuple #[.agg (ints .u8 (recov m cs)).toArray, .bool (decide (cs.length = 36))])) := by
  refine calls_at (vs := [p, q]) (X := []) (H := []) (F := [(1, .sl q 32 (flat (cs))), (0, .sl p 1 (ints .u8 (m)))]) 16 Try.func116 rfl rfl rfl ((Sat.rd0 0 h).more 1 h') ?_
  refine cd_seq ?_
  refine cd_region ?_
  refine st_alloc (h := 4) ty55 rfl rfl rfl (fun b4 => ?_)
  refine st (ev_assign rfl) rfl rfl rfl ?_
  refine op_nil ?_
  refine ax_then ?_
  refine At.regs (L' := [(0, _), (1, _), (4, _), (5, _)]) (.cons rfl (.cons rfl (.cons rfl (.cons rfl (.nil _))))) ?_
  refine cd_seq ?_
  refine cd_seq ?_
  refine cd_region ?_
  refine st (ev_move rfl) rfl rfl rfl ?_
  refine st (ev_len_rdh (h := 1) Try.underlying22 rfl rfl (by assumption)) rfl rfl rfl ?_
  refine st (ev_neq rfl rfl) rfl rfl rfl ?_
  refine op_nil ?_
  refine ax_then ?_
  refine At.regs (L' := [(0, _), (1, _), (4, _), (5, _), (8, _)]) (.cons rfl (.cons rfl (.cons rfl (.cons rfl (.cons rfl (.nil _)))))) ?_
  refine cd_if rfl (fun hc8 => ?_) (fun hc8 => ?_)
  ·
    refine cd_seq ?_
    refine cd_region ?_
    refine st (ev_build_array ty55 rfl ty5 rfl rfl) rfl rfl rfl ?_
    refine st_store_all 4 ty55 rfl rfl rfl rfl (by first | omega | (simp only [List.length_append, List.length_cons, List.length_nil, List.length_set, List.length_replicate, List.length_take, List.length_drop, ints_length, wr_length, sha_len, way_len _ (by assumption), secret_len, digits_len, recov_len] <;> omega) | rfl) (ints_one _ _) (by first | omega | (simp only [List.length_append, List.length_cons, List.length_nil, List.length_set, List.length_replicate, List.length_take, List.length_drop, ints_length, wr_length, sha_len, way_len _ (by assumption), secret_len, digits_len, recov_len] <;> omega) | rfl) rfl ?_
    refine st (ev_assign rfl) rfl rfl rfl ?_
    refine op_nil ?_
    refine ax_then ?_
    refine At.regs (L' := [(0, _), (1, _), (4, _), (5, _)]) (.cons rfl (.cons rfl (.cons rfl (.cons rfl (.nil _))))) ?_
    refine cd_ret ?_
    refine ax_then_ret ?_
    refine rt_cell_tmp (h0 := 4) (.inl rfl) Try.results116 ty55 rfl rfl rfl (by first | omega | (simp only [List.length_append, List.length_cons, List.length_nil, List.length_set, List.length_replicate, List.length_take, List.length_drop, ints_length, wr_length, sha_len, way_len _ (by assumption), secret_len, digits_len, recov_len] <;> omega) | rfl) rfl ?_
    exact fun w1 sw => ⟨by rw [recov, if_neg (by omega), decide_eq_false (by omega)], sw.gives (.nil _)⟩
  ·
    have hn : cs.length = 36 := by omega
    refine cd_skip ?_
    refine ax_then ?_
    refine At.regs (L' := [(0, _), (1, _), (4, _), (5, _)]) (.cons rfl (.cons rfl (.cons rfl (.cons rfl (.nil _))))) ?_
    refine cd_seq ?_
    refine cd_region ?_
    refine st (ev_move rfl) rfl rfl rfl ?_
    refine st_callv has110 rfl (fun w1 sw => digits_any p m w1 hm (sw.sl_rd (h := 0) rfl)) rfl rfl ?_
    refine st (ev_move rfl) rfl rfl rfl ?_
    refine st (ev_build_struct ty178 rfl pl178 rfl ((fill_put (i := 0) (off := 0) (n := 36) (vs := ints .i64 (Ots.digits m)) rfl rfl (by rw [ints_length, digits_len]) (Nat.le_of_ble_eq_true rfl)).trans ((fill_put (i := 1) (off := 36) (n := 1) (vs := [q]) rfl (by obtain ⟨_, _, _, rfl, _⟩ := h'; rfl) rfl (by rw [wr_length (by rw [ints_length, digits_len]; exact Nat.le_of_ble_eq_true rfl)]; exact Nat.le_of_ble_eq_true rfl)).trans fill_nil))) rfl rfl rfl ?_
    refine at_eq (i := 13) (v' := .agg (ints .i64 (Ots.digits m) ++ [q]).toArray) rfl (congrArg (fun x => Value.agg (List.toArray x)) (put_last (by rw [ints_length, digits_len]) rfl)) ?_
    refine st (ev_func rfl rfl) rfl rfl rfl ?_
    refine st_callv has105 rfl (fun w1 sw => ends_any 129 has129 [.agg (ints .i64 (Ots.digits m) ++ [q]).toArray] [] q cs (gS m cs) (gS_len m hu hn) w1 (sw.sl_rd (h := 1) rfl) (fun w2 i hi hr => by rw [gS, if_pos hi]; exact sigEnd_any (Ots.digits m) q cs i w2 (digits_len m) (fun i => (digits_range m i).2) hu hn hi hr)) rfl rfl ?_
    refine at_eq (i := 15) (v' := .agg (ints .u8 (recov m cs)).toArray) rfl (by rw [gS_ends m (by omega)]) ?_
    have hrl := recov_len m cs
    refine st_store_all 4 ty55 rfl rfl rfl rfl (by first | omega | (simp only [List.length_append, List.length_cons, List.length_nil, List.length_set, List.length_replicate, List.length_take, List.length_drop, ints_length, wr_length, sha_len, way_len _ (by assumption), secret_len, digits_len, recov_len] <;> omega) | rfl) (ints_one _ _) (by first | omega | (simp only [List.length_append, List.length_cons, List.length_nil, List.length_set, List.length_replicate, List.length_take, List.length_drop, ints_length, wr_length, sha_len, way_len _ (by assumption), secret_len, digits_len, recov_len] <;> omega) | rfl) rfl ?_
    refine st (ev_assign rfl) rfl rfl rfl ?_
    refine op_nil ?_
    refine ax_then ?_
    refine At.regs (L' := [(4, _), (5, _)]) (.cons rfl (.cons rfl (.nil _))) ?_
    refine cd_ret ?_
    refine rt_cell_tmp (h0 := 4) (.inl rfl) Try.results116 ty55 rfl rfl rfl (by first | omega | (simp only [List.length_append, List.length_cons, List.length_nil, List.length_set, List.length_replicate, List.length_take, List.length_drop, ints_length, wr_length, sha_len, way_len _ (by assumption), secret_len, digits_len, recov_len] <;> omega) | rfl) rfl ?_
    exact fun w1 sw => ⟨by rw [decide_eq_true (by omega)], sw.gives (.nil _)⟩
set_option maxRecDepth 20000 in
set_option maxHeartbeats 2000000 in
theorem rrecover_any (p q : Value) (m : List Int) (cs : List (List Int)) (w : World) (hm : m.length ≤ 140737488352000) (hu : H32 cs) (hcl : cs.length ≤ 140737488352000) (h : Rd w p 1 (ints .u8 m)) (h' : Rd w q 32 (flat cs)) : Calls Try.prog 121 #[p, q] w (PostV w (.tuple #[.agg (ints .u8 (recov m cs)).toArray, .bool (decide (cs.length = 36))])) := by
  refine calls_at (vs := [p, q]) (X := []) (H := []) (F := [(1, .sl q 32 (flat (cs))), (0, .sl p 1 (ints .u8 (m)))]) 33 Try.func121 rfl rfl rfl ((Sat.rd0 0 h).more 1 h') ?_
  refine cd_seq ?_
  refine cd_region ?_
  refine st_alloc (h := 4) ty55 rfl rfl rfl (fun b4 => ?_)
  refine st (ev_assign rfl) rfl rfl rfl ?_
  refine op_nil ?_
  refine ax_then ?_
  refine At.regs (L' := [(0, _), (1, _), (4, _), (5, _)]) (.cons rfl (.cons rfl (.cons rfl (.cons rfl (.nil _))))) ?_
  refine cd_seq ?_
  refine cd_seq ?_
  refine cd_region ?_
  refine st (ev_move rfl) rfl rfl rfl ?_
  refine st (ev_len_rdh (h := 1) Try.underlying22 rfl rfl (by assumption)) rfl rfl rfl ?_
  refine st (ev_neq rfl rfl) rfl rfl rfl ?_
  refine op_nil ?_
  refine ax_then ?_
  refine At.regs (L' := [(0, _), (1, _), (4, _), (5, _), (11, _)]) (.cons rfl (.cons rfl (.cons rfl (.cons rfl (.cons rfl (.nil _)))))) ?_
  refine cd_if rfl (fun hc11 => ?_) (fun hc11 => ?_)
  ·
    refine cd_seq ?_
    refine cd_region ?_
    refine st (ev_build_array ty55 rfl ty5 rfl rfl) rfl rfl rfl ?_
    refine st_store_all 4 ty55 rfl rfl rfl rfl (by first | omega | (simp only [List.length_append, List.length_cons, List.length_nil, List.length_set, List.length_replicate, List.length_take, List.length_drop, ints_length, wr_length, sha_len, way_len _ (by assumption), secret_len, digits_len, recov_len] <;> omega) | rfl) (ints_one _ _) (by first | omega | (simp only [List.length_append, List.length_cons, List.length_nil, List.length_set, List.length_replicate, List.length_take, List.length_drop, ints_length, wr_length, sha_len, way_len _ (by assumption), secret_len, digits_len, recov_len] <;> omega) | rfl) rfl ?_
    refine st (ev_assign rfl) rfl rfl rfl ?_
    refine op_nil ?_
    refine ax_then ?_
    refine At.regs (L' := [(0, _), (1, _), (4, _), (5, _)]) (.cons rfl (.cons rfl (.cons rfl (.cons rfl (.nil _))))) ?_
    refine cd_ret ?_
    refine ax_then_ret ?_
    refine rt_cell_tmp (h0 := 4) (.inl rfl) Try.results121 ty55 rfl rfl rfl (by first | omega | (simp only [List.length_append, List.length_cons, List.length_nil, List.length_set, List.length_replicate, List.length_take, List.length_drop, ints_length, wr_length, sha_len, way_len _ (by assumption), secret_len, digits_len, recov_len] <;> omega) | rfl) rfl ?_
    exact fun w1 sw => ⟨by rw [recov, if_neg (by omega), decide_eq_false (by omega)], sw.gives (.nil _)⟩
  ·
    have hn : cs.length = 36 := by omega
    refine cd_skip ?_
    refine ax_then ?_
    refine At.regs (L' := [(0, _), (1, _), (4, _), (5, _)]) (.cons rfl (.cons rfl (.cons rfl (.cons rfl (.nil _))))) ?_
    refine cd_seq ?_
    refine cd_region ?_
    refine st (ev_move rfl) rfl rfl rfl ?_
    refine st_callv has104 rfl (fun w1 sw => rdigits_any p m w1 hm (sw.sl_rd (h := 0) rfl)) rfl rfl ?_
    have hdl0 := digits_len m
    refine st_alloc (h := 6) ty153 rfl rfl rfl (fun b6 => ?_)
    refine st_store_all 6 ty153 rfl rfl rfl rfl (by first | omega | (simp only [List.length_append, List.length_cons, List.length_nil, List.length_set, List.length_replicate, List.length_take, List.length_drop, ints_length, wr_length, sha_len, way_len _ (by assumption), secret_len, digits_len, recov_len] <;> omega) | rfl) (ints_one _ _) (by first | omega | (simp only [List.length_append, List.length_cons, List.length_nil, List.length_set, List.length_replicate, List.length_take, List.length_drop, ints_length, wr_length, sha_len, way_len _ (by assumption), secret_len, digits_len, recov_len] <;> omega) | rfl) rfl ?_
    refine op_nil ?_
    refine ax_then ?_
    refine At.regs (L' := [(1, _), (4, _), (5, _), (6, _)]) (.cons rfl (.cons rfl (.cons rfl (.cons rfl (.nil _))))) ?_
    refine cd_seq ?_
    refine at_freeze_blk (h := 6) (H' := [(4, _)]) 6 rfl (.cons rfl (.nil _)) rfl ?_
    refine cd_region ?_
    refine st (ev_assign rfl) rfl rfl rfl ?_
    refine at_own_nil 7 55 32 ?_
    refine at_heq (i := 7) (v' := .own (.slice none 0 0) 55 32 (flat [])) rfl rfl ?_
    have hu7 := H32.nil
    refine op_nil ?_
    refine ax_then ?_
    refine At.regs (L' := [(1, _), (4, _), (5, _), (6, _), (7, _)]) (.cons rfl (.cons rfl (.cons rfl (.cons rfl (.cons rfl (.nil _)))))) ?_
    refine cd_seq ?_
    refine cd_seq ?_
    refine cd_region ?_
    refine st (ev_assign rfl) rfl rfl rfl ?_
    refine op_nil ?_
    refine ax_then ?_
    refine At.regs (L' := [(1, _), (4, _), (5, _), (6, _), (7, _), (8, _)]) (.cons rfl (.cons rfl (.cons rfl (.cons rfl (.cons rfl (.cons rfl (.nil _))))))) ?_
    refine cd_block ?_
    refine cd_loop (ι := Nat × Value) (fun x => x.1 ≤ 36) (fun x => 36 - x.1)
        (fun x => [(1, q), (4, .pointer (some ⟨b4, 0, none⟩)), (6, .pointer (some ⟨b6, 0, none⟩)), (7, x.2), (8, .int .i64 (x.1 : Int))])
        (fun x => [(4, .blk b4 (.cells (ints .u8 (List.replicate 32 0)).toArray 55)), (7, .own (x.2) 55 32 (flat (recs m cs x.1)))])
        (fun x => [(1, .sl q 32 (flat (cs))), (6, .mem b6 0 (ints .i64 (Ots.digits m)))])
        (0, .slice none 0 0) (by omega) (.cons rfl (.cons rfl (.cons rfl (.cons rfl (.cons rfl (.nil _)))))) (.cons rfl (.cons rfl (.nil _))) (.cons rfl (.cons rfl (.nil _))) (fun x hi => ?_)
    have hsu := recs_h32 m hu x.1 (by omega)
    have hsn := recs_len m cs x.1
    have e0 : 0 + (x.1 : Int).toNat * 1 = x.1 := by omega
    have e1 : (x.1 : Int).toNat = x.1 := by omega
    have hdl := digits_len m
    have hgx : x.1 < 36 → (cs.getD (x.1 : Int).toNat []).length = 32 := fun hx => hu.get (by omega)
    have hdr := digits_range m (0 + (x.1 : Int).toNat * 1)
    refine cd_seq ?_
    refine cd_seq ?_
    refine cd_region ?_
    refine st (ev_move rfl) rfl rfl rfl ?_
    refine st (ev_lss rfl rfl) rfl rfl rfl ?_
    refine op_nil ?_
    refine ax_then ?_
    refine At.regs (L' := [(1, _), (4, _), (6, _), (7, _), (8, _), (15, _), (16, _)]) (.cons rfl (.cons rfl (.cons rfl (.cons rfl (.cons rfl (.cons rfl (.cons rfl (.nil _)))))))) ?_
    refine cd_if rfl (fun hc16 => ?_) (fun hc16 => ?_)
    ·
      have hgx2 := hgx (by omega)
      refine cd_skip ?_
      refine ax_then ?_
      refine At.regs (L' := [(1, _), (4, _), (6, _), (7, _), (8, _), (15, _), (16, _)]) (.cons rfl (.cons rfl (.cons rfl (.cons rfl (.cons rfl (.cons rfl (.cons rfl (.nil _)))))))) ?_
      refine cd_seq ?_
      refine cd_block ?_
      refine cd_mix hmix ?_
      refine mx (i := 0) rfl (by decide +kernel) (by decide +kernel) (by decide +kernel) rfl (fun w0 => ev_move rfl) rfl rfl (Sub.refl _) ?_
      refine mx (i := 1) rfl (by decide +kernel) (by decide +kernel) (by decide +kernel) rfl (fun w0 => ev_move rfl) rfl rfl (Sub.refl _) ?_
      refine mx (i := 2) rfl (by decide +kernel) (by decide +kernel) (by decide +kernel) rfl (fun w0 => ev_move rfl) rfl rfl (Sub.refl _) ?_
      refine mx (i := 3) rfl (by decide +kernel) (by decide +kernel) (by decide +kernel) rfl (fun w0 => ev_indexAddr_rdh (h := 1) Try.underlying22 ty55 rfl rfl rfl (by assumption) (by omega) (by omega)) rfl rfl (Sub.refl _) ?_
      refine mx (i := 4) rfl (by decide +kernel) (by decide +kernel) (by decide +kernel) rfl (fun w0 => ld_rdh (h := 1) ty55 rfl rfl rfl (by assumption) (by omega)) rfl rfl (Sub.refl _) ?_
      refine mx (i := 5) rfl (by decide +kernel) (by decide +kernel) (by decide +kernel) rfl (fun w0 => ev_move rfl) rfl rfl (Sub.refl _) ?_
      refine mx (i := 6) rfl (by decide +kernel) (by decide +kernel) (by decide +kernel) rfl (fun w0 => ev_move rfl) rfl rfl (Sub.refl _) ?_
      refine mx (i := 7) rfl (by decide +kernel) (by decide +kernel) (by decide +kernel) rfl (fun w0 => ev_indexAddr_arr Try.underlying153 ty3 rfl rfl (by omega) (by omega)) rfl rfl (Sub.refl _) ?_
      refine mx (i := 8) rfl (by decide +kernel) (by decide +kernel) (by decide +kernel) rfl (fun w0 => ld_mem1 (h := 6) ty3 rfl rfl rfl (Nat.zero_add _).symm (ints_get _ _ _ (by first | omega | (simp only [List.length_append, List.length_cons, List.length_nil, List.length_set, List.length_replicate, List.length_take, List.length_drop, ints_length, wr_length, sha_len, way_len _ (by assumption), secret_len, digits_len, recov_len] <;> omega) | rfl))) rfl rfl (Sub.refl _) ?_
      refine mx_one (i := 9) (by decide +kernel) (Sub.refl _) ?_
      refine wo (i := 9) rfl ?_
      refine st_callv has95 rfl (fun w1 sw => rwalk_any (cs.getD (x.1 : Int).toNat []) x.1 ((Ots.digits m).getD (0 + (x.1 : Int).toNat * 1) 0) 3 w1 hgx2 (by omega)) rfl rfl ?_
      have hwl := walk_len (h := cs.getD (x.1 : Int).toNat []) x.1 ((Ots.digits m).getD (0 + (x.1 : Int).toNat * 1) 0) 3 hgx2
      refine op_nil ?_
      refine ax_then ?_
      refine mx_one (i := 10) (by decide +kernel) (Sub.refl _) ?_
      refine wo (i := 10) rfl ?_
      refine st_bsh1 (h := 29) Try.underlying22 ty55 rfl (by first | assumption | omega) rfl rfl (fun b29 hu29 => ?_)
      refine op_nil ?_
      refine ax_then ?_
      refine mx_one (i := 11) (by decide +kernel) (Sub.refl _) ?_
      refine wo (i := 11) rfl ?_
      refine st_appendh (h := 7) Try.underlying22 Try.underlying22 ty55 rfl rfl rfl rfl (fun w1 sw => sw.own_rd (h := 29) rfl) (by assumption) (by assumption) (by first | omega | (simp only [List.length_append, List.length_cons, List.length_nil, List.length_set, List.length_replicate, List.length_take, List.length_drop, ints_length, wr_length, sha_len, way_len _ (by assumption), secret_len, digits_len, recov_len] <;> omega)) (by decide) rfl rfl (fun v30 hu30 => ?_)
      refine op_nil ?_
      refine ax_then ?_
      refine mx (i := 12) rfl (by decide +kernel) (by decide +kernel) (by decide +kernel) rfl (fun w0 => ev_assign rfl) rfl rfl (Sub.refl _) ?_
      refine mx_done (by decide +kernel) (Sub.refl _) ?_
      refine ax_block ?_
      refine ax_then ?_
      refine At.regs (L' := [(1, _), (4, _), (6, _), (7, _), (8, _), (15, _), (16, _), (19, _), (20, _), (21, _), (22, _), (23, _), (24, _), (25, _), (26, _), (27, _), (28, _), (29, _), (30, _)]) (.cons rfl (.cons rfl (.cons rfl (.cons rfl (.cons rfl (.cons rfl (.cons rfl (.cons rfl (.cons rfl (.cons rfl (.cons rfl (.cons rfl (.cons rfl (.cons rfl (.cons rfl (.cons rfl (.cons rfl (.cons rfl (.cons rfl (.nil _)))))))))))))))))))) ?_
      refine cd_region ?_
      refine st (ev_move rfl) rfl rfl rfl ?_
      refine st (ev_add64 rfl rfl (by omega) (by omega)) rfl rfl rfl ?_
      refine st (ev_assign rfl) rfl rfl rfl ?_
      refine op_nil ?_
      refine ax_heq (i := 7) (v' := .own (v30) 55 32 (flat (recs m cs (x.1 + 1)))) rfl (by rw [recs_snoc, e0, e1]) ?_
      exact at_again ((x.1 + 1, v30)) (by show x.1 + 1 ≤ 36; omega) (by omega) (.cons rfl (.cons rfl (.cons rfl (.cons rfl (.cons rfl (.nil _)))))) (.cons rfl (.cons rfl (.nil _))) (.cons rfl (.cons rfl (.nil _)))
    ·
      obtain ⟨j, u⟩ := x
      dsimp only at hi hc16 ⊢
      obtain rfl : j = 36 := by omega
      refine cd_exit ?_
      refine ax_then_exit ?_
      refine ax_then_exit ?_
      refine ax_block_hit ?_
      refine ax_then ?_
      refine At.regs (L' := [(4, _), (7, _)]) (.cons rfl (.cons rfl (.nil _))) ?_
      refine cd_seq ?_
      refine cd_region ?_
      refine st (ev_move rfl) rfl rfl rfl ?_
      refine st_callv has97 rfl (fun w1 sw => rends_any u (recs m cs 36) w1 (recs_h32 m hu 36 (by omega)) (recs_len m cs 36) (sw.own_rd (h := 7) rfl)) rfl rfl ?_
      refine at_eq (i := 32) (v' := .agg (ints .u8 (recov m cs)).toArray) rfl (by rw [recs_ends m cs hn]) ?_
      have hrl := recov_len m cs
      refine st_store_all 4 ty55 rfl rfl rfl rfl (by first | omega | (simp only [List.length_append, List.length_cons, List.length_nil, List.length_set, List.length_replicate, List.length_take, List.length_drop, ints_length, wr_length, sha_len, way_len _ (by assumption), secret_len, digits_len, recov_len] <;> omega) | rfl) (ints_one _ _) (by first | omega | (simp only [List.length_append, List.length_cons, List.length_nil, List.length_set, List.length_replicate, List.length_take, List.length_drop, ints_length, wr_length, sha_len, way_len _ (by assumption), secret_len, digits_len, recov_len] <;> omega) | rfl) rfl ?_
      refine st (ev_assign rfl) rfl rfl rfl ?_
      refine op_nil ?_
      refine ax_then ?_
      refine At.regs (L' := [(4, _), (5, _)]) (.cons rfl (.cons rfl (.nil _))) ?_
      refine cd_ret ?_
      refine rt_cell_tmp (h0 := 4) (.inl rfl) Try.results121 ty55 rfl rfl rfl (by first | omega | (simp only [List.length_append, List.length_cons, List.length_nil, List.length_set, List.length_replicate, List.length_take, List.length_drop, ints_length, wr_length, sha_len, way_len _ (by assumption), secret_len, digits_len, recov_len] <;> omega) | rfl) rfl ?_
      exact fun w1 sw => ⟨by rw [decide_eq_true (by omega)], sw.gives (.nil _)⟩
theorem hashes_ext {a b : List (List Int)} (hl : a.length = b.length) (h : ∀ i, i < a.length → a.getD i [] = b.getD i []) : a = b := by
  apply List.ext_getElem hl
  intro i h1 h2
  have := h i h1
  simpa [List.getD_eq_getElem?_getD, h1, h2] using this
set_option maxRecDepth 20000 in
set_option maxHeartbeats 2000000 in
theorem hashes_any (p q : Value) (a b : List (List Int)) (w : World) (ha : H32 a) (hb : H32 b) (hal : a.length ≤ 140737488352000) (hbl : b.length ≤ 140737488352000) (h : Rd w p 32 (flat a)) (h' : Rd w q 32 (flat b)) : Calls Try.prog 65 #[p, q] w (PostV w (.bool (decide (a = b)))) := by
  refine calls_at (vs := [p, q]) (X := []) (H := []) (F := [(1, .sl q 32 (flat (b))), (0, .sl p 32 (flat (a)))]) 26 Try.func65 rfl rfl rfl ((Sat.rd0 0 h).more 1 h') ?_
  refine cd_seq ?_
  refine cd_region ?_
  refine st (ev_assign rfl) rfl rfl rfl ?_
  refine op_nil ?_
  refine ax_then ?_
  refine At.regs (L' := [(0, _), (1, _), (4, _)]) (.cons rfl (.cons rfl (.cons rfl (.nil _)))) ?_
  refine cd_seq ?_
  refine cd_seq ?_
  refine cd_region ?_
  refine st (ev_move rfl) rfl rfl rfl ?_
  refine st (ev_len_rdh (h := 0) Try.underlying22 rfl rfl (by assumption)) rfl rfl rfl ?_
  refine st (ev_move rfl) rfl rfl rfl ?_
  refine st (ev_len_rdh (h := 1) Try.underlying22 rfl rfl (by assumption)) rfl rfl rfl ?_
  refine st (ev_neq rfl rfl) rfl rfl rfl ?_
  refine op_nil ?_
  refine ax_then ?_
  refine At.regs (L' := [(0, _), (1, _), (4, _), (10, _)]) (.cons rfl (.cons rfl (.cons rfl (.cons rfl (.nil _))))) ?_
  refine cd_if rfl (fun hc10 => ?_) (fun hc10 => ?_)
  ·
    refine cd_seq ?_
    refine cd_region ?_
    refine st (ev_assign rfl) rfl rfl rfl ?_
    refine op_nil ?_
    refine ax_then ?_
    refine At.regs (L' := [(0, _), (1, _), (4, _)]) (.cons rfl (.cons rfl (.cons rfl (.nil _)))) ?_
    refine cd_ret ?_
    refine ax_then_ret ?_
    refine rt_tmp (.inl rfl) Try.results65 rfl ?_
    exact fun w1 sw => ⟨by rw [decide_eq_false (by intro e; subst e; omega)], sw.gives (.nil _)⟩
  ·
    have hab : a.length = b.length := by omega
    refine cd_skip ?_
    refine ax_then ?_
    refine At.regs (L' := [(0, _), (1, _), (4, _)]) (.cons rfl (.cons rfl (.cons rfl (.nil _)))) ?_
    refine cd_seq ?_
    refine cd_seq ?_
    refine cd_region ?_
    refine st (ev_assign rfl) rfl rfl rfl ?_
    refine op_nil ?_
    refine ax_then ?_
    refine At.regs (L' := [(0, _), (1, _), (4, _), (5, _)]) (.cons rfl (.cons rfl (.cons rfl (.cons rfl (.nil _))))) ?_
    refine cd_block ?_
    refine cd_loop (ι := Nat) (fun i => i ≤ a.length ∧ ∀ j, j < i → a.getD j [] = b.getD j []) (fun i => a.length - i)
        (fun i => [(0, p), (1, q), (5, .int .i64 (i : Int))])
        (fun i => [])
        (fun i => [(0, .sl p 32 (flat (a))), (1, .sl q 32 (flat (b)))])
        0 (⟨by omega, fun j hj => by omega⟩) (.cons rfl (.cons rfl (.cons rfl (.nil _)))) (.nil _) (.cons rfl (.cons rfl (.nil _))) (fun i hi => ?_)
    have hi1 := hi.1
    have e0 : (i : Int).toNat = i := by omega
    have ga : i < a.length → (a.getD (i : Int).toNat []).length = 32 := fun hx => ha.get (by omega)
    have gb : i < a.length → (b.getD (i : Int).toNat []).length = 32 := fun hx => hb.get (by omega)
    refine cd_seq ?_
    refine cd_seq ?_
    refine cd_region ?_
    refine st (ev_move rfl) rfl rfl rfl ?_
    refine st (ev_move rfl) rfl rfl rfl ?_
    refine st (ev_len_rdh (h := 0) Try.underlying22 rfl rfl (by assumption)) rfl rfl rfl ?_
    refine st (ev_lss rfl rfl) rfl rfl rfl ?_
    refine op_nil ?_
    refine ax_then ?_
    refine At.regs (L' := [(0, _), (1, _), (5, _), (11, _), (12, _), (13, _), (14, _)]) (.cons rfl (.cons rfl (.cons rfl (.cons rfl (.cons rfl (.cons rfl (.cons rfl (.nil _)))))))) ?_
    refine cd_if rfl (fun hc14 => ?_) (fun hc14 => ?_)
    ·
      have ga2 := ga (by omega)
      have gb2 := gb (by omega)
      refine cd_skip ?_
      refine ax_then ?_
      refine At.regs (L' := [(0, _), (1, _), (5, _), (11, _), (12, _), (13, _), (14, _)]) (.cons rfl (.cons rfl (.cons rfl (.cons rfl (.cons rfl (.cons rfl (.cons rfl (.nil _)))))))) ?_
      refine cd_seq ?_
      refine cd_block ?_
      refine cd_seq ?_
      refine cd_open hmix (by decide +kernel) ?_
      refine qt (ev_move rfl) rfl rfl rfl ?_
      refine qt (ev_move rfl) rfl rfl rfl ?_
      refine qt (ev_indexAddr_rdh (h := 0) Try.underlying22 ty55 rfl rfl rfl (by assumption) (by omega) (by omega)) rfl rfl rfl ?_
      refine qt (ld_rdh (h := 0) ty55 rfl rfl rfl (by assumption) (by omega)) rfl rfl rfl ?_
      refine qt (ev_move rfl) rfl rfl rfl ?_
      refine qt (ev_move rfl) rfl rfl rfl ?_
      refine qt (ev_indexAddr_rdh (h := 1) Try.underlying22 ty55 rfl rfl rfl (by assumption) (by omega) (by omega)) rfl rfl rfl ?_
      refine qt (ld_rdh (h := 1) ty55 rfl rfl rfl (by assumption) (by omega)) rfl rfl rfl ?_
      refine qt (ev_neq_arr Try.underlying55 ty5 eqg55 rfl rfl (by first | omega | (simp only [List.length_append, List.length_cons, List.length_nil, List.length_set, List.length_replicate, List.length_take, List.length_drop, ints_length, wr_length, sha_len, way_len _ (by assumption), secret_len, digits_len, recov_len] <;> omega) | rfl) (by first | omega | (simp only [List.length_append, List.length_cons, List.length_nil, List.length_set, List.length_replicate, List.length_take, List.length_drop, ints_length, wr_length, sha_len, way_len _ (by assumption), secret_len, digits_len, recov_len] <;> omega) | rfl)) rfl rfl rfl ?_
      refine qt_end ?_
      refine op_nil ?_
      refine ax_then ?_
      refine At.regs (L' := [(0, _), (1, _), (5, _), (11, _), (12, _), (13, _), (14, _), (17, _), (18, _), (19, _), (20, _), (21, _), (22, _), (23, _), (24, _), (25, _)]) (.cons rfl (.cons rfl (.cons rfl (.cons rfl (.cons rfl (.cons rfl (.cons rfl (.cons rfl (.cons rfl (.cons rfl (.cons rfl (.cons rfl (.cons rfl (.cons rfl (.cons rfl (.cons rfl (.nil _))))))))))))))))) ?_
      refine cd_if rfl (fun hc25 => ?_) (fun hc25 => ?_)
      ·
        have hne : a ≠ b := by intro e; subst e; exact hc25 rfl
        refine cd_seq ?_
        refine cd_region ?_
        refine st (ev_assign rfl) rfl rfl rfl ?_
        refine op_nil ?_
        refine ax_then ?_
        refine At.regs (L' := [(0, _), (1, _), (4, _), (5, _), (11, _), (12, _), (13, _), (14, _), (17, _), (18, _), (19, _), (20, _), (21, _), (22, _), (23, _), (24, _), (25, _)]) (.cons rfl (.cons rfl (.cons rfl (.cons rfl (.cons rfl (.cons rfl (.cons rfl (.cons rfl (.cons rfl (.cons rfl (.cons rfl (.cons rfl (.cons rfl (.cons rfl (.cons rfl (.cons rfl (.cons rfl (.nil _)))))))))))))))))) ?_
        refine cd_ret ?_
        refine ax_block_ret ?_
        refine ax_then_ret ?_
        refine ax_then_ret ?_
        refine ax_block_ret ?_
        refine ax_then_ret ?_
        refine rt_tmp (.inl rfl) Try.results65 rfl ?_
        exact fun w1 sw => ⟨by rw [decide_eq_false hne], sw.gives (.nil _)⟩
      ·
        refine cd_skip ?_
        refine ax_block ?_
        refine ax_then ?_
        refine At.regs (L' := [(0, _), (1, _), (5, _), (11, _), (12, _), (13, _), (14, _), (17, _), (18, _), (19, _), (20, _), (21, _), (22, _), (23, _), (24, _), (25, _)]) (.cons rfl (.cons rfl (.cons rfl (.cons rfl (.cons rfl (.cons rfl (.cons rfl (.cons rfl (.cons rfl (.cons rfl (.cons rfl (.cons rfl (.cons rfl (.cons rfl (.cons rfl (.cons rfl (.nil _))))))))))))))))) ?_
        refine cd_region ?_
        refine st (ev_move rfl) rfl rfl rfl ?_
        refine st (ev_add64 rfl rfl (by omega) (by omega)) rfl rfl rfl ?_
        refine st (ev_assign rfl) rfl rfl rfl ?_
        refine op_nil ?_
        exact at_again (i + 1) (⟨by omega, fun j hj => (Nat.lt_succ_iff_lt_or_eq.1 hj).elim (hi.2 j) (fun e => by subst e; simpa using hc25)⟩) (by omega) (.cons rfl (.cons rfl (.cons rfl (.nil _)))) (.nil _) (.cons rfl (.cons rfl (.nil _)))
    ·
      obtain rfl : i = a.length := by omega
      refine cd_exit ?_
      refine ax_then_exit ?_
      refine ax_then_exit ?_
      refine ax_block_hit ?_
      refine ax_then ?_
      refine At.regs (L' := []) (.nil _) ?_
      refine cd_seq ?_
      refine cd_region ?_
      refine st (ev_assign rfl) rfl rfl rfl ?_
      refine op_nil ?_
      refine ax_then ?_
      refine At.regs (L' := [(4, _)]) (.cons rfl (.nil _)) ?_
      refine cd_ret ?_
      refine rt_tmp (.inl rfl) Try.results65 rfl ?_
      exact fun w1 sw => ⟨by rw [decide_eq_true (hashes_ext hab hi.2)], sw.gives (.nil _)⟩
end Go.Proofs.Ytgfnmolbagilmaa
namespace Go.Proofs.Ytgfnmolbagilmaa
open Go Go.RowKit Fw
open Sha
open Ots
set_option linter.unusedVariables false
set_option linter.unusedSimpArgs false
end Go.Proofs.Ytgfnmolbagilmaa

namespace Go.Proofs.Ytgfnmolbagilmaa.Ky
open Go Fw Sha Ots Mk Go.Proofs.Ytgfnmolbagilmaa
set_option linter.unusedSimpArgs false
set_option linter.unusedVariables false
def leaves (s : List Int) (n : Nat) : List (List Int) := (List.range n).map fun (l : Nat) => pub s l
def named (r : List Int) : List Int := sha ([4] ++ r)
theorem named_len (r : List Int) : (named r).length = 32 := sha_len _
def keyPub (s : List Int) : List Int := named (root (leaves s 16))
theorem keyPub_len (s : List Int) : (keyPub s).length = 32 := sha_len _
def isSig (leaf : Int) (cs ps : List (List Int)) : Prop := 0 ≤ leaf ∧ leaf < 16 ∧ cs.length = 36 ∧ ps.length = 4
instance (leaf : Int) (cs ps : List (List Int)) : Decidable (isSig leaf cs ps) := by unfold isSig; infer_instance
def verP (p m : List Int) (leaf : Int) (cs ps : List (List Int)) : Prop := isSig leaf cs ps ∧ named (up (recov m cs) leaf ps) = p
instance (p m : List Int) (leaf : Int) (cs ps : List (List Int)) : Decidable (verP p m leaf cs ps) := by unfold verP; infer_instance
/-- the cells of a key: its seed, what it holds, how many are used -/
def cells (s : List Int) (v : Value) (n : Int) : List Value := ints .u8 s ++ [v, .int .i64 n]
end Go.Proofs.Ytgfnmolbagilmaa.Ky

namespace Go.Proofs.Ytgfnmolbagilmaa.Fw
open Go Go.RowKit Go.Proofs.Ytgfnmolbagilmaa
theorem Sat.fmap {w0 w : World} {X : List Nat} {H : List (Nat × Ent)} {F : List (Nat × FE)} (sw : Sat w0 X H F w) {h sz sz' : Nat} {v v' : Value} {l l' : List Value} (h' : Nat) (hh : lk F h = some (.sl v sz l)) (hR : ∀ w, Rd w v sz l → Rd w v' sz' l') (hB : ∀ b, b ∈ blkOf v' → b ∈ blkOf v) (hl : l = [] → l' = []) : Sat w0 X H ((h', .sl v' sz' l') :: F) w :=
  sw.read h' (hR w (sw.sl_rd hh)) fun k e hk b hb => (sw.off _ _ _ _ hh hk b hb).elim (fun h => .inl (hl h)) fun h => .inr fun hb' => h (hB b hb')
theorem at_fmap {K : Act → World → Prop} {E : Env} {L : List (Nat × Value)} {H : List (Nat × Ent)} {F : List (Nat × FE)} {h sz sz' : Nat} {v v' : Value} {l l' : List Value} (h' : Nat) (hh : lk F h = some (.sl v sz l)) (hR : ∀ w, Rd w v sz l → Rd w v' sz' l') (hB : ∀ b, b ∈ blkOf v' → b ∈ blkOf v) (hl : l = [] → l' = [])
    (k : At K E L H ((h', .sl v' sz' l') :: F)) : At K E L H F := fun a w fa sw => k a w fa (sw.fmap h' hh hR hB hl)
theorem blkOf_cut (sz : Nat) (v : Value) (lo hi : Nat) : ∀ b, b ∈ blkOf (cutAt sz v lo hi) → b ∈ blkOf v := by
  intro b hb
  cases v with
  | slice a n c =>
    cases a with
    | none => simp only [cutAt] at hb; split at hb <;> simp [blkOf] at hb
    | some x =>
      have e : ∀ y : Addr, (y.add (lo * sz)).block = y.block := fun y => by unfold Addr.add; split <;> rfl
      simp only [cutAt] at hb
      split at hb
      · exact hb
      · simp only [blkOf, Option.map_some, e] at hb ⊢; exact hb
  | _ => simp [cutAt, blkOf] at hb
end Go.Proofs.Ytgfnmolbagilmaa.Fw
namespace Go.Proofs.Ytgfnmolbagilmaa.Ky
open Go Fw Sha Ots Mk Go.Proofs.Ytgfnmolbagilmaa
set_option linter.unusedSimpArgs false
set_option linter.unusedVariables false
def nil0 : Value := .slice none 0 0
theorem rd_nil0 {w : World} : Rd w nil0 1 (ints .u8 []) := ⟨none, 0, 0, rfl, by simp [ints], Nat.le_refl _, fun _ => rfl, fun x hx => by cases hx⟩
/-- 32 bytes, if there are so many -/
def rawOut (r : List Int) : List Int := if 32 ≤ r.length then r.take 32 else []
def rawRest (r : List Int) : List Int := if 32 ≤ r.length then r.drop 32 else []
def hashOf (r : List Int) : List Int := if 32 ≤ r.length then r.take 32 else List.replicate 32 0
theorem rawOut_len (r : List Int) : (rawOut r).length ≤ 32 := by unfold rawOut; split <;> simp <;> omega
theorem rawRest_len (r : List Int) : (rawRest r).length ≤ r.length := by unfold rawRest; split <;> simp
theorem hashOf_len (r : List Int) : (hashOf r).length = 32 := by unfold hashOf; split <;> simp <;> omega
/-- what is copied over noughts -/
theorem hash_copy (r : List Int) : wr (ints .u8 (List.replicate 32 0)) 0 ((ints .u8 (rawOut r)).take (min (rawOut r).length 32 * 1)) = ints .u8 (hashOf r) := by
  have h := rawOut_len r
  rw [Nat.mul_one, Nat.min_eq_left h, List.take_of_length_le (by rw [ints_length]; exact Nat.le_refl _)]
  by_cases hc : 32 ≤ r.length
  · rw [wr_all (by rw [ints_length, ints_length]; simp [rawOut, hc])]
    simp [rawOut, hashOf, hc]
  · simp [rawOut, hashOf, hc, ints, wr]
/-- a signature's bytes -/
def enc (leaf : Int) (cs ps : List (List Int)) : List Int := [leaf] ++ (cs ++ ps).flatten
end Go.Proofs.Ytgfnmolbagilmaa.Ky

namespace Go.Proofs.Ytgfnmolbagilmaa.Rr
open Go Fw Sha Ky Go.Proofs.Ytgfnmolbagilmaa
set_option linter.unusedSimpArgs false
set_option linter.unusedVariables false
/-- what is left of what is read -/
structure Und (v : Value) (r : List Int) (v' : Value) (r' : List Int) : Prop where
  rd : ∀ w, Rd w v 1 (ints .u8 r) → Rd w v' 1 (ints .u8 r')
  blk : ∀ b, b ∈ blkOf v' → b ∈ blkOf v
  len : r'.length ≤ r.length
  mem : ∀ c, c ∈ r' → c ∈ r
theorem Und.refl (v : Value) (r : List Int) : Und v r v r := ⟨fun _ h => h, fun _ h => h, Nat.le_refl _, fun _ h => h⟩
theorem Und.trans {v v' v'' : Value} {r r' r'' : List Int} (a : Und v r v' r') (b : Und v' r' v'' r'') : Und v r v'' r'' :=
  ⟨fun w h => b.rd w (a.rd w h), fun x h => a.blk x (b.blk x h), Nat.le_trans b.len a.len, fun c h => a.mem c (b.mem c h)⟩
theorem Und.none (v : Value) (r : List Int) : Und v r nil0 [] := ⟨fun _ _ => rd_nil0, fun b h => by simp [blkOf, nil0] at h, Nat.zero_le _, fun c h => by cases h⟩
theorem Und.cut (v : Value) {r : List Int} {k : Nat} (hk : k ≤ r.length) : Und v r (cutAt 1 v k r.length) (r.drop k) :=
  ⟨fun w h => by
    have := h.cuti (lo := k) (hi := r.length) hk (Nat.le_refl _)
    rwa [List.take_of_length_le (by rw [List.length_drop]; exact Nat.le_refl _)] at this, blkOf_cut _ _ _ _, by simp, fun c h => List.mem_of_mem_drop h⟩
theorem Und.nil {v v' : Value} {r r' : List Int} (a : Und v r v' r') (h : ints .u8 r = []) : ints .u8 r' = [] := by
  have e : r.length = 0 := by have := congrArg List.length h; rwa [ints_length] at this
  have := a.len
  have : r' = [] := List.length_eq_zero_iff.1 (by omega)
  rw [this]; rfl
theorem Und.byt {v v' : Value} {r r' : List Int} (a : Und v r v' r') (h : Byt r) : Byt r' := fun c hc => h c (a.mem c hc)
/-- one byte more of a number -/
def acc (u c : Int) (i : Nat) : Int := ior .u64 u (ishl .u64 (IntKind.u64.wrap (iand .u8 c 127)) (7 * (i : Int)))
def numG : Nat → Int → List Int → Option (Int × Nat)
  | _, _, [] => none
  | i, u, c :: r => if i ≥ 9 ∨ (i > 0 ∧ c = 0) then none else if c < 128 then (if acc u c i > 4611686018427387904 then none else some (acc u c i, i + 1)) else numG (i + 1) (acc u c i) r
def numS (r : List Int) : Option (Int × Nat) := numG 0 0 r
def nVal (r : List Int) : Int := match numS r with | some x => x.1 | none => 0
def nRest (r : List Int) : List Int := match numS r with | some x => r.drop x.2 | none => []
def nBad (r : List Int) : Bool := (numS r).isNone
theorem acc_pos (u c : Int) (i : Nat) : 0 ≤ acc u c i := by
  unfold acc ior
  simp only [IntKind.wrap, IntKind.signed, IntKind.bits, Bool.false_and, Bool.false_eq_true, if_false]
  exact Int.emod_nonneg _ (by decide)
theorem numG_spec : ∀ (r : List Int) (i : Nat) (u : Int) (x : Int × Nat), numG i u r = some x → 0 ≤ x.1 ∧ x.1 ≤ 4611686018427387904 ∧ i < x.2 ∧ x.2 ≤ i + r.length ∧ x.2 ≤ 9
  | [], _, _, _, h => by simp [numG] at h
  | c :: r, i, u, x, h => by
    simp only [numG] at h
    split at h
    · cases h
    · next h9 =>
      split at h
      · split at h
        · cases h
        · next hb => cases h; exact ⟨acc_pos _ _ _, by simpa using hb, Nat.lt_succ_self _, by simp, by show i + 1 ≤ 9; omega⟩
      · have := numG_spec r (i + 1) _ x h
        simp only [List.length_cons]
        omega
theorem numS_spec {r : List Int} {x : Int × Nat} (h : numS r = some x) : 0 ≤ x.1 ∧ x.1 ≤ 4611686018427387904 ∧ 0 < x.2 ∧ x.2 ≤ r.length ∧ x.2 ≤ 9 := by
  have := numG_spec r 0 0 x h
  omega
theorem nVal_rng (r : List Int) : 0 ≤ nVal r ∧ nVal r ≤ 4611686018427387904 := by
  unfold nVal
  cases h : numS r with
  | none => exact ⟨Int.le_refl _, by decide⟩
  | some x => have := numS_spec h; exact ⟨this.1, this.2.1⟩
theorem nUnd_ok (v : Value) {r : List Int} {x : Int × Nat} (h : numS r = some x) : Und v r (cutAt 1 v x.2 r.length) (nRest r) := by
  have := numS_spec h
  have e : nRest r = r.drop x.2 := by unfold nRest; rw [h]
  rw [e]
  exact Und.cut v (by omega)
theorem nUnd_no (v : Value) {r : List Int} (h : numS r = none) : Und v r nil0 (nRest r) := by
  have e : nRest r = [] := by unfold nRest; rw [h]
  rw [e]
  exact Und.none v r
theorem nRest_len (r : List Int) : (nRest r).length ≤ r.length := by
  unfold nRest
  split
  · simp
  · exact Nat.zero_le _
theorem nRest_no {r : List Int} (h : nBad r = true) : nRest r = [] := by
  unfold nBad at h
  unfold nRest
  cases e : numS r with
  | none => rfl
  | some x => rw [e] at h; cases h
theorem nVal_no {r : List Int} (h : numS r = none) : nVal r = 0 ∧ nBad r = true ∧ nRest r = [] := by
  refine ⟨by unfold nVal; rw [h], by unfold nBad; rw [h]; rfl, by unfold nRest; rw [h]⟩
theorem nVal_ok {r : List Int} {x : Int × Nat} (h : numS r = some x) : nVal r = x.1 ∧ nBad r = false ∧ nRest r = r.drop x.2 := by
  refine ⟨by unfold nVal; rw [h], by unfold nBad; rw [h]; rfl, by unfold nRest; rw [h]⟩
theorem numG_brk {i : Nat} {u c : Int} {r : List Int} (h : i ≥ 9 ∨ (i > 0 ∧ c = 0)) : numG i u (c :: r) = none := by rw [numG, if_pos h]
theorem numG_big {i : Nat} {u c : Int} {r : List Int} (h : c < 128) (hb : acc u c i > 4611686018427387904) : numG i u (c :: r) = none := by
  rw [numG]
  split
  · rfl
  · first | rfl | rw [if_pos h, if_pos hb]
theorem numG_ok {i : Nat} {u c : Int} {r : List Int} (h : ¬ (i ≥ 9 ∨ (i > 0 ∧ c = 0))) (hc : c < 128) (hb : ¬ acc u c i > 4611686018427387904) : numG i u (c :: r) = some (acc u c i, i + 1) := by rw [numG, if_neg h, if_pos hc, if_neg hb]
theorem numG_go {i : Nat} {u c : Int} {r : List Int} (h : ¬ (i ≥ 9 ∨ (i > 0 ∧ c = 0))) (hc : ¬ c < 128) : numG i u (c :: r) = numG (i + 1) (acc u c i) r := by rw [numG, if_neg h, if_neg hc]
theorem numG_ten {u : Int} : ∀ {r : List Int}, numG 10 u r = none
  | [] => rfl
  | c :: r => numG_brk (.inl (by decide))
/-- a tenth byte has a number too large -/
theorem acc_nine (u : Int) : acc u 1 9 > 4611686018427387904 := by
  have e : ishl .u64 (IntKind.u64.wrap (iand .u8 1 127)) (7 * ((9 : Nat) : Int)) = 9223372036854775808 := by decide +kernel
  unfold acc
  rw [e, ior]
  have h : (BitVec.ofInt IntKind.u64.bits u ||| BitVec.ofInt IntKind.u64.bits 9223372036854775808).toNat ≥ 9223372036854775808 := by
    rw [BitVec.toNat_or]
    refine Nat.le_trans ?_ Nat.right_le_or
    decide +kernel
  have h2 : (BitVec.ofInt IntKind.u64.bits u ||| BitVec.ofInt IntKind.u64.bits 9223372036854775808).toNat < 2 ^ 64 := BitVec.isLt _
  generalize (BitVec.ofInt IntKind.u64.bits u ||| BitVec.ofInt IntKind.u64.bits 9223372036854775808).toNat = n at h h2
  simp only [IntKind.wrap, IntKind.signed, IntKind.bits, Bool.false_and, Bool.false_eq_true, if_false]
  have h3 : ((n : Int) % 2 ^ 64) = n := Int.emod_eq_of_lt (by omega) (by omega)
  rw [h3]
  omega
theorem drop_head {r : List Int} {i : Nat} (hi : i < r.length) : r.drop i = r.getD i 0 :: r.drop (i + 1) := by
  rw [List.drop_eq_getElem_cons hi, List.getD_eq_getElem?_getD, List.getElem?_eq_getElem hi]; rfl
def fitsR (r : List Int) (n : Int) : Prop := 0 ≤ n ∧ n ≤ (r.length : Nat)
instance (r : List Int) (n : Int) : Decidable (fitsR r n) := by unfold fitsR; infer_instance
def rOut (r : List Int) (n : Int) : List Int := if fitsR r n then r.take n.toNat else []
def rRest (r : List Int) (n : Int) : List Int := if fitsR r n then r.drop n.toNat else []
def rBad (r : List Int) (n : Int) : Bool := !decide (fitsR r n)
theorem rUnd_ok (v : Value) {r : List Int} {n : Int} (h : fitsR r n) : Und v r (cutAt 1 v n.toNat r.length) (rRest r n) := by
  rw [rRest, if_pos h]
  exact Und.cut v (by have := h.2; omega)
theorem rUnd_no (v : Value) {r : List Int} {n : Int} (h : ¬ fitsR r n) : Und v r nil0 (rRest r n) := by
  rw [rRest, if_neg h]
  exact Und.none v r
theorem rOut_32 (r : List Int) : rOut r 32 = rawOut r ∧ rRest r 32 = rawRest r ∧ rBad r 32 = decide (r.length < 32) := by
  have e : (32 : Int).toNat = 32 := rfl
  unfold rOut rRest rBad rawOut rawRest
  rw [e]
  by_cases h : 32 ≤ r.length
  · have hf : fitsR r 32 := ⟨by decide, by omega⟩
    simp only [if_pos hf, if_pos h, decide_eq_true hf]
    exact ⟨trivial, trivial, (decide_eq_false (by omega)).symm⟩
  · have hf : ¬ fitsR r 32 := fun hh => by have := hh.2; omega
    simp only [if_neg hf, if_neg h, decide_eq_false hf]
    exact ⟨trivial, trivial, (decide_eq_true (by omega)).symm⟩
theorem rOut_1 (c : Int) (r : List Int) : rOut (c :: r) 1 = [c] ∧ rRest (c :: r) 1 = r ∧ rBad (c :: r) 1 = false := by
  have hf : fitsR (c :: r) 1 := ⟨by decide, by simp only [List.length_cons]; omega⟩
  refine ⟨by rw [rOut, if_pos hf]; rfl, by rw [rRest, if_pos hf]; rfl, by rw [rBad, decide_eq_true hf]; rfl⟩
theorem rBad_1 {r : List Int} (h : rBad r 1 = true) : r = [] := by
  cases r with
  | nil => rfl
  | cons c t => rw [(rOut_1 c t).2.2] at h; cases h
theorem rBad_cons {r : List Int} (h : ¬ rBad r 1 = true) : ∃ c t, r = c :: t := by
  cases r with
  | nil => exact absurd (by decide) h
  | cons c t => exact ⟨c, t, rfl⟩
end Go.Proofs.Ytgfnmolbagilmaa.Rr

namespace Go.Proofs.Ytgfnmolbagilmaa.Rr
open Go Fw Sha Ky Go.Proofs.Ytgfnmolbagilmaa
set_option linter.unusedSimpArgs false
set_option linter.unusedVariables false
def encN (u : Nat) : List Int := if h : u < 128 then [(u : Int)] else ((u % 128 + 128 : Nat) : Int) :: encN (u / 128)
termination_by u
decreasing_by omega
theorem encN_lt {u : Nat} (h : u < 128) : encN u = [(u : Int)] := by rw [encN, dif_pos h]
theorem encN_ge {u : Nat} (h : ¬ u < 128) : encN u = ((u % 128 + 128 : Nat) : Int) :: encN (u / 128) := by rw [encN, dif_neg h]
/-- a number, as it is laid -/
def clampN (n : Int) : Nat := (max 0 (min n 4611686018427387904)).toNat
theorem clampN_le (n : Int) : clampN n ≤ 4611686018427387904 := by unfold clampN; omega
theorem clampN_id {n : Int} (h0 : 0 ≤ n) (h1 : n ≤ 4611686018427387904) : (clampN n : Int) = n := by unfold clampN; omega
def num (n : Int) : List Int := encN (clampN n)
def nums (l : List Int) : List Int := l.flatMap num
theorem nums_snoc (l : List Int) (n : Int) : nums (l ++ [n]) = nums l ++ num n := by simp [nums]
theorem encN_len : ∀ (k u : Nat), u < 128 ^ (k + 1) → (encN u).length ≤ k + 1
  | 0, u, h => by rw [encN_lt (by simpa using h)]; simp
  | k + 1, u, h => by
    by_cases h1 : u < 128
    · rw [encN_lt h1]; simp
    · have h2 : u < 128 * 128 ^ (k + 1) := by rw [Nat.pow_succ] at h; omega
      rw [encN_ge h1, List.length_cons]
      have := encN_len k (u / 128) (Nat.div_lt_of_lt_mul h2)
      omega
theorem num_len (n : Int) : (num n).length ≤ 9 := encN_len 8 (clampN n) (by have := clampN_le n; have e : 128 ^ (8 + 1) = 9223372036854775808 := (by decide); omega)
theorem nums_len : ∀ (l : List Int), (nums l).length ≤ 9 * l.length
  | [] => by simp [nums]
  | n :: l => by
    have := nums_len l
    have := num_len n
    show ((n :: l).flatMap num).length ≤ _
    rw [List.flatMap_cons, List.length_append, List.length_cons]
    have e : (l.flatMap num).length = (nums l).length := rfl
    omega
theorem encN_byt : ∀ (k u : Nat), u < k → Byt (encN u)
  | 0, _, h => by omega
  | k + 1, u, h => by
    by_cases h1 : u < 128
    · rw [encN_lt h1]; intro c hc; simp at hc; omega
    · rw [encN_ge h1]
      intro c hc
      rcases List.mem_cons.1 hc with rfl | hc
      · have := Nat.mod_lt u (show 128 > 0 by decide); omega
      · exact encN_byt k (u / 128) (by omega) c hc
theorem num_byt (n : Int) : Byt (num n) := encN_byt _ _ (Nat.lt_succ_self _)
theorem or128 : ∀ c : Nat, c < 256 → ior .u8 (c : Int) 128 = ((c % 128 + 128 : Nat) : Int) := by decide +kernel
theorem wrap8 (u : Nat) : IntKind.u8.wrap (u : Int) = ((u % 256 : Nat) : Int) := by
  simp only [IntKind.wrap, IntKind.signed, IntKind.bits, Bool.false_and, Bool.false_eq_true, if_false]
  omega
theorem lay8 (u : Nat) : ior .u8 (IntKind.u8.wrap (u : Int)) 128 = ((u % 128 + 128 : Nat) : Int) := by
  rw [wrap8, or128 _ (Nat.mod_lt _ (by decide))]
  congr 2
  omega
theorem ofInt64 {a : Nat} (h : a < 18446744073709551616) : (BitVec.ofInt IntKind.u64.bits (a : Int)).toNat = a := by
  show (BitVec.ofInt 64 (a : Int)).toNat = a
  rw [BitVec.toNat_ofInt]
  omega
theorem wrapn64 (n : Nat) (h : n < 18446744073709551616) : IntKind.u64.wrap (n : Int) = n := Fw.wrapu64_id (by omega) (by omega)
theorem and127_64 (u : Nat) (h : u < 18446744073709551616) : iand .u64 (u : Int) 127 = ((u % 128 : Nat) : Int) := by
  have e : (BitVec.ofInt IntKind.u64.bits 127).toNat = 127 := by decide
  rw [iand, BitVec.toNat_and, ofInt64 h, e, show (127 : Nat) = 2 ^ 7 - 1 from rfl, Nat.and_two_pow_sub_one_eq_mod]
  exact wrapn64 _ (by omega)
theorem shr7 (u : Nat) : ishr .u64 (u : Int) 7 = ((u / 128 : Nat) : Int) := by
  have e : (2 : Int) ^ (min (7 : Int).toNat IntKind.u64.bits) = ((128 : Nat) : Int) := by decide
  rw [ishr, e, Int.fdiv_eq_ediv_of_nonneg _ (by decide)]
  rfl
theorem lay8r (u : Nat) (h : u < 18446744073709551616) : ior .u8 (IntKind.u8.wrap (iand .u64 (u : Int) 127)) 128 = ((u % 128 + 128 : Nat) : Int) := by
  rw [and127_64 u h, lay8, Nat.mod_mod]
theorem low8 {u : Nat} (h : u < 128) : IntKind.u8.wrap (u : Int) = (u : Int) := by rw [wrap8, Nat.mod_eq_of_lt (by omega)]
theorem and127_8 : ∀ c : Nat, c < 256 → iand .u8 (c : Int) 127 = ((c % 128 : Nat) : Int) := by decide +kernel
theorem acc_nat {u c i : Nat} (hu : u < 128 ^ i) (hc : c < 256) (hi : i ≤ 8) (ht : u + (c % 128) * 128 ^ i < 18446744073709551616) : acc (u : Int) (c : Int) i = ((u + (c % 128) * 128 ^ i : Nat) : Int) := by
  have e7 : (128 : Nat) ^ i = 2 ^ (7 * i) := by rw [Nat.pow_mul]
  have hz : (c % 128) * 128 ^ i < 18446744073709551616 := Nat.lt_of_le_of_lt (Nat.le_add_left _ _) ht
  have h1 : ishl .u64 (IntKind.u64.wrap (iand .u8 (c : Int) 127)) (7 * (i : Int)) = (((c % 128) * 128 ^ i : Nat) : Int) := by
    rw [and127_8 c hc, wrapn64 _ (by omega), ishl]
    have e : min (7 * (i : Int)).toNat IntKind.u64.bits = 7 * i := by
      have : IntKind.u64.bits = 64 := rfl
      omega
    rw [e]
    have e2 : ((c % 128 : Nat) : Int) * 2 ^ (7 * i) = (((c % 128) * 128 ^ i : Nat) : Int) := by rw [e7]; push_cast; rfl
    rw [e2]
    exact wrapn64 _ hz
  rw [acc, h1, ior, BitVec.toNat_or, ofInt64 (by omega), ofInt64 hz]
  have h2 : u ||| (c % 128) * 128 ^ i = u + (c % 128) * 128 ^ i := by
    rw [e7, Nat.or_comm, Nat.mul_comm, Nat.add_comm, ← Nat.two_pow_add_eq_or_of_lt (by rw [← e7]; exact hu)]
  rw [h2]
  exact wrapn64 _ ht
/-- what was laid is read -/
theorem numG_enc : ∀ (k n i u : Nat) (t : List Int), n < k → u < 128 ^ i → (i = 0 ∨ 0 < n) → u + n * 128 ^ i ≤ 4611686018427387904 → numG i u (encN n ++ t) = some (((u + n * 128 ^ i : Nat) : Int), i + (encN n).length)
  | 0, _, _, _, _, h, _, _, _ => by omega
  | k + 1, n, i, u, t, hk, hu, h0, hm => by
    have hi : i ≤ 8 := by
      rcases Nat.lt_or_ge 8 i with h8 | h8
      · exfalso
        have hn : 0 < n := by omega
        have h1 : 128 ^ 9 ≤ 128 ^ i := Nat.pow_le_pow_right (by decide) h8
        have e : 128 ^ 9 = 9223372036854775808 := by decide
        have h2 : 1 * 128 ^ i ≤ n * 128 ^ i := Nat.mul_le_mul_right _ hn
        omega
      · exact h8
    by_cases h1 : n < 128
    · have e : n % 128 = n := Nat.mod_eq_of_lt h1
      have ha := acc_nat (c := n) hu (by omega) hi (by rw [e]; omega)
      rw [e] at ha
      rw [encN_lt h1, List.singleton_append, numG_ok (by omega) (by omega) (by rw [ha]; omega), ha]
      simp
    · have e : (n % 128 + 128) % 128 = n % 128 := by omega
      have hp : 0 < 128 ^ i := Nat.pow_pos (by decide)
      have hle : n % 128 * 128 ^ i ≤ n * 128 ^ i := Nat.mul_le_mul_right _ (Nat.mod_le _ _)
      have ha := acc_nat (c := n % 128 + 128) hu (by omega) hi (by rw [e]; omega)
      rw [e] at ha
      have hsum : u + n % 128 * 128 ^ i + n / 128 * 128 ^ (i + 1) = u + n * 128 ^ i := by
        have h2 : n % 128 + n / 128 * 128 = n := by omega
        calc u + n % 128 * 128 ^ i + n / 128 * 128 ^ (i + 1) = u + (n % 128 + n / 128 * 128) * 128 ^ i := by rw [Nat.pow_succ, Nat.add_mul]; rw [Nat.mul_comm (128 ^ i) 128, ← Nat.mul_assoc]; omega
          _ = _ := by rw [h2]
      have hlt : u + n % 128 * 128 ^ i < 128 ^ (i + 1) := by
        have h3 : n % 128 + 1 ≤ 128 := by omega
        have h4 : (n % 128 + 1) * 128 ^ i ≤ 128 * 128 ^ i := Nat.mul_le_mul_right _ h3
        rw [Nat.succ_mul] at h4
        rw [Nat.pow_succ, Nat.mul_comm (128 ^ i) 128]
        omega
      have ih := numG_enc k (n / 128) (i + 1) (u + n % 128 * 128 ^ i) t (by omega) hlt (.inr (by omega)) (by rw [hsum]; exact hm)
      rw [encN_ge h1, List.cons_append, numG_go (by omega) (by omega), ha, ih, hsum, List.length_cons]
      congr 2
      omega
theorem numS_num {n : Int} (h0 : 0 ≤ n) (h1 : n ≤ 4611686018427387904) (t : List Int) : numS (num n ++ t) = some (n, (num n).length) := by
  have h := numG_enc (clampN n + 1) (clampN n) 0 0 t (Nat.lt_succ_self _) (by decide) (.inl rfl) (by have := clampN_le n; simpa using this)
  have e : ((0 + clampN n * 128 ^ 0 : Nat) : Int) = n := by rw [Nat.pow_zero, Nat.mul_one, Nat.zero_add]; exact clampN_id h0 h1
  rw [numS, show (0 : Int) = ((0 : Nat) : Int) from rfl, num, h, e, Nat.zero_add]
theorem num_back {n : Int} (h0 : 0 ≤ n) (h1 : n ≤ 4611686018427387904) (t : List Int) : nVal (num n ++ t) = n ∧ nRest (num n ++ t) = t ∧ nBad (num n ++ t) = false := by
  have h := nVal_ok (numS_num h0 h1 t)
  exact ⟨h.1, by rw [h.2.2]; simp, h.2.1⟩
end Go.Proofs.Ytgfnmolbagilmaa.Rr

namespace Go.Proofs.Ytgfnmolbagilmaa
open Go Go.RowKit Fw
set_option linter.unusedVariables false
set_option linter.unusedSimpArgs false
/-- where h stands among the hashes -/
def idx (hs : List (List Int)) (h : List Int) : Int := match (List.range hs.length).find? (fun j => decide (h = hs.getD j [])) with | some j => (j : Int) | none => -1
theorem idx_hit {hs : List (List Int)} {h : List Int} {i : Nat} (hi : i < hs.length) (h1 : ∀ j, j < i → h ≠ hs.getD j []) (h2 : h = hs.getD i []) : idx hs h = i := by
  have : (List.range hs.length).find? (fun j => decide (h = hs.getD j [])) = some i := by
    rw [List.find?_range_eq_some]
    exact ⟨by simpa using h2, by simpa using hi, fun j hj => by simpa using h1 j hj⟩
  rw [idx, this]
theorem idx_miss {hs : List (List Int)} {h : List Int} (h1 : ∀ j, j < hs.length → h ≠ hs.getD j []) : idx hs h = -1 := by
  have : (List.range hs.length).find? (fun j => decide (h = hs.getD j [])) = none := by
    rw [List.find?_eq_none]
    intro j hj
    simpa using h1 j (by simpa using hj)
  rw [idx, this]
theorem idx_neg {hs : List (List Int)} {h : List Int} : ¬ 0 ≤ idx hs h ↔ ∀ j, j < hs.length → h ≠ hs.getD j [] := by
  constructor
  · intro hn j hj
    cases hf : (List.range hs.length).find? (fun j => decide (h = hs.getD j [])) with
    | some k =>
      rw [idx, hf] at hn
      exact absurd (Int.natCast_nonneg k) hn
    | none =>
      have := List.find?_eq_none.1 hf j (by simpa using hj)
      simpa using this
  · intro h1
    rw [idx_miss h1]
    omega
/-- keys that may be -/
def isK (ks : List (List Int)) (need : Int) : Prop := (∀ a, a < ks.length → ¬ 0 ≤ idx (ks.take a) (ks.getD a [])) ∧ 1 ≤ ks.length ∧ ks.length ≤ 4 ∧ 1 ≤ need ∧ need ≤ (ks.length : Int)
instance (ks : List (List Int)) (need : Int) : Decidable (isK ks need) := by unfold isK; infer_instance
set_option maxRecDepth 20000 in
set_option maxHeartbeats 1000000 in
theorem index_any (p : Value) (hs : List (List Int)) (h0 : List Int) (w : World) (hu : H32 hs) (hl : h0.length = 32) (hs0 : hs.length ≤ 140737488352000) (h : Rd w p 32 (flat hs)) : Calls Try.prog 115 #[p, .agg (ints .u8 (h0)).toArray] w (PostV w (.int .i64 (idx hs h0))) := by
  refine calls_at (vs := [p, .agg (ints .u8 (h0)).toArray]) (X := []) (H := []) (F := [(0, .sl p 32 (flat (hs)))]) 19 Try.func115 rfl rfl rfl (Sat.rd0 0 h) ?_
  refine cd_seq ?_
  refine cd_region ?_
  refine st_box (h := 3) rfl rfl rfl rfl (fun b3 => ?_)
  refine st (ev_assign rfl) rfl rfl rfl ?_
  refine op_nil ?_
  refine ax_then ?_
  refine At.regs (L' := [(0, _), (3, _), (4, _)]) (.cons rfl (.cons rfl (.cons rfl (.nil _)))) ?_
  refine cd_seq ?_
  refine cd_seq ?_
  refine cd_region ?_
  refine st (ev_move rfl) rfl rfl rfl ?_
  refine st (ev_len_rdh (h := 0) Try.underlying22 rfl rfl hu) rfl rfl rfl ?_
  refine st (ev_move rfl) rfl rfl rfl ?_
  refine op_nil ?_
  refine ax_then ?_
  refine At.regs (L' := [(0, _), (3, _), (4, _), (7, _), (8, _)]) (.cons rfl (.cons rfl (.cons rfl (.cons rfl (.cons rfl (.nil _)))))) ?_
  refine cd_block ?_
  refine cd_loop (ι := Nat) (fun i => i ≤ hs.length ∧ ∀ j, j < i → h0 ≠ hs.getD j []) (fun i => hs.length - i)
      (fun i => [(0, p), (3, .pointer (some ⟨b3, 0, none⟩)), (7, .int .i64 (hs.length : Nat)), (8, .int .i64 (i : Int))])
      (fun i => [(3, .blk b3 (.cells (ints .u8 h0).toArray 55))])
      (fun i => [(0, .sl p 32 (flat (hs)))])
      0 (⟨by omega, fun j hj => by omega⟩) (.cons rfl (.cons rfl (.cons rfl (.cons rfl (.nil _))))) (.cons rfl (.nil _)) (.cons rfl (.nil _)) (fun i hi => ?_)
  have hi1 := hi.1
  have e0 : (i : Int).toNat = i := by omega
  refine cd_seq ?_
  refine cd_region ?_
  refine st (ev_lss rfl rfl) rfl rfl rfl ?_
  refine op_nil ?_
  refine ax_then ?_
  refine At.regs (L' := [(0, _), (3, _), (7, _), (8, _), (9, _)]) (.cons rfl (.cons rfl (.cons rfl (.cons rfl (.cons rfl (.nil _)))))) ?_
  refine cd_seq ?_
  refine cd_if rfl (fun hc9 => ?_) (fun hc9 => ?_)
  ·
    refine cd_skip ?_
    refine ax_then ?_
    refine At.regs (L' := [(0, _), (3, _), (7, _), (8, _), (9, _)]) (.cons rfl (.cons rfl (.cons rfl (.cons rfl (.cons rfl (.nil _)))))) ?_
    refine cd_seq ?_
    refine cd_block ?_
    refine cd_seq ?_
    refine cd_region ?_
    refine st (ev_move rfl) rfl rfl rfl ?_
    refine st (ev_assign rfl) rfl rfl rfl ?_
    refine op_nil ?_
    refine ax_then ?_
    refine At.regs (L' := [(0, _), (3, _), (5, _), (7, _), (8, _), (9, _), (10, _)]) (.cons rfl (.cons rfl (.cons rfl (.cons rfl (.cons rfl (.cons rfl (.cons rfl (.nil _)))))))) ?_
    refine cd_seq ?_
    refine cd_open hmix (by decide +kernel) ?_
    refine qt (ld_blk_all (h := 3) ty55 rfl rfl rfl (by first | omega | (simp only [List.length_append, List.length_cons, List.length_nil, List.length_set, List.length_replicate, List.length_take, List.length_drop, ints_length, wr_length] <;> omega) | exact H32.get (by assumption) (by omega) | rfl)) rfl rfl rfl ?_
    refine qt (ev_move rfl) rfl rfl rfl ?_
    refine qt (ev_move rfl) rfl rfl rfl ?_
    refine qt (ev_indexAddr_rdh (h := 0) Try.underlying22 ty55 rfl rfl rfl hu (by omega) (by omega)) rfl rfl rfl ?_
    refine qt (ld_rdh (i := (i : Int).toNat) (h := 0) ty55 rfl rfl rfl hu (by omega)) rfl rfl rfl ?_
    refine qt (ev_eql_arr Try.underlying55 ty5 eqg55 rfl rfl (by first | omega | (simp only [List.length_append, List.length_cons, List.length_nil, List.length_set, List.length_replicate, List.length_take, List.length_drop, ints_length, wr_length] <;> omega) | exact H32.get (by assumption) (by omega) | rfl) (by first | omega | (simp only [List.length_append, List.length_cons, List.length_nil, List.length_set, List.length_replicate, List.length_take, List.length_drop, ints_length, wr_length] <;> omega) | exact H32.get (by assumption) (by omega) | rfl)) rfl rfl rfl ?_
    refine qt_end ?_
    refine op_nil ?_
    refine ax_then ?_
    refine At.regs (L' := [(0, _), (3, _), (5, _), (7, _), (8, _), (9, _), (10, _), (11, _), (12, _), (13, _), (14, _), (15, _), (16, _)]) (.cons rfl (.cons rfl (.cons rfl (.cons rfl (.cons rfl (.cons rfl (.cons rfl (.cons rfl (.cons rfl (.cons rfl (.cons rfl (.cons rfl (.cons rfl (.nil _)))))))))))))) ?_
    refine cd_if rfl (fun hc16 => ?_) (fun hc16 => ?_)
    ·
      have hit := hc16
      rw [e0] at hit
      refine cd_seq ?_
      refine cd_region ?_
      refine st (ev_move rfl) rfl rfl rfl ?_
      refine st (ev_assign rfl) rfl rfl rfl ?_
      refine op_nil ?_
      refine ax_then ?_
      refine At.regs (L' := [(0, _), (3, _), (4, _), (5, _), (7, _), (8, _), (9, _), (10, _), (11, _), (12, _), (13, _), (14, _), (15, _), (16, _), (17, _)]) (.cons rfl (.cons rfl (.cons rfl (.cons rfl (.cons rfl (.cons rfl (.cons rfl (.cons rfl (.cons rfl (.cons rfl (.cons rfl (.cons rfl (.cons rfl (.cons rfl (.cons rfl (.nil _)))))))))))))))) ?_
      refine cd_ret ?_
      refine ax_block_ret ?_
      refine ax_then_ret ?_
      refine ax_then_ret ?_
      refine ax_block_ret ?_
      refine ax_then_ret ?_
      refine rt_tmp (.inl rfl) Try.results115 rfl ?_
      exact fun w1 sw => ⟨by rw [idx_hit (by omega) hi.2 hit], sw.gives (.nil _)⟩
    ·
      refine cd_skip ?_
      refine ax_block ?_
      refine ax_then ?_
      refine At.regs (L' := [(0, _), (3, _), (5, _), (7, _), (8, _), (9, _), (10, _), (11, _), (12, _), (13, _), (14, _), (15, _), (16, _)]) (.cons rfl (.cons rfl (.cons rfl (.cons rfl (.cons rfl (.cons rfl (.cons rfl (.cons rfl (.cons rfl (.cons rfl (.cons rfl (.cons rfl (.cons rfl (.nil _)))))))))))))) ?_
      refine cd_region ?_
      refine st (ev_add64 rfl rfl (by omega) (by omega)) rfl rfl rfl ?_
      refine st (ev_move rfl) rfl rfl rfl ?_
      refine op_nil ?_
      exact at_again (i + 1) (⟨by omega, fun j hj => (Nat.lt_succ_iff_lt_or_eq.1 hj).elim (hi.2 j) (fun e => by subst e; simpa using hc16)⟩) (by omega) (.cons rfl (.cons rfl (.cons rfl (.cons rfl (.nil _))))) (.cons rfl (.nil _)) (.cons rfl (.nil _))
  ·
    obtain rfl : i = hs.length := by omega
    refine cd_exit ?_
    refine ax_then_exit ?_
    refine ax_then_exit ?_
    refine ax_block_hit ?_
    refine ax_then ?_
    refine At.regs (L' := []) (.nil _) ?_
    refine cd_seq ?_
    refine cd_region ?_
    refine st (ev_assign rfl) rfl rfl rfl ?_
    refine op_nil ?_
    refine ax_then ?_
    refine At.regs (L' := [(4, _)]) (.cons rfl (.nil _)) ?_
    refine cd_ret ?_
    refine rt_tmp (.inl rfl) Try.results115 rfl ?_
    exact fun w1 sw => ⟨by rw [idx_miss hi.2], sw.gives (.nil _)⟩
set_option maxRecDepth 20000 in
set_option maxHeartbeats 1000000 in
theorem contains_any (p : Value) (hs : List (List Int)) (h0 : List Int) (w : World) (hu : H32 hs) (hl : h0.length = 32) (hs0 : hs.length ≤ 140737488352000) (h : Rd w p 32 (flat hs)) : Calls Try.prog 89 #[p, .agg (ints .u8 (h0)).toArray] w (PostV w (.bool (decide (0 ≤ idx hs h0)))) := by
  refine calls_at (vs := [p, .agg (ints .u8 (h0)).toArray]) (X := []) (H := []) (F := [(0, .sl p 32 (flat (hs)))]) 9 Try.func89 rfl rfl rfl (Sat.rd0 0 h) ?_
  refine cd_seq ?_
  refine cd_region ?_
  refine st_box (h := 3) rfl rfl rfl rfl (fun b3 => ?_)
  refine st (ev_assign rfl) rfl rfl rfl ?_
  refine op_nil ?_
  refine ax_then ?_
  refine At.regs (L' := [(0, _), (3, _), (4, _)]) (.cons rfl (.cons rfl (.cons rfl (.nil _)))) ?_
  refine cd_seq ?_
  refine cd_region ?_
  refine st (ev_move rfl) rfl rfl rfl ?_
  refine st (ld_blk_all (h := 3) ty55 rfl rfl rfl (by first | omega | (simp only [List.length_append, List.length_cons, List.length_nil, List.length_set, List.length_replicate, List.length_take, List.length_drop, ints_length, wr_length] <;> omega) | exact H32.get (by assumption) (by omega) | rfl)) rfl rfl rfl ?_
  refine st_callv has115 rfl (fun w1 sw => index_any p hs h0 w1 hu hl hs0 (sw.sl_rd (h := 0) rfl)) rfl rfl ?_
  refine st (ev_geq rfl rfl) rfl rfl rfl ?_
  refine st (ev_assign rfl) rfl rfl rfl ?_
  refine op_nil ?_
  refine ax_then ?_
  refine At.regs (L' := [(4, _)]) (.cons rfl (.nil _)) ?_
  refine cd_ret ?_
  refine rt_tmp (.inl rfl) Try.results89 rfl ?_
  exact fun w1 sw => ⟨rfl, sw.gives (.nil _)⟩
theorem takeh {w : World} {v : Value} {hs : List (List Int)} {i : Nat} (h : Rd w v 32 (flat hs)) (hu : H32 hs) (hi : i ≤ hs.length) : Rd w (cutAt 32 v 0 i) 32 (flat (hs.take i)) := by
  have := h.cuth (lo := 0) (hi := i) hu (by omega) hi
  simpa using this
/-- of keys that may be, all but their being unlike -/
def bas (ks : List (List Int)) (need : Int) : Prop := 1 ≤ ks.length ∧ ks.length ≤ 4 ∧ 1 ≤ need ∧ need ≤ (ks.length : Int)
instance (ks : List (List Int)) (need : Int) : Decidable (bas ks need) := by unfold bas; infer_instance
def outK (ks : List (List Int)) (need : Int) (i : Nat) : Prop := bas ks need ∧ ∀ a, a < i → ¬ 0 ≤ idx (ks.take a) (ks.getD a [])
instance (ks : List (List Int)) (need : Int) (i : Nat) : Decidable (outK ks need i) := by unfold outK; infer_instance
def innK (ks : List (List Int)) (need : Int) (i j : Nat) : Prop := outK ks need i ∧ ∀ b, b < j → ks.getD i [] ≠ ks.getD b []
instance (ks : List (List Int)) (need : Int) (i j : Nat) : Decidable (innK ks need i j) := by unfold innK; infer_instance
theorem innK_all {ks : List (List Int)} {need : Int} {i : Nat} (hi : i < ks.length) : innK ks need i i ↔ outK ks need (i + 1) := by
  have hx : (¬ 0 ≤ idx (ks.take i) (ks.getD i [])) ↔ ∀ b, b < i → ks.getD i [] ≠ ks.getD b [] := by
    rw [idx_neg, List.length_take, Nat.min_eq_left (by omega)]
    constructor
    · intro h b hb
      have := h b hb
      simpa [List.getD_eq_getElem?_getD, List.getElem?_take, hb] using this
    · intro h b hb
      have := h b hb
      simpa [List.getD_eq_getElem?_getD, List.getElem?_take, hb] using this
  constructor
  · rintro ⟨⟨h1, h2⟩, h3⟩
    refine ⟨h1, fun a ha => ?_⟩
    rcases Nat.lt_succ_iff_lt_or_eq.1 ha with ha | rfl
    · exact h2 a ha
    · exact hx.2 h3
  · rintro ⟨h1, h2⟩
    exact ⟨⟨h1, fun a ha => h2 a (by omega)⟩, hx.1 (h2 i (by omega))⟩
theorem outK_isK {ks : List (List Int)} {need : Int} : isK ks need ↔ outK ks need ks.length := ⟨fun ⟨h1, h2⟩ => ⟨h2, h1⟩, fun ⟨h1, h2⟩ => ⟨h2, h1⟩⟩
set_option maxRecDepth 20000 in
set_option maxHeartbeats 1000000 in
theorem is_any (sv : Value) (ks : List (List Int)) (need : Int) (w : World) (hu : H32 ks) (hs0 : ks.length ≤ 140737488352000) (h : Rd w sv 32 (flat ks)) : Calls Try.prog 58 #[.agg ([sv, .int .i64 need]).toArray] w (PostV w (.bool (decide (isK ks need)))) := by
  refine calls_at (vs := [.agg ([sv, .int .i64 need]).toArray]) (X := []) (H := []) (F := [(20, .sl sv 32 (flat (ks)))]) 43 Try.func58 rfl rfl rfl (Sat.rd0 20 h) ?_
  refine cd_seq ?_
  refine cd_region ?_
  refine st_box (h := 1) rfl rfl rfl rfl (fun b1 => ?_)
  refine st (ev_assign rfl) rfl rfl rfl ?_
  refine op_nil ?_
  refine ax_then ?_
  refine At.regs (L' := [(1, _), (2, _)]) (.cons rfl (.cons rfl (.nil _))) ?_
  refine cd_seq ?_
  refine cd_seq ?_
  refine cd_region ?_
  refine st (ev_fieldAddr (b := _) Try.underlying24 (f := _) rfl ty22 (by decide) rfl) rfl rfl rfl ?_
  refine st (ld_blk1 (h := 1) ty22 rfl rfl rfl rfl) rfl rfl rfl ?_
  refine st (ev_len_rdh (h := 20) Try.underlying22 rfl rfl (by assumption)) rfl rfl rfl ?_
  refine st (ev_move rfl) rfl rfl rfl ?_
  refine op_nil ?_
  refine ax_then ?_
  refine At.regs (L' := [(1, _), (2, _), (6, _), (7, _), (8, _)]) (.cons rfl (.cons rfl (.cons rfl (.cons rfl (.cons rfl (.nil _)))))) ?_
  refine cd_block ?_
  refine cd_loop (ι := Nat) (fun i => i ≤ ks.length ∧ ∀ a, a < i → ¬ 0 ≤ idx (ks.take a) (ks.getD a [])) (fun i => ks.length - i)
      (fun i => [(1, .pointer (some ⟨b1, 0, none⟩)), (6, sv), (7, .int .i64 (ks.length : Nat)), (8, .int .i64 (i : Int))])
      (fun i => [(1, .blk b1 (.cells ([sv, .int .i64 need]).toArray 24))])
      (fun i => [(20, .sl sv 32 (flat (ks)))])
      0 (⟨by omega, fun j hj => by omega⟩) (.cons rfl (.cons rfl (.cons rfl (.cons rfl (.nil _))))) (.cons rfl (.nil _)) (.cons rfl (.nil _)) (fun i hi => ?_)
  have hi1 := hi.1
  have e0 : (i : Int).toNat = i := by omega
  refine cd_seq ?_
  refine cd_region ?_
  refine st (ev_lss rfl rfl) rfl rfl rfl ?_
  refine op_nil ?_
  refine ax_then ?_
  refine At.regs (L' := [(1, _), (6, _), (7, _), (8, _), (9, _)]) (.cons rfl (.cons rfl (.cons rfl (.cons rfl (.cons rfl (.nil _)))))) ?_
  refine cd_seq ?_
  refine cd_if rfl (fun hc9 => ?_) (fun hc9 => ?_)
  ·
    refine cd_skip ?_
    refine ax_then ?_
    refine At.regs (L' := [(1, _), (6, _), (7, _), (8, _), (9, _)]) (.cons rfl (.cons rfl (.cons rfl (.cons rfl (.cons rfl (.nil _)))))) ?_
    refine cd_seq ?_
    refine cd_block ?_
    refine cd_seq ?_
    refine cd_region ?_
    refine st (ev_move rfl) rfl rfl rfl ?_
    refine st (ev_indexAddr_rdh (h := 20) Try.underlying22 ty55 rfl rfl rfl (by assumption) (by omega) (by omega)) rfl rfl rfl ?_
    refine st (ld_rdh (h := 20) ty55 rfl rfl rfl (by assumption) (by omega)) rfl rfl rfl ?_
    refine at_eq (i := 12) (v' := .agg (ints .u8 (ks.getD i [])).toArray) rfl (by rw [e0]) ?_
    have hgl := hu.get (i := i) (by omega)
    refine st_alloc (h := 4) ty55 rfl rfl rfl (fun b4 => ?_)
    refine st (ev_assign rfl) rfl rfl rfl ?_
    refine st_store_all 4 ty55 rfl rfl rfl rfl (by first | omega | (simp only [List.length_append, List.length_cons, List.length_nil, List.length_set, List.length_replicate, List.length_take, List.length_drop, ints_length, wr_length] <;> omega) | exact H32.get (by assumption) (by omega) | rfl) (ints_one _ _) (by first | omega | (simp only [List.length_append, List.length_cons, List.length_nil, List.length_set, List.length_replicate, List.length_take, List.length_drop, ints_length, wr_length] <;> omega) | exact H32.get (by assumption) (by omega) | rfl) rfl ?_
    refine op_nil ?_
    refine ax_then ?_
    refine At.regs (L' := [(1, _), (3, _), (4, _), (6, _), (7, _), (8, _), (9, _), (10, _), (11, _), (12, _)]) (.cons rfl (.cons rfl (.cons rfl (.cons rfl (.cons rfl (.cons rfl (.cons rfl (.cons rfl (.cons rfl (.cons rfl (.nil _))))))))))) ?_
    refine cd_seq ?_
    refine cd_open hmix (by decide +kernel) ?_
    refine qt (ev_fieldAddr (b := _) Try.underlying24 (f := _) rfl ty22 (by decide) rfl) rfl rfl rfl ?_
    refine qt (ld_blk1 (h := 1) ty22 rfl rfl rfl rfl) rfl rfl rfl ?_
    refine qt (ev_move rfl) rfl rfl rfl ?_
    refine qt (ev_sliceh_hi Try.underlying22 ty55 rfl rfl (fun w1 sw => sw.sl_rd (h := 20) rfl) (by assumption) (by omega) (by first | omega | (simp only [List.length_append, List.length_cons, List.length_nil, List.length_set, List.length_replicate, List.length_take, List.length_drop, ints_length, wr_length] <;> omega))) rfl rfl rfl ?_
    refine qt_eq (i := 16) (v' := cutAt 32 sv 0 i) rfl (by rw [e0]) ?_
    refine qt (ld_blk_all (h := 4) ty55 rfl rfl rfl (by first | omega | (simp only [List.length_append, List.length_cons, List.length_nil, List.length_set, List.length_replicate, List.length_take, List.length_drop, ints_length, wr_length] <;> omega) | exact H32.get (by assumption) (by omega) | rfl)) rfl rfl rfl ?_
    refine qt_callv has89 rfl (fun w1 sw => contains_any (cutAt 32 sv 0 i) (ks.take i) (ks.getD i []) w1 (hu.take i) hgl (by rw [List.length_take]; omega) (takeh (sw.sl_rd (h := 20) rfl) hu (by omega))) rfl rfl ?_
    refine qt_end ?_
    refine op_nil ?_
    refine ax_then ?_
    refine At.regs (L' := [(1, _), (3, _), (4, _), (6, _), (7, _), (8, _), (9, _), (10, _), (11, _), (12, _), (13, _), (14, _), (15, _), (16, _), (17, _), (18, _)]) (.cons rfl (.cons rfl (.cons rfl (.cons rfl (.cons rfl (.cons rfl (.cons rfl (.cons rfl (.cons rfl (.cons rfl (.cons rfl (.cons rfl (.cons rfl (.cons rfl (.cons rfl (.cons rfl (.nil _))))))))))))))))) ?_
    refine cd_if rfl (fun hc18 => ?_) (fun hc18 => ?_)
    ·
      refine cd_seq ?_
      refine cd_region ?_
      refine st (ev_assign rfl) rfl rfl rfl ?_
      refine op_nil ?_
      refine ax_then ?_
      refine At.regs (L' := [(1, _), (2, _), (3, _), (4, _), (6, _), (7, _), (8, _), (9, _), (10, _), (11, _), (12, _), (13, _), (14, _), (15, _), (16, _), (17, _), (18, _)]) (.cons rfl (.cons rfl (.cons rfl (.cons rfl (.cons rfl (.cons rfl (.cons rfl (.cons rfl (.cons rfl (.cons rfl (.cons rfl (.cons rfl (.cons rfl (.cons rfl (.cons rfl (.cons rfl (.cons rfl (.nil _)))))))))))))))))) ?_
      refine cd_ret ?_
      refine ax_block_ret ?_
      refine ax_then_ret ?_
      refine ax_then_ret ?_
      refine ax_block_ret ?_
      refine ax_then_ret ?_
      refine rt_tmp (.inl rfl) Try.results58 rfl ?_
      exact fun w1 sw => ⟨congrArg (fun b => Ending.returned (Value.bool b)) (decide_eq_false (fun hh => hh.1 i (by omega) hc18)).symm, sw.gives (.nil _)⟩
    ·
      refine cd_skip ?_
      refine ax_block ?_
      refine ax_then ?_
      refine At.regs (L' := [(1, _), (3, _), (4, _), (6, _), (7, _), (8, _), (9, _), (10, _), (11, _), (12, _), (13, _), (14, _), (15, _), (16, _), (17, _), (18, _)]) (.cons rfl (.cons rfl (.cons rfl (.cons rfl (.cons rfl (.cons rfl (.cons rfl (.cons rfl (.cons rfl (.cons rfl (.cons rfl (.cons rfl (.cons rfl (.cons rfl (.cons rfl (.cons rfl (.nil _))))))))))))))))) ?_
      refine cd_region ?_
      refine st (ev_add64 rfl rfl (by omega) (by omega)) rfl rfl rfl ?_
      refine st (ev_move rfl) rfl rfl rfl ?_
      refine op_nil ?_
      exact at_again (i + 1) (⟨by omega, fun j hj => (Nat.lt_succ_iff_lt_or_eq.1 hj).elim (hi.2 j) (fun e => by subst e; exact hc18)⟩) (by omega) (.cons rfl (.cons rfl (.cons rfl (.cons rfl (.nil _))))) (.cons rfl (.nil _)) (.cons rfl (.nil _))
  ·
    obtain rfl : i = ks.length := by omega
    refine cd_exit ?_
    refine ax_then_exit ?_
    refine ax_then_exit ?_
    refine ax_block_hit ?_
    refine ax_then ?_
    refine At.regs (L' := [(1, _)]) (.cons rfl (.nil _)) ?_
    refine cd_seq ?_
    refine cd_region ?_
    refine st (ev_fieldAddr (b := _) Try.underlying24 (f := _) rfl ty22 (by decide) rfl) rfl rfl rfl ?_
    refine st (ld_blk1 (h := 1) ty22 rfl rfl rfl rfl) rfl rfl rfl ?_
    refine st (ev_len_rdh (h := 20) Try.underlying22 rfl rfl (by assumption)) rfl rfl rfl ?_
    refine st (ev_geq rfl rfl) rfl rfl rfl ?_
    refine st (ev_move rfl) rfl rfl rfl ?_
    refine at_split_if (i := 24) rfl (fun hg24 => ?_) (fun hg24 => ?_)
    ·
      refine st (ev_fieldAddr (b := _) Try.underlying24 (f := _) rfl ty22 (by decide) rfl) rfl rfl rfl ?_
      refine st (ld_blk1 (h := 1) ty22 rfl rfl rfl rfl) rfl rfl rfl ?_
      refine st (ev_len_rdh (h := 20) Try.underlying22 rfl rfl (by assumption)) rfl rfl rfl ?_
      refine st (ev_leq rfl rfl) rfl rfl rfl ?_
      refine st (ev_pick_t rfl rfl) rfl rfl rfl ?_
      refine st (ev_move rfl) rfl rfl rfl ?_
      refine at_split_if (i := 30) rfl (fun hg30 => ?_) (fun hg30 => ?_)
      ·
        refine st (ev_fieldAddr (b := _) Try.underlying24 (f := _) rfl ty3 (by decide) rfl) rfl rfl rfl ?_
        refine st (ld_blk1 (h := 1) ty3 rfl rfl rfl rfl) rfl rfl rfl ?_
        refine st (ev_geq rfl rfl) rfl rfl rfl ?_
        refine st (ev_pick_t rfl rfl) rfl rfl rfl ?_
        refine st (ev_move rfl) rfl rfl rfl ?_
        refine at_split_if (i := 35) rfl (fun hg35 => ?_) (fun hg35 => ?_)
        ·
          refine st (ev_fieldAddr (b := _) Try.underlying24 (f := _) rfl ty3 (by decide) rfl) rfl rfl rfl ?_
          refine st (ld_blk1 (h := 1) ty3 rfl rfl rfl rfl) rfl rfl rfl ?_
          refine st (ev_fieldAddr (b := _) Try.underlying24 (f := _) rfl ty22 (by decide) rfl) rfl rfl rfl ?_
          refine st (ld_blk1 (h := 1) ty22 rfl rfl rfl rfl) rfl rfl rfl ?_
          refine st (ev_len_rdh (h := 20) Try.underlying22 rfl rfl (by assumption)) rfl rfl rfl ?_
          refine st (ev_leq rfl rfl) rfl rfl rfl ?_
          refine st (ev_pick_t rfl rfl) rfl rfl rfl ?_
          refine st (ev_assign rfl) rfl rfl rfl ?_
          refine op_nil ?_
          refine ax_then ?_
          refine At.regs (L' := [(2, _)]) (.cons rfl (.nil _)) ?_
          refine cd_ret ?_
          refine rt_tmp (.inl rfl) Try.results58 rfl ?_
          exact fun w1 sw => ⟨congrArg (fun b => Ending.returned (Value.bool b)) (decide_eq_decide.2 ⟨fun h => ⟨hi.2, by omega, by omega, by omega, by omega⟩, fun h => h.2.2.2.2⟩), sw.gives (.nil _)⟩
        ·
          refine st_skip rfl rfl rfl ?_
          refine st_skip rfl rfl rfl ?_
          refine st_skip rfl rfl rfl ?_
          refine st_skip rfl rfl rfl ?_
          refine st_skip rfl rfl rfl ?_
          refine st_skip rfl rfl rfl ?_
          refine st (ev_pick_f rfl rfl) rfl rfl rfl ?_
          refine st (ev_assign rfl) rfl rfl rfl ?_
          refine op_nil ?_
          refine ax_then ?_
          refine At.regs (L' := [(2, _)]) (.cons rfl (.nil _)) ?_
          refine cd_ret ?_
          refine rt_tmp (.inl rfl) Try.results58 rfl ?_
          exact fun w1 sw => ⟨congrArg (fun b => Ending.returned (Value.bool b)) (decide_eq_false (fun hh => by obtain ⟨_, a1, a2, a3, a4⟩ := hh; omega)).symm, sw.gives (.nil _)⟩
      ·
        refine st_skip rfl rfl rfl ?_
        refine st_skip rfl rfl rfl ?_
        refine st_skip rfl rfl rfl ?_
        refine st (ev_pick_f rfl rfl) rfl rfl rfl ?_
        refine st (ev_move rfl) rfl rfl rfl ?_
        refine st_skip rfl rfl rfl ?_
        refine st_skip rfl rfl rfl ?_
        refine st_skip rfl rfl rfl ?_
        refine st_skip rfl rfl rfl ?_
        refine st_skip rfl rfl rfl ?_
        refine st_skip rfl rfl rfl ?_
        refine st (ev_pick_f rfl rfl) rfl rfl rfl ?_
        refine st (ev_assign rfl) rfl rfl rfl ?_
        refine op_nil ?_
        refine ax_then ?_
        refine At.regs (L' := [(2, _)]) (.cons rfl (.nil _)) ?_
        refine cd_ret ?_
        refine rt_tmp (.inl rfl) Try.results58 rfl ?_
        exact fun w1 sw => ⟨congrArg (fun b => Ending.returned (Value.bool b)) (decide_eq_false (fun hh => by obtain ⟨_, a1, a2, a3, a4⟩ := hh; omega)).symm, sw.gives (.nil _)⟩
    ·
      refine st_skip rfl rfl rfl ?_
      refine st_skip rfl rfl rfl ?_
      refine st_skip rfl rfl rfl ?_
      refine st_skip rfl rfl rfl ?_
      refine st (ev_pick_f rfl rfl) rfl rfl rfl ?_
      refine st (ev_move rfl) rfl rfl rfl ?_
      refine st_skip rfl rfl rfl ?_
      refine st_skip rfl rfl rfl ?_
      refine st_skip rfl rfl rfl ?_
      refine st (ev_pick_f rfl rfl) rfl rfl rfl ?_
      refine st (ev_move rfl) rfl rfl rfl ?_
      refine st_skip rfl rfl rfl ?_
      refine st_skip rfl rfl rfl ?_
      refine st_skip rfl rfl rfl ?_
      refine st_skip rfl rfl rfl ?_
      refine st_skip rfl rfl rfl ?_
      refine st_skip rfl rfl rfl ?_
      refine st (ev_pick_f rfl rfl) rfl rfl rfl ?_
      refine st (ev_assign rfl) rfl rfl rfl ?_
      refine op_nil ?_
      refine ax_then ?_
      refine At.regs (L' := [(2, _)]) (.cons rfl (.nil _)) ?_
      refine cd_ret ?_
      refine rt_tmp (.inl rfl) Try.results58 rfl ?_
      exact fun w1 sw => ⟨congrArg (fun b => Ending.returned (Value.bool b)) (decide_eq_false (fun hh => by obtain ⟨_, a1, a2, a3, a4⟩ := hh; omega)).symm, sw.gives (.nil _)⟩
end Go.Proofs.Ytgfnmolbagilmaa

namespace Go.Proofs.Ytgfnmolbagilmaa.Rr
open Go Fw Sha Ky Go.Proofs.Ytgfnmolbagilmaa
set_option linter.unusedSimpArgs false
set_option linter.unusedVariables false
/-- what is read is what would be laid -/
theorem numG_back : ∀ (r : List Int) (i u : Nat) (x : Int × Nat), Byt r → u < 128 ^ i → numG i (u : Int) r = some x → ∃ n : Nat, (i = 0 ∨ 0 < n) ∧ x.1 = ((u + n * 128 ^ i : Nat) : Int) ∧ i < x.2 ∧ r = encN n ++ r.drop (x.2 - i)
  | [], _, _, _, _, _, h => by simp [numG] at h
  | c :: r, i, u, x, hb, hu, h => by
    obtain ⟨hc0, hc1⟩ := hb c (by simp)
    obtain ⟨m, rfl⟩ := Int.eq_ofNat_of_zero_le hc0
    have hm : m < 256 := by omega
    have hspec := numG_spec _ _ _ _ h
    simp only [numG] at h
    split at h
    · cases h
    · next h9 =>
      have hi : i ≤ 8 := by omega
      have hp : 128 ^ i ≤ 128 ^ 8 := Nat.pow_le_pow_right (by decide) hi
      have e8 : 128 ^ 8 = 72057594037927936 := by decide
      have hmm : m % 128 ≤ 127 := by omega
      have hpr : m % 128 * 128 ^ i ≤ 127 * 128 ^ i := Nat.mul_le_mul_right _ hmm
      have ha := acc_nat (c := m) hu hm hi (by omega)
      split at h
      · next hlt =>
        split at h
        · cases h
        · have hx := Option.some.inj h
          subst hx
          have e : m % 128 = m := Nat.mod_eq_of_lt (by omega)
          rw [e] at ha
          refine ⟨m, by omega, ha, Nat.lt_succ_self _, ?_⟩
          rw [encN_lt (by omega), show i + 1 - i = 1 by omega]
          rfl
      · next hlt =>
        rw [ha] at h
        have hsum : u + m % 128 * 128 ^ i < 128 ^ (i + 1) := by
          have h4 : (m % 128 + 1) * 128 ^ i ≤ 128 * 128 ^ i := Nat.mul_le_mul_right _ (by omega)
          rw [Nat.succ_mul] at h4
          rw [Nat.pow_succ, Nat.mul_comm (128 ^ i) 128]
          omega
        obtain ⟨n, h1, h2, h3, h4⟩ := numG_back r (i + 1) (u + m % 128 * 128 ^ i) x (fun c hc => hb c (by simp [hc])) hsum h
        have hn : 0 < n := by omega
        have hnm : (m % 128 + n * 128) % 128 = m % 128 := by omega
        have hnd : (m % 128 + n * 128) / 128 = n := by omega
        refine ⟨m % 128 + n * 128, by omega, ?_, by omega, ?_⟩
        · rw [h2]
          congr 1
          rw [Nat.pow_succ, Nat.add_mul, Nat.mul_comm (128 ^ i) 128, ← Nat.mul_assoc]
          omega
        · rw [encN_ge (by omega), hnm, hnd, show x.2 - i = (x.2 - (i + 1)) + 1 by omega, List.drop_succ_cons, List.cons_append, ← h4]
          congr 1
          have : m % 128 + 128 = m := by omega
          rw [this]
theorem num_of {r : List Int} (hb : Byt r) (h : nBad r = false) : r = num (nVal r) ++ nRest r := by
  unfold nBad at h
  cases hs : numS r with
  | none => rw [hs] at h; cases h
  | some x =>
    obtain ⟨n, _, h2, _, h4⟩ := numG_back r 0 0 x hb (by decide) hs
    have hsp := numS_spec hs
    obtain ⟨e1, _, e3⟩ := nVal_ok hs
    rw [e1, e3]
    have e5 : x.1 = (n : Int) := by rw [h2, Nat.pow_zero, Nat.mul_one, Nat.zero_add]
    have e6 : clampN x.1 = n := by
      rw [e5]
      have : (n : Int) ≤ 4611686018427387904 := by rw [← e5]; exact hsp.2.1
      unfold clampN
      omega
    rw [Nat.sub_zero] at h4
    rw [num, e6]
    exact h4
end Go.Proofs.Ytgfnmolbagilmaa.Rr
namespace Go.Proofs.Ytgfnmolbagilmaa.Rt
open Go Fw Sha Ky Go.Proofs.Ytgfnmolbagilmaa
set_option linter.unusedSimpArgs false
set_option linter.unusedVariables false
structure KD where
  ks : List (List Int)
  need : Int
structure RT where
  ver : Int
  exp : Int
  roles : List KD
def encK (k : KD) : List Int := Rr.num (k.ks.length : Nat) ++ (k.ks.flatten ++ Rr.num k.need)
def encRs (l : List KD) : List Int := l.flatMap encK
def encB (r : RT) : List Int := Rr.num r.ver ++ (Rr.num r.exp ++ encRs r.roles)
def encR (r : RT) : List Int := Rr.num 1 ++ encB r
def okK (k : KD) : Prop := H32 k.ks ∧ k.ks.length ≤ 4 ∧ 0 ≤ k.need ∧ k.need ≤ 4611686018427387904
def isRt (r : RT) : Prop := (∀ k, k ∈ r.roles → isK k.ks k.need) ∧ 1 ≤ r.ver ∧ r.ver ≤ 1073741824 ∧ 0 ≤ r.exp ∧ r.exp ≤ 1073741824
def decOK (b : List Int) (r : RT) : Prop := r.roles.length = 4 ∧ (∀ k, k ∈ r.roles → H32 k.ks) ∧ isRt r ∧ b = encR r
theorem flat_h32 : ∀ {hs : List (List Int)}, H32 hs → hs.flatten.length = 32 * hs.length
  | [], _ => rfl
  | h :: hs, hu => by rw [List.flatten_cons, List.length_append, hu.head, flat_h32 hu.tail, List.length_cons]; omega
theorem encK_len {k : KD} (hu : H32 k.ks) : (encK k).length ≤ 18 + 32 * k.ks.length := by
  have h1 := Rr.num_len (k.ks.length : Nat)
  have h2 := Rr.num_len k.need
  have h3 := flat_h32 hu
  simp only [encK, List.length_append]
  omega
theorem isK_ok {k : KD} (hu : H32 k.ks) (h : isK k.ks k.need) : okK k := by
  obtain ⟨_, h1, h2, h3, h4⟩ := h
  exact ⟨hu, h2, by omega, by omega⟩
theorem encRs_snoc (l : List KD) (k : KD) : encRs (l ++ [k]) = encRs l ++ encK k := by simp [encRs]
theorem encRs_cons (l : List KD) (k : KD) : encRs (k :: l) = encK k ++ encRs l := by simp [encRs]
/-- what reading keys comes to; lim: no more than five were taken -/
structure KRel (lim bad : Bool) (r : List Int) (k : KD) (bad' : Bool) (r' : List Int) : Prop where
  h32 : H32 k.ks
  len : 32 * k.ks.length ≤ r.length + 32
  short : r'.length ≤ r.length
  five : lim = true → k.ks.length ≤ 5
  byt : Byt r → Byt r' ∧ ∀ y, y ∈ k.ks → Byt y
  need : 0 ≤ k.need ∧ k.need ≤ 4611686018427387904
  mono : bad' = false → bad = false
  sound : lim = false → bad' = false → bad = false ∧ r = encK k ++ r'
  full : ∀ k0 t, bad = false → r = encK k0 ++ t → okK k0 → k = k0 ∧ r' = t ∧ bad' = false
  rest : (bad = true → r = []) → bad' = true → r' = []
/-- what reading a root comes to, behind its kind -/
structure RRel (lim bad : Bool) (r : List Int) (x : RT) (bad' : Bool) (r' : List Int) : Prop where
  len : x.roles.length = 4
  h32 : ∀ k, k ∈ x.roles → H32 k.ks
  lens : ∀ k, k ∈ x.roles → 32 * k.ks.length ≤ r.length + 32
  five : lim = true → ∀ k, k ∈ x.roles → k.ks.length ≤ 5
  byt : Byt r → ∀ k, k ∈ x.roles → ∀ y, y ∈ k.ks → Byt y
  mono : bad' = false → bad = false
  sound : lim = false → bad' = false → bad = false ∧ r = encB x ++ r'
  full : ∀ x0 t, bad = false → r = encB x0 ++ t → x0.roles.length = 4 → (∀ k, k ∈ x0.roles → okK k) → 0 ≤ x0.ver ∧ x0.ver ≤ 1073741824 → 0 ≤ x0.exp ∧ x0.exp ≤ 1073741824 → x = x0 ∧ r' = t ∧ bad' = false
  rest : (bad = true → r = []) → bad' = true → r' = []
def zeroR : RT := ⟨0, 0, List.replicate 4 ⟨[], 0⟩⟩
open Classical in
noncomputable def dec (b : List Int) : RT × Int := if h : ∃ r, decOK b r then (Classical.choose h, 0) else (zeroR, 2)
/-- a row of keys that is read, all of it -/
theorem rs_full {l0 : List KD} {t : List Int} (hl : ∀ k, k ∈ l0 → okK k) {i : Nat} (hi : i < l0.length) : encRs (l0.drop i) ++ t = encK (l0.getD i ⟨[], 0⟩) ++ (encRs (l0.drop (i + 1)) ++ t) := by
  rw [List.drop_eq_getElem_cons hi, encRs_cons, List.append_assoc, List.getD_eq_getElem?_getD, List.getElem?_eq_getElem hi]
  rfl
end Go.Proofs.Ytgfnmolbagilmaa.Rt

namespace Go.Proofs.Ytgfnmolbagilmaa.Rt
open Go Fw Sha Ky Go.Proofs.Ytgfnmolbagilmaa
set_option linter.unusedSimpArgs false
set_option linter.unusedVariables false
theorem rawRest_byt {r : List Int} (h : Byt r) : Byt (rawRest r) := by
  unfold rawRest
  split
  · exact fun c hc => h c (List.mem_of_mem_drop hc)
  · exact fun c hc => by cases hc
theorem nRest_byt {r : List Int} (h : Byt r) : Byt (Rr.nRest r) := by
  intro c hc
  refine h c ?_
  unfold Rr.nRest at hc
  split at hc
  · exact List.mem_of_mem_drop hc
  · cases hc
theorem hashOf_byt {r : List Int} (h : Byt r) : Byt (hashOf r) := by
  unfold hashOf
  split
  · exact fun c hc => h c (List.mem_of_mem_take hc)
  · intro c hc
    have := List.eq_of_mem_replicate hc
    subst this
    exact ⟨by decide, by decide⟩
structure TRel (bad1 : Bool) (r1 : List Int) (n0 n : Int) (bad : Bool) (rc : List Int) (hs : List (List Int)) : Prop where
  h32 : H32 hs
  cnt : (hs.length : Int) + n = n0
  pos : 0 ≤ n
  len : bad = false → 32 * hs.length + rc.length ≤ r1.length
  len2 : 32 * hs.length ≤ r1.length + 32
  short : rc.length ≤ r1.length
  byt : Byt r1 → Byt rc ∧ ∀ y, y ∈ hs → Byt y
  sound : bad = false → bad1 = false ∧ r1 = hs.flatten ++ rc
  full : ∀ hs0 t, bad1 = false → n0 = (hs0.length : Nat) → r1 = hs0.flatten ++ t → H32 hs0 → bad = false ∧ hs = hs0.take hs.length ∧ rc = (hs0.drop hs.length).flatten ++ t
  rest : (bad1 = true → r1 = []) → bad = true → rc = []
theorem TRel.init (bad1 : Bool) (r1 : List Int) {n0 : Int} (h : 0 ≤ n0) : TRel bad1 r1 n0 n0 bad1 r1 [] :=
  ⟨H32.nil, by simp, h, by simp, by simp, Nat.le_refl _, fun hb => ⟨hb, fun y hy => by cases hy⟩, fun hb => ⟨hb, rfl⟩, fun hs0 t hb _ hr _ => ⟨hb, by simp, by simpa using hr⟩, fun h => h⟩
theorem TRel.step {bad1 : Bool} {r1 : List Int} {n0 n : Int} {bad : Bool} {rc : List Int} {hs : List (List Int)} (h : TRel bad1 r1 n0 n bad rc hs) (hn : 0 < n) (hb : bad = false) :
    TRel bad1 r1 n0 (n - 1) (bad || decide (rc.length < 32)) (rawRest rc) (hs ++ [hashOf rc]) := by
  have hl := h.len hb
  refine ⟨h.h32.snoc (hashOf_len _), by rw [List.length_append]; have := h.cnt; simp; omega, by omega, fun hb2 => ?_, by rw [List.length_append]; simp; omega, Nat.le_trans (rawRest_len _) h.short, fun hb2 => ⟨rawRest_byt (h.byt hb2).1, fun y hy => (List.mem_append.1 hy).elim ((h.byt hb2).2 y) (fun hy => List.mem_singleton.1 hy ▸ hashOf_byt (h.byt hb2).1)⟩, fun hb2 => ?_, fun hs0 t h1 h2 h3 h4 => ?_, fun _ hb2 => ?_⟩
  · rw [hb, Bool.false_or, decide_eq_false_iff_not] at hb2
    rw [rawRest, if_pos (by omega), List.length_append, List.length_drop]
    simp
    omega
  · rw [hb, Bool.false_or, decide_eq_false_iff_not] at hb2
    obtain ⟨h1, h2⟩ := h.sound hb
    refine ⟨h1, ?_⟩
    rw [rawRest, hashOf, if_pos (by omega), if_pos (by omega), h2, List.flatten_append]
    simp
  · obtain ⟨_, h5, h6⟩ := h.full hs0 t h1 h2 h3 h4
    have hc := h.cnt
    have hlt : hs.length < hs0.length := by omega
    have e : hs0.drop hs.length = hs0[hs.length] :: hs0.drop (hs.length + 1) := List.drop_eq_getElem_cons hlt
    have hg : hs0[hs.length].length = 32 := h4 _ (List.getElem_mem hlt)
    have e2 : rc = hs0[hs.length] ++ ((hs0.drop (hs.length + 1)).flatten ++ t) := by rw [h6, e, List.flatten_cons, List.append_assoc]
    have hlen : 32 ≤ rc.length := by rw [e2, List.length_append]; omega
    refine ⟨by rw [hb, Bool.false_or]; exact decide_eq_false (by omega), ?_, ?_⟩
    · rw [hashOf, if_pos hlen, List.length_append, List.length_singleton, List.take_succ_eq_append_getElem hlt, ← h5]
      congr 2
      rw [e2, List.take_left' hg]
    · rw [rawRest, if_pos hlen, List.length_append, List.length_singleton]
      conv => lhs; rw [e2]
      rw [List.drop_left' hg]
  · rw [hb, Bool.false_or, decide_eq_true_eq] at hb2
    rw [rawRest, if_neg (by omega)]
structure TEnd (lim bad0 : Bool) (r : List Int) (bad : Bool) (rc : List Int) (hs : List (List Int)) : Prop where
  h32 : H32 hs
  len : 32 * hs.length ≤ r.length + 32
  short : rc.length ≤ r.length
  five : lim = true → hs.length ≤ 5
  byt : Byt r → Byt rc ∧ ∀ y, y ∈ hs → Byt y
  mono : bad = false → bad0 = false
  sound : lim = false → bad = false → bad0 = false ∧ r = Rr.num (hs.length : Nat) ++ (hs.flatten ++ rc)
  full : ∀ hs0 t, bad0 = false → r = Rr.num (hs0.length : Nat) ++ (hs0.flatten ++ t) → H32 hs0 → hs0.length ≤ 4 → hs = hs0 ∧ rc = t ∧ bad = false
  rest : (bad0 = true → r = []) → bad = true → rc = []
theorem or_false' {a b : Bool} (h : (a || b) = false) : a = false ∧ b = false := by cases a <;> cases b <;> simp_all
theorem nRest_bad {bad0 : Bool} {r : List Int} (h0 : bad0 = true → r = []) (h : (bad0 || Rr.nBad r) = true) : Rr.nRest r = [] := by
  cases hb : bad0 with
  | true => rw [h0 hb]; rfl
  | false => rw [hb, Bool.false_or] at h; exact Rr.nRest_no h
theorem tend {lim bad0 : Bool} {r : List Int} {n : Int} {bad : Bool} {rc : List Int} {hs : List (List Int)} (hB : Byt r) (h : TRel (bad0 || Rr.nBad r) (Rr.nRest r) (Rr.nVal r) n bad rc hs) (he : n ≤ 0 ∨ bad = true ∨ (lim = true ∧ hs.length = 5)) (h5 : lim = true → hs.length ≤ 5) : TEnd lim bad0 r bad rc hs := by
  have hl := Rr.nRest_len r
  have hp := h.pos
  have hc := h.cnt
  refine ⟨h.h32, by have := h.len2; omega, by have := h.short; omega, h5, fun hb => h.byt (nRest_byt hb), fun hb => (or_false' (h.sound hb).1).1, fun hm hb => ?_, fun hs0 t h1 h2 h3 h4 => ?_, fun h0 hb => h.rest (nRest_bad h0) hb⟩
  · obtain ⟨h1, h2⟩ := h.sound hb
    obtain ⟨h3, h4⟩ := or_false' h1
    refine ⟨h3, ?_⟩
    have hn : n = 0 := by
      rcases he with he | he | he
      · omega
      · rw [hb] at he; cases he
      · rw [hm] at he; cases he.1
    rw [hn, Int.add_zero] at hc
    rw [hc, ← h2]
    exact Rr.num_of hB h4
  · obtain ⟨e1, e2, e3⟩ := Rr.num_back (n := (hs0.length : Nat)) (by omega) (by omega) (hs0.flatten ++ t)
    rw [← h2] at e1 e2 e3
    obtain ⟨h5, h6, h7⟩ := h.full hs0 t (by rw [h1, e3]; rfl) e1 e2 h3
    have hn : hs.length = hs0.length := by
      rcases he with he | he | he
      · omega
      · rw [h5] at he; cases he
      · omega
    rw [hn, List.take_length] at h6
    rw [hn, List.drop_length] at h7
    exact ⟨h6, h7, h5⟩
theorem krel {lim bad0 : Bool} {r : List Int} {bad : Bool} {rc : List Int} {hs : List (List Int)} (hB : Byt rc) (h : TEnd lim bad0 r bad rc hs) : KRel lim bad0 r ⟨hs, Rr.nVal rc⟩ (bad || Rr.nBad rc) (Rr.nRest rc) := by
  refine ⟨h.h32, h.len, Nat.le_trans (Rr.nRest_len _) h.short, h.five, fun hb => ⟨nRest_byt (h.byt hb).1, (h.byt hb).2⟩, Rr.nVal_rng rc, fun hb => h.mono (or_false' hb).1, fun hm hb => ?_, fun k0 t h1 h2 h3 => ?_, fun h0 hb => nRest_bad (h.rest h0) hb⟩
  · obtain ⟨h1, h2⟩ := or_false' hb
    obtain ⟨h3, h4⟩ := h.sound hm h1
    refine ⟨h3, ?_⟩
    rw [h4, encK]
    simp only [List.append_assoc]
    rw [← Rr.num_of hB h2]
  · rw [encK, List.append_assoc, List.append_assoc] at h2
    obtain ⟨h4, h5, h6⟩ := h.full k0.ks (Rr.num k0.need ++ t) h1 h2 h3.1 h3.2.1
    obtain ⟨e1, e2, e3⟩ := Rr.num_back h3.2.2.1 h3.2.2.2 t
    rw [← h5] at e1 e2 e3
    refine ⟨?_, e2, by rw [h6, e3]; rfl⟩
    rw [h4, e1]
structure RLoop (lim bad2 : Bool) (r2 : List Int) (rs : List KD) (bad : Bool) (rc : List Int) : Prop where
  h32 : ∀ k, k ∈ rs → H32 k.ks
  lens : ∀ k, k ∈ rs → 32 * k.ks.length ≤ r2.length + 32
  five : lim = true → ∀ k, k ∈ rs → k.ks.length ≤ 5
  byt : Byt r2 → Byt rc ∧ ∀ k, k ∈ rs → ∀ y, y ∈ k.ks → Byt y
  short : rc.length ≤ r2.length
  mono : bad = false → bad2 = false
  sound : lim = false → bad = false → bad2 = false ∧ r2 = encRs rs ++ rc
  full : ∀ l0 t, bad2 = false → r2 = encRs l0 ++ t → (∀ k, k ∈ l0 → okK k) → rs.length ≤ l0.length → bad = false ∧ rs = l0.take rs.length ∧ rc = encRs (l0.drop rs.length) ++ t
  rest : (bad2 = true → r2 = []) → bad = true → rc = []
theorem RLoop.init (lim bad2 : Bool) (r2 : List Int) : RLoop lim bad2 r2 [] bad2 r2 :=
  ⟨(fun k hk => by cases hk), (fun k hk => by cases hk), (fun _ k hk => by cases hk), fun hb => ⟨hb, fun k hk => by cases hk⟩, Nat.le_refl _, fun h => h, fun _ h => ⟨h, rfl⟩, fun l0 t h1 h2 _ _ => ⟨h1, by simp, by simpa using h2⟩, fun h => h⟩
theorem RLoop.step {lim bad2 : Bool} {r2 : List Int} {rs : List KD} {bad : Bool} {rc : List Int} {k : KD} {bad' : Bool} {rc' : List Int} (h : RLoop lim bad2 r2 rs bad rc) (g : KRel lim bad rc k bad' rc') : RLoop lim bad2 r2 (rs ++ [k]) bad' rc' := by
  refine ⟨fun y hy => ?_, fun y hy => ?_, fun hm y hy => ?_, fun hb => ⟨(g.byt (h.byt hb).1).1, fun y hy => (List.mem_append.1 hy).elim ((h.byt hb).2 y) (fun hy => List.mem_singleton.1 hy ▸ (g.byt (h.byt hb).1).2)⟩, Nat.le_trans g.short h.short, fun hb => h.mono (g.mono hb), fun hm hb => ?_, fun l0 t h1 h2 h3 h4 => ?_, fun h0 hb => g.rest (h.rest h0) hb⟩
  · rcases List.mem_append.1 hy with hy | hy
    · exact h.h32 y hy
    · rw [List.mem_singleton.1 hy]; exact g.h32
  · rcases List.mem_append.1 hy with hy | hy
    · exact h.lens y hy
    · rw [List.mem_singleton.1 hy]; have := g.len; have := h.short; omega
  · rcases List.mem_append.1 hy with hy | hy
    · exact h.five hm y hy
    · rw [List.mem_singleton.1 hy]; exact g.five hm
  · obtain ⟨h1, h2⟩ := g.sound hm hb
    obtain ⟨h3, h4⟩ := h.sound hm h1
    exact ⟨h3, by rw [h4, h2, encRs_snoc, List.append_assoc]⟩
  · rw [List.length_append, List.length_singleton] at h4
    obtain ⟨h5, h6, h7⟩ := h.full l0 t h1 h2 h3 (by omega)
    have hlt : rs.length < l0.length := by omega
    rw [rs_full h3 hlt] at h7
    obtain ⟨h8, h9, h10⟩ := g.full _ _ h5 h7 (h3 _ (by rw [List.getD_eq_getElem?_getD, List.getElem?_eq_getElem hlt]; exact List.getElem_mem _))
    refine ⟨h10, ?_, ?_⟩
    · rw [List.length_append, List.length_singleton, List.take_succ_eq_append_getElem hlt, ← h6, h8]
      congr 2
      rw [List.getD_eq_getElem?_getD, List.getElem?_eq_getElem hlt]
      rfl
    · rw [List.length_append, List.length_singleton]; exact h9
theorem rrel {lim bad : Bool} {r : List Int} {rs : List KD} {bad' : Bool} {rc : List Int} (hB : Byt r) (hl : rs.length = 4)
    (h : RLoop lim (bad || Rr.nBad r || Rr.nBad (Rr.nRest r)) (Rr.nRest (Rr.nRest r)) rs bad' rc) : RRel lim bad r ⟨Rr.nVal r, Rr.nVal (Rr.nRest r), rs⟩ bad' rc := by
  have hB1 : Byt (Rr.nRest r) := by
    intro c hc
    refine hB c ?_
    unfold Rr.nRest at hc
    split at hc
    · exact List.mem_of_mem_drop hc
    · cases hc
  have hl1 := Rr.nRest_len r
  have hl2 := Rr.nRest_len (Rr.nRest r)
  refine ⟨hl, h.h32, fun k hk => by have := h.lens k hk; omega, h.five, fun hb => (h.byt (nRest_byt (nRest_byt hb))).2, fun hb => (or_false' (or_false' (h.mono hb)).1).1, fun hm hb => ?_, fun x0 t h1 h2 h3 h4 h5 h6 => ?_, fun h0 hb => h.rest (fun hh => nRest_bad (nRest_bad h0) hh) hb⟩
  · obtain ⟨h1, h2⟩ := h.sound hm hb
    obtain ⟨h3, h4⟩ := or_false' h1
    obtain ⟨h5, h6⟩ := or_false' h3
    refine ⟨h5, ?_⟩
    have e1 := Rr.num_of hB h6
    have e2 := Rr.num_of hB1 h4
    rw [encB]
    simp only [List.append_assoc]
    rw [← h2, ← e2, ← e1]
  · rw [encB, List.append_assoc, List.append_assoc] at h2
    obtain ⟨e1, e2, e3⟩ := Rr.num_back (n := x0.ver) h5.1 (by omega) (Rr.num x0.exp ++ (encRs x0.roles ++ t))
    rw [← h2] at e1 e2 e3
    obtain ⟨e4, e5, e6⟩ := Rr.num_back (n := x0.exp) h6.1 (by omega) (encRs x0.roles ++ t)
    rw [← e2] at e4 e5 e6
    obtain ⟨h7, h8, h9⟩ := h.full x0.roles t (by rw [h1, e3, e6]; rfl) e5 h4 (by omega)
    rw [hl, ← h3, List.take_length] at h8
    rw [hl, ← h3, List.drop_length] at h9
    refine ⟨?_, h9, h7⟩
    rw [e1, e4, h8]
theorem dec_of {b : List Int} {x : RT} (h : decOK b x) (hu : ∀ y, decOK b y → y = x) : dec b = (x, 0) := by
  have he : ∃ r, decOK b r := ⟨x, h⟩
  unfold dec
  rw [dif_pos he]
  rw [hu _ (Classical.choose_spec he)]
theorem dec_not {b : List Int} (h : ∀ y, ¬ decOK b y) : dec b = (zeroR, 2) := by
  unfold dec
  rw [dif_neg (fun ⟨r, hr⟩ => h r hr)]
theorem decOK_full {lim : Bool} {b : List Int} {x y : RT} {bad' : Bool} {r' : List Int} (h : RRel lim (false || Rr.nBad b) (Rr.nRest b) x bad' r') (hy : decOK b y) : Rr.nVal b = 1 ∧ Rr.nBad b = false ∧ y = x ∧ r' = [] ∧ bad' = false := by
  obtain ⟨h1, h2, h3, h4⟩ := hy
  rw [encR, ← List.append_nil (Rr.num 1 ++ encB y), List.append_assoc] at h4
  obtain ⟨e1, e2, e3⟩ := Rr.num_back (n := 1) (by decide) (by decide) (encB y ++ [])
  rw [← h4] at e1 e2 e3
  obtain ⟨h5, h6, h7⟩ := h.full y [] (by rw [e3]; rfl) e2 h1 (fun k hk => isK_ok (h2 k hk) (h3.1 k hk)) ⟨by have := h3.2.1; omega, h3.2.2.1⟩ ⟨h3.2.2.2.1, h3.2.2.2.2⟩
  exact ⟨e1, e3, h5.symm, h6, h7⟩
/-- the program's way -/
theorem dec_prog {b : List Int} {x : RT} {bad' : Bool} {r' : List Int} (hB : Byt b) (h : RRel false (false || Rr.nBad b) (Rr.nRest b) x bad' r') (hk : Rr.nVal b = 1) (hw : bad' = false ∧ r'.length = 0) (hi : isRt x) : dec b = (x, 0) := by
  obtain ⟨h1, h2⟩ := h.sound rfl hw.1
  have e := Rr.num_of hB (by simpa using h1 : Rr.nBad b = false)
  refine dec_of ⟨h.len, h.h32, hi, ?_⟩ (fun y hy => (decOK_full h hy).2.2.1)
  rw [hk, h2, List.length_eq_zero_iff.1 hw.2, List.append_nil] at e
  rw [encR]
  exact e
theorem dec_prog_no {b : List Int} {x : RT} {bad' : Bool} {r' : List Int} (h : RRel false (false || Rr.nBad b) (Rr.nRest b) x bad' r') (hn : ¬ (Rr.nVal b = 1 ∧ (bad' = false ∧ r'.length = 0) ∧ isRt x)) : dec b = (zeroR, 2) :=
  dec_not fun y hy => by
    obtain ⟨h1, _, h2, h3, h4⟩ := decOK_full h hy
    exact hn ⟨h1, ⟨h4, by rw [h3]; rfl⟩, by rw [← h2]; exact hy.2.2.1⟩
theorem dec_kind {b : List Int} (hn : Rr.nVal b ≠ 1) : dec b = (zeroR, 2) :=
  dec_not fun y hy => by
    obtain ⟨_, _, _, h4⟩ := hy
    rw [encR, ← List.append_nil (Rr.num 1 ++ encB y), List.append_assoc] at h4
    obtain ⟨e1, _, _⟩ := Rr.num_back (n := 1) (by decide) (by decide) (encB y ++ [])
    rw [← h4] at e1
    exact hn e1
/-- the reference's way: it lays again what it read -/
theorem dec_ref {b : List Int} {x : RT} {bad' : Bool} {r' : List Int} (h : RRel true (false || Rr.nBad b) (Rr.nRest b) x bad' r') (hi : isRt x) (he : b = encR x) : dec b = (x, 0) :=
  dec_of ⟨h.len, h.h32, hi, he⟩ (fun y hy => (decOK_full h hy).2.2.1)
end Go.Proofs.Ytgfnmolbagilmaa.Rt

namespace Go.Proofs.Ytgfnmolbagilmaa.Fw
open Go Go.RowKit Go.Proofs.Ytgfnmolbagilmaa
set_option linter.unusedSimpArgs false
set_option linter.unusedVariables false
theorem lk_range {es : List Ent} {n i : Nat} {e : Ent} (hi : i < n) (h : es[i]? = some e) : lk ((List.range n).zip es) i = some e := by
  have key : ∀ (m s : Nat) (es : List Ent), i < s + m → s ≤ i → es[i - s]? = some e → lk ((List.range' s m).zip es) i = some e := by
    intro m
    induction m with
    | zero => intro s es h1 h2; omega
    | succ m ih =>
      intro s es h1 h2 h3
      cases es with
      | nil => simp at h3
      | cons x es =>
        rw [List.range'_succ, List.zip_cons_cons]
        by_cases e1 : s = i
        · subst e1
          rw [lk_cons_same]
          simpa using h3
        · rw [lk_cons_ne e1]
          refine ih (s + 1) es (by omega) (by omega) ?_
          have : i - s = (i - (s + 1)) + 1 := by omega
          rw [this] at h3
          simpa using h3
  have := key n 0 es (by omega) (Nat.zero_le _) (by simpa using h)
  rwa [← List.range_eq_range'] at this
end Go.Proofs.Ytgfnmolbagilmaa.Fw

namespace Go.Proofs.Ytgfnmolbagilmaa.Fw
open Go Go.RowKit Go.Proofs.Ytgfnmolbagilmaa
set_option linter.unusedSimpArgs false
set_option linter.unusedVariables false
def PostRM {ι : Type} (w : World) (M : List Nat) (Φ : ι → Prop) (v : ι → Value) (N : ι → List (Nat × Ent)) (R : ι → List (Value × Nat × List Value)) (e : Ending) (w' : World) : Prop :=
  ∃ x, Φ x ∧ e = .returned (v x) ∧ Gives w w' M (N x) ∧ (∀ y, y ∈ R x → Rd w' y.1 y.2.1 y.2.2 ∧ ∀ b, b ∈ blkOf y.1 → w.heap.size ≤ b) ∧ ∀ h e, lk (N x) h = some e → ∀ b, b ∈ e.ids → (FE.rows (R x)).off b
section
variable {P : Program} {Q : Exit → Act → World → Prop} {ops : Array Oper} {rest : List Oper} {E : Env} {L : List (Nat × Value)} {H : List (Nat × Ent)} {F : List (Nat × FE)}
variable {ty : TypeId} {pos : String} {af : Array Edge} {gd : Option (Nat × Bool)}
theorem st_callRM_fn {dst f : Nat} {c : Operand} {args : Array Operand} {Ts : Array TypeId} {vs ws vf vc : List Value} {ι : Type} {M : List Nat} {Φ : ι → Prop} {v : ι → Value} {N : ι → List (Nat × Ent)} {R : ι → List (Value × Nat × List Value)} (i : Nat) (hf : Has P f) (hcv : ev L c = some (.func (.func f) vf.toArray vc.toArray)) (ha : evs L args.toList = some vs) (hw : vf ++ vs ++ vc = ws)
    (hc : ∀ w, Sat E.w0 E.X H F w → Calls P f ws.toArray w (PostRM w M Φ v N R)) (hM : ∀ b, b ∈ M → ∃ k e, lk H k = some e ∧ b ∈ e.ids ∧ ∀ x, lk (N x) k ≠ none) (hg : wants ops L gd = some true) (hn : Nat.ble (dst + 1) E.n = true)
    (k : ∀ x, Φ x → (∀ y, y ∈ R x → ∀ b, b ∈ blkOf y.1 → E.w0.heap.size ≤ b) → At (wpList P ops Q rest) E ((dst, v x) :: L) (N x ++ H) ((i, .rows (R x)) :: F)) :
    At (wpList P ops Q (⟨some dst, .call { callee := .value c, args := args, argTypes := Ts }, ty, pos, af, gd⟩ :: rest)) E L H F := by
  refine st_run hg fun a w fa sw => ?_
  unfold Oper.wp
  rw [run_call_fn hf hcv ha hw fa w]
  refine (hc w sw).mono ?_
  rintro e w' ⟨x, hx, rfl, hG, hR, hO⟩
  show wpList P ops Q rest (a.put (some dst) (v x)) w'
  refine k x hx (fun y hy b hb => Nat.le_trans sw.size ((hR y hy).2 b hb)) _ _ (fa.put (Nat.le_of_ble_eq_true hn) _) ((sw.step hG (fun b hb => by
    obtain ⟨k', e', h1, h2, h3⟩ := hM b hb
    exact ⟨k', e', h1, h2, h3 x⟩)).read i (f := .rows (R x)) (fun y hy => (hR y hy).1) (fun h' e hh b hb y hy => ?_))
  rw [lk_append] at hh
  cases hN : lk (N x) h' with
  | some e' =>
    rw [hN] at hh
    cases hh
    exact hO _ _ hN b hb y hy
  | none =>
    rw [hN] at hh
    refine .inr fun hb' => ?_
    have h1 := (hR y hy).2 b hb'
    have h2 := Ent.lt (sw.hold _ _ hh) hb
    omega
theorem rnRM {f : FuncId} {vs : Array Value} {w : World} {ι : Type} {M : List Nat} {Φ : ι → Prop} {v : ι → Value} {e : ι → Ent} {R : ι → List (Value × Nat × List Value)} (i : Nat) (h : Calls P f vs w (PostRM w M Φ v (fun x => [(0, e x)]) R)) :
    Calls P f vs w (PostRM w M Φ v (fun x => [(i, e x)]) R) :=
  h.mono fun _ _ ⟨x, h1, h2, h3, h4, h5⟩ => ⟨x, h1, h2, h3.rn i, h4, fun h e hh b hb => by
    obtain ⟨rfl, rfl⟩ := lk_one hh
    exact h5 0 _ (lk_cons_same _ _ _) b hb⟩
end
section
variable {K : Act → World → Prop} {E : Env} {L : List (Nat × Value)} {H : List (Nat × Ent)} {F : List (Nat × FE)}
/-- An owned slice joins the rows; it is none of what the call was handed to be written. -/
theorem at_rows_own {h T sz i : Nat} {v : Value} {l : List Value} {H' : List (Nat × Ent)} {rs : List (Value × Nat × List Value)} (hh : lk H h = some (.own v T sz l)) (hf : lk F i = some (.rows rs)) (hH : Sub H' H) (hno : lk H' h = none) (hX : ∀ b, b ∈ E.X → ∃ k e, lk H' k = some e ∧ b ∈ e.ids)
    (k : (∀ b, b ∈ blkOf v → E.w0.heap.size ≤ b) → At K E L H' ((i, .rows ((v, sz, l) :: rs)) :: F)) : At K E L H F := fun a w fa sw =>
  k (fun b hb => (sw.fresh _ _ hh b hb).elim id fun hb2 => by
      obtain ⟨k', e, h1, h2⟩ := hX b hb2
      exact absurd hb (sw.apart k' e h _ (hH _ _ h1) hh (by intro e1; subst e1; rw [hno] at h1; cases h1) b h2)) a w fa ((sw.weaken hH (.refl _)).read i (f := .rows _)
    (fun x hx => by
      rcases List.mem_cons.1 hx with rfl | hx
      · exact sw.own_rd hh
      · exact sw.rd _ _ hf x hx)
    (fun h' e hh' b hb x hx => by
      rcases List.mem_cons.1 hx with rfl | hx
      · exact .inr fun hb' => sw.apart h' e h _ (hH _ _ hh') hh (by intro e1; subst e1; rw [hno] at hh'; cases hh') b hb hb'
      · exact sw.off _ _ _ _ hf (hH _ _ hh') b hb x hx))
end
end Go.Proofs.Ytgfnmolbagilmaa.Fw

namespace Go.Proofs.Ytgfnmolbagilmaa.Fw
open Go Go.RowKit Go.Proofs.Ytgfnmolbagilmaa
theorem Gives.nil1 {w w' : World} {T sz : Nat} (g : Gives w w' [] []) : Gives w w' [] [(0, .own (.slice none 0 0) T sz [])] := by
  have key : ∀ h e, lk [(0, Ent.own (.slice none 0 0) T sz [])] h = some e → e = .own (.slice none 0 0) T sz [] := fun h e hh => by
    by_cases h0 : h = 0
    · subst h0; rw [lk_cons_same] at hh; exact (Option.some.inj hh).symm
    · rw [lk_cons_ne (fun hc => h0 hc.symm)] at hh; cases hh
  refine ⟨g.tape, g.os, g.output, g.size, g.old, fun h e hh => ?_, fun h e hh b hb => ?_, fun h e h' e' hh hh' hne b hb => ?_⟩
  · rw [key h e hh]; exact .inl ⟨rfl, rfl⟩
  · rw [key h e hh] at hb; cases hb
  · rw [key h e hh] at hb; cases hb
section
variable {Q : Exit → Act → World → Prop} {E : Env} {L : List (Nat × Value)} {H : List (Nat × Ent)} {F : List (Nat × FE)}
theorem ax_fmap {e : Exit} {h sz sz' : Nat} {v v' : Value} {l l' : List Value} (h' : Nat) (hh : lk F h = some (.sl v sz l)) (hR : ∀ w, Rd w v sz l → Rd w v' sz' l') (hB : ∀ b, b ∈ blkOf v' → b ∈ blkOf v) (hl : l = [] → l' = [])
    (k : AtX Q e E L H ((h', .sl v' sz' l') :: F)) : AtX Q e E L H F := fun a w fa sw => k a w fa (sw.fmap h' hh hR hB hl)
theorem ax_rows {e : Exit} {i : Nat} {rs rs' : List (Value × Nat × List Value)} (hf : lk F i = some (.rows rs)) (hs : ∀ y, y ∈ rs' → y ∈ rs) (k : AtX Q e E L H ((i, .rows rs') :: F)) : AtX Q e E L H F := fun a w fa sw =>
  k a w fa (sw.read i (f := .rows rs') (fun y hy => sw.rd _ _ hf y (hs y hy)) (fun h' e hh b hb y hy => sw.off _ _ _ _ hf hh b hb y (hs y hy)))
theorem at_rowsub {K : Act → World → Prop} {i : Nat} {rs rs' : List (Value × Nat × List Value)} (j : Nat) (hf : lk F i = some (.rows rs)) (hs : ∀ y, y ∈ rs' → y ∈ rs) (k : At K E L H ((j, .rows rs') :: F)) : At K E L H F := fun a w fa sw =>
  k a w fa (sw.read j (f := .rows rs') (fun y hy => sw.rd _ _ hf y (hs y hy)) (fun h' e hh b hb y hy => sw.off _ _ _ _ hf hh b hb y (hs y hy)))
end
end Go.Proofs.Ytgfnmolbagilmaa.Fw
namespace Go.Proofs.Ytgfnmolbagilmaa.Rt
open Go Fw Sha Ky Go.Proofs.Ytgfnmolbagilmaa
set_option linter.unusedSimpArgs false
set_option linter.unusedVariables false
theorem meas_lt {bd : Bool} {rc : List Int} (hb : bd = false) : (rawRest rc).length + (if (bd || decide (rc.length < 32)) = true then 0 else 1) < rc.length + (if bd = true then 0 else 1) := by
  rw [hb, Bool.false_or]
  by_cases h : rc.length < 32
  · rw [rawRest, if_neg (by omega), decide_eq_true h]; simp
  · rw [rawRest, if_pos (by omega), decide_eq_false h, List.length_drop]; simp; omega
abbrev Rol := Value × KD
def rolC (x : Rol) : List Value := [x.1, .int .i64 x.2.need]
def zC (n : Nat) : List Value := (List.replicate n [Value.slice none 0 0, .int .i64 0]).flatten
def rolsC (l : List Rol) : List Value := l.flatMap rolC
def rootC (ver exp : Int) (l : List Rol) : List Value := [.int .i64 ver, .int .i64 exp] ++ (rolsC l ++ zC (4 - l.length))
def rowsR (l : List Rol) : List (Value × Nat × List Value) := l.map fun x => (x.1, 32, flat x.2.ks)
theorem rolsC_len : ∀ (l : List Rol), (rolsC l).length = l.length * 2
  | [] => rfl
  | x :: l => by rw [rolsC, List.flatMap_cons, List.length_append, List.length_cons]; have := rolsC_len l; rw [rolsC] at this; rw [this]; simp [rolC]; omega
theorem zC_len (n : Nat) : (zC n).length = n * 2 := by
  induction n with
  | zero => rfl
  | succ n ih => rw [zC, List.replicate_succ, List.flatten_cons, List.length_append]; rw [zC] at ih; rw [ih]; simp; omega
theorem rootC_len (ver exp : Int) {l : List Rol} (h : l.length ≤ 4) : (rootC ver exp l).length = 10 := by
  rw [rootC, List.length_append, List.length_append, rolsC_len, zC_len]; simp; omega
theorem rootC_set (ver exp : Int) {l : List Rol} (h : l.length < 4) (x : Rol) : wr (rootC ver exp l) (2 + l.length * 2) (rolC x) = rootC ver exp (l ++ [x]) := by
  obtain ⟨m, hm⟩ : ∃ m, 4 - l.length = m + 1 := ⟨3 - l.length, by omega⟩
  have e1 : rootC ver exp l = ([.int .i64 ver, .int .i64 exp] ++ rolsC l) ++ ([Value.slice none 0 0, .int .i64 0] ++ zC m) := by
    rw [rootC, hm, zC, List.replicate_succ, List.flatten_cons, ← zC]; simp
  have e2 : ([Value.int .i64 ver, .int .i64 exp] ++ rolsC l).length = 2 + l.length * 2 := by rw [List.length_append, rolsC_len]; rfl
  have e3 : rootC ver exp (l ++ [x]) = ([.int .i64 ver, .int .i64 exp] ++ rolsC l) ++ (rolC x ++ zC m) := by
    rw [rootC, List.length_append, List.length_singleton, show 4 - (l.length + 1) = m by omega, rolsC, List.flatMap_append]; simp [rolsC]
  rw [e1, e3, wr, List.take_left' e2, List.append_assoc]
  congr 1
  congr 1
  rw [List.drop_append, e2, List.drop_eq_nil_of_le (by rw [e2]; simp), List.nil_append, Nat.add_sub_cancel_left]
  rfl
theorem rolsC_drop : ∀ (l : List Rol) (i : Nat), (rolsC l).drop (i * 2) = rolsC (l.drop i)
  | l, 0 => by simp
  | [], i + 1 => by simp [rolsC]
  | x :: l, i + 1 => by
    rw [rolsC, List.flatMap_cons, show (i + 1) * 2 = 2 + i * 2 by omega, ← List.drop_drop, List.drop_left' (by rfl), List.drop_succ_cons]
    exact rolsC_drop l i
def rol0 : Rol := (.slice none 0 0, ⟨[], 0⟩)
theorem rolsC_get {l : List Rol} {i : Nat} (hi : i < l.length) : ((rolsC l).drop (i * 2)).take 2 = rolC (l.getD i rol0) := by
  rw [rolsC_drop, List.drop_eq_getElem_cons hi, rolsC, List.flatMap_cons, List.take_left' (by rfl), List.getD_eq_getElem?_getD, List.getElem?_eq_getElem hi]
  rfl
theorem rootC_rols (ver exp : Int) {l : List Rol} (h : l.length = 4) : ((rootC ver exp l).drop 2).take 8 = rolsC l := by
  rw [rootC, h, List.drop_left' (by rfl), show zC (4 - 4) = [] from rfl, List.append_nil, List.take_of_length_le (by rw [rolsC_len, h]; decide)]
theorem rowsR_mem {l : List Rol} {i : Nat} (hi : i < l.length) : ((l.getD i rol0).1, 32, flat (l.getD i rol0).2.ks) ∈ rowsR l := by
  refine List.mem_map.2 ⟨l[i], List.getElem_mem hi, ?_⟩
  rw [List.getD_eq_getElem?_getD, List.getElem?_eq_getElem hi]
  rfl
theorem rowsR_snoc (l : List Rol) (x : Rol) : ∀ y, y ∈ rowsR (l ++ [x]) ↔ y = (x.1, 32, flat x.2.ks) ∨ y ∈ rowsR l := fun y => by
  simp only [rowsR, List.map_append, List.mem_append, List.map_cons, List.map_nil, List.mem_singleton]
  exact or_comm
theorem rolsC_one {l : List Rol} (h : ∀ x, x ∈ l → x.1.oneCell' = true) : ∀ u, u ∈ rolsC l → u.oneCell' = true := fun u hu => by
  obtain ⟨x, hx, hu⟩ := List.mem_flatMap.1 hu
  simp only [rolC, List.mem_cons, List.not_mem_nil, or_false] at hu
  rcases hu with rfl | rfl
  · exact h x hx
  · rfl
theorem zC_one (n : Nat) : ∀ u, u ∈ zC n → u.oneCell' = true := fun u hu => by
  obtain ⟨a, ha, hu⟩ := List.mem_flatten.1 hu
  rw [(List.mem_replicate.1 ha).2] at hu
  simp only [List.mem_cons, List.not_mem_nil, or_false] at hu
  rcases hu with rfl | rfl <;> rfl
theorem rootC_one (ver exp : Int) {l : List Rol} (h : ∀ x, x ∈ l → x.1.oneCell' = true) : ∀ u, u ∈ rootC ver exp l → u.oneCell' = true := fun u hu => by
  rcases List.mem_append.1 hu with hu | hu
  · simp only [List.mem_cons, List.not_mem_nil, or_false] at hu
    rcases hu with rfl | rfl <;> rfl
  · rcases List.mem_append.1 hu with hu | hu
    · exact rolsC_one h u hu
    · exact zC_one _ u hu
def kds (l : List Rol) : List KD := l.map (·.2)
theorem kds_snoc (l : List Rol) (x : Rol) : kds (l ++ [x]) = kds l ++ [x.2] := by simp [kds]
theorem kds_len (l : List Rol) : (kds l).length = l.length := by simp [kds]
theorem kds_get {l : List Rol} {i : Nat} (hi : i < l.length) : (l.getD i rol0).2 ∈ kds l := by
  refine List.mem_map.2 ⟨l[i], List.getElem_mem hi, ?_⟩
  rw [List.getD_eq_getElem?_getD, List.getElem?_eq_getElem hi]; rfl
instance (r : RT) : Decidable (isRt r) := by unfold isRt; infer_instance
def zeros : List Rol := List.replicate 4 rol0
theorem zeros_rd {w : World} {n : Nat} : ∀ y, y ∈ rowsR zeros → Rd w y.1 y.2.1 y.2.2 ∧ ∀ b, b ∈ blkOf y.1 → n ≤ b := fun y hy => by
  obtain ⟨x, hx, rfl⟩ := List.mem_map.1 hy
  rw [(List.mem_replicate.1 hx).2]
  exact ⟨⟨none, 0, 0, rfl, rfl, Nat.le_refl _, fun _ => rfl, fun x hx => by cases hx⟩, fun b hb => by simp [rol0, blkOf] at hb⟩
theorem zeros_one : ∀ x, x ∈ zeros → x.1.oneCell' = true := fun x hx => by rw [(List.mem_replicate.1 hx).2]; rfl
end Go.Proofs.Ytgfnmolbagilmaa.Rt

namespace Go.Proofs.Ytgfnmolbagilmaa.Rt
open Go Fw Sha Ky Go.Proofs.Ytgfnmolbagilmaa
set_option linter.unusedSimpArgs false
set_option linter.unusedVariables false
def KQ (b : List Int) : List Int := if Rr.nVal b = 1 then Rr.nRest b else []
def BQ (b : List Int) : Bool := if Rr.nVal b = 1 then (false || Rr.nBad b) else true
theorem KQ_len (b : List Int) : (KQ b).length ≤ b.length := by unfold KQ; split; exact Rr.nRest_len b; exact Nat.zero_le _
theorem BQ_nil {b : List Int} (h : BQ b = true) : KQ b = [] := by
  unfold BQ KQ at *
  split
  · next e => rw [if_pos e] at h; exact Rr.nRest_no (by simpa using h)
  · rfl
def eOut (x : RT) : List Int := if isRt x then encR x else []
def eErr (x : RT) : Int := if isRt x then 0 else 1
def justQ (bad : Bool) (r b c : List Int) (e : Int) : Prop := (bad = false ∧ r.length = 0) ∧ e = 0 ∧ b = c
instance (bad : Bool) (r b c : List Int) (e : Int) : Decidable (justQ bad r b c e) := by unfold justQ; infer_instance
theorem dec_q {b : List Int} {x : RT} {bad' : Bool} {r' : List Int} (h : RRel true (BQ b) (KQ b) x bad' r') (hj : justQ bad' r' b (eOut x) (eErr x)) : dec b = (x, 0) := by
  have h1 := h.mono hj.1.1
  have hk : Rr.nVal b = 1 := by
    apply Classical.byContradiction
    intro hn
    rw [BQ, if_neg hn] at h1
    cases h1
  have hi : isRt x := by
    apply Classical.byContradiction
    intro hn
    have := hj.2.1
    rw [eErr, if_neg hn] at this
    cases this
  have he := hj.2.2
  rw [eOut, if_pos hi] at he
  unfold BQ KQ at h
  rw [if_pos hk, if_pos hk] at h
  exact dec_ref h hi he
theorem dec_q_no {b : List Int} {x : RT} {bad' : Bool} {r' : List Int} (h : RRel true (BQ b) (KQ b) x bad' r') (hj : ¬ justQ bad' r' b (eOut x) (eErr x)) : dec b = (zeroR, 2) := by
  by_cases hk : Rr.nVal b = 1
  · unfold BQ KQ at h
    rw [if_pos hk, if_pos hk] at h
    refine dec_not fun y hy => ?_
    obtain ⟨_, _, h2, h3, h4⟩ := decOK_full h hy
    have hi : isRt x := h2 ▸ hy.2.2.1
    refine hj ⟨⟨h4, by rw [h3]; rfl⟩, by rw [eErr, if_pos hi], ?_⟩
    rw [eOut, if_pos hi, ← h2]
    exact hy.2.2.2
  · exact dec_kind hk
theorem rootC_get (ver exp : Int) {l : List Rol} {i : Nat} (hi : i < l.length) : ((rootC ver exp l).drop (2 + i * 2)).take 2 = rolC (l.getD i rol0) := by
  rw [rootC, ← List.drop_drop, List.drop_left' (by rfl), List.drop_append_of_le_length (by rw [rolsC_len]; omega), List.take_append_of_le_length (by rw [List.length_drop, rolsC_len]; omega), rolsC_get hi]
theorem encK_byt {k : KD} (h : ∀ x, x ∈ k.ks → Byt x) : Byt (encK k) := fun c hc => by
  rcases List.mem_append.1 hc with hc | hc
  · exact Rr.num_byt _ c hc
  · rcases List.mem_append.1 hc with hc | hc
    · obtain ⟨x, hx, hc⟩ := List.mem_flatten.1 hc
      exact h x hx c hc
    · exact Rr.num_byt _ c hc
theorem encR_byt {x : RT} (h : ∀ k, k ∈ x.roles → ∀ y, y ∈ k.ks → Byt y) : Byt (encR x) := fun c hc => by
  rcases List.mem_append.1 hc with hc | hc
  · exact Rr.num_byt _ c hc
  · rcases List.mem_append.1 hc with hc | hc
    · exact Rr.num_byt _ c hc
    · rcases List.mem_append.1 hc with hc | hc
      · exact Rr.num_byt _ c hc
      · obtain ⟨k, hk, hc⟩ := List.mem_flatMap.1 hc
        exact encK_byt (h k hk) c hc
theorem eOut_byt {x : RT} (h : ∀ k, k ∈ x.roles → ∀ y, y ∈ k.ks → Byt y) : Byt (eOut x) := by
  unfold eOut
  split
  · exact encR_byt h
  · exact fun c hc => by cases hc
theorem KQ_byt {b : List Int} (h : Byt b) : Byt (KQ b) := by
  unfold KQ
  split
  · exact nRest_byt h
  · exact fun c hc => by cases hc
theorem encRs_len {l : List KD} (hu : ∀ k, k ∈ l → H32 k.ks) (m : Nat) (hm : ∀ k, k ∈ l → k.ks.length ≤ m) : (encRs l).length ≤ l.length * (18 + 32 * m) := by
  induction l with
  | nil => simp [encRs]
  | cons k l ih =>
    have h1 := encK_len (hu k (by simp))
    have h2 := hm k (by simp)
    have h3 := ih (fun k hk => hu k (by simp [hk])) (fun k hk => hm k (by simp [hk]))
    rw [encRs_cons, List.length_append, List.length_cons, Nat.succ_mul]
    omega
end Go.Proofs.Ytgfnmolbagilmaa.Rt

namespace Go.Proofs.Ytgfnmolbagilmaa.Qm
open Go Fw Sha Ots Mk Go.Proofs.Ytgfnmolbagilmaa
set_option linter.unusedSimpArgs false
set_option linter.unusedVariables false
structure Mark where
  key : List Int
  leaf : Int
  vc : Value
  vp : Value
  cs : List (List Int)
  ps : List (List Int)
def mcells (x : Mark) : List Value := ints .u8 x.key ++ [.int .i64 x.leaf, x.vc, x.vp]
def mflat (ms : List Mark) : List Value := ms.flatMap mcells
def MOk (x : Mark) : Prop := x.key.length = 32 ∧ H32 x.cs ∧ H32 x.ps ∧ x.cs.length ≤ 140737488352000 ∧ x.ps.length ≤ 140737488352000
def AOk (ms : List Mark) : Prop := ∀ x, x ∈ ms → MOk x
def MRd (w : World) (x : Mark) : Prop := Rd w x.vc 32 (flat x.cs) ∧ Rd w x.vp 32 (flat x.ps)
def Keeps (w w1 : World) : Prop := ∀ b, b < w.heap.size → w1.heap[b]? = w.heap[b]?
theorem Keeps.rd {w w1 : World} (k : Keeps w w1) {v : Value} {sz : Nat} {l : List Value} (h : Rd w v sz l) : Rd w1 v sz l := h.keep fun b hb _ _ => k b hb
theorem Keeps.lies {w w1 : World} (k : Keeps w w1) {b off : Nat} {l : List Value} (h : Lies w b off l) : Lies w1 b off l := h.keep fun hb _ => k b hb
theorem Keeps.mrd {w w1 : World} (k : Keeps w w1) {x : Mark} (h : MRd w x) : MRd w1 x := ⟨k.rd h.1, k.rd h.2⟩
theorem Keeps.of {w0 w1 : World} {H : List (Nat × Ent)} {F : List (Nat × FE)} (sw : Sat w0 [] H F w1) : Keeps w0 w1 := fun b hb => sw.old b hb (by simp)
theorem mcells_len {x : Mark} (h : MOk x) : (mcells x).length = 35 := by simp [mcells, ints_length, h.1]
theorem mflat_len : ∀ {ms : List Mark}, AOk ms → (mflat ms).length = ms.length * 35
  | [], _ => rfl
  | x :: ms, h => by
    have h1 := mcells_len (h x (by simp))
    have h2 := mflat_len (ms := ms) fun y hy => h y (by simp [hy])
    rw [mflat, List.flatMap_cons, List.length_append, h1, List.length_cons]
    have : (List.flatMap mcells ms).length = ms.length * 35 := h2
    omega
theorem mflat_drop : ∀ {ms : List Mark} (i : Nat), AOk ms → (mflat ms).drop (i * 35) = mflat (ms.drop i)
  | ms, 0, _ => by simp
  | [], i + 1, _ => by simp [mflat]
  | x :: ms, i + 1, h => by
    have h1 := mcells_len (h x (by simp))
    have h2 := mflat_drop (ms := ms) i fun y hy => h y (by simp [hy])
    rw [mflat, List.flatMap_cons, List.drop_append, List.drop_eq_nil_of_le (by omega), h1, List.nil_append, show (i + 1) * 35 - 35 = i * 35 by omega]
    exact h2
theorem mflat_get {ms : List Mark} {i : Nat} (h : AOk ms) (hi : i < ms.length) : ((mflat ms).drop (i * 35)).take 35 = mcells ms[i] := by
  have h1 := mcells_len (h ms[i] (List.getElem_mem hi))
  rw [mflat_drop i h, List.drop_eq_getElem_cons hi, mflat, List.flatMap_cons, List.take_left' h1]
theorem mflat_take {ms : List Mark} (n : Nat) (h : AOk ms) : (mflat ms).take (n * 35) = mflat (ms.take n) := by
  induction ms generalizing n with
  | nil => simp [mflat]
  | cons x ms ih =>
    cases n with
    | zero => simp [mflat]
    | succ n =>
      have h1 := mcells_len (h x (by simp))
      have h2 := ih n fun y hy => h y (by simp [hy])
      rw [mflat, List.flatMap_cons, List.take_append, h1, List.take_of_length_le (by omega), show (n + 1) * 35 - 35 = n * 35 by omega, List.take_succ_cons, mflat, List.flatMap_cons]
      congr 1
theorem AOk.take {ms : List Mark} (h : AOk ms) (n : Nat) : AOk (ms.take n) := fun x hx => h x (List.mem_of_mem_take hx)
theorem mkey {x : Mark} (h : MOk x) : ((mcells x).drop 0).take 32 = ints .u8 x.key := by
  rw [List.drop_zero, mcells, List.take_left' (by rw [ints_length, h.1])]
theorem msig {x : Mark} (h : MOk x) : ((mcells x).drop 32).take 3 = [.int .i64 x.leaf, x.vc, x.vp] := by
  rw [mcells, List.drop_left' (by rw [ints_length, h.1])]; rfl
def hits (h body : List Int) (x : Mark) : Prop := x.key = h ∧ Ky.verP h body x.leaf x.cs x.ps
instance (h body : List Int) (x : Mark) : Decidable (hits h body x) := by unfold hits; infer_instance
def some4 (body : List Int) (ms : List Mark) (h : List Int) : Prop := ∃ x, x ∈ ms.take 4 ∧ hits h body x
instance (body : List Int) (ms : List Mark) (h : List Int) : Decidable (some4 body ms h) := by unfold some4; infer_instance
/-- those keys that signed -/
def who (body : List Int) (ms : List Mark) : List (List Int) → List (List Int)
  | ks => ks.foldl (fun l h => if h ∉ l ∧ some4 body ms h then l ++ [h] else l) []
theorem who_snoc (body : List Int) (ms : List Mark) (ks : List (List Int)) (h : List Int) : who body ms (ks ++ [h]) = if h ∉ who body ms ks ∧ some4 body ms h then who body ms ks ++ [h] else who body ms ks := by
  rw [who, List.foldl_append]; rfl
theorem who_h32 (body : List Int) (ms : List Mark) {ks : List (List Int)} (hu : H32 ks) : H32 (who body ms ks) ∧ (who body ms ks).length ≤ ks.length := by
  have key : ∀ n, n ≤ ks.length → H32 (who body ms (ks.take n)) ∧ (who body ms (ks.take n)).length ≤ n := by
    intro n
    induction n with
    | zero => intro _; exact ⟨by rw [List.take_zero]; exact H32.nil, by rw [List.take_zero]; exact Nat.le_refl _⟩
    | succ n ih =>
      intro hn
      obtain ⟨h1, h2⟩ := ih (by omega)
      rw [List.take_succ_eq_append_getElem (by omega), who_snoc]
      split
      · exact ⟨h1.snoc (hu _ (List.getElem_mem _)), by rw [List.length_append]; simp; omega⟩
      · exact ⟨h1, by omega⟩
  have := key ks.length (Nat.le_refl _)
  rwa [List.take_length] at this
/-- the first that p holds of, or -1 -/
def firstP {α : Type} (p : α → Bool) (l : List α) : Int := match l.findIdx? p with | some i => i | none => -1
theorem firstP_ge {α : Type} (p : α → Bool) (l : List α) : decide (0 ≤ firstP p l) = l.any p := by
  cases h : l.findIdx? p with
  | none =>
    rw [firstP, h]
    have := List.findIdx?_eq_none_iff.1 h
    have h2 : l.any p = false := by rw [List.any_eq_false]; intro x hx; rw [this x hx]; simp
    rw [h2]; rfl
  | some i =>
    rw [firstP, h]
    have := List.findIdx?_eq_some_iff_getElem.1 h
    obtain ⟨hi, hp, _⟩ := this
    have h2 : l.any p = true := List.any_eq_true.2 ⟨l[i], List.getElem_mem hi, hp⟩
    rw [h2]
    exact decide_eq_true (Int.natCast_nonneg i)
theorem firstP_hit {α : Type} {p : α → Bool} {l : List α} {i : Nat} (hi : i < l.length) (h1 : ∀ j, (hj : j < i) → p (l[j]'(by omega)) = false) (h2 : p l[i] = true) : firstP p l = i := by
  have : l.findIdx? p = some i := List.findIdx?_eq_some_iff_getElem.2 ⟨hi, h2, fun j hj => by rw [h1 j hj]; simp⟩
  rw [firstP, this]
theorem firstP_miss {α : Type} {p : α → Bool} {l : List α} (h1 : ∀ j, (hj : j < l.length) → p l[j] = false) : firstP p l = -1 := by
  have : l.findIdx? p = none := List.findIdx?_eq_none_iff.2 fun x hx => by
    obtain ⟨j, hj, rfl⟩ := List.getElem_of_mem hx
    exact h1 j hj
  rw [firstP, this]
end Go.Proofs.Ytgfnmolbagilmaa.Qm

namespace Go.Proofs.Ytgfnmolbagilmaa.Qm
open Go Fw Sha Ots Mk Go.Proofs.Ytgfnmolbagilmaa
set_option linter.unusedSimpArgs false
set_option linter.unusedVariables false
theorem mem_who (body : List Int) (ms : List Mark) (ks : List (List Int)) (h : List Int) : h ∈ who body ms ks ↔ h ∈ ks ∧ some4 body ms h := by
  have key : ∀ n, n ≤ ks.length → (h ∈ who body ms (ks.take n) ↔ h ∈ ks.take n ∧ some4 body ms h) := by
    intro n
    induction n with
    | zero => intro _; rw [List.take_zero]; exact ⟨fun hh => (by cases hh), fun hh => (by cases hh.1)⟩
    | succ n ih =>
      intro hn
      have ih := ih (by omega)
      rw [List.take_succ_eq_append_getElem (by omega), who_snoc]
      split
      · next hc =>
        rw [List.mem_append, List.mem_append, List.mem_singleton, ih]
        constructor
        · rintro (hh | rfl)
          · exact ⟨.inl hh.1, hh.2⟩
          · exact ⟨.inr rfl, hc.2⟩
        · rintro ⟨hh | hh, h2⟩
          · exact .inl ⟨hh, h2⟩
          · exact .inr hh
      · next hc =>
        rw [List.mem_append, List.mem_singleton, ih]
        constructor
        · rintro ⟨h1, h2⟩; exact ⟨.inl h1, h2⟩
        · rintro ⟨hh | rfl, h2⟩
          · exact ⟨hh, h2⟩
          · have h3 := Classical.byContradiction fun h4 => hc ⟨h4, h2⟩
            exact ih.1 h3
  have := key ks.length (Nat.le_refl _)
  rwa [List.take_length] at this
def someN (body : List Int) (ms : List Mark) (h : List Int) (n : Nat) : Prop := ∃ x, x ∈ ms.take n ∧ hits h body x
instance (body : List Int) (ms : List Mark) (h : List Int) (n : Nat) : Decidable (someN body ms h n) := by unfold someN; infer_instance
theorem someN_succ (body : List Int) {ms : List Mark} (h : List Int) {n : Nat} (hn : n < ms.length) : someN body ms h (n + 1) ↔ someN body ms h n ∨ hits h body ms[n] := by
  unfold someN
  rw [List.take_succ_eq_append_getElem hn]
  constructor
  · rintro ⟨x, hx, hh⟩
    rcases List.mem_append.1 hx with hx | hx
    · exact .inl ⟨x, hx, hh⟩
    · rw [List.mem_singleton.1 hx] at hh; exact .inr hh
  · rintro (⟨x, hx, hh⟩ | hh)
    · exact ⟨x, List.mem_append_left _ hx, hh⟩
    · exact ⟨_, List.mem_append_right _ (List.mem_singleton.2 rfl), hh⟩
theorem someN_zero (body : List Int) (ms : List Mark) (h : List Int) : ¬ someN body ms h 0 := by
  rintro ⟨x, hx, _⟩
  rw [List.take_zero] at hx
  cases hx
def fnd (body : List Int) (ms : List Mark) (ks : List (List Int)) (i j : Nat) : Prop := ks.getD i [] ∈ ks.take i ∨ someN body ms (ks.getD i []) j
instance (body : List Int) (ms : List Mark) (ks : List (List Int)) (i j : Nat) : Decidable (fnd body ms ks i j) := by unfold fnd; infer_instance
def lw (body : List Int) (ms : List Mark) (ks : List (List Int)) (i j : Nat) : List (List Int) := if ks.getD i [] ∉ ks.take i ∧ someN body ms (ks.getD i []) j then who body ms (ks.take i) ++ [ks.getD i []] else who body ms (ks.take i)
theorem lw_zero (body : List Int) (ms : List Mark) (ks : List (List Int)) (i : Nat) : lw body ms ks i 0 = who body ms (ks.take i) := by
  rw [lw, if_neg fun hh => someN_zero _ _ _ hh.2]
theorem fnd_zero (body : List Int) (ms : List Mark) (ks : List (List Int)) (i : Nat) : fnd body ms ks i 0 ↔ ks.getD i [] ∈ ks.take i := ⟨fun h => h.resolve_right (someN_zero _ _ _), .inl⟩
theorem lw_hit {body : List Int} {ms : List Mark} {ks : List (List Int)} {i j : Nat} (hn : ¬ fnd body ms ks i j) (hj : j < ms.length) (hh : hits (ks.getD i []) body ms[j]) : lw body ms ks i (j + 1) = lw body ms ks i j ++ [ks.getD i []] ∧ fnd body ms ks i (j + 1) := by
  have h1 := (someN_succ body (ks.getD i []) hj).2 (.inr hh)
  have h2 : ks.getD i [] ∉ ks.take i := fun h => hn (.inl h)
  have h3 : ¬ someN body ms (ks.getD i []) j := fun h => hn (.inr h)
  exact ⟨by rw [lw, if_pos ⟨h2, h1⟩, lw, if_neg fun h => h3 h.2], .inr h1⟩
theorem lw_miss {body : List Int} {ms : List Mark} {ks : List (List Int)} {i j : Nat} (hj : j < ms.length) (hh : ¬ hits (ks.getD i []) body ms[j]) : lw body ms ks i (j + 1) = lw body ms ks i j ∧ (fnd body ms ks i (j + 1) ↔ fnd body ms ks i j) := by
  have h1 : someN body ms (ks.getD i []) (j + 1) ↔ someN body ms (ks.getD i []) j := (someN_succ body (ks.getD i []) hj).trans ⟨fun h => h.resolve_right hh, .inl⟩
  refine ⟨?_, by rw [fnd, fnd, h1]⟩
  rw [lw, lw]
  by_cases h2 : ks.getD i [] ∉ ks.take i ∧ someN body ms (ks.getD i []) j
  · rw [if_pos h2, if_pos ⟨h2.1, h1.2 h2.2⟩]
  · rw [if_neg h2, if_neg fun h => h2 ⟨h.1, h1.1 h.2⟩]
theorem lw_end {body : List Int} {ms : List Mark} {ks : List (List Int)} {i j : Nat} (hi : i < ks.length) (h4 : j ≤ 4) (h : ms.length ≤ j ∨ 4 ≤ j ∨ fnd body ms ks i j) : lw body ms ks i j = who body ms (ks.take (i + 1)) := by
  have hg : ks[i] = ks.getD i [] := by rw [List.getD_eq_getElem?_getD, List.getElem?_eq_getElem hi]; rfl
  rw [List.take_succ_eq_append_getElem hi, who_snoc, hg, lw]
  have up : someN body ms (ks.getD i []) j → some4 body ms (ks.getD i []) := by
    rintro ⟨x, hx, hh⟩
    refine ⟨x, ?_, hh⟩
    have : ms.take j = (ms.take 4).take j := by rw [List.take_take, Nat.min_eq_left h4]
    rw [this] at hx
    exact List.mem_of_mem_take hx
  by_cases hm : ks.getD i [] ∈ ks.take i
  · rw [if_neg fun hh => hh.1 hm, if_neg]
    rintro ⟨h1, h2⟩
    exact h1 ((mem_who _ _ _ _).2 ⟨hm, h2⟩)
  · have h1 : ks.getD i [] ∉ who body ms (ks.take i) := fun hh => hm ((mem_who _ _ _ _).1 hh).1
    have h2 : someN body ms (ks.getD i []) j ↔ some4 body ms (ks.getD i []) := by
      refine ⟨up, fun hs => ?_⟩
      rcases h with h | h | h
      · obtain ⟨x, hx, hh⟩ := hs
        exact ⟨x, by rw [List.take_of_length_le h]; exact List.mem_of_mem_take hx, hh⟩
      · obtain rfl : j = 4 := by omega
        exact hs
      · exact h.resolve_left hm
    by_cases h3 : some4 body ms (ks.getD i [])
    · rw [if_pos ⟨hm, h2.2 h3⟩, if_pos ⟨h1, h3⟩]
    · rw [if_neg fun hh => h3 (h2.1 hh.2), if_neg fun hh => h3 hh.2]
theorem mem_take_succ {ks : List (List Int)} {j : Nat} (hj : j < ks.length) (h : List Int) : h ∈ ks.take (j + 1) ↔ h ∈ ks.take j ∨ ks.getD j [] = h := by
  have hg : ks[j] = ks.getD j [] := by rw [List.getD_eq_getElem?_getD, List.getElem?_eq_getElem hj]; rfl
  rw [List.take_succ_eq_append_getElem hj, List.mem_append, List.mem_singleton, hg]
  exact or_congr Iff.rfl ⟨Eq.symm, Eq.symm⟩
theorem lw_h32 {body : List Int} {ms : List Mark} {ks : List (List Int)} (hu : H32 ks) {i j : Nat} (hi : i < ks.length) : H32 (lw body ms ks i j) ∧ (lw body ms ks i j).length ≤ i + 1 := by
  have hw := who_h32 body ms (hu.take i)
  have h1 : (ks.take i).length ≤ i := by rw [List.length_take]; omega
  rw [lw]
  split
  · exact ⟨hw.1.snoc (hu.get hi), by rw [List.length_append]; simp; omega⟩
  · exact ⟨hw.1, by omega⟩
theorem eqK_not {ks : List (List Int)} {need : Int} {i j : Nat} (hj : j < i) (hi : i < ks.length) (h : ks.getD i [] = ks.getD j []) : ¬ isK ks need := fun hh => by
  have h1 : outK ks need (i + 1) := ⟨hh.2, fun a ha => hh.1 a (by omega)⟩
  exact ((innK_all hi).2 h1).2 j hj h
theorem mflat_key {ms : List Mark} {i : Nat} (h : AOk ms) (hi : i < ms.length) : ((mflat ms).drop (i * 35 + 0)).take 32 = ints .u8 ms[i].key := by
  have h1 := mflat_get h hi
  have h2 := mkey (h ms[i] (List.getElem_mem hi))
  rw [← h1, List.drop_take, List.take_take, List.drop_drop] at h2
  exact h2
theorem mflat_sig {ms : List Mark} {i : Nat} (h : AOk ms) (hi : i < ms.length) : ((mflat ms).drop (i * 35 + 32)).take 3 = [.int .i64 ms[i].leaf, ms[i].vc, ms[i].vp] := by
  have h1 := mflat_get h hi
  have h2 := msig (h ms[i] (List.getElem_mem hi))
  rw [← h1, List.drop_take, List.take_take, List.drop_drop] at h2
  exact h2
end Go.Proofs.Ytgfnmolbagilmaa.Qm

namespace Go.Proofs.Ytgfnmolbagilmaa
open Go Go.RowKit Fw
open Sha
open Mk
set_option linter.unusedVariables false
set_option linter.unusedSimpArgs false
theorem up_take (leaf : List Int) (i : Int) {p : List (List Int)} {k : Nat} (hk : k < p.length) : up leaf i (p.take (k + 1)) = if i / 2 ^ k % 2 = 0 then node (up leaf i (p.take k)) (p.getD k []) else node (p.getD k []) (up leaf i (p.take k)) := by
  have e : p.take (k + 1) = p.take k ++ [p.getD k []] := by
    rw [List.take_succ_eq_append_getElem hk, List.getD_eq_getElem?_getD, List.getElem?_eq_getElem hk]
    rfl
  rw [e, up_snoc, List.length_take, Nat.min_eq_left (by omega)]
theorem div_step (i : Int) (k : Nat) : i / 2 ^ k / 2 = i / 2 ^ (k + 1) := by
  rw [Int.pow_succ]
  exact Int.ediv_ediv_of_nonneg (Int.le_of_lt (Int.pow_pos (by decide)))
theorem div_range {i : Int} (h : 0 ≤ i) (k : Nat) : 0 ≤ i / 2 ^ k ∧ i / 2 ^ k ≤ i :=
  ⟨Int.ediv_nonneg h (Int.le_of_lt (Int.pow_pos (by decide))), Int.ediv_le_self _ h⟩
set_option maxRecDepth 20000 in
set_option maxHeartbeats 1000000 in
theorem node_any (a b : List Int) (w : World) (ha : a.length = 32) (hb : b.length = 32) : Calls Try.prog 109 #[.agg (ints .u8 (a)).toArray, .agg (ints .u8 (b)).toArray] w (PostV w (.agg (ints .u8 (node a b)).toArray)) := by
  refine calls_at (vs := [.agg (ints .u8 (a)).toArray, .agg (ints .u8 (b)).toArray]) (X := []) (H := []) (F := []) 11 Try.func109 rfl rfl rfl (Sat.start0 w) ?_
  refine cd_seq ?_
  refine cd_region ?_
  refine st_box (h := 2) rfl rfl rfl rfl (fun b2 => ?_)
  refine st_box (h := 3) rfl rfl rfl rfl (fun b3 => ?_)
  refine st_alloc (h := 4) ty55 rfl rfl rfl (fun b4 => ?_)
  refine op_nil ?_
  refine ax_then ?_
  refine At.regs (L' := [(2, _), (3, _), (4, _)]) (.cons rfl (.cons rfl (.cons rfl (.nil _)))) ?_
  refine cd_seq ?_
  refine cd_mix hmix ?_
  refine mx (i := 1) rfl (by decide +kernel) (by decide +kernel) (by decide +kernel) rfl (fun w0 => ev_slice_arr_all Try.underlying55 ty5 rfl) rfl rfl (Sub.refl _) ?_
  refine mx (i := 3) rfl (by decide +kernel) (by decide +kernel) (by decide +kernel) rfl (fun w0 => ev_slice_arr_all Try.underlying55 ty5 rfl) rfl rfl (Sub.refl _) ?_
  refine mx_one (i := 0) (by decide +kernel) (Sub.refl _) ?_
  refine wo (i := 0) rfl ?_
  refine st_bsi (h := 5) (xs := [_]) Try.underlying28 ty5 (by decide) rfl rfl (by decide) rfl rfl (fun b5 => ?_)
  refine op_nil ?_
  refine ax_then ?_
  refine mx_one (i := 2) (by decide +kernel) (Sub.refl _) ?_
  refine wo (i := 2) rfl ?_
  refine st_appendi (h := 5) Try.underlying28 Try.underlying28 ty5 rfl rfl rfl rfl (fun w1 sw => rd_blk_all sw (h := 2) rfl (by first | omega | (simp only [List.length_append, List.length_cons, List.length_nil, List.length_set, List.length_replicate, List.length_take, List.length_drop, ints_length, wr_length, node_len] <;> omega) | rfl)) (by first | omega | (simp only [List.length_append, List.length_cons, List.length_nil, List.length_set, List.length_replicate, List.length_take, List.length_drop, ints_length, wr_length, node_len] <;> omega)) (by decide) rfl rfl (fun v7 => ?_)
  refine op_nil ?_
  refine ax_then ?_
  refine mx_one (i := 4) (by decide +kernel) (Sub.refl _) ?_
  refine wo (i := 4) rfl ?_
  refine st_appendi (h := 5) Try.underlying28 Try.underlying28 ty5 rfl rfl rfl rfl (fun w1 sw => rd_blk_all sw (h := 3) rfl (by first | omega | (simp only [List.length_append, List.length_cons, List.length_nil, List.length_set, List.length_replicate, List.length_take, List.length_drop, ints_length, wr_length, node_len] <;> omega) | rfl)) (by first | omega | (simp only [List.length_append, List.length_cons, List.length_nil, List.length_set, List.length_replicate, List.length_take, List.length_drop, ints_length, wr_length, node_len] <;> omega)) (by decide) rfl rfl (fun v9 => ?_)
  refine op_nil ?_
  refine ax_then ?_
  refine mx_one (i := 5) (by decide +kernel) (Sub.refl _) ?_
  refine wo (i := 5) rfl ?_
  refine st_callv has107 rfl (fun w1 sw => sum_any v9 ([3] ++ a ++ b) w1 (by simp only [List.length_append, List.length_cons, List.length_nil]; omega) (sw.own_rd (h := 5) rfl)) rfl rfl ?_
  refine at_eq (i := 10) (v' := .agg (ints .u8 (node a b)).toArray) rfl rfl ?_
  refine op_nil ?_
  refine ax_then ?_
  refine mx_one (i := 6) (by decide +kernel) (Sub.refl _) ?_
  refine wo (i := 6) rfl ?_
  refine st_store_all 4 ty55 rfl rfl rfl rfl (by first | omega | (simp only [List.length_append, List.length_cons, List.length_nil, List.length_set, List.length_replicate, List.length_take, List.length_drop, ints_length, wr_length, node_len] <;> omega) | rfl) (ints_one _ _) (by first | omega | (simp only [List.length_append, List.length_cons, List.length_nil, List.length_set, List.length_replicate, List.length_take, List.length_drop, ints_length, wr_length, node_len] <;> omega) | rfl) rfl ?_
  refine op_nil ?_
  refine ax_then ?_
  refine mx_done (by decide +kernel) (Sub.refl _) ?_
  refine ax_then ?_
  refine At.regs (L' := [(4, _)]) (.cons rfl (.nil _)) ?_
  refine cd_ret ?_
  refine rt_cell (h0 := 4) (.inl rfl) Try.results109 ty55 rfl rfl rfl (by first | omega | (simp only [List.length_append, List.length_cons, List.length_nil, List.length_set, List.length_replicate, List.length_take, List.length_drop, ints_length, wr_length, node_len] <;> omega) | rfl) ?_
  exact fun w1 sw => ⟨rfl, sw.gives (.nil _)⟩
set_option maxRecDepth 20000 in
set_option maxHeartbeats 1000000 in
theorem rnode_any (a b : List Int) (w : World) (ha : a.length = 32) (hb : b.length = 32) : Calls Try.prog 100 #[.agg (ints .u8 (a)).toArray, .agg (ints .u8 (b)).toArray] w (PostV w (.agg (ints .u8 (node a b)).toArray)) := by
  refine calls_at (vs := [.agg (ints .u8 (a)).toArray, .agg (ints .u8 (b)).toArray]) (X := []) (H := []) (F := []) 13 Try.func100 rfl rfl rfl (Sat.start0 w) ?_
  refine cd_seq ?_
  refine cd_region ?_
  refine st_box (h := 2) rfl rfl rfl rfl (fun b2 => ?_)
  refine st_box (h := 3) rfl rfl rfl rfl (fun b3 => ?_)
  refine st_alloc (h := 4) ty55 rfl rfl rfl (fun b4 => ?_)
  refine op_nil ?_
  refine ax_then ?_
  refine At.regs (L' := [(2, _), (3, _), (4, _)]) (.cons rfl (.cons rfl (.cons rfl (.nil _)))) ?_
  refine cd_seq ?_
  refine cd_region ?_
  refine st_bsi (h := 6) (xs := [_]) Try.underlying28 ty5 (by decide) rfl rfl (by decide) rfl rfl (fun b6 => ?_)
  refine st (ev_slice_arr_all Try.underlying55 ty5 rfl) rfl rfl rfl ?_
  refine st_appendi (h := 6) Try.underlying28 Try.underlying28 ty5 rfl rfl rfl rfl (fun w1 sw => rd_blk_all sw (h := 2) rfl (by first | omega | (simp only [List.length_append, List.length_cons, List.length_nil, List.length_set, List.length_replicate, List.length_take, List.length_drop, ints_length, wr_length, node_len] <;> omega) | rfl)) (by first | omega | (simp only [List.length_append, List.length_cons, List.length_nil, List.length_set, List.length_replicate, List.length_take, List.length_drop, ints_length, wr_length, node_len] <;> omega)) (by decide) rfl rfl (fun v8 => ?_)
  refine st (ev_assign rfl) rfl rfl rfl ?_
  refine op_nil ?_
  refine ax_then ?_
  refine At.regs (L' := [(3, _), (4, _), (5, _)]) (.cons rfl (.cons rfl (.cons rfl (.nil _)))) ?_
  refine cd_seq ?_
  refine cd_region ?_
  refine st (ev_move rfl) rfl rfl rfl ?_
  refine st (ev_slice_arr_all Try.underlying55 ty5 rfl) rfl rfl rfl ?_
  refine st_appendi (h := 6) Try.underlying28 Try.underlying28 ty5 rfl rfl rfl rfl (fun w1 sw => rd_blk_all sw (h := 3) rfl (by first | omega | (simp only [List.length_append, List.length_cons, List.length_nil, List.length_set, List.length_replicate, List.length_take, List.length_drop, ints_length, wr_length, node_len] <;> omega) | rfl)) (by first | omega | (simp only [List.length_append, List.length_cons, List.length_nil, List.length_set, List.length_replicate, List.length_take, List.length_drop, ints_length, wr_length, node_len] <;> omega)) (by decide) rfl rfl (fun v11 => ?_)
  refine st_callv has98 rfl (fun w1 sw => rsum_any v11 ([3] ++ a ++ b) w1 (by simp only [List.length_append, List.length_cons, List.length_nil]; omega) (sw.own_rd (h := 6) rfl)) rfl rfl ?_
  refine at_eq (i := 12) (v' := .agg (ints .u8 (node a b)).toArray) rfl rfl ?_
  refine st_store_all 4 ty55 rfl rfl rfl rfl (by first | omega | (simp only [List.length_append, List.length_cons, List.length_nil, List.length_set, List.length_replicate, List.length_take, List.length_drop, ints_length, wr_length, node_len] <;> omega) | rfl) (ints_one _ _) (by first | omega | (simp only [List.length_append, List.length_cons, List.length_nil, List.length_set, List.length_replicate, List.length_take, List.length_drop, ints_length, wr_length, node_len] <;> omega) | rfl) rfl ?_
  refine op_nil ?_
  refine ax_then ?_
  refine At.regs (L' := [(4, _)]) (.cons rfl (.nil _)) ?_
  refine cd_ret ?_
  refine rt_cell (h0 := 4) (.inl rfl) Try.results100 ty55 rfl rfl rfl (by first | omega | (simp only [List.length_append, List.length_cons, List.length_nil, List.length_set, List.length_replicate, List.length_take, List.length_drop, ints_length, wr_length, node_len] <;> omega) | rfl) ?_
  exact fun w1 sw => ⟨rfl, sw.gives (.nil _)⟩
end Go.Proofs.Ytgfnmolbagilmaa

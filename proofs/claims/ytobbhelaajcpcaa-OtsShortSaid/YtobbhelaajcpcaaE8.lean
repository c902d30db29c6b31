/- Walks: the laws of chapter 3. -/
import Derived.Test.YtobbhelaajcpcaaE7
namespace Go.Proofs.Ytobbhelaajcpcaa
open Go Go.RowKit Fw
open Sha
open Ots
set_option linter.unusedVariables false
set_option linter.unusedSimpArgs false

set_option maxRecDepth 20000 in
set_option maxHeartbeats 1000000 in
theorem otsBack_any (s : List Int) (l : Int) (p : Value) (m : List Int) (w : World) (hl : s.length = 32) (hm0 : m.length ≤ 140737488351232) (h : Rd w p 1 (ints .u8 m)) : Calls Try.prog 6 #[.agg (ints .u8 (s)).toArray, .int .i64 l, p] w (PostV w (.bool true)) := by
  refine calls_at (vs := [.agg (ints .u8 (s)).toArray, .int .i64 l, p]) (X := []) (H := []) (F := [(2, .sl p 1 (ints .u8 (m)))]) 32 Try.func6 rfl rfl rfl (Sat.rd0 2 h) ?_
  refine cd_seq ?_
  refine cd_region ?_
  refine st_box (h := 3) rfl rfl rfl rfl (fun b3 => ?_)
  refine st (ev_assign rfl) rfl rfl rfl ?_
  refine op_nil ?_
  refine ax_then ?_
  refine At.regs (L' := [(1, _), (2, _), (3, _), (6, _)]) (.cons rfl (.cons rfl (.cons rfl (.cons rfl (.nil _))))) ?_
  refine cd_seq ?_
  refine cd_seq ?_
  refine cd_region ?_
  refine st (ev_move rfl) rfl rfl rfl ?_
  refine st (ev_len_rdi (h := 2) Try.underlying28 rfl rfl) rfl rfl rfl ?_
  refine st (ev_gtr rfl rfl) rfl rfl rfl ?_
  refine op_nil ?_
  refine ax_then ?_
  refine At.regs (L' := [(1, _), (2, _), (3, _), (6, _), (11, _)]) (.cons rfl (.cons rfl (.cons rfl (.cons rfl (.cons rfl (.nil _)))))) ?_
  refine cd_if rfl (fun hc11 => ?_) (fun hc11 => ?_)
  ·
    refine cd_seq ?_
    refine cd_region ?_
    refine st (ev_assign rfl) rfl rfl rfl ?_
    refine op_nil ?_
    refine ax_then ?_
    refine At.regs (L' := [(1, _), (2, _), (3, _), (6, _)]) (.cons rfl (.cons rfl (.cons rfl (.cons rfl (.nil _))))) ?_
    refine cd_ret ?_
    refine ax_then_ret ?_
    refine rt_tmp (.inl rfl) Try.results6 rfl ?_
    exact fun w1 sw => ⟨rfl, sw.gives (.nil _)⟩
  ·
    refine cd_skip ?_
    refine ax_then ?_
    refine At.regs (L' := [(1, _), (2, _), (3, _), (6, _)]) (.cons rfl (.cons rfl (.cons rfl (.cons rfl (.nil _))))) ?_
    refine cd_seq ?_
    refine cd_region ?_
    refine st (ev_move rfl) rfl rfl rfl ?_
    refine st (ld_blk_all (h := 3) ty24 rfl rfl rfl (by first | omega | (simp only [List.length_append, List.length_cons, List.length_nil, List.length_set, List.length_replicate, List.length_take, List.length_drop, ints_length, wr_length, sha_len, way_len _ (by assumption), secret_len, digits_len, recov_len, sign_len] <;> omega) | rfl)) rfl rfl rfl ?_
    refine st (ev_move rfl) rfl rfl rfl ?_
    refine st (ev_move rfl) rfl rfl rfl ?_
    refine st_call has29 rfl (fun w1 sw => rn 17 (sign_any s l p m w1 (by first | rfl | assumption) (by first | decide | omega) (sw.sl_rd (h := 2) rfl))) nil_all rfl rfl (fun v17 _ => ?_)
    have hsu17 := sign_h32 s l m 36
    have hsn17 := sign_len s l m 36
    refine st_callv has26 rfl (fun w1 sw => recover_any p v17 m (sign s l m 36) w1 (by omega) hsu17 (by rw [hsn17]; decide) (sw.sl_rd (h := 2) rfl) (sw.own_rd (h := 17) rfl)) rfl rfl ?_
    have hrl := recov_len m (sign s l m 36)
    refine st (ev_move rfl) rfl rfl rfl ?_
    refine st (ev_extract rfl rfl) rfl rfl rfl ?_
    refine st (ev_extract rfl rfl) rfl rfl rfl ?_
    refine st_alloc (h := 7) ty24 rfl rfl rfl (fun b7 => ?_)
    refine st_store_all 7 ty24 rfl rfl rfl rfl (by first | omega | (simp only [List.length_append, List.length_cons, List.length_nil, List.length_set, List.length_replicate, List.length_take, List.length_drop, ints_length, wr_length, sha_len, way_len _ (by assumption), secret_len, digits_len, recov_len, sign_len] <;> omega) | rfl) (ints_one _ _) (by first | omega | (simp only [List.length_append, List.length_cons, List.length_nil, List.length_set, List.length_replicate, List.length_take, List.length_drop, ints_length, wr_length, sha_len, way_len _ (by assumption), secret_len, digits_len, recov_len, sign_len] <;> omega) | rfl) rfl ?_
    refine st (ev_assign rfl) rfl rfl rfl ?_
    refine op_nil ?_
    refine ax_then ?_
    refine At.regs (L' := [(1, _), (3, _), (6, _), (7, _), (8, _)]) (.cons rfl (.cons rfl (.cons rfl (.cons rfl (.cons rfl (.nil _)))))) ?_
    refine cd_seq ?_
    refine cd_open hmix (by decide +kernel) ?_
    refine qt (ev_move rfl) rfl rfl rfl ?_
    refine qt (ev_move rfl) rfl rfl rfl ?_
    refine qt_eq (i := 22) (v' := .bool true) rfl (by rw [decide_eq_true hsn17]; rfl) ?_
    refine qt (ld_blk_all (h := 7) ty24 rfl rfl rfl (by first | omega | (simp only [List.length_append, List.length_cons, List.length_nil, List.length_set, List.length_replicate, List.length_take, List.length_drop, ints_length, wr_length, sha_len, way_len _ (by assumption), secret_len, digits_len, recov_len, sign_len] <;> omega) | rfl)) rfl rfl rfl ?_
    refine qt (ld_blk_all (h := 3) ty24 rfl rfl rfl (by first | omega | (simp only [List.length_append, List.length_cons, List.length_nil, List.length_set, List.length_replicate, List.length_take, List.length_drop, ints_length, wr_length, sha_len, way_len _ (by assumption), secret_len, digits_len, recov_len, sign_len] <;> omega) | rfl)) rfl rfl rfl ?_
    refine qt (ev_move rfl) rfl rfl rfl ?_
    refine qt_callv has23 rfl (fun w1 sw => public_any s l w1 hl) rfl rfl ?_
    have hpl : (pub s l).length = 32 := sha_len _
    refine qt (ev_eql_arr Try.underlying24 ty5 eqg24 rfl rfl (by first | omega | (simp only [List.length_append, List.length_cons, List.length_nil, List.length_set, List.length_replicate, List.length_take, List.length_drop, ints_length, wr_length, sha_len, way_len _ (by assumption), secret_len, digits_len, recov_len, sign_len] <;> omega) | rfl) (by first | omega | (simp only [List.length_append, List.length_cons, List.length_nil, List.length_set, List.length_replicate, List.length_take, List.length_drop, ints_length, wr_length, sha_len, way_len _ (by assumption), secret_len, digits_len, recov_len, sign_len] <;> omega) | rfl)) rfl rfl rfl ?_
    refine qt (ev_pick_t rfl rfl) rfl rfl rfl ?_
    refine qt (ev_move rfl) rfl rfl rfl ?_
    refine qt_eq (i := 29) (v' := .bool true) rfl (by rw [recov_sign]; simp) ?_
    refine qt_callv has25 rfl (fun w1 sw => known3_any w1) rfl rfl ?_
    refine qt (ev_pick_t rfl rfl) rfl rfl rfl ?_
    refine qt (ev_assign rfl) rfl rfl rfl ?_
    refine qt_end ?_
    refine op_nil ?_
    refine ax_then ?_
    refine At.regs (L' := [(6, _)]) (.cons rfl (.nil _)) ?_
    refine cd_ret ?_
    refine rt_tmp (.inl rfl) Try.results6 rfl ?_
    exact fun w1 sw => ⟨rfl, sw.gives (.nil _)⟩

set_option maxRecDepth 20000 in
set_option maxHeartbeats 1000000 in
theorem otsTells_any (p : Value) (m s : List Int) (c f t l : Int) (w : World) (hm0 : m.length ≤ 140737488351232) (hl : s.length = 32) (hf : f ≤ 9223372036854775807) (h : Rd w p 1 (ints .u8 m)) : Calls Try.prog 4 #[p, .agg (ints .u8 (s)).toArray, .int .i64 c, .int .i64 f, .int .i64 t, .int .i64 l] w (PostV w (.bool true)) := by
  refine calls_at (vs := [p, .agg (ints .u8 (s)).toArray, .int .i64 c, .int .i64 f, .int .i64 t, .int .i64 l]) (X := []) (H := []) (F := [(0, .sl p 1 (ints .u8 (m)))]) 57 Try.func4 rfl rfl rfl (Sat.rd0 0 h) ?_
  refine cd_seq ?_
  refine cd_region ?_
  refine st_box (h := 7) rfl rfl rfl rfl (fun b7 => ?_)
  refine st (ev_assign rfl) rfl rfl rfl ?_
  refine op_nil ?_
  refine ax_then ?_
  refine At.regs (L' := [(0, _), (2, _), (3, _), (4, _), (5, _), (7, _), (12, _)]) (.cons rfl (.cons rfl (.cons rfl (.cons rfl (.cons rfl (.cons rfl (.cons rfl (.nil _)))))))) ?_
  refine cd_seq ?_
  refine cd_seq ?_
  refine cd_region ?_
  refine st (ev_move rfl) rfl rfl rfl ?_
  refine st (ev_len_rdi (h := 0) Try.underlying28 rfl rfl) rfl rfl rfl ?_
  refine st (ev_gtr rfl rfl) rfl rfl rfl ?_
  refine op_nil ?_
  refine ax_then ?_
  refine At.regs (L' := [(0, _), (2, _), (3, _), (4, _), (5, _), (7, _), (12, _), (15, _)]) (.cons rfl (.cons rfl (.cons rfl (.cons rfl (.cons rfl (.cons rfl (.cons rfl (.cons rfl (.nil _))))))))) ?_
  refine cd_if rfl (fun hc15 => ?_) (fun hc15 => ?_)
  ·
    refine cd_seq ?_
    refine cd_region ?_
    refine st (ev_assign rfl) rfl rfl rfl ?_
    refine op_nil ?_
    refine ax_then ?_
    refine At.regs (L' := [(0, _), (2, _), (3, _), (4, _), (5, _), (7, _), (12, _)]) (.cons rfl (.cons rfl (.cons rfl (.cons rfl (.cons rfl (.cons rfl (.cons rfl (.nil _)))))))) ?_
    refine cd_ret ?_
    refine ax_then_ret ?_
    refine rt_tmp (.inl rfl) Try.results4 rfl ?_
    exact fun w1 sw => ⟨rfl, sw.gives (.nil _)⟩
  ·
    refine cd_skip ?_
    refine ax_then ?_
    refine At.regs (L' := [(0, _), (2, _), (3, _), (4, _), (5, _), (7, _), (12, _)]) (.cons rfl (.cons rfl (.cons rfl (.cons rfl (.cons rfl (.cons rfl (.cons rfl (.nil _)))))))) ?_
    refine cd_seq ?_
    refine cd_open hmix (by decide +kernel) ?_
    refine qt (ev_move rfl) rfl rfl rfl ?_
    refine qt_callv has17 rfl (fun w1 sw => digits_any p m w1 (by omega) (sw.sl_rd (h := 0) rfl)) rfl rfl ?_
    refine qt (ev_move rfl) rfl rfl rfl ?_
    refine qt_callv has18 rfl (fun w1 sw => rdigits_any p m w1 (by omega) (sw.sl_rd (h := 0) rfl)) rfl rfl ?_
    refine qt (ev_eql_arr Try.underlying29 ty3 eqg29 rfl rfl (by first | omega | (simp only [List.length_append, List.length_cons, List.length_nil, List.length_set, List.length_replicate, List.length_take, List.length_drop, ints_length, wr_length, sha_len, way_len _ (by assumption), secret_len, digits_len, recov_len, sign_len] <;> omega) | rfl) (by first | omega | (simp only [List.length_append, List.length_cons, List.length_nil, List.length_set, List.length_replicate, List.length_take, List.length_drop, ints_length, wr_length, sha_len, way_len _ (by assumption), secret_len, digits_len, recov_len, sign_len] <;> omega) | rfl)) rfl rfl rfl ?_
    refine qt (ev_move rfl) rfl rfl rfl ?_
    refine qt_eq (i := 21) (v' := .bool true) rfl (by simp) ?_
    refine qt (ld_blk_all (h := 7) ty24 rfl rfl rfl (by first | omega | (simp only [List.length_append, List.length_cons, List.length_nil, List.length_set, List.length_replicate, List.length_take, List.length_drop, ints_length, wr_length, sha_len, way_len _ (by assumption), secret_len, digits_len, recov_len, sign_len] <;> omega) | rfl)) rfl rfl rfl ?_
    refine qt (ev_move rfl) rfl rfl rfl ?_
    refine qt (ev_move rfl) rfl rfl rfl ?_
    refine qt (ev_move rfl) rfl rfl rfl ?_
    refine qt_callv has19 rfl (fun w1 sw => walk_any s c f t w1 hl hf) rfl rfl ?_
    have hwl := walk_len c f t hl
    refine qt (ld_blk_all (h := 7) ty24 rfl rfl rfl (by first | omega | (simp only [List.length_append, List.length_cons, List.length_nil, List.length_set, List.length_replicate, List.length_take, List.length_drop, ints_length, wr_length, sha_len, way_len _ (by assumption), secret_len, digits_len, recov_len, sign_len] <;> omega) | rfl)) rfl rfl rfl ?_
    refine qt (ev_move rfl) rfl rfl rfl ?_
    refine qt (ev_move rfl) rfl rfl rfl ?_
    refine qt (ev_move rfl) rfl rfl rfl ?_
    refine qt_callv has20 rfl (fun w1 sw => rwalk_any s c f t w1 hl hf) rfl rfl ?_
    refine qt (ev_eql_arr Try.underlying24 ty5 eqg24 rfl rfl (by first | omega | (simp only [List.length_append, List.length_cons, List.length_nil, List.length_set, List.length_replicate, List.length_take, List.length_drop, ints_length, wr_length, sha_len, way_len _ (by assumption), secret_len, digits_len, recov_len, sign_len] <;> omega) | rfl) (by first | omega | (simp only [List.length_append, List.length_cons, List.length_nil, List.length_set, List.length_replicate, List.length_take, List.length_drop, ints_length, wr_length, sha_len, way_len _ (by assumption), secret_len, digits_len, recov_len, sign_len] <;> omega) | rfl)) rfl rfl rfl ?_
    refine qt (ev_pick_t rfl rfl) rfl rfl rfl ?_
    refine qt (ev_move rfl) rfl rfl rfl ?_
    refine qt_eq (i := 34) (v' := .bool true) rfl (by simp) ?_
    refine qt (ld_blk_all (h := 7) ty24 rfl rfl rfl (by first | omega | (simp only [List.length_append, List.length_cons, List.length_nil, List.length_set, List.length_replicate, List.length_take, List.length_drop, ints_length, wr_length, sha_len, way_len _ (by assumption), secret_len, digits_len, recov_len, sign_len] <;> omega) | rfl)) rfl rfl rfl ?_
    refine qt (ev_move rfl) rfl rfl rfl ?_
    refine qt (ev_move rfl) rfl rfl rfl ?_
    refine qt_callv has21 rfl (fun w1 sw => secret_any s l c w1 hl) rfl rfl ?_
    refine qt (ld_blk_all (h := 7) ty24 rfl rfl rfl (by first | omega | (simp only [List.length_append, List.length_cons, List.length_nil, List.length_set, List.length_replicate, List.length_take, List.length_drop, ints_length, wr_length, sha_len, way_len _ (by assumption), secret_len, digits_len, recov_len, sign_len] <;> omega) | rfl)) rfl rfl rfl ?_
    refine qt (ev_move rfl) rfl rfl rfl ?_
    refine qt (ev_move rfl) rfl rfl rfl ?_
    refine qt_callv has22 rfl (fun w1 sw => rsecret_any s l c w1 hl) rfl rfl ?_
    refine qt (ev_eql_arr Try.underlying24 ty5 eqg24 rfl rfl (by first | omega | (simp only [List.length_append, List.length_cons, List.length_nil, List.length_set, List.length_replicate, List.length_take, List.length_drop, ints_length, wr_length, sha_len, way_len _ (by assumption), secret_len, digits_len, recov_len, sign_len] <;> omega) | rfl) (by first | omega | (simp only [List.length_append, List.length_cons, List.length_nil, List.length_set, List.length_replicate, List.length_take, List.length_drop, ints_length, wr_length, sha_len, way_len _ (by assumption), secret_len, digits_len, recov_len, sign_len] <;> omega) | rfl)) rfl rfl rfl ?_
    refine qt (ev_pick_t rfl rfl) rfl rfl rfl ?_
    refine qt (ev_move rfl) rfl rfl rfl ?_
    refine qt_eq (i := 45) (v' := .bool true) rfl (by simp) ?_
    refine qt (ld_blk_all (h := 7) ty24 rfl rfl rfl (by first | omega | (simp only [List.length_append, List.length_cons, List.length_nil, List.length_set, List.length_replicate, List.length_take, List.length_drop, ints_length, wr_length, sha_len, way_len _ (by assumption), secret_len, digits_len, recov_len, sign_len] <;> omega) | rfl)) rfl rfl rfl ?_
    refine qt (ev_move rfl) rfl rfl rfl ?_
    refine qt_callv has23 rfl (fun w1 sw => public_any s l w1 hl) rfl rfl ?_
    have hpl : (pub s l).length = 32 := sha_len _
    refine qt (ld_blk_all (h := 7) ty24 rfl rfl rfl (by first | omega | (simp only [List.length_append, List.length_cons, List.length_nil, List.length_set, List.length_replicate, List.length_take, List.length_drop, ints_length, wr_length, sha_len, way_len _ (by assumption), secret_len, digits_len, recov_len, sign_len] <;> omega) | rfl)) rfl rfl rfl ?_
    refine qt (ev_move rfl) rfl rfl rfl ?_
    refine qt_callv has24 rfl (fun w1 sw => rpublic_any s l w1 hl) rfl rfl ?_
    refine qt (ev_eql_arr Try.underlying24 ty5 eqg24 rfl rfl (by first | omega | (simp only [List.length_append, List.length_cons, List.length_nil, List.length_set, List.length_replicate, List.length_take, List.length_drop, ints_length, wr_length, sha_len, way_len _ (by assumption), secret_len, digits_len, recov_len, sign_len] <;> omega) | rfl) (by first | omega | (simp only [List.length_append, List.length_cons, List.length_nil, List.length_set, List.length_replicate, List.length_take, List.length_drop, ints_length, wr_length, sha_len, way_len _ (by assumption), secret_len, digits_len, recov_len, sign_len] <;> omega) | rfl)) rfl rfl rfl ?_
    refine qt (ev_pick_t rfl rfl) rfl rfl rfl ?_
    refine qt (ev_move rfl) rfl rfl rfl ?_
    refine qt_eq (i := 54) (v' := .bool true) rfl (by simp) ?_
    refine qt_callv has25 rfl (fun w1 sw => known3_any w1) rfl rfl ?_
    refine qt (ev_pick_t rfl rfl) rfl rfl rfl ?_
    refine qt (ev_assign rfl) rfl rfl rfl ?_
    refine qt_end ?_
    refine op_nil ?_
    refine ax_then ?_
    refine At.regs (L' := [(12, _)]) (.cons rfl (.nil _)) ?_
    refine cd_ret ?_
    refine rt_tmp (.inl rfl) Try.results4 rfl ?_
    exact fun w1 sw => ⟨rfl, sw.gives (.nil _)⟩

end Go.Proofs.Ytobbhelaajcpcaa

/- Walks: chapter 3. -/
import Derived.Test.YteedclmcgifmpaaE1
import Derived.Test.YteedclmcgifmpaaFw14
namespace Go.Proofs.Yteedclmcgifmpaa
open Go Go.RowKit Fw
open Sha
open Ots
set_option linter.unusedVariables false
set_option linter.unusedSimpArgs false

set_option maxRecDepth 20000 in
set_option maxHeartbeats 2000000 in
theorem ends_any (k : Nat) (hk : Has Try.prog k) (vf vc : List Value) (v : Value) (cs : List (List Int)) (g : Nat → List Int) (hg : ∀ i, (g i).length = 32) (w : World) (h : Rd w v 32 (flat cs)) (hc : ∀ (w1 : World) (i : Nat), i < 36 → Rd w1 v 32 (flat cs) → Calls Try.prog k (vf ++ [Value.int .i64 (i : Int)] ++ vc).toArray w1 (PostV w1 (.agg (ints .u8 (g i)).toArray))) : Calls Try.prog 75 #[.func (.func k) vf.toArray vc.toArray] w (PostV w (.agg (ints .u8 (ends g)).toArray)) := by
  refine calls_at (vs := [.func (.func k) vf.toArray vc.toArray]) (X := []) (H := []) (F := [(20, .sl v 32 (flat (cs)))]) 19 Try.func75 rfl rfl rfl (Sat.rd0 20 h) ?_
  refine cd_seq ?_
  refine cd_region ?_
  refine st_alloc (h := 2) ty39 rfl rfl rfl (fun b2 => ?_)
  refine op_nil ?_
  refine ax_then ?_
  refine At.regs (L' := [(0, _), (2, _)]) (.cons rfl (.cons rfl (.nil _))) ?_
  refine cd_seq ?_
  refine cd_region ?_
  refine st_bsi (h := 6) (xs := [_]) Try.underlying22 ty5 (by decide) rfl rfl (by decide) rfl rfl (fun b6 => ?_)
  refine st (ev_assign rfl) rfl rfl rfl ?_
  refine op_nil ?_
  refine ax_then ?_
  refine At.regs (L' := [(0, _), (2, _), (3, _)]) (.cons rfl (.cons rfl (.cons rfl (.nil _)))) ?_
  refine cd_seq ?_
  refine cd_seq ?_
  refine cd_region ?_
  refine st (ev_move rfl) rfl rfl rfl ?_
  refine op_nil ?_
  refine ax_then ?_
  refine At.regs (L' := [(0, _), (2, _), (3, _), (7, _)]) (.cons rfl (.cons rfl (.cons rfl (.cons rfl (.nil _))))) ?_
  refine cd_block ?_
  refine cd_loop (ι := Nat × Value) (fun x => x.1 ≤ 36) (fun x => 36 - x.1)
      (fun x => [(0, .func (.func k) vf.toArray vc.toArray), (2, .pointer (some ⟨b2, 0, none⟩)), (3, x.2), (7, .int .i64 (x.1 : Int))])
      (fun x => [(2, .blk b2 (.cells (ints .u8 (List.replicate 32 0)).toArray 39)), (6, .own (x.2) 5 1 (ints .u8 (tex g x.1)))])
      (fun x => [(20, .sl v 32 (flat (cs)))])
      (0, _) (by omega) (.cons rfl (.cons rfl (.cons rfl (.cons rfl (.nil _))))) (.cons rfl (.cons rfl (.nil _))) (.cons rfl (.nil _)) (fun x hi => ?_)
  have htx := tex_len hg x.1
  have hgx := hg x.1
  refine cd_seq ?_
  refine cd_region ?_
  refine st (ev_lss rfl rfl) rfl rfl rfl ?_
  refine op_nil ?_
  refine ax_then ?_
  refine At.regs (L' := [(0, _), (2, _), (3, _), (7, _), (8, _)]) (.cons rfl (.cons rfl (.cons rfl (.cons rfl (.cons rfl (.nil _)))))) ?_
  refine cd_seq ?_
  refine cd_if rfl (fun hc8 => ?_) (fun hc8 => ?_)
  ·
    refine cd_skip ?_
    refine ax_then ?_
    refine At.regs (L' := [(0, _), (2, _), (3, _), (7, _), (8, _)]) (.cons rfl (.cons rfl (.cons rfl (.cons rfl (.cons rfl (.nil _)))))) ?_
    refine cd_seq ?_
    refine cd_block ?_
    refine cd_seq ?_
    refine cd_region ?_
    refine st (ev_move rfl) rfl rfl rfl ?_
    refine st (ev_assign rfl) rfl rfl rfl ?_
    refine op_nil ?_
    refine ax_then ?_
    refine At.regs (L' := [(0, _), (2, _), (3, _), (4, _), (7, _), (8, _), (9, _)]) (.cons rfl (.cons rfl (.cons rfl (.cons rfl (.cons rfl (.cons rfl (.cons rfl (.nil _)))))))) ?_
    refine cd_seq ?_
    refine cd_region ?_
    refine st (ev_move rfl) rfl rfl rfl ?_
    refine st (ev_move rfl) rfl rfl rfl ?_
    refine st_callv_fn hk rfl rfl rfl (fun w1 sw => hc w1 x.1 (by omega) (sw.sl_rd (h := 20) rfl)) rfl rfl ?_
    refine st_alloc (h := 5) ty39 rfl rfl rfl (fun b5 => ?_)
    refine st_store_all 5 ty39 rfl rfl rfl rfl (by first | omega | (simp only [List.length_append, List.length_cons, List.length_nil, List.length_set, List.length_replicate, List.length_take, List.length_drop, ints_length, wr_length, sha_len, way_len _ (by assumption), secret_len, digits_len] <;> omega) | rfl) (ints_one _ _) (by first | omega | (simp only [List.length_append, List.length_cons, List.length_nil, List.length_set, List.length_replicate, List.length_take, List.length_drop, ints_length, wr_length, sha_len, way_len _ (by assumption), secret_len, digits_len] <;> omega) | rfl) rfl ?_
    refine op_nil ?_
    refine ax_then ?_
    refine At.regs (L' := [(0, _), (2, _), (3, _), (4, _), (5, _), (7, _), (8, _), (9, _), (10, _), (11, _), (12, _)]) (.cons rfl (.cons rfl (.cons rfl (.cons rfl (.cons rfl (.cons rfl (.cons rfl (.cons rfl (.cons rfl (.cons rfl (.cons rfl (.nil _)))))))))))) ?_
    refine cd_region ?_
    refine st (ev_move rfl) rfl rfl rfl ?_
    refine st (ev_slice_arr_all Try.underlying39 ty5 rfl) rfl rfl rfl ?_
    refine st_appendi (h := 6) Try.underlying22 Try.underlying22 ty5 rfl rfl rfl rfl (fun w1 sw => rd_blk_all sw (h := 5) rfl (by first | omega | (simp only [List.length_append, List.length_cons, List.length_nil, List.length_set, List.length_replicate, List.length_take, List.length_drop, ints_length, wr_length, sha_len, way_len _ (by assumption), secret_len, digits_len] <;> omega) | rfl)) (by first | omega | (simp only [List.length_append, List.length_cons, List.length_nil, List.length_set, List.length_replicate, List.length_take, List.length_drop, ints_length, wr_length, sha_len, way_len _ (by assumption), secret_len, digits_len] <;> omega)) (by decide) rfl rfl (fun v15 => ?_)
    refine st (ev_assign rfl) rfl rfl rfl ?_
    refine op_nil ?_
    refine ax_block ?_
    refine ax_then ?_
    refine At.regs (L' := [(0, _), (2, _), (3, _), (4, _), (5, _), (7, _), (8, _), (9, _), (10, _), (11, _), (12, _), (13, _), (14, _), (15, _)]) (.cons rfl (.cons rfl (.cons rfl (.cons rfl (.cons rfl (.cons rfl (.cons rfl (.cons rfl (.cons rfl (.cons rfl (.cons rfl (.cons rfl (.cons rfl (.cons rfl (.nil _))))))))))))))) ?_
    refine cd_region ?_
    refine st (ev_add64 rfl rfl (by omega) (by omega)) rfl rfl rfl ?_
    refine st (ev_move rfl) rfl rfl rfl ?_
    refine op_nil ?_
    refine ax_heq (i := 6) (v' := .own (v15) 5 1 (ints .u8 (tex g (x.1 + 1)))) rfl rfl ?_
    exact at_again ((x.1 + 1, v15)) (by show x.1 + 1 ≤ 36; omega) (by omega) (.cons rfl (.cons rfl (.cons rfl (.cons rfl (.nil _))))) (.cons rfl (.cons rfl (.nil _))) (.cons rfl (.nil _))
  ·
    obtain ⟨j, u⟩ := x
    dsimp only at hi hc8 htx hgx ⊢
    obtain rfl : j = 36 := by omega
    refine cd_exit ?_
    refine ax_then_exit ?_
    refine ax_then_exit ?_
    refine ax_block_hit ?_
    refine ax_then ?_
    refine At.regs (L' := [(2, _), (3, _)]) (.cons rfl (.cons rfl (.nil _))) ?_
    refine cd_seq ?_
    refine cd_region ?_
    refine st (ev_move rfl) rfl rfl rfl ?_
    refine st_callv has83 rfl (fun w1 sw => sum_any u (tex g 36) w1 (by rw [htx]; omega) (sw.own_rd (h := 6) rfl)) rfl rfl ?_
    refine st_store_all 2 ty39 rfl rfl rfl rfl (by first | omega | (simp only [List.length_append, List.length_cons, List.length_nil, List.length_set, List.length_replicate, List.length_take, List.length_drop, ints_length, wr_length, sha_len, way_len _ (by assumption), secret_len, digits_len] <;> omega) | rfl) (ints_one _ _) (by first | omega | (simp only [List.length_append, List.length_cons, List.length_nil, List.length_set, List.length_replicate, List.length_take, List.length_drop, ints_length, wr_length, sha_len, way_len _ (by assumption), secret_len, digits_len] <;> omega) | rfl) rfl ?_
    refine op_nil ?_
    refine ax_then ?_
    refine At.regs (L' := [(2, _)]) (.cons rfl (.nil _)) ?_
    refine cd_ret ?_
    refine rt_cell (h0 := 2) (.inl rfl) Try.results75 ty39 rfl rfl rfl (by first | omega | (simp only [List.length_append, List.length_cons, List.length_nil, List.length_set, List.length_replicate, List.length_take, List.length_drop, ints_length, wr_length, sha_len, way_len _ (by assumption), secret_len, digits_len] <;> omega) | rfl) ?_
    exact fun w1 sw => ⟨rfl, sw.gives (.nil _)⟩

theorem cut32 (s : List Int) (x : Value) (hl : s.length = 32) : ((ints .u8 s ++ [x]).drop 0).take 32 = ints .u8 s := by
  rw [List.drop_zero, List.take_left' (by rw [ints_length, hl])]
theorem at32 (s : List Int) (x : Value) (hl : s.length = 32) : (ints .u8 s ++ [x])[32]? = some x := by
  rw [List.getElem?_append_right (by rw [ints_length, hl]; decide), ints_length, hl]
  rfl

set_option maxRecDepth 20000 in
set_option maxHeartbeats 1000000 in
theorem leafEnd_any (s : List Int) (l c : Int) (w : World) (hl : s.length = 32) : Calls Try.prog 76 #[.agg (ints .u8 s ++ [Value.int .i64 l]).toArray, .int .i64 c] w (PostV w (.agg (ints .u8 (walk (secret s l c) c 0 3)).toArray)) := by
  refine calls_at (vs := [.agg (ints .u8 s ++ [Value.int .i64 l]).toArray, .int .i64 c]) (X := []) (H := []) (F := []) 13 Try.func76 rfl rfl rfl (Sat.start0 w) ?_
  refine cd_seq ?_
  refine cd_region ?_
  refine st_box (h := 2) rfl rfl rfl rfl (fun b2 => ?_)
  refine st_alloc (h := 4) ty39 rfl rfl rfl (fun b4 => ?_)
  refine op_nil ?_
  refine ax_then ?_
  refine At.regs (L' := [(1, _), (2, _), (4, _)]) (.cons rfl (.cons rfl (.cons rfl (.nil _)))) ?_
  refine cd_seq ?_
  refine cd_region ?_
  refine st (ev_fieldAddr (b := _) Try.underlying109 (f := _) rfl ty39 (by decide) rfl) rfl rfl rfl ?_
  refine st (ld_blk (h := 2) ty39 rfl rfl rfl (by rw [List.length_append, ints_length, hl]; show 0 + 32 ≤ 32 + 1; decide)) rfl rfl rfl ?_
  refine at_eq (i := 6) (v' := .agg (ints .u8 (s)).toArray) rfl (congrArg (fun x => Value.agg (List.toArray x)) (cut32 s (.int .i64 l) hl)) ?_
  refine st (ev_fieldAddr (b := _) Try.underlying109 (f := _) rfl ty3 (by decide) rfl) rfl rfl rfl ?_
  refine st (ld_blk1 (h := 2) ty3 rfl rfl rfl (at32 s _ hl)) rfl rfl rfl ?_
  refine st (ev_move rfl) rfl rfl rfl ?_
  refine st_callv has88 rfl (fun w1 sw => secret_any s l c w1 hl) rfl rfl ?_
  refine st (ev_move rfl) rfl rfl rfl ?_
  refine st_callv has87 rfl (fun w1 sw => walk_any (secret s l c) c 0 3 w1 (secret_len s l c) (by decide)) rfl rfl ?_
  have hwl := walk_len (h := secret s l c) c 0 3 (secret_len s l c)
  refine st_store_all 4 ty39 rfl rfl rfl rfl (by first | omega | (simp only [List.length_append, List.length_cons, List.length_nil, List.length_set, List.length_replicate, List.length_take, List.length_drop, ints_length, wr_length, sha_len, way_len _ (by assumption), secret_len, digits_len] <;> omega) | rfl) (ints_one _ _) (by first | omega | (simp only [List.length_append, List.length_cons, List.length_nil, List.length_set, List.length_replicate, List.length_take, List.length_drop, ints_length, wr_length, sha_len, way_len _ (by assumption), secret_len, digits_len] <;> omega) | rfl) rfl ?_
  refine op_nil ?_
  refine ax_then ?_
  refine At.regs (L' := [(4, _)]) (.cons rfl (.nil _)) ?_
  refine cd_ret ?_
  refine rt_cell (h0 := 4) (.inl rfl) Try.results76 ty39 rfl rfl rfl (by first | omega | (simp only [List.length_append, List.length_cons, List.length_nil, List.length_set, List.length_replicate, List.length_take, List.length_drop, ints_length, wr_length, sha_len, way_len _ (by assumption), secret_len, digits_len] <;> omega) | rfl) ?_
  exact fun w1 sw => ⟨rfl, sw.gives (.nil _)⟩

theorem rd_nil {w : World} (sz : Nat) : Rd w (.slice none 0 0) sz (flat []) := ⟨none, 0, 0, rfl, by simp [flat, ints], Nat.le_refl _, fun _ => rfl, fun x hx => by cases hx⟩

set_option maxRecDepth 20000 in
set_option maxHeartbeats 1000000 in
theorem public_any (s : List Int) (l : Int) (w : World) (hl : s.length = 32) : Calls Try.prog 46 #[.agg (ints .u8 (s)).toArray, .int .i64 l] w (PostV w (.agg (ints .u8 (pub s l)).toArray)) := by
  refine calls_at (vs := [.agg (ints .u8 (s)).toArray, .int .i64 l]) (X := []) (H := []) (F := []) 10 Try.func46 rfl rfl rfl (Sat.start0 w) ?_
  refine cd_seq ?_
  refine cd_region ?_
  refine st_box (h := 2) rfl rfl rfl rfl (fun b2 => ?_)
  refine st_alloc (h := 4) ty39 rfl rfl rfl (fun b4 => ?_)
  refine op_nil ?_
  refine ax_then ?_
  refine At.regs (L' := [(1, _), (2, _), (4, _)]) (.cons rfl (.cons rfl (.cons rfl (.nil _)))) ?_
  refine cd_seq ?_
  refine cd_region ?_
  refine st (ld_blk_all (h := 2) ty39 rfl rfl rfl (by first | omega | (simp only [List.length_append, List.length_cons, List.length_nil, List.length_set, List.length_replicate, List.length_take, List.length_drop, ints_length, wr_length, sha_len, way_len _ (by assumption), secret_len, digits_len] <;> omega) | rfl)) rfl rfl rfl ?_
  refine st (ev_move rfl) rfl rfl rfl ?_
  refine st (ev_build_struct ty109 rfl pl109 rfl ((fill_put (i := 0) (off := 0) (n := 32) (vs := ints .u8 s) rfl rfl (by rw [ints_length, hl]) (Nat.le_of_ble_eq_true rfl)).trans ((fill_put (i := 1) (off := 32) (n := 1) (vs := [.int .i64 l]) rfl rfl rfl (by rw [wr_length (by rw [ints_length, hl]; exact Nat.le_of_ble_eq_true rfl)]; exact Nat.le_of_ble_eq_true rfl)).trans fill_nil))) rfl rfl rfl ?_
  refine at_eq (i := 7) (v' := .agg (ints .u8 s ++ [Value.int .i64 l]).toArray) rfl (congrArg (fun x => Value.agg (List.toArray x)) (put_last (by rw [ints_length, hl]) rfl)) ?_
  refine st (ev_func rfl rfl) rfl rfl rfl ?_
  refine st_callv has75 rfl (fun w1 sw => ends_any 76 has76 [.agg (ints .u8 s ++ [Value.int .i64 l]).toArray] [] (.slice none 0 0) [] (fun c => walk (secret s l c) c 0 3) (fun i => walk_len _ _ _ (secret_len s l i)) w1 (rd_nil 32) (fun w2 i _ _ => leafEnd_any s l i w2 hl)) rfl rfl ?_
  have hpl : (pub s l).length = 32 := sha_len _
  refine st_store_all 4 ty39 rfl rfl rfl rfl (by first | omega | (simp only [List.length_append, List.length_cons, List.length_nil, List.length_set, List.length_replicate, List.length_take, List.length_drop, ints_length, wr_length, sha_len, way_len _ (by assumption), secret_len, digits_len] <;> omega) | rfl) (ints_one _ _) (by first | omega | (simp only [List.length_append, List.length_cons, List.length_nil, List.length_set, List.length_replicate, List.length_take, List.length_drop, ints_length, wr_length, sha_len, way_len _ (by assumption), secret_len, digits_len] <;> omega) | rfl) rfl ?_
  refine op_nil ?_
  refine ax_then ?_
  refine At.regs (L' := [(4, _)]) (.cons rfl (.nil _)) ?_
  refine cd_ret ?_
  refine rt_cell (h0 := 4) (.inl rfl) Try.results46 ty39 rfl rfl rfl (by first | omega | (simp only [List.length_append, List.length_cons, List.length_nil, List.length_set, List.length_replicate, List.length_take, List.length_drop, ints_length, wr_length, sha_len, way_len _ (by assumption), secret_len, digits_len] <;> omega) | rfl) ?_
  exact fun w1 sw => ⟨rfl, sw.gives (.nil _)⟩

end Go.Proofs.Yteedclmcgifmpaa

/- Walks: the laws of chapter 3. -/
import Derived.Test.YtobbhelaajcpcaaE6
import Derived.Test.YtobbhelaajcpcaaOts2
namespace Go.Proofs.Ytobbhelaajcpcaa
open Go Go.RowKit Fw
open Sha
open Ots
set_option linter.unusedVariables false
set_option linter.unusedSimpArgs false

theorem rd_nilb {w : World} : Rd w (.slice none 0 0) 1 (ints .u8 []) := ⟨none, 0, 0, rfl, by simp [ints], Nat.le_refl _, fun _ => rfl, fun x hx => by cases hx⟩
theorem recov_sign (s : List Int) (l : Int) (m : List Int) : recov m (sign s l m 36) = pub s l := by
  rw [recov, if_pos (sign_len _ _ _ _)]
  refine ends_congr fun i hi => ?_
  have e1 : (sign s l m 36).getD i [] = walk (secret s l i) i 0 ((Ots.digits m).getD i 0) := by
    rw [sign, List.getD_eq_getElem?_getD, List.getElem?_map, List.getElem?_range hi]
    rfl
  have hr := digits_range m i
  rw [e1]
  generalize (Ots.digits m).getD i 0 = d at *
  obtain ⟨n, rfl⟩ := Int.eq_ofNat_of_zero_le hr.1
  have a1 : (max (0 : Int) 0).toNat = 0 := rfl
  have a2 : (min (n : Int) 3 - max (0 : Int) 0).toNat = n := by omega
  have a3 : (max (n : Int) 0).toNat = n := by omega
  have a4 : (min (3 : Int) 3 - max (n : Int) 0).toNat = 3 - n := by omega
  have a5 : (min (3 : Int) 3 - max (0 : Int) 0).toNat = 3 := rfl
  rw [walk, walk, walk, a1, a2, a3, a4, a5]
  have := way_add i (secret s l i) 0 n (3 - n)
  rw [Nat.zero_add, show n + (3 - n) = 3 by omega] at this
  exact this

set_option maxRecDepth 20000 in
set_option maxHeartbeats 1000000 in
theorem known3_any (w : World) : Calls Try.prog 25 #[] w (PostV w (.bool true)) := by
  refine calls_at (vs := []) (X := []) (H := []) (F := []) 29 Try.func25 rfl rfl rfl (Sat.start0 w) ?_
  refine cd_seq ?_
  refine cd_region ?_
  refine st (ev_assign rfl) rfl rfl rfl ?_
  refine op_nil ?_
  refine ax_then ?_
  refine At.regs (L' := [(0, _)]) (.cons rfl (.nil _)) ?_
  refine cd_seq ?_
  refine cd_region ?_
  refine st_alloc (h := 1) ty24 rfl rfl rfl (fun b1 => ?_)
  refine op_nil ?_
  refine ax_then ?_
  refine At.regs (L' := [(0, _), (1, _)]) (.cons rfl (.cons rfl (.nil _))) ?_
  refine cd_seq ?_
  refine cd_region ?_
  refine st (ld_blk_all (h := 1) ty24 rfl rfl rfl (by first | omega | (simp only [List.length_append, List.length_cons, List.length_nil, List.length_set, List.length_replicate, List.length_take, List.length_drop, ints_length, wr_length, sha_len, way_len _ (by assumption), secret_len, digits_len, recov_len, sign_len] <;> omega) | rfl)) rfl rfl rfl ?_
  refine st_call has29 rfl (fun w1 sw => rn 6 (sign_any (List.replicate 32 0) 0 (.slice none 0 0) [] w1 (by first | rfl | assumption) (by first | decide | omega) rd_nilb)) nil_all rfl rfl (fun v6 _ => ?_)
  have hsu6 := sign_h32 (List.replicate 32 0) 0 [] 36
  have hsn6 := sign_len (List.replicate 32 0) 0 [] 36
  refine st (ev_assign rfl) rfl rfl rfl ?_
  refine op_nil ?_
  refine ax_then ?_
  refine At.regs (L' := [(0, _), (1, _), (2, _)]) (.cons rfl (.cons rfl (.cons rfl (.nil _)))) ?_
  refine cd_seq ?_
  refine cd_region ?_
  refine st (ev_move rfl) rfl rfl rfl ?_
  refine st_callv has26 rfl (fun w1 sw => recover_any (.slice none 0 0) v6 [] (sign (List.replicate 32 0) 0 [] 36) w1 (by decide) hsu6 (by rw [hsn6]; decide) rd_nilb (sw.own_rd (h := 6) rfl)) rfl rfl ?_
  have hrl := recov_len [] (sign (List.replicate 32 0) 0 [] 36)
  refine st (ev_move rfl) rfl rfl rfl ?_
  refine st (ev_extract rfl rfl) rfl rfl rfl ?_
  refine st (ev_extract rfl rfl) rfl rfl rfl ?_
  refine st_alloc (h := 3) ty24 rfl rfl rfl (fun b3 => ?_)
  refine st_store_all 3 ty24 rfl rfl rfl rfl (by first | omega | (simp only [List.length_append, List.length_cons, List.length_nil, List.length_set, List.length_replicate, List.length_take, List.length_drop, ints_length, wr_length, sha_len, way_len _ (by assumption), secret_len, digits_len, recov_len, sign_len] <;> omega) | rfl) (ints_one _ _) (by first | omega | (simp only [List.length_append, List.length_cons, List.length_nil, List.length_set, List.length_replicate, List.length_take, List.length_drop, ints_length, wr_length, sha_len, way_len _ (by assumption), secret_len, digits_len, recov_len, sign_len] <;> omega) | rfl) rfl ?_
  refine st (ev_assign rfl) rfl rfl rfl ?_
  refine op_nil ?_
  refine ax_then ?_
  refine At.regs (L' := [(0, _), (1, _), (2, _), (3, _), (4, _)]) (.cons rfl (.cons rfl (.cons rfl (.cons rfl (.cons rfl (.nil _)))))) ?_
  refine cd_seq ?_
  refine cd_open hmix (by decide +kernel) ?_
  refine qt (ev_move rfl) rfl rfl rfl ?_
  refine qt (ev_len_ownh (h := 6) Try.underlying22 rfl rfl (by assumption)) rfl rfl rfl ?_
  refine qt (ev_eql rfl rfl) rfl rfl rfl ?_
  refine qt (ev_move rfl) rfl rfl rfl ?_
  refine qt_eq (i := 15) (v' := .bool true) rfl (by rw [hsn6]; rfl) ?_
  refine qt (ev_move rfl) rfl rfl rfl ?_
  refine qt (ev_pick_t rfl rfl) rfl rfl rfl ?_
  refine qt (ev_move rfl) rfl rfl rfl ?_
  refine qt_eq (i := 18) (v' := .bool true) rfl (by rw [decide_eq_true hsn6]; rfl) ?_
  refine qt (ld_blk_all (h := 3) ty24 rfl rfl rfl (by first | omega | (simp only [List.length_append, List.length_cons, List.length_nil, List.length_set, List.length_replicate, List.length_take, List.length_drop, ints_length, wr_length, sha_len, way_len _ (by assumption), secret_len, digits_len, recov_len, sign_len] <;> omega) | rfl)) rfl rfl rfl ?_
  refine qt (ld_blk_all (h := 1) ty24 rfl rfl rfl (by first | omega | (simp only [List.length_append, List.length_cons, List.length_nil, List.length_set, List.length_replicate, List.length_take, List.length_drop, ints_length, wr_length, sha_len, way_len _ (by assumption), secret_len, digits_len, recov_len, sign_len] <;> omega) | rfl)) rfl rfl rfl ?_
  refine qt_callv has23 rfl (fun w1 sw => public_any (List.replicate 32 0) 0 w1 rfl) rfl rfl ?_
  have hpl : (pub (List.replicate 32 0) 0).length = 32 := sha_len _
  refine qt (ev_eql_arr Try.underlying24 ty5 eqg24 rfl rfl (by first | omega | (simp only [List.length_append, List.length_cons, List.length_nil, List.length_set, List.length_replicate, List.length_take, List.length_drop, ints_length, wr_length, sha_len, way_len _ (by assumption), secret_len, digits_len, recov_len, sign_len] <;> omega) | rfl) (by first | omega | (simp only [List.length_append, List.length_cons, List.length_nil, List.length_set, List.length_replicate, List.length_take, List.length_drop, ints_length, wr_length, sha_len, way_len _ (by assumption), secret_len, digits_len, recov_len, sign_len] <;> omega) | rfl)) rfl rfl rfl ?_
  refine qt (ev_pick_t rfl rfl) rfl rfl rfl ?_
  refine qt (ev_move rfl) rfl rfl rfl ?_
  refine qt_eq (i := 24) (v' := .bool true) rfl (by rw [recov_sign]; simp) ?_
  refine qt (ld_blk_all (h := 3) ty24 rfl rfl rfl (by first | omega | (simp only [List.length_append, List.length_cons, List.length_nil, List.length_set, List.length_replicate, List.length_take, List.length_drop, ints_length, wr_length, sha_len, way_len _ (by assumption), secret_len, digits_len, recov_len, sign_len] <;> omega) | rfl)) rfl rfl rfl ?_
  refine qt (ld_blk_all (h := 1) ty24 rfl rfl rfl (by first | omega | (simp only [List.length_append, List.length_cons, List.length_nil, List.length_set, List.length_replicate, List.length_take, List.length_drop, ints_length, wr_length, sha_len, way_len _ (by assumption), secret_len, digits_len, recov_len, sign_len] <;> omega) | rfl)) rfl rfl rfl ?_
  refine qt (ev_neq_arr Try.underlying24 ty5 eqg24 rfl rfl (by first | omega | (simp only [List.length_append, List.length_cons, List.length_nil, List.length_set, List.length_replicate, List.length_take, List.length_drop, ints_length, wr_length, sha_len, way_len _ (by assumption), secret_len, digits_len, recov_len, sign_len] <;> omega) | rfl) (by first | omega | (simp only [List.length_append, List.length_cons, List.length_nil, List.length_set, List.length_replicate, List.length_take, List.length_drop, ints_length, wr_length, sha_len, way_len _ (by assumption), secret_len, digits_len, recov_len, sign_len] <;> omega) | rfl)) rfl rfl rfl ?_
  refine qt (ev_pick_t rfl rfl) rfl rfl rfl ?_
  refine qt (ev_assign rfl) rfl rfl rfl ?_
  refine qt_end ?_
  refine op_nil ?_
  refine ax_then ?_
  refine At.regs (L' := [(0, _)]) (.cons rfl (.nil _)) ?_
  refine cd_ret ?_
  refine rt_tmp (.inl rfl) Try.results25 rfl ?_
  exact fun w1 sw => ⟨by rw [recov_sign, decide_eq_true pub0], sw.gives (.nil _)⟩

theorem walk_two (h : List Int) (c a b : Int) (h0 : 0 ≤ a) (h1 : a ≤ b) (h2 : b ≤ 3) : walk (walk h c a b) c b 3 = walk h c a 3 := by
  obtain ⟨n, rfl⟩ := Int.eq_ofNat_of_zero_le h0
  obtain ⟨m, rfl⟩ := Int.eq_ofNat_of_zero_le (show 0 ≤ b by omega)
  have a1 : (max (n : Int) 0).toNat = n := by omega
  have a2 : (max (m : Int) 0).toNat = m := by omega
  have a3 : (min (m : Int) 3 - max (n : Int) 0).toNat = m - n := by omega
  have a4 : (min (3 : Int) 3 - max (m : Int) 0).toNat = 3 - m := by omega
  have a5 : (min (3 : Int) 3 - max (n : Int) 0).toNat = 3 - n := by omega
  rw [walk, walk, walk, a1, a2, a3, a4, a5]
  have := way_add c h n (m - n) (3 - m)
  rw [show n + (m - n) = m by omega, show m - n + (3 - m) = 3 - n by omega] at this
  exact this
theorem walk_none (h : List Int) (c a b : Int) (h1 : min b 3 ≤ max a 0) : walk h c a b = h := by
  rw [walk, show (min b 3 - max a 0).toNat = 0 by omega]
  rfl

set_option maxRecDepth 20000 in
set_option maxHeartbeats 1000000 in
theorem otsWalks_any (h0 : List Int) (c a b : Int) (w : World) (hl : h0.length = 32) (hb : a ≤ 9223372036854775807 ∧ b ≤ 9223372036854775807) : Calls Try.prog 8 #[.agg (ints .u8 (h0)).toArray, .int .i64 c, .int .i64 a, .int .i64 b] w (PostV w (.bool true)) := by
  refine calls_at (vs := [.agg (ints .u8 (h0)).toArray, .int .i64 c, .int .i64 a, .int .i64 b]) (X := []) (H := []) (F := []) 52 Try.func8 rfl rfl rfl (Sat.start0 w) ?_
  refine cd_seq ?_
  refine cd_region ?_
  refine st_box (h := 4) rfl rfl rfl rfl (fun b4 => ?_)
  refine st (ev_assign rfl) rfl rfl rfl ?_
  refine op_nil ?_
  refine ax_then ?_
  refine At.regs (L' := [(1, _), (2, _), (3, _), (4, _), (8, _)]) (.cons rfl (.cons rfl (.cons rfl (.cons rfl (.cons rfl (.nil _)))))) ?_
  refine cd_seq ?_
  refine cd_seq ?_
  refine cd_region ?_
  refine st (ev_move rfl) rfl rfl rfl ?_
  refine st (ev_lss rfl rfl) rfl rfl rfl ?_
  refine st (ev_move rfl) rfl rfl rfl ?_
  refine at_split_if (i := 11) rfl (fun hg11 => ?_) (fun hg11 => ?_)
  ·
    refine st_skip rfl rfl rfl ?_
    refine st_skip rfl rfl rfl ?_
    refine st_skip rfl rfl rfl ?_
    refine st (ev_pick_t rfl rfl) rfl rfl rfl ?_
    refine st (ev_move rfl) rfl rfl rfl ?_
    refine st_skip rfl rfl rfl ?_
    refine st_skip rfl rfl rfl ?_
    refine st (ev_pick_t rfl rfl) rfl rfl rfl ?_
    refine op_nil ?_
    refine ax_then ?_
    refine At.regs (L' := [(1, _), (2, _), (3, _), (4, _), (8, _), (19, _)]) (.cons rfl (.cons rfl (.cons rfl (.cons rfl (.cons rfl (.cons rfl (.nil _))))))) ?_
    refine cd_true rfl ?_
    refine cd_seq ?_
    refine cd_region ?_
    refine st (ev_assign rfl) rfl rfl rfl ?_
    refine op_nil ?_
    refine ax_then ?_
    refine At.regs (L' := [(1, _), (2, _), (3, _), (4, _), (8, _)]) (.cons rfl (.cons rfl (.cons rfl (.cons rfl (.cons rfl (.nil _)))))) ?_
    refine cd_ret ?_
    refine ax_then_ret ?_
    refine rt_tmp (.inl rfl) Try.results8 rfl ?_
    exact fun w1 sw => ⟨rfl, sw.gives (.nil _)⟩
  ·
    refine st (ev_move rfl) rfl rfl rfl ?_
    refine st (ev_move rfl) rfl rfl rfl ?_
    refine st (ev_gtr rfl rfl) rfl rfl rfl ?_
    refine st (ev_pick_f rfl rfl) rfl rfl rfl ?_
    refine st (ev_move rfl) rfl rfl rfl ?_
    refine at_split_if (i := 16) rfl (fun hg16 => ?_) (fun hg16 => ?_)
    ·
      refine st_skip rfl rfl rfl ?_
      refine st_skip rfl rfl rfl ?_
      refine st (ev_pick_t rfl rfl) rfl rfl rfl ?_
      refine op_nil ?_
      refine ax_then ?_
      refine At.regs (L' := [(1, _), (2, _), (3, _), (4, _), (8, _), (19, _)]) (.cons rfl (.cons rfl (.cons rfl (.cons rfl (.cons rfl (.cons rfl (.nil _))))))) ?_
      refine cd_true rfl ?_
      refine cd_seq ?_
      refine cd_region ?_
      refine st (ev_assign rfl) rfl rfl rfl ?_
      refine op_nil ?_
      refine ax_then ?_
      refine At.regs (L' := [(1, _), (2, _), (3, _), (4, _), (8, _)]) (.cons rfl (.cons rfl (.cons rfl (.cons rfl (.cons rfl (.nil _)))))) ?_
      refine cd_ret ?_
      refine ax_then_ret ?_
      refine rt_tmp (.inl rfl) Try.results8 rfl ?_
      exact fun w1 sw => ⟨rfl, sw.gives (.nil _)⟩
    ·
      refine st (ev_move rfl) rfl rfl rfl ?_
      refine st (ev_gtr rfl rfl) rfl rfl rfl ?_
      refine st (ev_pick_f rfl rfl) rfl rfl rfl ?_
      refine op_nil ?_
      refine ax_then ?_
      refine At.regs (L' := [(1, _), (2, _), (3, _), (4, _), (8, _), (19, _)]) (.cons rfl (.cons rfl (.cons rfl (.cons rfl (.cons rfl (.cons rfl (.nil _))))))) ?_
      refine cd_if rfl (fun hc19 => ?_) (fun hc19 => ?_)
      ·
        refine cd_seq ?_
        refine cd_region ?_
        refine st (ev_assign rfl) rfl rfl rfl ?_
        refine op_nil ?_
        refine ax_then ?_
        refine At.regs (L' := [(1, _), (2, _), (3, _), (4, _), (8, _)]) (.cons rfl (.cons rfl (.cons rfl (.cons rfl (.cons rfl (.nil _)))))) ?_
        refine cd_ret ?_
        refine ax_then_ret ?_
        refine rt_tmp (.inl rfl) Try.results8 rfl ?_
        exact fun w1 sw => ⟨rfl, sw.gives (.nil _)⟩
      ·
        refine cd_skip ?_
        refine ax_then ?_
        refine At.regs (L' := [(1, _), (2, _), (3, _), (4, _), (8, _)]) (.cons rfl (.cons rfl (.cons rfl (.cons rfl (.cons rfl (.nil _)))))) ?_
        refine cd_seq ?_
        refine cd_open hmix (by decide +kernel) ?_
        refine qt (ld_blk_all (h := 4) ty24 rfl rfl rfl (by first | omega | (simp only [List.length_append, List.length_cons, List.length_nil, List.length_set, List.length_replicate, List.length_take, List.length_drop, ints_length, wr_length, sha_len, way_len _ (by assumption), secret_len, digits_len, recov_len, sign_len] <;> omega) | rfl)) rfl rfl rfl ?_
        refine qt (ev_move rfl) rfl rfl rfl ?_
        refine qt (ev_move rfl) rfl rfl rfl ?_
        refine qt (ev_move rfl) rfl rfl rfl ?_
        refine qt_callv has19 rfl (fun w1 sw => walk_any h0 c a b w1 hl hb.1) rfl rfl ?_
        have hwl24 := walk_len c a b hl
        refine qt (ev_move rfl) rfl rfl rfl ?_
        refine qt (ev_move rfl) rfl rfl rfl ?_
        refine qt_callv has19 rfl (fun w1 sw => walk_any (walk h0 c a b) c b 3 w1 (walk_len c a b hl) hb.2) rfl rfl ?_
        have hwl27 := walk_len c b 3 hwl24
        refine qt (ld_blk_all (h := 4) ty24 rfl rfl rfl (by first | omega | (simp only [List.length_append, List.length_cons, List.length_nil, List.length_set, List.length_replicate, List.length_take, List.length_drop, ints_length, wr_length, sha_len, way_len _ (by assumption), secret_len, digits_len, recov_len, sign_len] <;> omega) | rfl)) rfl rfl rfl ?_
        refine qt (ev_move rfl) rfl rfl rfl ?_
        refine qt (ev_move rfl) rfl rfl rfl ?_
        refine qt_callv has19 rfl (fun w1 sw => walk_any h0 c a 3 w1 hl hb.1) rfl rfl ?_
        have hwl31 := walk_len c a 3 hl
        refine qt (ev_eql_arr Try.underlying24 ty5 eqg24 rfl rfl (by first | omega | (simp only [List.length_append, List.length_cons, List.length_nil, List.length_set, List.length_replicate, List.length_take, List.length_drop, ints_length, wr_length, sha_len, way_len _ (by assumption), secret_len, digits_len, recov_len, sign_len] <;> omega) | rfl) (by first | omega | (simp only [List.length_append, List.length_cons, List.length_nil, List.length_set, List.length_replicate, List.length_take, List.length_drop, ints_length, wr_length, sha_len, way_len _ (by assumption), secret_len, digits_len, recov_len, sign_len] <;> omega) | rfl)) rfl rfl rfl ?_
        refine qt (ev_move rfl) rfl rfl rfl ?_
        refine qt_eq (i := 33) (v' := .bool true) rfl (by rw [walk_two h0 c a b (by omega) (by omega) (by omega)]; simp) ?_
        refine qt (ld_blk_all (h := 4) ty24 rfl rfl rfl (by first | omega | (simp only [List.length_append, List.length_cons, List.length_nil, List.length_set, List.length_replicate, List.length_take, List.length_drop, ints_length, wr_length, sha_len, way_len _ (by assumption), secret_len, digits_len, recov_len, sign_len] <;> omega) | rfl)) rfl rfl rfl ?_
        refine qt (ev_move rfl) rfl rfl rfl ?_
        refine qt (ev_move rfl) rfl rfl rfl ?_
        refine qt (ev_move rfl) rfl rfl rfl ?_
        refine qt_callv has19 rfl (fun w1 sw => walk_any h0 c b a w1 hl hb.2) rfl rfl ?_
        have hwl38 := walk_len c b a hl
        refine qt (ld_blk_all (h := 4) ty24 rfl rfl rfl (by first | omega | (simp only [List.length_append, List.length_cons, List.length_nil, List.length_set, List.length_replicate, List.length_take, List.length_drop, ints_length, wr_length, sha_len, way_len _ (by assumption), secret_len, digits_len, recov_len, sign_len] <;> omega) | rfl)) rfl rfl rfl ?_
        refine qt (ev_eql_arr Try.underlying24 ty5 eqg24 rfl rfl (by first | omega | (simp only [List.length_append, List.length_cons, List.length_nil, List.length_set, List.length_replicate, List.length_take, List.length_drop, ints_length, wr_length, sha_len, way_len _ (by assumption), secret_len, digits_len, recov_len, sign_len] <;> omega) | rfl) (by first | omega | (simp only [List.length_append, List.length_cons, List.length_nil, List.length_set, List.length_replicate, List.length_take, List.length_drop, ints_length, wr_length, sha_len, way_len _ (by assumption), secret_len, digits_len, recov_len, sign_len] <;> omega) | rfl)) rfl rfl rfl ?_
        refine qt (ev_pick_t rfl rfl) rfl rfl rfl ?_
        refine qt (ev_move rfl) rfl rfl rfl ?_
        refine qt_eq (i := 42) (v' := .bool true) rfl (by rw [walk_none h0 c b a (by omega)]; simp) ?_
        refine qt (ld_blk_all (h := 4) ty24 rfl rfl rfl (by first | omega | (simp only [List.length_append, List.length_cons, List.length_nil, List.length_set, List.length_replicate, List.length_take, List.length_drop, ints_length, wr_length, sha_len, way_len _ (by assumption), secret_len, digits_len, recov_len, sign_len] <;> omega) | rfl)) rfl rfl rfl ?_
        refine qt (ev_move rfl) rfl rfl rfl ?_
        refine qt_callv has19 rfl (fun w1 sw => walk_any h0 c 3 99 w1 hl (by decide)) rfl rfl ?_
        have hwl45 := walk_len c 3 99 hl
        refine qt (ld_blk_all (h := 4) ty24 rfl rfl rfl (by first | omega | (simp only [List.length_append, List.length_cons, List.length_nil, List.length_set, List.length_replicate, List.length_take, List.length_drop, ints_length, wr_length, sha_len, way_len _ (by assumption), secret_len, digits_len, recov_len, sign_len] <;> omega) | rfl)) rfl rfl rfl ?_
        refine qt (ev_eql_arr Try.underlying24 ty5 eqg24 rfl rfl (by first | omega | (simp only [List.length_append, List.length_cons, List.length_nil, List.length_set, List.length_replicate, List.length_take, List.length_drop, ints_length, wr_length, sha_len, way_len _ (by assumption), secret_len, digits_len, recov_len, sign_len] <;> omega) | rfl) (by first | omega | (simp only [List.length_append, List.length_cons, List.length_nil, List.length_set, List.length_replicate, List.length_take, List.length_drop, ints_length, wr_length, sha_len, way_len _ (by assumption), secret_len, digits_len, recov_len, sign_len] <;> omega) | rfl)) rfl rfl rfl ?_
        refine qt (ev_pick_t rfl rfl) rfl rfl rfl ?_
        refine qt (ev_move rfl) rfl rfl rfl ?_
        refine qt_eq (i := 49) (v' := .bool true) rfl (by rw [walk_none h0 c 3 99 (by decide)]; simp) ?_
        refine qt_callv has25 rfl (fun w1 sw => known3_any w1) rfl rfl ?_
        refine qt (ev_pick_t rfl rfl) rfl rfl rfl ?_
        refine qt (ev_assign rfl) rfl rfl rfl ?_
        refine qt_end ?_
        refine op_nil ?_
        refine ax_then ?_
        refine At.regs (L' := [(8, _)]) (.cons rfl (.nil _)) ?_
        refine cd_ret ?_
        refine rt_tmp (.inl rfl) Try.results8 rfl ?_
        exact fun w1 sw => ⟨rfl, sw.gives (.nil _)⟩

end Go.Proofs.Ytobbhelaajcpcaa

/- Walks: the laws of chapter 3. -/
import Derived.Test.YtobbhelaajcpcaaE8
import Derived.Test.YtobbhelaajcpcaaOts3
namespace Go.Proofs.Ytobbhelaajcpcaa
open Go Go.RowKit Fw
open Sha
open Ots
set_option linter.unusedVariables false
set_option linter.unusedSimpArgs false

set_option maxRecDepth 20000 in
set_option maxHeartbeats 2000000 in
theorem otsSigns_any (s : List Int) (l : Int) (p q : Value) (m : List Int) (cs : List (List Int)) (w : World) (hl : s.length = 32) (hm0 : m.length ≤ 140737488351232) (hu : H32 cs) (hcl : cs.length ≤ 4398046511104) (h : Rd w p 1 (ints .u8 m)) (h' : Rd w q 32 (flat cs)) : Calls Try.prog 5 #[.agg (ints .u8 (s)).toArray, .int .i64 l, p, q] w (PostV w (.bool true)) := by
  refine calls_at (vs := [.agg (ints .u8 (s)).toArray, .int .i64 l, p, q]) (X := []) (H := []) (F := [(3, .sl q 32 (flat (cs))), (2, .sl p 1 (ints .u8 (m)))]) 55 Try.func5 rfl rfl rfl ((Sat.rd0 2 h).more 3 h') ?_
  refine cd_seq ?_
  refine cd_region ?_
  refine st_box (h := 4) rfl rfl rfl rfl (fun b4 => ?_)
  refine st (ev_assign rfl) rfl rfl rfl ?_
  refine op_nil ?_
  refine ax_then ?_
  refine At.regs (L' := [(1, _), (2, _), (3, _), (4, _), (8, _)]) (.cons rfl (.cons rfl (.cons rfl (.cons rfl (.cons rfl (.nil _)))))) ?_
  refine cd_seq ?_
  refine cd_seq ?_
  refine cd_region ?_
  refine st (ev_move rfl) rfl rfl rfl ?_
  refine st (ev_len_rdi (h := 2) Try.underlying28 rfl rfl) rfl rfl rfl ?_
  refine st (ev_gtr rfl rfl) rfl rfl rfl ?_
  refine st (ev_move rfl) rfl rfl rfl ?_
  refine at_split_if (i := 16) rfl (fun hg16 => ?_) (fun hg16 => ?_)
  ·
    refine st_skip rfl rfl rfl ?_
    refine st_skip rfl rfl rfl ?_
    refine st_skip rfl rfl rfl ?_
    refine st (ev_pick_t rfl rfl) rfl rfl rfl ?_
    refine op_nil ?_
    refine ax_then ?_
    refine At.regs (L' := [(1, _), (2, _), (3, _), (4, _), (8, _), (20, _)]) (.cons rfl (.cons rfl (.cons rfl (.cons rfl (.cons rfl (.cons rfl (.nil _))))))) ?_
    refine cd_true rfl ?_
    refine cd_seq ?_
    refine cd_region ?_
    refine st (ev_assign rfl) rfl rfl rfl ?_
    refine op_nil ?_
    refine ax_then ?_
    refine At.regs (L' := [(1, _), (2, _), (3, _), (4, _), (8, _)]) (.cons rfl (.cons rfl (.cons rfl (.cons rfl (.cons rfl (.nil _)))))) ?_
    refine cd_ret ?_
    refine ax_then_ret ?_
    refine rt_tmp (.inl rfl) Try.results5 rfl ?_
    exact fun w1 sw => ⟨rfl, sw.gives (.nil _)⟩
  ·
    refine st (ev_move rfl) rfl rfl rfl ?_
    refine st (ev_len_rdh (h := 3) Try.underlying22 rfl rfl (by assumption)) rfl rfl rfl ?_
    refine st (ev_gtr rfl rfl) rfl rfl rfl ?_
    refine st (ev_pick_f rfl rfl) rfl rfl rfl ?_
    refine op_nil ?_
    refine ax_then ?_
    refine At.regs (L' := [(1, _), (2, _), (3, _), (4, _), (8, _), (20, _)]) (.cons rfl (.cons rfl (.cons rfl (.cons rfl (.cons rfl (.cons rfl (.nil _))))))) ?_
    refine cd_if rfl (fun hc20 => ?_) (fun hc20 => ?_)
    ·
      refine cd_seq ?_
      refine cd_region ?_
      refine st (ev_assign rfl) rfl rfl rfl ?_
      refine op_nil ?_
      refine ax_then ?_
      refine At.regs (L' := [(1, _), (2, _), (3, _), (4, _), (8, _)]) (.cons rfl (.cons rfl (.cons rfl (.cons rfl (.cons rfl (.nil _)))))) ?_
      refine cd_ret ?_
      refine ax_then_ret ?_
      refine rt_tmp (.inl rfl) Try.results5 rfl ?_
      exact fun w1 sw => ⟨rfl, sw.gives (.nil _)⟩
    ·
      refine cd_skip ?_
      refine ax_then ?_
      refine At.regs (L' := [(1, _), (2, _), (3, _), (4, _), (8, _)]) (.cons rfl (.cons rfl (.cons rfl (.cons rfl (.cons rfl (.nil _)))))) ?_
      refine cd_seq ?_
      refine cd_region ?_
      refine st (ev_move rfl) rfl rfl rfl ?_
      refine st (ev_move rfl) rfl rfl rfl ?_
      refine st_callv has26 rfl (fun w1 sw => recover_any p q m cs w1 (by omega) hu (by omega) (sw.sl_rd (h := 2) rfl) (sw.sl_rd (h := 3) rfl)) rfl rfl ?_
      have hrl := recov_len m cs
      refine st (ev_move rfl) rfl rfl rfl ?_
      refine st (ev_extract rfl rfl) rfl rfl rfl ?_
      refine st (ev_extract rfl rfl) rfl rfl rfl ?_
      refine st_alloc (h := 9) ty24 rfl rfl rfl (fun b9 => ?_)
      refine st_store_all 9 ty24 rfl rfl rfl rfl (by first | omega | (simp only [List.length_append, List.length_cons, List.length_nil, List.length_set, List.length_replicate, List.length_take, List.length_drop, ints_length, wr_length, sha_len, way_len _ (by assumption), secret_len, digits_len, recov_len, sign_len] <;> omega) | rfl) (ints_one _ _) (by first | omega | (simp only [List.length_append, List.length_cons, List.length_nil, List.length_set, List.length_replicate, List.length_take, List.length_drop, ints_length, wr_length, sha_len, way_len _ (by assumption), secret_len, digits_len, recov_len, sign_len] <;> omega) | rfl) rfl ?_
      refine st (ev_assign rfl) rfl rfl rfl ?_
      refine op_nil ?_
      refine ax_then ?_
      refine At.regs (L' := [(1, _), (2, _), (3, _), (4, _), (8, _), (9, _), (10, _)]) (.cons rfl (.cons rfl (.cons rfl (.cons rfl (.cons rfl (.cons rfl (.cons rfl (.nil _)))))))) ?_
      refine cd_seq ?_
      refine cd_region ?_
      refine st (ev_move rfl) rfl rfl rfl ?_
      refine st (ev_move rfl) rfl rfl rfl ?_
      refine st_callv has27 rfl (fun w1 sw => rrecover_any p q m cs w1 (by omega) hu (by omega) (sw.sl_rd (h := 2) rfl) (sw.sl_rd (h := 3) rfl)) rfl rfl ?_
      refine st (ev_move rfl) rfl rfl rfl ?_
      refine st (ev_extract rfl rfl) rfl rfl rfl ?_
      refine st (ev_extract rfl rfl) rfl rfl rfl ?_
      refine st_alloc (h := 11) ty24 rfl rfl rfl (fun b11 => ?_)
      refine st_store_all 11 ty24 rfl rfl rfl rfl (by first | omega | (simp only [List.length_append, List.length_cons, List.length_nil, List.length_set, List.length_replicate, List.length_take, List.length_drop, ints_length, wr_length, sha_len, way_len _ (by assumption), secret_len, digits_len, recov_len, sign_len] <;> omega) | rfl) (ints_one _ _) (by first | omega | (simp only [List.length_append, List.length_cons, List.length_nil, List.length_set, List.length_replicate, List.length_take, List.length_drop, ints_length, wr_length, sha_len, way_len _ (by assumption), secret_len, digits_len, recov_len, sign_len] <;> omega) | rfl) rfl ?_
      refine st (ev_assign rfl) rfl rfl rfl ?_
      refine op_nil ?_
      refine ax_then ?_
      refine At.regs (L' := [(1, _), (2, _), (4, _), (8, _), (9, _), (10, _), (11, _), (12, _)]) (.cons rfl (.cons rfl (.cons rfl (.cons rfl (.cons rfl (.cons rfl (.cons rfl (.cons rfl (.nil _))))))))) ?_
      refine cd_seq ?_
      refine at_freeze_blk (h := 4) (H' := [(9, _), (11, _)]) 4 rfl (.cons rfl (.cons rfl (.nil _))) rfl ?_
      refine at_freeze_blk (h := 9) (H' := [(11, _)]) 9 rfl (.cons rfl (.nil _)) rfl ?_
      refine at_freeze_blk (h := 11) (H' := []) 11 rfl (.nil _) rfl ?_
      refine cd_mix hmix ?_
      refine mx (i := 0) rfl (by decide +kernel) (by decide +kernel) (by decide +kernel) rfl (fun w0 => ld_mem_all (h := 4) ty24 rfl rfl rfl (by first | omega | (simp only [List.length_append, List.length_cons, List.length_nil, List.length_set, List.length_replicate, List.length_take, List.length_drop, ints_length, wr_length, sha_len, way_len _ (by assumption), secret_len, digits_len, recov_len, sign_len] <;> omega) | rfl)) rfl rfl (Sub.refl _) ?_
      refine mx (i := 1) rfl (by decide +kernel) (by decide +kernel) (by decide +kernel) rfl (fun w0 => ev_move rfl) rfl rfl (Sub.refl _) ?_
      refine mx (i := 2) rfl (by decide +kernel) (by decide +kernel) (by decide +kernel) rfl (fun w0 => ev_move rfl) rfl rfl (Sub.refl _) ?_
      refine mx (i := 4) rfl (by decide +kernel) (by decide +kernel) (by decide +kernel) rfl (fun w0 => ld_mem_all (h := 4) ty24 rfl rfl rfl (by first | omega | (simp only [List.length_append, List.length_cons, List.length_nil, List.length_set, List.length_replicate, List.length_take, List.length_drop, ints_length, wr_length, sha_len, way_len _ (by assumption), secret_len, digits_len, recov_len, sign_len] <;> omega) | rfl)) rfl rfl (Sub.refl _) ?_
      refine mx (i := 5) rfl (by decide +kernel) (by decide +kernel) (by decide +kernel) rfl (fun w0 => ev_move rfl) rfl rfl (Sub.refl _) ?_
      refine mx (i := 6) rfl (by decide +kernel) (by decide +kernel) (by decide +kernel) rfl (fun w0 => ev_move rfl) rfl rfl (Sub.refl _) ?_
      refine mx_one (i := 3) (by decide +kernel) (Sub.refl _) ?_
      refine wo (i := 3) rfl ?_
      refine st_call has29 rfl (fun w1 sw => rn 36 (sign_any s l p m w1 (by first | rfl | assumption) (by first | decide | omega) (sw.sl_rd (h := 2) rfl))) nil_all rfl rfl (fun v36 _ => ?_)
      have hsu36 := sign_h32 s l m 36
      have hsn36 := sign_len s l m 36
      refine op_nil ?_
      refine ax_then ?_
      refine mx_one (i := 7) (by decide +kernel) (Sub.refl _) ?_
      refine wo (i := 7) rfl ?_
      refine st_call has30 rfl (fun w1 sw => rn 40 (rsign_any s l p m w1 (by first | rfl | assumption) (by first | decide | omega) (sw.sl_rd (h := 2) rfl))) nil_all rfl rfl (fun v40 _ => ?_)
      have hsu40 := sign_h32 s l m 36
      have hsn40 := sign_len s l m 36
      refine op_nil ?_
      refine ax_then ?_
      refine mx_one (i := 8) (by decide +kernel) (Sub.refl _) ?_
      refine wo (i := 8) rfl ?_
      refine st_callv has28 rfl (fun w1 sw => hashes_any v36 v40 (sign s l m 36) (sign s l m 36) w1 hsu36 hsu40 (by rw [hsn36]; decide) (by rw [hsn40]; decide) (sw.own_rd (h := 36) rfl) (sw.own_rd (h := 40) rfl)) rfl rfl ?_
      refine op_nil ?_
      refine ax_then ?_
      refine mx (i := 9) rfl (by decide +kernel) (by decide +kernel) (by decide +kernel) rfl (fun w0 => ev_move rfl) rfl rfl (Sub.refl _) ?_
      refine at_eq (i := 42) (v' := .bool true) rfl (by simp) ?_
      refine mx (i := 10) rfl (by decide +kernel) (by decide +kernel) (by decide +kernel) rfl (fun w0 => ld_mem_all (h := 9) ty24 rfl rfl rfl (by first | omega | (simp only [List.length_append, List.length_cons, List.length_nil, List.length_set, List.length_replicate, List.length_take, List.length_drop, ints_length, wr_length, sha_len, way_len _ (by assumption), secret_len, digits_len, recov_len, sign_len] <;> omega) | rfl)) rfl rfl (Sub.refl _) ?_
      refine mx (i := 11) rfl (by decide +kernel) (by decide +kernel) (by decide +kernel) rfl (fun w0 => ld_mem_all (h := 11) ty24 rfl rfl rfl (by first | omega | (simp only [List.length_append, List.length_cons, List.length_nil, List.length_set, List.length_replicate, List.length_take, List.length_drop, ints_length, wr_length, sha_len, way_len _ (by assumption), secret_len, digits_len, recov_len, sign_len] <;> omega) | rfl)) rfl rfl (Sub.refl _) ?_
      refine mx (i := 12) rfl (by decide +kernel) (by decide +kernel) (by decide +kernel) rfl (fun w0 => ev_eql_arr Try.underlying24 ty5 eqg24 rfl rfl (by first | omega | (simp only [List.length_append, List.length_cons, List.length_nil, List.length_set, List.length_replicate, List.length_take, List.length_drop, ints_length, wr_length, sha_len, way_len _ (by assumption), secret_len, digits_len, recov_len, sign_len] <;> omega) | rfl) (by first | omega | (simp only [List.length_append, List.length_cons, List.length_nil, List.length_set, List.length_replicate, List.length_take, List.length_drop, ints_length, wr_length, sha_len, way_len _ (by assumption), secret_len, digits_len, recov_len, sign_len] <;> omega) | rfl)) rfl rfl (Sub.refl _) ?_
      refine mx (i := 13) rfl (by decide +kernel) (by decide +kernel) (by decide +kernel) rfl (fun w0 => ev_pick_t rfl rfl) rfl rfl (Sub.refl _) ?_
      refine mx (i := 14) rfl (by decide +kernel) (by decide +kernel) (by decide +kernel) rfl (fun w0 => ev_move rfl) rfl rfl (Sub.refl _) ?_
      refine at_eq (i := 47) (v' := .bool true) rfl (by simp) ?_
      refine mx (i := 15) rfl (by decide +kernel) (by decide +kernel) (by decide +kernel) rfl (fun w0 => ev_move rfl) rfl rfl (Sub.refl _) ?_
      refine mx (i := 16) rfl (by decide +kernel) (by decide +kernel) (by decide +kernel) rfl (fun w0 => ev_move rfl) rfl rfl (Sub.refl _) ?_
      refine mx (i := 17) rfl (by decide +kernel) (by decide +kernel) (by decide +kernel) rfl (fun w0 => ev_eql_bool Try.underlying4 rfl rfl) rfl rfl (Sub.refl _) ?_
      refine mx (i := 18) rfl (by decide +kernel) (by decide +kernel) (by decide +kernel) rfl (fun w0 => ev_pick_t rfl rfl) rfl rfl (Sub.refl _) ?_
      refine mx (i := 19) rfl (by decide +kernel) (by decide +kernel) (by decide +kernel) rfl (fun w0 => ev_move rfl) rfl rfl (Sub.refl _) ?_
      refine at_eq (i := 52) (v' := .bool true) rfl (by simp) ?_
      refine mx_one (i := 20) (by decide +kernel) (Sub.refl _) ?_
      refine wo (i := 20) rfl ?_
      refine st_callv has25 rfl (fun w1 sw => known3_any w1) rfl rfl ?_
      refine op_nil ?_
      refine ax_then ?_
      refine mx (i := 21) rfl (by decide +kernel) (by decide +kernel) (by decide +kernel) rfl (fun w0 => ev_pick_t rfl rfl) rfl rfl (Sub.refl _) ?_
      refine mx (i := 22) rfl (by decide +kernel) (by decide +kernel) (by decide +kernel) rfl (fun w0 => ev_assign rfl) rfl rfl (Sub.refl _) ?_
      refine mx_done (by decide +kernel) (Sub.refl _) ?_
      refine ax_then ?_
      refine At.regs (L' := [(8, _)]) (.cons rfl (.nil _)) ?_
      refine cd_ret ?_
      refine rt_tmp (.inl rfl) Try.results5 rfl ?_
      exact fun w1 sw => ⟨rfl, sw.gives (.nil _)⟩

set_option maxRecDepth 20000 in
set_option maxHeartbeats 2000000 in
theorem otsDigits_any (p q : Value) (a b : List Int) (w : World) (ha0 : a.length ≤ 140737488351232) (hb0 : b.length ≤ 140737488351232) (h : Rd w p 1 (ints .u8 a)) (h' : Rd w q 1 (ints .u8 b)) : Calls Try.prog 7 #[p, q] w (PostV w (.bool true)) := by
  refine calls_at (vs := [p, q]) (X := []) (H := []) (F := [(1, .sl q 1 (ints .u8 (b))), (0, .sl p 1 (ints .u8 (a)))]) 62 Try.func7 rfl rfl rfl ((Sat.rd0 0 h).more 1 h') ?_
  refine cd_seq ?_
  refine cd_region ?_
  refine st (ev_assign rfl) rfl rfl rfl ?_
  refine op_nil ?_
  refine ax_then ?_
  refine At.regs (L' := [(0, _), (1, _), (4, _)]) (.cons rfl (.cons rfl (.cons rfl (.nil _)))) ?_
  refine cd_seq ?_
  refine cd_seq ?_
  refine cd_region ?_
  refine st (ev_move rfl) rfl rfl rfl ?_
  refine st (ev_len_rdi (h := 0) Try.underlying28 rfl rfl) rfl rfl rfl ?_
  refine st (ev_gtr rfl rfl) rfl rfl rfl ?_
  refine st (ev_move rfl) rfl rfl rfl ?_
  refine at_split_if (i := 13) rfl (fun hg13 => ?_) (fun hg13 => ?_)
  ·
    refine st_skip rfl rfl rfl ?_
    refine st_skip rfl rfl rfl ?_
    refine st_skip rfl rfl rfl ?_
    refine st (ev_pick_t rfl rfl) rfl rfl rfl ?_
    refine op_nil ?_
    refine ax_then ?_
    refine At.regs (L' := [(0, _), (1, _), (4, _), (17, _)]) (.cons rfl (.cons rfl (.cons rfl (.cons rfl (.nil _))))) ?_
    refine cd_true rfl ?_
    refine cd_seq ?_
    refine cd_region ?_
    refine st (ev_assign rfl) rfl rfl rfl ?_
    refine op_nil ?_
    refine ax_then ?_
    refine At.regs (L' := [(0, _), (1, _), (4, _)]) (.cons rfl (.cons rfl (.cons rfl (.nil _)))) ?_
    refine cd_ret ?_
    refine ax_then_ret ?_
    refine rt_tmp (.inl rfl) Try.results7 rfl ?_
    exact fun w1 sw => ⟨rfl, sw.gives (.nil _)⟩
  ·
    refine st (ev_move rfl) rfl rfl rfl ?_
    refine st (ev_len_rdi (h := 1) Try.underlying28 rfl rfl) rfl rfl rfl ?_
    refine st (ev_gtr rfl rfl) rfl rfl rfl ?_
    refine st (ev_pick_f rfl rfl) rfl rfl rfl ?_
    refine op_nil ?_
    refine ax_then ?_
    refine At.regs (L' := [(0, _), (1, _), (4, _), (17, _)]) (.cons rfl (.cons rfl (.cons rfl (.cons rfl (.nil _))))) ?_
    refine cd_if rfl (fun hc17 => ?_) (fun hc17 => ?_)
    ·
      refine cd_seq ?_
      refine cd_region ?_
      refine st (ev_assign rfl) rfl rfl rfl ?_
      refine op_nil ?_
      refine ax_then ?_
      refine At.regs (L' := [(0, _), (1, _), (4, _)]) (.cons rfl (.cons rfl (.cons rfl (.nil _)))) ?_
      refine cd_ret ?_
      refine ax_then_ret ?_
      refine rt_tmp (.inl rfl) Try.results7 rfl ?_
      exact fun w1 sw => ⟨rfl, sw.gives (.nil _)⟩
    ·
      refine cd_skip ?_
      refine ax_then ?_
      refine At.regs (L' := [(0, _), (1, _), (4, _)]) (.cons rfl (.cons rfl (.cons rfl (.nil _)))) ?_
      refine cd_seq ?_
      refine cd_region ?_
      refine st (ev_move rfl) rfl rfl rfl ?_
      refine st_callv has17 rfl (fun w1 sw => digits_any p a w1 (by omega) (sw.sl_rd (h := 0) rfl)) rfl rfl ?_
      have hda := digits_len a
      refine st (ev_move rfl) rfl rfl rfl ?_
      refine st_callv has17 rfl (fun w1 sw => digits_any q b w1 (by omega) (sw.sl_rd (h := 1) rfl)) rfl rfl ?_
      have hdb := digits_len b
      refine st_alloc (h := 5) ty29 rfl rfl rfl (fun b5 => ?_)
      refine st_alloc (h := 6) ty29 rfl rfl rfl (fun b6 => ?_)
      refine st_store_all 5 ty29 rfl rfl rfl rfl (by first | omega | (simp only [List.length_append, List.length_cons, List.length_nil, List.length_set, List.length_replicate, List.length_take, List.length_drop, ints_length, wr_length, sha_len, way_len _ (by assumption), secret_len, digits_len, recov_len, sign_len] <;> omega) | rfl) (ints_one _ _) (by first | omega | (simp only [List.length_append, List.length_cons, List.length_nil, List.length_set, List.length_replicate, List.length_take, List.length_drop, ints_length, wr_length, sha_len, way_len _ (by assumption), secret_len, digits_len, recov_len, sign_len] <;> omega) | rfl) rfl ?_
      refine st_store_all 6 ty29 rfl rfl rfl rfl (by first | omega | (simp only [List.length_append, List.length_cons, List.length_nil, List.length_set, List.length_replicate, List.length_take, List.length_drop, ints_length, wr_length, sha_len, way_len _ (by assumption), secret_len, digits_len, recov_len, sign_len] <;> omega) | rfl) (ints_one _ _) (by first | omega | (simp only [List.length_append, List.length_cons, List.length_nil, List.length_set, List.length_replicate, List.length_take, List.length_drop, ints_length, wr_length, sha_len, way_len _ (by assumption), secret_len, digits_len, recov_len, sign_len] <;> omega) | rfl) rfl ?_
      refine op_nil ?_
      refine ax_then ?_
      refine At.regs (L' := [(4, _), (5, _), (6, _)]) (.cons rfl (.cons rfl (.cons rfl (.nil _)))) ?_
      refine cd_seq ?_
      refine cd_region ?_
      refine st (ev_assign rfl) rfl rfl rfl ?_
      refine st (ev_assign rfl) rfl rfl rfl ?_
      refine op_nil ?_
      refine ax_then ?_
      refine At.regs (L' := [(4, _), (5, _), (6, _), (7, _), (8, _)]) (.cons rfl (.cons rfl (.cons rfl (.cons rfl (.cons rfl (.nil _)))))) ?_
      refine cd_seq ?_
      refine cd_seq ?_
      refine cd_region ?_
      refine st (ev_assign rfl) rfl rfl rfl ?_
      refine op_nil ?_
      refine ax_then ?_
      refine At.regs (L' := [(4, _), (5, _), (6, _), (7, _), (8, _), (9, _)]) (.cons rfl (.cons rfl (.cons rfl (.cons rfl (.cons rfl (.cons rfl (.nil _))))))) ?_
      refine cd_block ?_
      refine cd_loop (ι := Nat) (fun i => i ≤ 36) (fun i => 36 - i)
          (fun i => [(5, .pointer (some ⟨b5, 0, none⟩)), (6, .pointer (some ⟨b6, 0, none⟩)), (7, .bool (lessB (Ots.digits a) (Ots.digits b) (i))), (8, .bool (lessB (Ots.digits b) (Ots.digits a) (i))), (9, .int .i64 (i : Int))])
          (fun i => [(5, .blk b5 (.cells (ints .i64 ((Ots.digits a))).toArray 29)), (6, .blk b6 (.cells (ints .i64 ((Ots.digits b))).toArray 29))])
          (fun i => [])
          0 (by omega) (.cons rfl (.cons rfl (.cons rfl (.cons rfl (.cons rfl (.nil _)))))) (.cons rfl (.cons rfl (.nil _))) (.nil _) (fun i hi => ?_)
      have e0 : 0 + (i : Int).toNat * 1 = i := by omega
      have hdr := digits_range a (0 + (i : Int).toNat * 1)
      refine cd_seq ?_
      refine cd_seq ?_
      refine cd_region ?_
      refine st (ev_move rfl) rfl rfl rfl ?_
      refine st (ev_lss rfl rfl) rfl rfl rfl ?_
      refine op_nil ?_
      refine ax_then ?_
      refine At.regs (L' := [(5, _), (6, _), (7, _), (8, _), (9, _), (22, _), (23, _)]) (.cons rfl (.cons rfl (.cons rfl (.cons rfl (.cons rfl (.cons rfl (.cons rfl (.nil _)))))))) ?_
      refine cd_if rfl (fun hc23 => ?_) (fun hc23 => ?_)
      ·
        refine cd_skip ?_
        refine ax_then ?_
        refine At.regs (L' := [(5, _), (6, _), (7, _), (8, _), (9, _), (22, _), (23, _)]) (.cons rfl (.cons rfl (.cons rfl (.cons rfl (.cons rfl (.cons rfl (.cons rfl (.nil _)))))))) ?_
        refine cd_seq ?_
        refine cd_block ?_
        refine cd_seq ?_
        refine cd_seq ?_
        refine cd_region ?_
        refine st (ev_move rfl) rfl rfl rfl ?_
        refine st (ev_indexAddr_arr Try.underlying29 ty3 rfl rfl (by omega) (by omega)) rfl rfl rfl ?_
        refine st (ld_blk1 (h := 5) ty3 rfl rfl rfl (ints_get _ _ _ (by first | omega | (simp only [List.length_append, List.length_cons, List.length_nil, List.length_set, List.length_replicate, List.length_take, List.length_drop, ints_length, wr_length, sha_len, way_len _ (by assumption), secret_len, digits_len, recov_len, sign_len] <;> omega) | rfl))) rfl rfl rfl ?_
        refine st (ev_lss rfl rfl) rfl rfl rfl ?_
        refine st (ev_move rfl) rfl rfl rfl ?_
        refine at_eq (i := 30) (v' := .bool false) rfl (by simp only [Value.bool.injEq, decide_eq_true_eq, decide_eq_false_iff_not]; omega) ?_
        refine st (ev_move rfl) rfl rfl rfl ?_
        refine st (ev_indexAddr_arr Try.underlying29 ty3 rfl rfl (by omega) (by omega)) rfl rfl rfl ?_
        refine st (ld_blk1 (h := 5) ty3 rfl rfl rfl (ints_get _ _ _ (by first | omega | (simp only [List.length_append, List.length_cons, List.length_nil, List.length_set, List.length_replicate, List.length_take, List.length_drop, ints_length, wr_length, sha_len, way_len _ (by assumption), secret_len, digits_len, recov_len, sign_len] <;> omega) | rfl))) rfl rfl rfl ?_
        refine st (ev_gtr rfl rfl) rfl rfl rfl ?_
        refine st (ev_pick_f rfl rfl) rfl rfl rfl ?_
        refine op_nil ?_
        refine ax_then ?_
        refine At.regs (L' := [(5, _), (6, _), (7, _), (8, _), (9, _), (22, _), (23, _), (26, _), (27, _), (28, _), (29, _), (30, _), (31, _), (32, _), (33, _), (34, _), (35, _)]) (.cons rfl (.cons rfl (.cons rfl (.cons rfl (.cons rfl (.cons rfl (.cons rfl (.cons rfl (.cons rfl (.cons rfl (.cons rfl (.cons rfl (.cons rfl (.cons rfl (.cons rfl (.cons rfl (.cons rfl (.nil _)))))))))))))))))) ?_
        refine cd_if_f rfl (by omega) ?_
        refine cd_skip ?_
        refine ax_then ?_
        refine At.regs (L' := [(5, _), (6, _), (7, _), (8, _), (9, _), (22, _), (23, _), (26, _), (27, _), (28, _), (29, _), (30, _), (31, _), (32, _), (33, _), (34, _), (35, _)]) (.cons rfl (.cons rfl (.cons rfl (.cons rfl (.cons rfl (.cons rfl (.cons rfl (.cons rfl (.cons rfl (.cons rfl (.cons rfl (.cons rfl (.cons rfl (.cons rfl (.cons rfl (.cons rfl (.cons rfl (.nil _)))))))))))))))))) ?_
        refine cd_open hmix (by decide +kernel) ?_
        refine qt (ev_move rfl) rfl rfl rfl ?_
        refine qt (ev_move rfl) rfl rfl rfl ?_
        refine qt_split (i := 37) rfl (fun hg37 => ?_) (fun hg37 => ?_)
        ·
          refine qt_skip rfl rfl rfl ?_
          refine qt_skip rfl rfl rfl ?_
          refine qt_skip rfl rfl rfl ?_
          refine qt_skip rfl rfl rfl ?_
          refine qt_skip rfl rfl rfl ?_
          refine qt_skip rfl rfl rfl ?_
          refine qt_skip rfl rfl rfl ?_
          refine qt (ev_pick_t rfl rfl) rfl rfl rfl ?_
          refine qt (ev_move rfl) rfl rfl rfl ?_
          refine qt (ev_move rfl) rfl rfl rfl ?_
          refine qt_split (i := 47) rfl (fun hg47 => ?_) (fun hg47 => ?_)
          ·
            refine qt_skip rfl rfl rfl ?_
            refine qt_skip rfl rfl rfl ?_
            refine qt_skip rfl rfl rfl ?_
            refine qt_skip rfl rfl rfl ?_
            refine qt_skip rfl rfl rfl ?_
            refine qt_skip rfl rfl rfl ?_
            refine qt_skip rfl rfl rfl ?_
            refine qt (ev_pick_t rfl rfl) rfl rfl rfl ?_
            refine qt (ev_assign rfl) rfl rfl rfl ?_
            refine qt (ev_assign rfl) rfl rfl rfl ?_
            refine qt_end ?_
            refine op_nil ?_
            refine ax_block ?_
            refine ax_then ?_
            refine At.regs (L' := [(5, _), (6, _), (7, _), (8, _), (9, _), (22, _), (23, _), (26, _), (27, _), (28, _), (29, _), (30, _), (31, _), (32, _), (33, _), (34, _), (35, _), (36, _), (37, _), (38, _), (39, _), (40, _), (41, _), (42, _), (43, _), (44, _), (45, _), (46, _), (47, _), (48, _), (49, _), (50, _), (51, _), (52, _), (53, _), (54, _), (55, _)]) (.cons rfl (.cons rfl (.cons rfl (.cons rfl (.cons rfl (.cons rfl (.cons rfl (.cons rfl (.cons rfl (.cons rfl (.cons rfl (.cons rfl (.cons rfl (.cons rfl (.cons rfl (.cons rfl (.cons rfl (.cons rfl (.cons rfl (.cons rfl (.cons rfl (.cons rfl (.cons rfl (.cons rfl (.cons rfl (.cons rfl (.cons rfl (.cons rfl (.cons rfl (.cons rfl (.cons rfl (.cons rfl (.cons rfl (.cons rfl (.cons rfl (.cons rfl (.cons rfl (.nil _)))))))))))))))))))))))))))))))))))))) ?_
            refine cd_region ?_
            refine st (ev_move rfl) rfl rfl rfl ?_
            refine st (ev_add64 rfl rfl (by omega) (by omega)) rfl rfl rfl ?_
            refine st (ev_assign rfl) rfl rfl rfl ?_
            refine op_nil ?_
            refine ax_eq (i := 7) (v' := .bool (lessB (Ots.digits a) (Ots.digits b) (i + 1))) rfl (by simp [lessB, hg37, e0]) ?_
            refine ax_eq (i := 8) (v' := .bool (lessB (Ots.digits b) (Ots.digits a) (i + 1))) rfl (by simp [lessB, hg47, e0]) ?_
            exact at_again (i + 1) (by omega) (by omega) (.cons rfl (.cons rfl (.cons rfl (.cons rfl (.cons rfl (.nil _)))))) (.cons rfl (.cons rfl (.nil _))) (.nil _)
          ·
            refine qt (ev_move rfl) rfl rfl rfl ?_
            refine qt (ev_indexAddr_arr Try.underlying29 ty3 rfl rfl (by omega) (by omega)) rfl rfl rfl ?_
            refine qt (ld_blk1 (h := 5) ty3 rfl rfl rfl (ints_get _ _ _ (by first | omega | (simp only [List.length_append, List.length_cons, List.length_nil, List.length_set, List.length_replicate, List.length_take, List.length_drop, ints_length, wr_length, sha_len, way_len _ (by assumption), secret_len, digits_len, recov_len, sign_len] <;> omega) | rfl))) rfl rfl rfl ?_
            refine qt (ev_move rfl) rfl rfl rfl ?_
            refine qt (ev_indexAddr_arr Try.underlying29 ty3 rfl rfl (by omega) (by omega)) rfl rfl rfl ?_
            refine qt (ld_blk1 (h := 6) ty3 rfl rfl rfl (ints_get _ _ _ (by first | omega | (simp only [List.length_append, List.length_cons, List.length_nil, List.length_set, List.length_replicate, List.length_take, List.length_drop, ints_length, wr_length, sha_len, way_len _ (by assumption), secret_len, digits_len, recov_len, sign_len] <;> omega) | rfl))) rfl rfl rfl ?_
            refine qt (ev_gtr rfl rfl) rfl rfl rfl ?_
            refine qt (ev_pick_f rfl rfl) rfl rfl rfl ?_
            refine qt (ev_assign rfl) rfl rfl rfl ?_
            refine qt (ev_assign rfl) rfl rfl rfl ?_
            refine qt_end ?_
            refine op_nil ?_
            refine ax_block ?_
            refine ax_then ?_
            refine At.regs (L' := [(5, _), (6, _), (7, _), (8, _), (9, _), (22, _), (23, _), (26, _), (27, _), (28, _), (29, _), (30, _), (31, _), (32, _), (33, _), (34, _), (35, _), (36, _), (37, _), (38, _), (39, _), (40, _), (41, _), (42, _), (43, _), (44, _), (45, _), (46, _), (47, _), (48, _), (49, _), (50, _), (51, _), (52, _), (53, _), (54, _), (55, _)]) (.cons rfl (.cons rfl (.cons rfl (.cons rfl (.cons rfl (.cons rfl (.cons rfl (.cons rfl (.cons rfl (.cons rfl (.cons rfl (.cons rfl (.cons rfl (.cons rfl (.cons rfl (.cons rfl (.cons rfl (.cons rfl (.cons rfl (.cons rfl (.cons rfl (.cons rfl (.cons rfl (.cons rfl (.cons rfl (.cons rfl (.cons rfl (.cons rfl (.cons rfl (.cons rfl (.cons rfl (.cons rfl (.cons rfl (.cons rfl (.cons rfl (.cons rfl (.cons rfl (.nil _)))))))))))))))))))))))))))))))))))))) ?_
            refine cd_region ?_
            refine st (ev_move rfl) rfl rfl rfl ?_
            refine st (ev_add64 rfl rfl (by omega) (by omega)) rfl rfl rfl ?_
            refine st (ev_assign rfl) rfl rfl rfl ?_
            refine op_nil ?_
            refine ax_eq (i := 7) (v' := .bool (lessB (Ots.digits a) (Ots.digits b) (i + 1))) rfl (by simp [lessB, hg37, e0]) ?_
            refine ax_eq (i := 8) (v' := .bool (lessB (Ots.digits b) (Ots.digits a) (i + 1))) rfl (by simp [lessB, hg47, e0]) ?_
            exact at_again (i + 1) (by omega) (by omega) (.cons rfl (.cons rfl (.cons rfl (.cons rfl (.cons rfl (.nil _)))))) (.cons rfl (.cons rfl (.nil _))) (.nil _)
        ·
          refine qt (ev_move rfl) rfl rfl rfl ?_
          refine qt (ev_indexAddr_arr Try.underlying29 ty3 rfl rfl (by omega) (by omega)) rfl rfl rfl ?_
          refine qt (ld_blk1 (h := 5) ty3 rfl rfl rfl (ints_get _ _ _ (by first | omega | (simp only [List.length_append, List.length_cons, List.length_nil, List.length_set, List.length_replicate, List.length_take, List.length_drop, ints_length, wr_length, sha_len, way_len _ (by assumption), secret_len, digits_len, recov_len, sign_len] <;> omega) | rfl))) rfl rfl rfl ?_
          refine qt (ev_move rfl) rfl rfl rfl ?_
          refine qt (ev_indexAddr_arr Try.underlying29 ty3 rfl rfl (by omega) (by omega)) rfl rfl rfl ?_
          refine qt (ld_blk1 (h := 6) ty3 rfl rfl rfl (ints_get _ _ _ (by first | omega | (simp only [List.length_append, List.length_cons, List.length_nil, List.length_set, List.length_replicate, List.length_take, List.length_drop, ints_length, wr_length, sha_len, way_len _ (by assumption), secret_len, digits_len, recov_len, sign_len] <;> omega) | rfl))) rfl rfl rfl ?_
          refine qt (ev_lss rfl rfl) rfl rfl rfl ?_
          refine qt (ev_pick_f rfl rfl) rfl rfl rfl ?_
          refine qt (ev_move rfl) rfl rfl rfl ?_
          refine qt (ev_move rfl) rfl rfl rfl ?_
          refine qt_split (i := 47) rfl (fun hg47 => ?_) (fun hg47 => ?_)
          ·
            refine qt_skip rfl rfl rfl ?_
            refine qt_skip rfl rfl rfl ?_
            refine qt_skip rfl rfl rfl ?_
            refine qt_skip rfl rfl rfl ?_
            refine qt_skip rfl rfl rfl ?_
            refine qt_skip rfl rfl rfl ?_
            refine qt_skip rfl rfl rfl ?_
            refine qt (ev_pick_t rfl rfl) rfl rfl rfl ?_
            refine qt (ev_assign rfl) rfl rfl rfl ?_
            refine qt (ev_assign rfl) rfl rfl rfl ?_
            refine qt_end ?_
            refine op_nil ?_
            refine ax_block ?_
            refine ax_then ?_
            refine At.regs (L' := [(5, _), (6, _), (7, _), (8, _), (9, _), (22, _), (23, _), (26, _), (27, _), (28, _), (29, _), (30, _), (31, _), (32, _), (33, _), (34, _), (35, _), (36, _), (37, _), (38, _), (39, _), (40, _), (41, _), (42, _), (43, _), (44, _), (45, _), (46, _), (47, _), (48, _), (49, _), (50, _), (51, _), (52, _), (53, _), (54, _), (55, _)]) (.cons rfl (.cons rfl (.cons rfl (.cons rfl (.cons rfl (.cons rfl (.cons rfl (.cons rfl (.cons rfl (.cons rfl (.cons rfl (.cons rfl (.cons rfl (.cons rfl (.cons rfl (.cons rfl (.cons rfl (.cons rfl (.cons rfl (.cons rfl (.cons rfl (.cons rfl (.cons rfl (.cons rfl (.cons rfl (.cons rfl (.cons rfl (.cons rfl (.cons rfl (.cons rfl (.cons rfl (.cons rfl (.cons rfl (.cons rfl (.cons rfl (.cons rfl (.cons rfl (.nil _)))))))))))))))))))))))))))))))))))))) ?_
            refine cd_region ?_
            refine st (ev_move rfl) rfl rfl rfl ?_
            refine st (ev_add64 rfl rfl (by omega) (by omega)) rfl rfl rfl ?_
            refine st (ev_assign rfl) rfl rfl rfl ?_
            refine op_nil ?_
            refine ax_eq (i := 7) (v' := .bool (lessB (Ots.digits a) (Ots.digits b) (i + 1))) rfl (by simp [lessB, hg37, e0]) ?_
            refine ax_eq (i := 8) (v' := .bool (lessB (Ots.digits b) (Ots.digits a) (i + 1))) rfl (by simp [lessB, hg47, e0]) ?_
            exact at_again (i + 1) (by omega) (by omega) (.cons rfl (.cons rfl (.cons rfl (.cons rfl (.cons rfl (.nil _)))))) (.cons rfl (.cons rfl (.nil _))) (.nil _)
          ·
            refine qt (ev_move rfl) rfl rfl rfl ?_
            refine qt (ev_indexAddr_arr Try.underlying29 ty3 rfl rfl (by omega) (by omega)) rfl rfl rfl ?_
            refine qt (ld_blk1 (h := 5) ty3 rfl rfl rfl (ints_get _ _ _ (by first | omega | (simp only [List.length_append, List.length_cons, List.length_nil, List.length_set, List.length_replicate, List.length_take, List.length_drop, ints_length, wr_length, sha_len, way_len _ (by assumption), secret_len, digits_len, recov_len, sign_len] <;> omega) | rfl))) rfl rfl rfl ?_
            refine qt (ev_move rfl) rfl rfl rfl ?_
            refine qt (ev_indexAddr_arr Try.underlying29 ty3 rfl rfl (by omega) (by omega)) rfl rfl rfl ?_
            refine qt (ld_blk1 (h := 6) ty3 rfl rfl rfl (ints_get _ _ _ (by first | omega | (simp only [List.length_append, List.length_cons, List.length_nil, List.length_set, List.length_replicate, List.length_take, List.length_drop, ints_length, wr_length, sha_len, way_len _ (by assumption), secret_len, digits_len, recov_len, sign_len] <;> omega) | rfl))) rfl rfl rfl ?_
            refine qt (ev_gtr rfl rfl) rfl rfl rfl ?_
            refine qt (ev_pick_f rfl rfl) rfl rfl rfl ?_
            refine qt (ev_assign rfl) rfl rfl rfl ?_
            refine qt (ev_assign rfl) rfl rfl rfl ?_
            refine qt_end ?_
            refine op_nil ?_
            refine ax_block ?_
            refine ax_then ?_
            refine At.regs (L' := [(5, _), (6, _), (7, _), (8, _), (9, _), (22, _), (23, _), (26, _), (27, _), (28, _), (29, _), (30, _), (31, _), (32, _), (33, _), (34, _), (35, _), (36, _), (37, _), (38, _), (39, _), (40, _), (41, _), (42, _), (43, _), (44, _), (45, _), (46, _), (47, _), (48, _), (49, _), (50, _), (51, _), (52, _), (53, _), (54, _), (55, _)]) (.cons rfl (.cons rfl (.cons rfl (.cons rfl (.cons rfl (.cons rfl (.cons rfl (.cons rfl (.cons rfl (.cons rfl (.cons rfl (.cons rfl (.cons rfl (.cons rfl (.cons rfl (.cons rfl (.cons rfl (.cons rfl (.cons rfl (.cons rfl (.cons rfl (.cons rfl (.cons rfl (.cons rfl (.cons rfl (.cons rfl (.cons rfl (.cons rfl (.cons rfl (.cons rfl (.cons rfl (.cons rfl (.cons rfl (.cons rfl (.cons rfl (.cons rfl (.cons rfl (.nil _)))))))))))))))))))))))))))))))))))))) ?_
            refine cd_region ?_
            refine st (ev_move rfl) rfl rfl rfl ?_
            refine st (ev_add64 rfl rfl (by omega) (by omega)) rfl rfl rfl ?_
            refine st (ev_assign rfl) rfl rfl rfl ?_
            refine op_nil ?_
            refine ax_eq (i := 7) (v' := .bool (lessB (Ots.digits a) (Ots.digits b) (i + 1))) rfl (by simp [lessB, hg37, e0]) ?_
            refine ax_eq (i := 8) (v' := .bool (lessB (Ots.digits b) (Ots.digits a) (i + 1))) rfl (by simp [lessB, hg47, e0]) ?_
            exact at_again (i + 1) (by omega) (by omega) (.cons rfl (.cons rfl (.cons rfl (.cons rfl (.cons rfl (.nil _)))))) (.cons rfl (.cons rfl (.nil _))) (.nil _)
      ·
        obtain rfl : i = 36 := by omega
        refine cd_exit ?_
        refine ax_then_exit ?_
        refine ax_then_exit ?_
        refine ax_block_hit ?_
        refine ax_then ?_
        refine At.regs (L' := [(7, _), (8, _)]) (.cons rfl (.cons rfl (.nil _))) ?_
        refine cd_seq ?_
        refine cd_region ?_
        refine st (ev_move rfl) rfl rfl rfl ?_
        refine st (ev_move rfl) rfl rfl rfl ?_
        refine st (ev_eql_bool Try.underlying4 rfl rfl) rfl rfl rfl ?_
        refine st (ev_move rfl) rfl rfl rfl ?_
        refine at_eq (i := 59) (v' := .bool true) rfl (by rw [less_more]; simp) ?_
        refine st_callv has25 rfl (fun w1 sw => known3_any w1) rfl rfl ?_
        refine st (ev_pick_t rfl rfl) rfl rfl rfl ?_
        refine st (ev_assign rfl) rfl rfl rfl ?_
        refine op_nil ?_
        refine ax_then ?_
        refine At.regs (L' := [(4, _)]) (.cons rfl (.nil _)) ?_
        refine cd_ret ?_
        refine rt_tmp (.inl rfl) Try.results7 rfl ?_
        exact fun w1 sw => ⟨rfl, sw.gives (.nil _)⟩

set_option maxRecDepth 20000 in
set_option maxHeartbeats 2000000 in
theorem otsChecks_any (p : Value) (m : List Int) (w : World) (hm0 : m.length ≤ 140737488351232) (h : Rd w p 1 (ints .u8 m)) : Calls Try.prog 9 #[p] w (PostV w (.bool true)) := by
  refine calls_at (vs := [p]) (X := []) (H := []) (F := [(0, .sl p 1 (ints .u8 (m)))]) 71 Try.func9 rfl rfl rfl (Sat.rd0 0 h) ?_
  refine cd_seq ?_
  refine cd_region ?_
  refine st (ev_assign rfl) rfl rfl rfl ?_
  refine op_nil ?_
  refine ax_then ?_
  refine At.regs (L' := [(0, _), (2, _)]) (.cons rfl (.cons rfl (.nil _))) ?_
  refine cd_seq ?_
  refine cd_seq ?_
  refine cd_region ?_
  refine st (ev_move rfl) rfl rfl rfl ?_
  refine st (ev_len_rdi (h := 0) Try.underlying28 rfl rfl) rfl rfl rfl ?_
  refine st (ev_gtr rfl rfl) rfl rfl rfl ?_
  refine op_nil ?_
  refine ax_then ?_
  refine At.regs (L' := [(0, _), (2, _), (9, _)]) (.cons rfl (.cons rfl (.cons rfl (.nil _)))) ?_
  refine cd_if rfl (fun hc9 => ?_) (fun hc9 => ?_)
  ·
    refine cd_seq ?_
    refine cd_region ?_
    refine st (ev_assign rfl) rfl rfl rfl ?_
    refine op_nil ?_
    refine ax_then ?_
    refine At.regs (L' := [(0, _), (2, _)]) (.cons rfl (.cons rfl (.nil _))) ?_
    refine cd_ret ?_
    refine ax_then_ret ?_
    refine rt_tmp (.inl rfl) Try.results9 rfl ?_
    exact fun w1 sw => ⟨rfl, sw.gives (.nil _)⟩
  ·
    refine cd_skip ?_
    refine ax_then ?_
    refine At.regs (L' := [(0, _), (2, _)]) (.cons rfl (.cons rfl (.nil _))) ?_
    refine cd_seq ?_
    refine cd_region ?_
    refine st (ev_move rfl) rfl rfl rfl ?_
    refine st_callv has17 rfl (fun w1 sw => digits_any p m w1 (by omega) (sw.sl_rd (h := 0) rfl)) rfl rfl ?_
    have hdl := digits_len m
    refine st_alloc (h := 3) ty29 rfl rfl rfl (fun b3 => ?_)
    refine st_store_all 3 ty29 rfl rfl rfl rfl (by first | omega | (simp only [List.length_append, List.length_cons, List.length_nil, List.length_set, List.length_replicate, List.length_take, List.length_drop, ints_length, wr_length, sha_len, way_len _ (by assumption), secret_len, digits_len, recov_len, sign_len] <;> omega) | rfl) (ints_one _ _) (by first | omega | (simp only [List.length_append, List.length_cons, List.length_nil, List.length_set, List.length_replicate, List.length_take, List.length_drop, ints_length, wr_length, sha_len, way_len _ (by assumption), secret_len, digits_len, recov_len, sign_len] <;> omega) | rfl) rfl ?_
    refine op_nil ?_
    refine ax_then ?_
    refine At.regs (L' := [(0, _), (2, _), (3, _)]) (.cons rfl (.cons rfl (.cons rfl (.nil _)))) ?_
    refine cd_seq ?_
    refine cd_region ?_
    refine st (ev_move rfl) rfl rfl rfl ?_
    refine st_callv has31 rfl (fun w1 sw => rsum_any p m w1 (by omega) (sw.sl_rd (h := 0) rfl)) rfl rfl ?_
    have hsl := sha_len m
    refine st_alloc (h := 4) ty24 rfl rfl rfl (fun b4 => ?_)
    refine st_store_all 4 ty24 rfl rfl rfl rfl (by first | omega | (simp only [List.length_append, List.length_cons, List.length_nil, List.length_set, List.length_replicate, List.length_take, List.length_drop, ints_length, wr_length, sha_len, way_len _ (by assumption), secret_len, digits_len, recov_len, sign_len] <;> omega) | rfl) (ints_one _ _) (by first | omega | (simp only [List.length_append, List.length_cons, List.length_nil, List.length_set, List.length_replicate, List.length_take, List.length_drop, ints_length, wr_length, sha_len, way_len _ (by assumption), secret_len, digits_len, recov_len, sign_len] <;> omega) | rfl) rfl ?_
    refine op_nil ?_
    refine ax_then ?_
    refine At.regs (L' := [(2, _), (3, _), (4, _)]) (.cons rfl (.cons rfl (.cons rfl (.nil _)))) ?_
    refine cd_seq ?_
    refine cd_region ?_
    refine st (ev_assign rfl) rfl rfl rfl ?_
    refine op_nil ?_
    refine ax_then ?_
    refine At.regs (L' := [(2, _), (3, _), (4, _), (5, _)]) (.cons rfl (.cons rfl (.cons rfl (.cons rfl (.nil _))))) ?_
    refine cd_seq ?_
    refine cd_seq ?_
    refine cd_region ?_
    refine st (ev_assign rfl) rfl rfl rfl ?_
    refine op_nil ?_
    refine ax_then ?_
    refine At.regs (L' := [(2, _), (3, _), (4, _), (5, _), (6, _)]) (.cons rfl (.cons rfl (.cons rfl (.cons rfl (.cons rfl (.nil _)))))) ?_
    refine cd_block ?_
    refine cd_loop (ι := Nat) (fun i => i ≤ 32) (fun i => 32 - i)
        (fun i => [(3, .pointer (some ⟨b3, 0, none⟩)), (4, .pointer (some ⟨b4, 0, none⟩)), (5, .int .i64 (lack (sha m) i)), (6, .int .i64 (i : Int))])
        (fun i => [(3, .blk b3 (.cells (ints .i64 ((Ots.digits m))).toArray 29)), (4, .blk b4 (.cells (ints .u8 (sha m)).toArray 24))])
        (fun i => [])
        0 (by omega) (.cons rfl (.cons rfl (.cons rfl (.cons rfl (.nil _))))) (.cons rfl (.cons rfl (.nil _))) (.nil _) (fun i hi => ?_)
    have hlr := lack_range (sha m) i
    have hb := byt_at m (i / 4)
    have hsd := shr_dg (i := i) hb.1 hb.2
    have hdr := dg_range (sha m) i
    have e4 : 0 + ((i : Int) / 4).toNat * 1 = i / 4 := by omega
    have e0 : 0 + (i : Int).toNat * 1 = i := by omega
    refine cd_seq ?_
    refine cd_seq ?_
    refine cd_region ?_
    refine st (ev_move rfl) rfl rfl rfl ?_
    refine st (ev_lss rfl rfl) rfl rfl rfl ?_
    refine op_nil ?_
    refine ax_then ?_
    refine At.regs (L' := [(3, _), (4, _), (5, _), (6, _), (14, _), (15, _)]) (.cons rfl (.cons rfl (.cons rfl (.cons rfl (.cons rfl (.cons rfl (.nil _))))))) ?_
    refine cd_if rfl (fun hc15 => ?_) (fun hc15 => ?_)
    ·
      refine cd_skip ?_
      refine ax_then ?_
      refine At.regs (L' := [(3, _), (4, _), (5, _), (6, _), (14, _), (15, _)]) (.cons rfl (.cons rfl (.cons rfl (.cons rfl (.cons rfl (.cons rfl (.nil _))))))) ?_
      refine cd_seq ?_
      refine cd_block ?_
      refine cd_seq ?_
      refine cd_seq ?_
      refine cd_open hmix (by decide +kernel) ?_
      refine qt (ev_move rfl) rfl rfl rfl ?_
      refine qt (ev_indexAddr_arr Try.underlying29 ty3 rfl rfl (by omega) (by omega)) rfl rfl rfl ?_
      refine qt (ld_blk1 (h := 3) ty3 rfl rfl rfl (ints_get _ _ _ (by first | omega | (simp only [List.length_append, List.length_cons, List.length_nil, List.length_set, List.length_replicate, List.length_take, List.length_drop, ints_length, wr_length, sha_len, way_len _ (by assumption), secret_len, digits_len, recov_len, sign_len] <;> omega) | rfl))) rfl rfl rfl ?_
      refine qt_eq (i := 20) (v' := .int .i64 (dg (sha m) i)) rfl (by rw [e0, digits_lo m (by omega)]) ?_
      refine qt (ev_lss rfl rfl) rfl rfl rfl ?_
      refine qt (ev_move rfl) rfl rfl rfl ?_
      refine qt_eq (i := 22) (v' := .bool false) rfl (by simp only [Value.bool.injEq, decide_eq_true_eq, decide_eq_false_iff_not]; omega) ?_
      refine qt (ev_move rfl) rfl rfl rfl ?_
      refine qt (ev_indexAddr_arr Try.underlying29 ty3 rfl rfl (by omega) (by omega)) rfl rfl rfl ?_
      refine qt (ld_blk1 (h := 3) ty3 rfl rfl rfl (ints_get _ _ _ (by first | omega | (simp only [List.length_append, List.length_cons, List.length_nil, List.length_set, List.length_replicate, List.length_take, List.length_drop, ints_length, wr_length, sha_len, way_len _ (by assumption), secret_len, digits_len, recov_len, sign_len] <;> omega) | rfl))) rfl rfl rfl ?_
      refine qt_eq (i := 25) (v' := .int .i64 (dg (sha m) i)) rfl (by rw [e0, digits_lo m (by omega)]) ?_
      refine qt (ev_gtr rfl rfl) rfl rfl rfl ?_
      refine qt (ev_pick_f rfl rfl) rfl rfl rfl ?_
      refine qt (ev_move rfl) rfl rfl rfl ?_
      refine qt_eq (i := 28) (v' := .bool false) rfl (by simp only [Value.bool.injEq, decide_eq_true_eq, decide_eq_false_iff_not]; omega) ?_
      refine qt (ev_move rfl) rfl rfl rfl ?_
      refine qt (ev_indexAddr_arr Try.underlying29 ty3 rfl rfl (by omega) (by omega)) rfl rfl rfl ?_
      refine qt (ld_blk1 (h := 3) ty3 rfl rfl rfl (ints_get _ _ _ (by first | omega | (simp only [List.length_append, List.length_cons, List.length_nil, List.length_set, List.length_replicate, List.length_take, List.length_drop, ints_length, wr_length, sha_len, way_len _ (by assumption), secret_len, digits_len, recov_len, sign_len] <;> omega) | rfl))) rfl rfl rfl ?_
      refine qt_eq (i := 31) (v' := .int .i64 (dg (sha m) i)) rfl (by rw [e0, digits_lo m (by omega)]) ?_
      refine qt (ev_move rfl) rfl rfl rfl ?_
      refine qt (ev_quo64 rfl rfl (by omega) (by omega) (by omega)) rfl rfl rfl ?_
      refine qt (ev_indexAddr_arr Try.underlying24 ty5 rfl rfl (by omega) (by omega)) rfl rfl rfl ?_
      refine qt (ld_blk1 (h := 4) ty5 rfl rfl rfl (ints_get _ _ _ (by first | omega | (simp only [List.length_append, List.length_cons, List.length_nil, List.length_set, List.length_replicate, List.length_take, List.length_drop, ints_length, wr_length, sha_len, way_len _ (by assumption), secret_len, digits_len, recov_len, sign_len] <;> omega) | rfl))) rfl rfl rfl ?_
      refine qt_eq (i := 35) (v' := .int .u8 ((sha m).getD (i / 4) 0)) rfl (by rw [e4]) ?_
      refine qt (ev_move rfl) rfl rfl rfl ?_
      refine qt (ev_rem64 rfl rfl (by omega) (by omega)) rfl rfl rfl ?_
      refine qt (ev_mul64 rfl rfl (by omega) (by omega)) rfl rfl rfl ?_
      refine qt (ev_sub64 rfl rfl (by omega) (by omega)) rfl rfl rfl ?_
      refine qt (ev_convu64 Try.underlying3 Try.underlying44 rfl (by omega) (by omega)) rfl rfl rfl ?_
      refine qt (ev_shr rfl rfl (by omega)) rfl rfl rfl ?_
      refine qt_eq (i := 41) (v' := .int .u8 ((sha m).getD (i / 4) 0 / 2 ^ (6 - 2 * (i % 4)))) rfl (by rw [hsd.1]) ?_
      refine qt (ev_conv64 Try.underlying5 Try.underlying3 rfl (by omega) (by omega)) rfl rfl rfl ?_
      refine qt (ev_and rfl rfl) rfl rfl rfl ?_
      refine qt_eq (i := 43) (v' := .int .i64 (dg (sha m) i)) rfl (by rw [and3 hsd.2.1 (by omega)]; rfl) ?_
      refine qt (ev_neq rfl rfl) rfl rfl rfl ?_
      refine qt (ev_pick_f rfl rfl) rfl rfl rfl ?_
      refine qt_end ?_
      refine op_nil ?_
      refine ax_then ?_
      refine At.regs (L' := [(3, _), (4, _), (5, _), (6, _), (14, _), (15, _), (18, _), (19, _), (20, _), (21, _), (22, _), (23, _), (24, _), (25, _), (26, _), (27, _), (28, _), (29, _), (30, _), (31, _), (32, _), (33, _), (34, _), (35, _), (36, _), (37, _), (38, _), (39, _), (40, _), (41, _), (42, _), (43, _), (44, _), (45, _)]) (.cons rfl (.cons rfl (.cons rfl (.cons rfl (.cons rfl (.cons rfl (.cons rfl (.cons rfl (.cons rfl (.cons rfl (.cons rfl (.cons rfl (.cons rfl (.cons rfl (.cons rfl (.cons rfl (.cons rfl (.cons rfl (.cons rfl (.cons rfl (.cons rfl (.cons rfl (.cons rfl (.cons rfl (.cons rfl (.cons rfl (.cons rfl (.cons rfl (.cons rfl (.cons rfl (.cons rfl (.cons rfl (.cons rfl (.cons rfl (.nil _))))))))))))))))))))))))))))))))))) ?_
      refine cd_if_f rfl (by omega) ?_
      refine cd_skip ?_
      refine ax_then ?_
      refine At.regs (L' := [(3, _), (4, _), (5, _), (6, _), (14, _), (15, _), (18, _), (19, _), (20, _), (21, _), (22, _), (23, _), (24, _), (25, _), (26, _), (27, _), (28, _), (29, _), (30, _), (31, _), (32, _), (33, _), (34, _), (35, _), (36, _), (37, _), (38, _), (39, _), (40, _), (41, _), (42, _), (43, _), (44, _), (45, _)]) (.cons rfl (.cons rfl (.cons rfl (.cons rfl (.cons rfl (.cons rfl (.cons rfl (.cons rfl (.cons rfl (.cons rfl (.cons rfl (.cons rfl (.cons rfl (.cons rfl (.cons rfl (.cons rfl (.cons rfl (.cons rfl (.cons rfl (.cons rfl (.cons rfl (.cons rfl (.cons rfl (.cons rfl (.cons rfl (.cons rfl (.cons rfl (.cons rfl (.cons rfl (.cons rfl (.cons rfl (.cons rfl (.cons rfl (.cons rfl (.nil _))))))))))))))))))))))))))))))))))) ?_
      refine cd_region ?_
      refine st (ev_move rfl) rfl rfl rfl ?_
      refine st (ev_add64 rfl rfl (by omega) (by omega)) rfl rfl rfl ?_
      refine st (ev_move rfl) rfl rfl rfl ?_
      refine st (ev_indexAddr_arr Try.underlying29 ty3 rfl rfl (by omega) (by omega)) rfl rfl rfl ?_
      refine st (ld_blk1 (h := 3) ty3 rfl rfl rfl (ints_get _ _ _ (by first | omega | (simp only [List.length_append, List.length_cons, List.length_nil, List.length_set, List.length_replicate, List.length_take, List.length_drop, ints_length, wr_length, sha_len, way_len _ (by assumption), secret_len, digits_len, recov_len, sign_len] <;> omega) | rfl))) rfl rfl rfl ?_
      refine at_eq (i := 50) (v' := .int .i64 (dg (sha m) i)) rfl (by rw [e0, digits_lo m (by omega)]) ?_
      refine st (ev_sub64 rfl rfl (by omega) (by omega)) rfl rfl rfl ?_
      refine st (ev_assign rfl) rfl rfl rfl ?_
      refine op_nil ?_
      refine ax_block ?_
      refine ax_then ?_
      refine At.regs (L' := [(3, _), (4, _), (5, _), (6, _), (14, _), (15, _), (18, _), (19, _), (20, _), (21, _), (22, _), (23, _), (24, _), (25, _), (26, _), (27, _), (28, _), (29, _), (30, _), (31, _), (32, _), (33, _), (34, _), (35, _), (36, _), (37, _), (38, _), (39, _), (40, _), (41, _), (42, _), (43, _), (44, _), (45, _), (46, _), (47, _), (48, _), (49, _), (50, _), (51, _)]) (.cons rfl (.cons rfl (.cons rfl (.cons rfl (.cons rfl (.cons rfl (.cons rfl (.cons rfl (.cons rfl (.cons rfl (.cons rfl (.cons rfl (.cons rfl (.cons rfl (.cons rfl (.cons rfl (.cons rfl (.cons rfl (.cons rfl (.cons rfl (.cons rfl (.cons rfl (.cons rfl (.cons rfl (.cons rfl (.cons rfl (.cons rfl (.cons rfl (.cons rfl (.cons rfl (.cons rfl (.cons rfl (.cons rfl (.cons rfl (.cons rfl (.cons rfl (.cons rfl (.cons rfl (.cons rfl (.cons rfl (.nil _))))))))))))))))))))))))))))))))))))))))) ?_
      refine cd_region ?_
      refine st (ev_move rfl) rfl rfl rfl ?_
      refine st (ev_add64 rfl rfl (by omega) (by omega)) rfl rfl rfl ?_
      refine st (ev_assign rfl) rfl rfl rfl ?_
      refine op_nil ?_
      refine ax_eq (i := 5) (v' := .int .i64 (lack (sha m) (i + 1))) rfl (by rw [lack]; congr 1; omega) ?_
      exact at_again (i + 1) (by omega) (by omega) (.cons rfl (.cons rfl (.cons rfl (.cons rfl (.nil _))))) (.cons rfl (.cons rfl (.nil _))) (.nil _)
    ·
      obtain rfl : i = 32 := by omega
      refine cd_exit ?_
      refine ax_then_exit ?_
      refine ax_then_exit ?_
      refine ax_block_hit ?_
      refine ax_then ?_
      refine At.regs (L' := [(3, _), (5, _)]) (.cons rfl (.cons rfl (.nil _))) ?_
      refine cd_seq ?_
      have h32 := digits_range m 32
      have h33 := digits_range m 33
      have h34 := digits_range m 34
      have h35 := digits_range m 35
      have hck := checks m
      refine cd_region ?_
      refine st (ev_indexAddr_arrm 32 rfl Try.underlying29 ty3 rfl rfl (by decide) (by decide)) rfl rfl rfl ?_
      refine st (ld_blk1 (h := 3) ty3 rfl rfl rfl (ints_get _ _ _ (by first | omega | (simp only [List.length_append, List.length_cons, List.length_nil, List.length_set, List.length_replicate, List.length_take, List.length_drop, ints_length, wr_length, sha_len, way_len _ (by assumption), secret_len, digits_len, recov_len, sign_len] <;> omega) | rfl))) rfl rfl rfl ?_
      refine at_eq (i := 53) (v' := .int .i64 ((Ots.digits m).getD 32 0)) rfl rfl ?_
      refine st (ev_indexAddr_arrm 33 rfl Try.underlying29 ty3 rfl rfl (by decide) (by decide)) rfl rfl rfl ?_
      refine st (ld_blk1 (h := 3) ty3 rfl rfl rfl (ints_get _ _ _ (by first | omega | (simp only [List.length_append, List.length_cons, List.length_nil, List.length_set, List.length_replicate, List.length_take, List.length_drop, ints_length, wr_length, sha_len, way_len _ (by assumption), secret_len, digits_len, recov_len, sign_len] <;> omega) | rfl))) rfl rfl rfl ?_
      refine at_eq (i := 55) (v' := .int .i64 ((Ots.digits m).getD 33 0)) rfl rfl ?_
      refine st (ev_mul64 rfl rfl (by omega) (by omega)) rfl rfl rfl ?_
      refine st (ev_add64 rfl rfl (by omega) (by omega)) rfl rfl rfl ?_
      refine st (ev_indexAddr_arrm 34 rfl Try.underlying29 ty3 rfl rfl (by decide) (by decide)) rfl rfl rfl ?_
      refine st (ld_blk1 (h := 3) ty3 rfl rfl rfl (ints_get _ _ _ (by first | omega | (simp only [List.length_append, List.length_cons, List.length_nil, List.length_set, List.length_replicate, List.length_take, List.length_drop, ints_length, wr_length, sha_len, way_len _ (by assumption), secret_len, digits_len, recov_len, sign_len] <;> omega) | rfl))) rfl rfl rfl ?_
      refine at_eq (i := 59) (v' := .int .i64 ((Ots.digits m).getD 34 0)) rfl rfl ?_
      refine st (ev_mul64 rfl rfl (by omega) (by omega)) rfl rfl rfl ?_
      refine st (ev_add64 rfl rfl (by omega) (by omega)) rfl rfl rfl ?_
      refine st (ev_indexAddr_arrm 35 rfl Try.underlying29 ty3 rfl rfl (by decide) (by decide)) rfl rfl rfl ?_
      refine st (ld_blk1 (h := 3) ty3 rfl rfl rfl (ints_get _ _ _ (by first | omega | (simp only [List.length_append, List.length_cons, List.length_nil, List.length_set, List.length_replicate, List.length_take, List.length_drop, ints_length, wr_length, sha_len, way_len _ (by assumption), secret_len, digits_len, recov_len, sign_len] <;> omega) | rfl))) rfl rfl rfl ?_
      refine at_eq (i := 63) (v' := .int .i64 ((Ots.digits m).getD 35 0)) rfl rfl ?_
      refine st (ev_mul64 rfl rfl (by omega) (by omega)) rfl rfl rfl ?_
      refine st (ev_add64 rfl rfl (by omega) (by omega)) rfl rfl rfl ?_
      refine st (ev_move rfl) rfl rfl rfl ?_
      refine st (ev_eql rfl rfl) rfl rfl rfl ?_
      refine st (ev_move rfl) rfl rfl rfl ?_
      refine at_eq (i := 68) (v' := .bool true) rfl (by simp only [Value.bool.injEq, decide_eq_true_eq, decide_eq_false_iff_not]; omega) ?_
      refine st_callv has25 rfl (fun w1 sw => known3_any w1) rfl rfl ?_
      refine st (ev_pick_t rfl rfl) rfl rfl rfl ?_
      refine st (ev_assign rfl) rfl rfl rfl ?_
      refine op_nil ?_
      refine ax_then ?_
      refine At.regs (L' := [(2, _)]) (.cons rfl (.nil _)) ?_
      refine cd_ret ?_
      refine rt_tmp (.inl rfl) Try.results9 rfl ?_
      exact fun w1 sw => ⟨rfl, sw.gives (.nil _)⟩

theorem takeh {w : World} {v : Value} {hs : List (List Int)} {i : Nat} (h : Rd w v 32 (flat hs)) (hu : H32 hs) (hi : i ≤ hs.length) : Rd w (cutAt 32 v 0 i) 32 (flat (hs.take i)) := by
  have := h.cuth (lo := 0) (hi := i) hu (by omega) hi
  simpa using this
theorem short_len (s : List Int) (m : List Int) (k : Nat) : (sign s 1 m 36 ++ List.replicate (k) s).length = 36 + k := by rw [List.length_append, sign_len, List.length_replicate]
theorem short_h32 {s : List Int} (hl : s.length = 32) (m : List Int) (k : Nat) : H32 (sign s 1 m 36 ++ List.replicate (k) s) := (sign_h32 s 1 m 36).append (H32.replicate k hl)

set_option maxRecDepth 20000 in
set_option maxHeartbeats 2000000 in
theorem otsShort_any (s : List Int) (p : Value) (m : List Int) (n : Int) (w : World) (hl : s.length = 32) (hm0 : m.length ≤ 140737488351232) (h : Rd w p 1 (ints .u8 m)) : Calls Try.prog 10 #[.agg (ints .u8 (s)).toArray, p, .int .i64 n] w (PostV w (.bool true)) := by
  refine calls_at (vs := [.agg (ints .u8 (s)).toArray, p, .int .i64 n]) (X := []) (H := []) (F := [(1, .sl p 1 (ints .u8 (m)))]) 54 Try.func10 rfl rfl rfl (Sat.rd0 1 h) ?_
  refine cd_seq ?_
  refine cd_region ?_
  refine st_box (h := 3) rfl rfl rfl rfl (fun b3 => ?_)
  refine st (ev_assign rfl) rfl rfl rfl ?_
  refine op_nil ?_
  refine ax_then ?_
  refine At.regs (L' := [(1, _), (2, _), (3, _), (6, _)]) (.cons rfl (.cons rfl (.cons rfl (.cons rfl (.nil _))))) ?_
  refine cd_seq ?_
  refine cd_seq ?_
  refine cd_region ?_
  refine st (ev_move rfl) rfl rfl rfl ?_
  refine st (ev_len_rdi (h := 1) Try.underlying28 rfl rfl) rfl rfl rfl ?_
  refine st (ev_gtr rfl rfl) rfl rfl rfl ?_
  refine st (ev_move rfl) rfl rfl rfl ?_
  refine at_split_if (i := 13) rfl (fun hg13 => ?_) (fun hg13 => ?_)
  ·
    refine st_skip rfl rfl rfl ?_
    refine st_skip rfl rfl rfl ?_
    refine st (ev_pick_t rfl rfl) rfl rfl rfl ?_
    refine st (ev_move rfl) rfl rfl rfl ?_
    refine st_skip rfl rfl rfl ?_
    refine st_skip rfl rfl rfl ?_
    refine st (ev_pick_t rfl rfl) rfl rfl rfl ?_
    refine st (ev_move rfl) rfl rfl rfl ?_
    refine st_skip rfl rfl rfl ?_
    refine st_skip rfl rfl rfl ?_
    refine st (ev_pick_t rfl rfl) rfl rfl rfl ?_
    refine op_nil ?_
    refine ax_then ?_
    refine At.regs (L' := [(1, _), (2, _), (3, _), (6, _), (24, _)]) (.cons rfl (.cons rfl (.cons rfl (.cons rfl (.cons rfl (.nil _)))))) ?_
    refine cd_true rfl ?_
    refine cd_seq ?_
    refine cd_region ?_
    refine st (ev_assign rfl) rfl rfl rfl ?_
    refine op_nil ?_
    refine ax_then ?_
    refine At.regs (L' := [(1, _), (2, _), (3, _), (6, _)]) (.cons rfl (.cons rfl (.cons rfl (.cons rfl (.nil _))))) ?_
    refine cd_ret ?_
    refine ax_then_ret ?_
    refine rt_tmp (.inl rfl) Try.results10 rfl ?_
    exact fun w1 sw => ⟨rfl, sw.gives (.nil _)⟩
  ·
    refine st (ev_move rfl) rfl rfl rfl ?_
    refine st (ev_lss rfl rfl) rfl rfl rfl ?_
    refine st (ev_pick_f rfl rfl) rfl rfl rfl ?_
    refine st (ev_move rfl) rfl rfl rfl ?_
    refine at_split_if (i := 17) rfl (fun hg17 => ?_) (fun hg17 => ?_)
    ·
      refine st_skip rfl rfl rfl ?_
      refine st_skip rfl rfl rfl ?_
      refine st (ev_pick_t rfl rfl) rfl rfl rfl ?_
      refine st (ev_move rfl) rfl rfl rfl ?_
      refine st_skip rfl rfl rfl ?_
      refine st_skip rfl rfl rfl ?_
      refine st (ev_pick_t rfl rfl) rfl rfl rfl ?_
      refine op_nil ?_
      refine ax_then ?_
      refine At.regs (L' := [(1, _), (2, _), (3, _), (6, _), (24, _)]) (.cons rfl (.cons rfl (.cons rfl (.cons rfl (.cons rfl (.nil _)))))) ?_
      refine cd_true rfl ?_
      refine cd_seq ?_
      refine cd_region ?_
      refine st (ev_assign rfl) rfl rfl rfl ?_
      refine op_nil ?_
      refine ax_then ?_
      refine At.regs (L' := [(1, _), (2, _), (3, _), (6, _)]) (.cons rfl (.cons rfl (.cons rfl (.cons rfl (.nil _))))) ?_
      refine cd_ret ?_
      refine ax_then_ret ?_
      refine rt_tmp (.inl rfl) Try.results10 rfl ?_
      exact fun w1 sw => ⟨rfl, sw.gives (.nil _)⟩
    ·
      refine st (ev_move rfl) rfl rfl rfl ?_
      refine st (ev_gtr rfl rfl) rfl rfl rfl ?_
      refine st (ev_pick_f rfl rfl) rfl rfl rfl ?_
      refine st (ev_move rfl) rfl rfl rfl ?_
      refine at_split_if (i := 21) rfl (fun hg21 => ?_) (fun hg21 => ?_)
      ·
        refine st_skip rfl rfl rfl ?_
        refine st_skip rfl rfl rfl ?_
        refine st (ev_pick_t rfl rfl) rfl rfl rfl ?_
        refine op_nil ?_
        refine ax_then ?_
        refine At.regs (L' := [(1, _), (2, _), (3, _), (6, _), (24, _)]) (.cons rfl (.cons rfl (.cons rfl (.cons rfl (.cons rfl (.nil _)))))) ?_
        refine cd_true rfl ?_
        refine cd_seq ?_
        refine cd_region ?_
        refine st (ev_assign rfl) rfl rfl rfl ?_
        refine op_nil ?_
        refine ax_then ?_
        refine At.regs (L' := [(1, _), (2, _), (3, _), (6, _)]) (.cons rfl (.cons rfl (.cons rfl (.cons rfl (.nil _))))) ?_
        refine cd_ret ?_
        refine ax_then_ret ?_
        refine rt_tmp (.inl rfl) Try.results10 rfl ?_
        exact fun w1 sw => ⟨rfl, sw.gives (.nil _)⟩
      ·
        refine st (ev_move rfl) rfl rfl rfl ?_
        refine st (ev_eql rfl rfl) rfl rfl rfl ?_
        refine st (ev_pick_f rfl rfl) rfl rfl rfl ?_
        refine op_nil ?_
        refine ax_then ?_
        refine At.regs (L' := [(1, _), (2, _), (3, _), (6, _), (24, _)]) (.cons rfl (.cons rfl (.cons rfl (.cons rfl (.cons rfl (.nil _)))))) ?_
        refine cd_if rfl (fun hc24 => ?_) (fun hc24 => ?_)
        ·
          refine cd_seq ?_
          refine cd_region ?_
          refine st (ev_assign rfl) rfl rfl rfl ?_
          refine op_nil ?_
          refine ax_then ?_
          refine At.regs (L' := [(1, _), (2, _), (3, _), (6, _)]) (.cons rfl (.cons rfl (.cons rfl (.cons rfl (.nil _))))) ?_
          refine cd_ret ?_
          refine ax_then_ret ?_
          refine rt_tmp (.inl rfl) Try.results10 rfl ?_
          exact fun w1 sw => ⟨rfl, sw.gives (.nil _)⟩
        ·
          refine cd_skip ?_
          refine ax_then ?_
          refine At.regs (L' := [(1, _), (2, _), (3, _), (6, _)]) (.cons rfl (.cons rfl (.cons rfl (.cons rfl (.nil _))))) ?_
          refine cd_seq ?_
          refine cd_region ?_
          refine st (ld_blk_all (h := 3) ty24 rfl rfl rfl (by first | omega | (simp only [List.length_append, List.length_cons, List.length_nil, List.length_set, List.length_replicate, List.length_take, List.length_drop, ints_length, wr_length, sha_len, way_len _ (by assumption), secret_len, digits_len, recov_len, sign_len] <;> omega) | rfl)) rfl rfl rfl ?_
          refine st (ev_move rfl) rfl rfl rfl ?_
          refine st_call has29 rfl (fun w1 sw => rn 27 (sign_any s 1 p m w1 (by first | rfl | assumption) (by first | decide | omega) (sw.sl_rd (h := 1) rfl))) nil_all rfl rfl (fun v27 _ => ?_)
          have hsu27 := sign_h32 s 1 m 36
          have hsn27 := sign_len s 1 m 36
          refine st (ev_assign rfl) rfl rfl rfl ?_
          refine op_nil ?_
          refine ax_then ?_
          refine At.regs (L' := [(1, _), (2, _), (3, _), (6, _), (7, _)]) (.cons rfl (.cons rfl (.cons rfl (.cons rfl (.cons rfl (.nil _)))))) ?_
          refine cd_seq ?_
          refine cd_block ?_
          refine at_heq (i := 27) (v' := .own (v27) 24 32 (flat (sign s 1 m 36 ++ List.replicate (0) s))) rfl (by simp) ?_
          refine cd_loop (ι := Nat × Value) (fun x => 36 + x.1 ≤ max n.toNat 36) (fun x => 80 - x.1)
              (fun x => [(1, p), (2, .int .i64 n), (3, .pointer (some ⟨b3, 0, none⟩)), (7, x.2)])
              (fun x => [(3, .blk b3 (.cells (ints .u8 (s)).toArray 24)), (27, .own (x.2) 24 32 (flat (sign s 1 m 36 ++ List.replicate (x.1) s)))])
              (fun x => [(1, .sl p 1 (ints .u8 (m)))])
              (0, _) (by omega) (.cons rfl (.cons rfl (.cons rfl (.cons rfl (.nil _))))) (.cons rfl (.cons rfl (.nil _))) (.cons rfl (.nil _)) (fun x hi => ?_)
          have hsu := short_h32 hl m x.1
          have hsn := short_len s m x.1
          refine cd_seq ?_
          refine cd_seq ?_
          refine cd_region ?_
          refine st (ev_move rfl) rfl rfl rfl ?_
          refine st (ev_len_ownh (h := 27) Try.underlying22 rfl rfl (by assumption)) rfl rfl rfl ?_
          refine st (ev_move rfl) rfl rfl rfl ?_
          refine st (ev_lss rfl rfl) rfl rfl rfl ?_
          refine op_nil ?_
          refine ax_then ?_
          refine At.regs (L' := [(1, _), (2, _), (3, _), (7, _), (28, _), (29, _), (30, _), (31, _)]) (.cons rfl (.cons rfl (.cons rfl (.cons rfl (.cons rfl (.cons rfl (.cons rfl (.cons rfl (.nil _))))))))) ?_
          refine cd_if rfl (fun hc31 => ?_) (fun hc31 => ?_)
          ·
            refine cd_skip ?_
            refine ax_then ?_
            refine At.regs (L' := [(1, _), (2, _), (3, _), (7, _), (28, _), (29, _), (30, _), (31, _)]) (.cons rfl (.cons rfl (.cons rfl (.cons rfl (.cons rfl (.cons rfl (.cons rfl (.cons rfl (.nil _))))))))) ?_
            refine cd_block ?_
            refine cd_region ?_
            refine st (ev_move rfl) rfl rfl rfl ?_
            refine st (ld_blk_all (h := 3) ty24 rfl rfl rfl (by first | omega | (simp only [List.length_append, List.length_cons, List.length_nil, List.length_set, List.length_replicate, List.length_take, List.length_drop, ints_length, wr_length, sha_len, way_len _ (by assumption), secret_len, digits_len, recov_len, sign_len] <;> omega) | rfl)) rfl rfl rfl ?_
            refine st_bsh1 (h := 34) Try.underlying22 ty24 rfl (by first | assumption | omega) rfl rfl (fun b34 hu34 => ?_)
            refine st_appendh (h := 27) Try.underlying22 Try.underlying22 ty24 rfl rfl rfl rfl (fun w1 sw => sw.own_rd (h := 34) rfl) (by assumption) (by assumption) (by first | omega | (simp only [List.length_append, List.length_cons, List.length_nil, List.length_set, List.length_replicate, List.length_take, List.length_drop, ints_length, wr_length, sha_len, way_len _ (by assumption), secret_len, digits_len, recov_len, sign_len] <;> omega)) (by decide) rfl rfl (fun v35 hu35 => ?_)
            refine st (ev_assign rfl) rfl rfl rfl ?_
            refine op_nil ?_
            refine ax_block ?_
            refine ax_heq (i := 27) (v' := .own (v35) 24 32 (flat (sign s 1 m 36 ++ List.replicate (x.1 + 1) s))) rfl (by rw [List.replicate_succ', List.append_assoc]) ?_
            exact at_again ((x.1 + 1, v35)) (by show 36 + (x.1 + 1) ≤ max n.toNat 36; omega) (by omega) (.cons rfl (.cons rfl (.cons rfl (.cons rfl (.nil _))))) (.cons rfl (.cons rfl (.nil _))) (.cons rfl (.nil _))
          ·
            refine cd_exit ?_
            refine ax_then_exit ?_
            refine ax_then_exit ?_
            refine ax_block_hit ?_
            refine ax_then ?_
            refine At.regs (L' := [(1, _), (2, _), (7, _)]) (.cons rfl (.cons rfl (.cons rfl (.nil _)))) ?_
            refine cd_seq ?_
            refine cd_region ?_
            refine st (ev_move rfl) rfl rfl rfl ?_
            refine st (ev_move rfl) rfl rfl rfl ?_
            refine st (ev_move rfl) rfl rfl rfl ?_
            refine st (ev_sliceh_hi Try.underlying22 ty24 rfl rfl (fun w1 sw => sw.own_rd (h := 27) rfl) (by assumption) (by omega) (by first | omega | (simp only [List.length_append, List.length_cons, List.length_nil, List.length_set, List.length_replicate, List.length_take, List.length_drop, ints_length, wr_length, sha_len, way_len _ (by assumption), secret_len, digits_len, recov_len, sign_len] <;> omega))) rfl rfl rfl ?_
            refine st_callv has26 rfl (fun w1 sw => recover_any p (cutAt 32 x.2 0 n.toNat) m ((sign s 1 m 36 ++ List.replicate (x.1) s).take n.toNat) w1 (by omega) (hsu.take _) (by rw [List.length_take]; omega) (sw.sl_rd (h := 1) rfl) (takeh (sw.own_rd (h := 27) rfl) hsu (by omega))) rfl rfl ?_
            refine at_eq (i := 41) (v' := .tuple #[.agg (ints .u8 (List.replicate 32 0)).toArray, .bool false]) rfl (by rw [recov, if_neg (by rw [List.length_take]; omega), decide_eq_false (by rw [List.length_take]; omega)]) ?_
            refine st (ev_move rfl) rfl rfl rfl ?_
            refine st (ev_extract rfl rfl) rfl rfl rfl ?_
            refine st (ev_extract rfl rfl) rfl rfl rfl ?_
            refine st_alloc (h := 8) ty24 rfl rfl rfl (fun b8 => ?_)
            refine st_store_all 8 ty24 rfl rfl rfl rfl (by first | omega | (simp only [List.length_append, List.length_cons, List.length_nil, List.length_set, List.length_replicate, List.length_take, List.length_drop, ints_length, wr_length, sha_len, way_len _ (by assumption), secret_len, digits_len, recov_len, sign_len] <;> omega) | rfl) (ints_one _ _) (by first | omega | (simp only [List.length_append, List.length_cons, List.length_nil, List.length_set, List.length_replicate, List.length_take, List.length_drop, ints_length, wr_length, sha_len, way_len _ (by assumption), secret_len, digits_len, recov_len, sign_len] <;> omega) | rfl) rfl ?_
            refine st (ev_assign rfl) rfl rfl rfl ?_
            refine op_nil ?_
            refine ax_then ?_
            refine At.regs (L' := [(8, _), (9, _)]) (.cons rfl (.cons rfl (.nil _))) ?_
            refine cd_seq ?_
            refine cd_region ?_
            refine st (ev_move rfl) rfl rfl rfl ?_
            refine st (ev_not rfl) rfl rfl rfl ?_
            refine st (ev_move rfl) rfl rfl rfl ?_
            refine st (ld_blk_all (h := 8) ty24 rfl rfl rfl (by first | omega | (simp only [List.length_append, List.length_cons, List.length_nil, List.length_set, List.length_replicate, List.length_take, List.length_drop, ints_length, wr_length, sha_len, way_len _ (by assumption), secret_len, digits_len, recov_len, sign_len] <;> omega) | rfl)) rfl rfl rfl ?_
            refine st (ev_build_array ty24 rfl ty5 rfl rfl) rfl rfl rfl ?_
            refine st (ev_eql_arr Try.underlying24 ty5 eqg24 rfl rfl (by first | omega | (simp only [List.length_append, List.length_cons, List.length_nil, List.length_set, List.length_replicate, List.length_take, List.length_drop, ints_length, wr_length, sha_len, way_len _ (by assumption), secret_len, digits_len, recov_len, sign_len] <;> omega) | rfl) (by first | omega | (simp only [List.length_append, List.length_cons, List.length_nil, List.length_set, List.length_replicate, List.length_take, List.length_drop, ints_length, wr_length, sha_len, way_len _ (by assumption), secret_len, digits_len, recov_len, sign_len] <;> omega) | rfl)) rfl rfl rfl ?_
            refine st (ev_pick_t rfl rfl) rfl rfl rfl ?_
            refine st (ev_move rfl) rfl rfl rfl ?_
            refine at_eq (i := 51) (v' := .bool true) rfl (by simp) ?_
            refine st_callv has25 rfl (fun w1 sw => known3_any w1) rfl rfl ?_
            refine st (ev_pick_t rfl rfl) rfl rfl rfl ?_
            refine st (ev_assign rfl) rfl rfl rfl ?_
            refine op_nil ?_
            refine ax_then ?_
            refine At.regs (L' := [(6, _)]) (.cons rfl (.nil _)) ?_
            refine cd_ret ?_
            refine rt_tmp (.inl rfl) Try.results10 rfl ?_
            exact fun w1 sw => ⟨rfl, sw.gives (.nil _)⟩

end Go.Proofs.Ytobbhelaajcpcaa

/- Walks: the laws of chapter 7. -/
import Derived.Test.YteedclmcgifmpaaSg2
namespace Go.Proofs.Yteedclmcgifmpaa
open Go Go.RowKit Fw
open Sha
open Ots
open Mk
set_option linter.unusedVariables false
set_option linter.unusedSimpArgs false

theorem rd_nilm {w : World} : Rd w (.slice none 0 0) 35 (Qm.mflat []) := ⟨none, 0, 0, rfl, rfl, Nat.le_refl _, fun _ => rfl, fun x hx => by cases hx⟩

set_option maxRecDepth 20000 in
set_option maxHeartbeats 4000000 in
theorem quorumNone_any (hd : Qm.Unlike) (pb : Value) (body : List Int) (need : Int) (w : World) (hb0 : body.length ≤ 140737488351232) (hbody : Rd w pb 1 (ints .u8 body)) : Calls Try.prog 6 #[pb, .int .i64 need] w (PostV w (.bool true)) := by
  have hsb := rd_shape hbody
  refine calls_at (vs := [pb, .int .i64 need]) (X := []) (H := []) (F := [(400, .sl (pb) 1 (ints .u8 (body)))]) 46 Try.func6 rfl rfl rfl (Sat.rd0 400 hbody) ?_
  refine cd_seq ?_
  refine cd_region ?_
  refine st (ev_assign rfl) rfl rfl rfl ?_
  refine op_nil ?_
  refine ax_then ?_
  refine At.regs (L' := [(0, _), (1, _), (4, _)]) (.cons rfl (.cons rfl (.cons rfl (.nil _)))) ?_
  refine cd_seq ?_
  refine cd_seq ?_
  refine cd_region ?_
  refine st (ev_move rfl) rfl rfl rfl ?_
  refine st (ev_len_rdi (h := 400) Try.underlying22 rfl rfl) rfl rfl rfl ?_
  refine st (ev_gtr rfl rfl) rfl rfl rfl ?_
  refine op_nil ?_
  refine ax_then ?_
  refine At.regs (L' := [(0, _), (1, _), (4, _), (10, _)]) (.cons rfl (.cons rfl (.cons rfl (.cons rfl (.nil _))))) ?_
  refine cd_if rfl (fun hc10 => ?_) (fun hc10 => ?_)
  ·
    refine cd_seq ?_
    refine cd_region ?_
    refine st (ev_assign rfl) rfl rfl rfl ?_
    refine op_nil ?_
    refine ax_then ?_
    refine At.regs (L' := [(0, _), (1, _), (4, _)]) (.cons rfl (.cons rfl (.cons rfl (.nil _)))) ?_
    refine cd_ret ?_
    refine ax_then_ret ?_
    refine rt_tmp (.inl rfl) Try.results6 rfl ?_
    exact fun w1 sw => ⟨rfl, sw.gives (.nil _)⟩
  ·
    refine cd_skip ?_
    refine ax_then ?_
    refine At.regs (L' := [(0, _), (1, _), (4, _)]) (.cons rfl (.cons rfl (.cons rfl (.nil _)))) ?_
    refine cd_seq ?_
    refine cd_region ?_
    refine st (ev_move rfl) rfl rfl rfl ?_
    refine st_callR 200 has24 rfl (fun w1 sw => signed_any pb body 7 false w1 (sw.sl_rd (h := 400) rfl) (by omega)) rfl rfl (fun x13 hx hfr => ?_)
    obtain ⟨mv, kv, ms, R⟩ := x13
    dsimp only at hx hfr ⊢
    obtain ⟨hms, hcov⟩ := hx
    refine at_own_shape (h := 0) rfl (fun hsm => ?_)
    refine at_own_shape (h := 1) rfl (fun hsk => ?_)
    have ha := Qm.aok_of hms
    have hml : ms.length ≤ 4 := by have := Qm.expd_four body 7 false; rw [← hms, List.length_map] at this; exact this
    have hku := Qm.keysK_h32 3
    have hkn := Qm.keysK_len 3
    have hmf := Qm.mflat_len ha
    refine st (ev_move rfl) rfl rfl rfl ?_
    refine st (ev_extract rfl rfl) rfl rfl rfl ?_
    refine st (ev_extract rfl rfl) rfl rfl rfl ?_
    refine st_alloc (h := 5) ty25 rfl rfl rfl (fun b5 => ?_)
    refine st_alloc (h := 6) ty28 rfl rfl rfl (fun b6 => ?_)
    refine st_store_all 5 ty25 rfl rfl rfl rfl rfl (by intro u hu; simp at hu; rcases hu with rfl | rfl; exact hsb.2; exact hsm.2) rfl rfl ?_
    refine st_store_all 6 ty28 rfl rfl rfl rfl rfl (by intro u hu; simp at hu; rcases hu with rfl | rfl; exact hsk.2; rfl) rfl rfl ?_
    refine op_nil ?_
    refine ax_then ?_
    refine At.regs (L' := [(0, _), (1, _), (4, _), (5, _), (6, _)]) (.cons rfl (.cons rfl (.cons rfl (.cons rfl (.cons rfl (.nil _)))))) ?_
    refine cd_seq ?_
    refine cd_region ?_
    refine st (ev_move rfl) rfl rfl rfl ?_
    refine st (ev_fieldAddr (b := _) Try.underlying28 (f := _) rfl ty3 (by decide) rfl) rfl rfl rfl ?_
    refine st_store1 6 ty3 rfl rfl rfl rfl (show 1 < 2 from by decide) rfl ?_
    refine at_heq (i := 6) (v' := .blk (b6) (.cells ([kv, .int .i64 need]).toArray 28)) rfl rfl ?_
    refine op_nil ?_
    refine ax_then ?_
    refine At.regs (L' := [(0, _), (1, _), (4, _), (5, _), (6, _)]) (.cons rfl (.cons rfl (.cons rfl (.cons rfl (.cons rfl (.nil _)))))) ?_
    refine cd_seq ?_
    refine cd_region ?_
    refine st (ev_move rfl) rfl rfl rfl ?_
    refine st (ev_build_struct ty25 rfl pl25 rfl ((fill_put (i := 0) (off := 0) (n := 1) (vs := [pb]) rfl hsb.1 rfl (Nat.le_of_ble_eq_true rfl)).trans fill_nil)) rfl rfl rfl ?_
    refine at_eq (i := 19) (v' := .agg (List.toArray [pb, .slice none 0 0])) rfl rfl ?_
    refine st_alloc (h := 7) ty25 rfl rfl rfl (fun b7 => ?_)
    refine st_store_all 7 ty25 rfl rfl rfl rfl rfl (by intro u hu; simp at hu; rcases hu with rfl | rfl; exact hsb.2; exact rfl) rfl rfl ?_
    refine op_nil ?_
    refine ax_then ?_
    refine At.regs (L' := [(1, _), (4, _), (5, _), (6, _), (7, _)]) (.cons rfl (.cons rfl (.cons rfl (.cons rfl (.cons rfl (.nil _)))))) ?_
    refine cd_seq ?_
    have hmt := Qm.meets_seven hd hms need
    have hbm := Qm.meets_bare body (Qm.keysK 3) need
    refine cd_region ?_
    refine st (ld_blk_all (h := 7) ty25 rfl rfl rfl (by first | omega | (simp only [List.length_append, List.length_cons, List.length_nil, List.length_set, List.length_replicate, List.length_take, List.length_drop, ints_length, wr_length, sha_len, node_len, recov_len, Ky.named_len, Ky.keyPub_len] <;> omega) | rfl)) rfl rfl rfl ?_
    refine st (ld_blk_all (h := 6) ty28 rfl rfl rfl (by first | omega | (simp only [List.length_append, List.length_cons, List.length_nil, List.length_set, List.length_replicate, List.length_take, List.length_drop, ints_length, wr_length, sha_len, node_len, recov_len, Ky.named_len, Ky.keyPub_len] <;> omega) | rfl)) rfl rfl rfl ?_
    refine st_call has17 rfl (fun w1 sw => rn 22 (who_any pb (.slice none 0 0) kv need body [] (Qm.keysK 3) w1 (sw.sl_rd (h := 400) rfl) (by omega) (fun x hx => by cases hx) (by decide) rd_nilm (fun x hx => by cases hx) hku (by rw [hkn]; decide) (sw.own_rd (h := 1) rfl))) nil_all rfl rfl (fun v22 _ => ?_)
    have hw22 := Qm.who_h32 body ([]) hku
    have hwu22 := hw22.1
    refine st (ev_len_ownh (h := 22) Try.underlying26 rfl rfl (by assumption)) rfl rfl rfl ?_
    refine st (ev_eql rfl rfl) rfl rfl rfl ?_
    refine st (ev_move rfl) rfl rfl rfl ?_
    refine at_eq (i := 25) (v' := .bool true) rfl (by rw [Qm.who_nil]; rfl) ?_
    refine st (ld_blk_all (h := 7) ty25 rfl rfl rfl (by first | omega | (simp only [List.length_append, List.length_cons, List.length_nil, List.length_set, List.length_replicate, List.length_take, List.length_drop, ints_length, wr_length, sha_len, node_len, recov_len, Ky.named_len, Ky.keyPub_len] <;> omega) | rfl)) rfl rfl rfl ?_
    refine st (ld_blk_all (h := 6) ty28 rfl rfl rfl (by first | omega | (simp only [List.length_append, List.length_cons, List.length_nil, List.length_set, List.length_replicate, List.length_take, List.length_drop, ints_length, wr_length, sha_len, node_len, recov_len, Ky.named_len, Ky.keyPub_len] <;> omega) | rfl)) rfl rfl rfl ?_
    refine st_callv has19 rfl (fun w1 sw => meets_any pb (.slice none 0 0) kv need body [] (Qm.keysK 3) w1 (sw.sl_rd (h := 400) rfl) (by omega) (fun x hx => by cases hx) (by decide) rd_nilm (fun x hx => by cases hx) hku (by rw [hkn]; decide) (sw.own_rd (h := 1) rfl)) rfl rfl ?_
    refine st (ev_not_if rfl) rfl rfl rfl ?_
    refine st (ev_pick_t rfl rfl) rfl rfl rfl ?_
    refine st (ev_move rfl) rfl rfl rfl ?_
    refine at_eq (i := 31) (v' := .bool true) rfl (by rw [decide_eq_true hbm]) ?_
    refine st (ld_blk_all (h := 5) ty25 rfl rfl rfl (by first | omega | (simp only [List.length_append, List.length_cons, List.length_nil, List.length_set, List.length_replicate, List.length_take, List.length_drop, ints_length, wr_length, sha_len, node_len, recov_len, Ky.named_len, Ky.keyPub_len] <;> omega) | rfl)) rfl rfl rfl ?_
    refine st (ld_blk_all (h := 6) ty28 rfl rfl rfl (by first | omega | (simp only [List.length_append, List.length_cons, List.length_nil, List.length_set, List.length_replicate, List.length_take, List.length_drop, ints_length, wr_length, sha_len, node_len, recov_len, Ky.named_len, Ky.keyPub_len] <;> omega) | rfl)) rfl rfl rfl ?_
    refine st_callv has19 rfl (fun w1 sw => meets_any pb mv kv need body ms (Qm.keysK 3) w1 (sw.sl_rd (h := 400) rfl) (by omega) ha (by omega) (sw.own_rd (h := 0) rfl) (fun x hx => ⟨sw.row (i := 200) rfl (hcov x hx).1, sw.row (i := 200) rfl (hcov x hx).2⟩) hku (by rw [hkn]; decide) (sw.own_rd (h := 1) rfl)) rfl rfl ?_
    refine st (ev_move rfl) rfl rfl rfl ?_
    refine st (ev_geq rfl rfl) rfl rfl rfl ?_
    refine st (ev_move rfl) rfl rfl rfl ?_
    refine at_split_if (i := 37) rfl (fun hg37 => ?_) (fun hg37 => ?_)
    ·
      have hq : meets body ms (Qm.keysK 3) need ↔ need ≤ 3 := hmt.trans ⟨fun h => h.2, fun h => ⟨hg37, h⟩⟩
      refine st (ev_move rfl) rfl rfl rfl ?_
      refine st (ev_leq rfl rfl) rfl rfl rfl ?_
      refine st (ev_pick_t rfl rfl) rfl rfl rfl ?_
      refine st (ev_eql_bool Try.underlying4 rfl rfl) rfl rfl rfl ?_
      refine st (ev_pick_t rfl rfl) rfl rfl rfl ?_
      refine st (ev_move rfl) rfl rfl rfl ?_
      refine at_eq (i := 43) (v' := .bool true) rfl (by first | (rw [decide_eq_false hq]; rfl) | (rw [decide_eq_decide.2 hq, beq_self_eq_true])) ?_
      refine st_callv has23 rfl (fun w1 sw => known7_any w1) rfl rfl ?_
      refine st (ev_pick_t rfl rfl) rfl rfl rfl ?_
      refine st (ev_assign rfl) rfl rfl rfl ?_
      refine op_nil ?_
      refine ax_then ?_
      refine At.regs (L' := [(4, _)]) (.cons rfl (.nil _)) ?_
      refine cd_ret ?_
      refine rt_tmp (.inl rfl) Try.results6 rfl ?_
      exact fun w1 sw => ⟨rfl, sw.gives (.nil _)⟩
    ·
      have hq : ¬ meets body ms (Qm.keysK 3) need := fun h => hg37 (hmt.1 h).1
      refine st_skip rfl rfl rfl ?_
      refine st_skip rfl rfl rfl ?_
      refine st (ev_pick_f rfl rfl) rfl rfl rfl ?_
      refine st (ev_eql_bool Try.underlying4 rfl rfl) rfl rfl rfl ?_
      refine st (ev_pick_t rfl rfl) rfl rfl rfl ?_
      refine st (ev_move rfl) rfl rfl rfl ?_
      refine at_eq (i := 43) (v' := .bool true) rfl (by first | (rw [decide_eq_false hq]; rfl) | (rw [decide_eq_decide.2 hq, beq_self_eq_true])) ?_
      refine st_callv has23 rfl (fun w1 sw => known7_any w1) rfl rfl ?_
      refine st (ev_pick_t rfl rfl) rfl rfl rfl ?_
      refine st (ev_assign rfl) rfl rfl rfl ?_
      refine op_nil ?_
      refine ax_then ?_
      refine At.regs (L' := [(4, _)]) (.cons rfl (.nil _)) ?_
      refine cd_ret ?_
      refine rt_tmp (.inl rfl) Try.results6 rfl ?_
      exact fun w1 sw => ⟨rfl, sw.gives (.nil _)⟩

set_option maxRecDepth 20000 in
set_option maxHeartbeats 4000000 in
theorem quorumCounts_any (hd : Qm.Unlike) (pb : Value) (body : List Int) (which need : Int) (tw : Bool) (w : World) (hb0 : body.length ≤ 140737488351232) (hbody : Rd w pb 1 (ints .u8 body)) : Calls Try.prog 4 #[pb, .int .i64 which, .int .i64 need, .bool tw] w (PostV w (.bool true)) := by
  have hsb := rd_shape hbody
  refine calls_at (vs := [pb, .int .i64 which, .int .i64 need, .bool tw]) (X := []) (H := []) (F := [(400, .sl (pb) 1 (ints .u8 (body)))]) 105 Try.func4 rfl rfl rfl (Sat.rd0 400 hbody) ?_
  refine cd_seq ?_
  refine cd_region ?_
  refine st (ev_assign rfl) rfl rfl rfl ?_
  refine op_nil ?_
  refine ax_then ?_
  refine At.regs (L' := [(0, _), (1, _), (2, _), (3, _), (8, _)]) (.cons rfl (.cons rfl (.cons rfl (.cons rfl (.cons rfl (.nil _)))))) ?_
  refine cd_seq ?_
  refine cd_seq ?_
  refine cd_region ?_
  refine st (ev_move rfl) rfl rfl rfl ?_
  refine st (ev_len_rdi (h := 400) Try.underlying22 rfl rfl) rfl rfl rfl ?_
  refine st (ev_gtr rfl rfl) rfl rfl rfl ?_
  refine st (ev_move rfl) rfl rfl rfl ?_
  refine at_split_if (i := 18) rfl (fun hg18 => ?_) (fun hg18 => ?_)
  ·
    refine st_skip rfl rfl rfl ?_
    refine st_skip rfl rfl rfl ?_
    refine st (ev_pick_t rfl rfl) rfl rfl rfl ?_
    refine st (ev_move rfl) rfl rfl rfl ?_
    refine st_skip rfl rfl rfl ?_
    refine st_skip rfl rfl rfl ?_
    refine st (ev_pick_t rfl rfl) rfl rfl rfl ?_
    refine st (ev_move rfl) rfl rfl rfl ?_
    refine st_skip rfl rfl rfl ?_
    refine st_skip rfl rfl rfl ?_
    refine st (ev_pick_t rfl rfl) rfl rfl rfl ?_
    refine st (ev_move rfl) rfl rfl rfl ?_
    refine st_skip rfl rfl rfl ?_
    refine st_skip rfl rfl rfl ?_
    refine st (ev_pick_t rfl rfl) rfl rfl rfl ?_
    refine op_nil ?_
    refine ax_then ?_
    refine At.regs (L' := [(0, _), (1, _), (2, _), (3, _), (8, _), (33, _)]) (.cons rfl (.cons rfl (.cons rfl (.cons rfl (.cons rfl (.cons rfl (.nil _))))))) ?_
    refine cd_true rfl ?_
    refine cd_seq ?_
    refine cd_region ?_
    refine st (ev_assign rfl) rfl rfl rfl ?_
    refine op_nil ?_
    refine ax_then ?_
    refine At.regs (L' := [(0, _), (1, _), (2, _), (3, _), (8, _)]) (.cons rfl (.cons rfl (.cons rfl (.cons rfl (.cons rfl (.nil _)))))) ?_
    refine cd_ret ?_
    refine ax_then_ret ?_
    refine rt_tmp (.inl rfl) Try.results4 rfl ?_
    exact fun w1 sw => ⟨rfl, sw.gives (.nil _)⟩
  ·
    refine st (ev_move rfl) rfl rfl rfl ?_
    refine st (ev_lss rfl rfl) rfl rfl rfl ?_
    refine st (ev_pick_f rfl rfl) rfl rfl rfl ?_
    refine st (ev_move rfl) rfl rfl rfl ?_
    refine at_split_if (i := 22) rfl (fun hg22 => ?_) (fun hg22 => ?_)
    ·
      refine st_skip rfl rfl rfl ?_
      refine st_skip rfl rfl rfl ?_
      refine st (ev_pick_t rfl rfl) rfl rfl rfl ?_
      refine st (ev_move rfl) rfl rfl rfl ?_
      refine st_skip rfl rfl rfl ?_
      refine st_skip rfl rfl rfl ?_
      refine st (ev_pick_t rfl rfl) rfl rfl rfl ?_
      refine st (ev_move rfl) rfl rfl rfl ?_
      refine st_skip rfl rfl rfl ?_
      refine st_skip rfl rfl rfl ?_
      refine st (ev_pick_t rfl rfl) rfl rfl rfl ?_
      refine op_nil ?_
      refine ax_then ?_
      refine At.regs (L' := [(0, _), (1, _), (2, _), (3, _), (8, _), (33, _)]) (.cons rfl (.cons rfl (.cons rfl (.cons rfl (.cons rfl (.cons rfl (.nil _))))))) ?_
      refine cd_true rfl ?_
      refine cd_seq ?_
      refine cd_region ?_
      refine st (ev_assign rfl) rfl rfl rfl ?_
      refine op_nil ?_
      refine ax_then ?_
      refine At.regs (L' := [(0, _), (1, _), (2, _), (3, _), (8, _)]) (.cons rfl (.cons rfl (.cons rfl (.cons rfl (.cons rfl (.nil _)))))) ?_
      refine cd_ret ?_
      refine ax_then_ret ?_
      refine rt_tmp (.inl rfl) Try.results4 rfl ?_
      exact fun w1 sw => ⟨rfl, sw.gives (.nil _)⟩
    ·
      refine st (ev_move rfl) rfl rfl rfl ?_
      refine st (ev_gtr rfl rfl) rfl rfl rfl ?_
      refine st (ev_pick_f rfl rfl) rfl rfl rfl ?_
      refine st (ev_move rfl) rfl rfl rfl ?_
      refine at_split_if (i := 26) rfl (fun hg26 => ?_) (fun hg26 => ?_)
      ·
        refine st_skip rfl rfl rfl ?_
        refine st_skip rfl rfl rfl ?_
        refine st (ev_pick_t rfl rfl) rfl rfl rfl ?_
        refine st (ev_move rfl) rfl rfl rfl ?_
        refine st_skip rfl rfl rfl ?_
        refine st_skip rfl rfl rfl ?_
        refine st (ev_pick_t rfl rfl) rfl rfl rfl ?_
        refine op_nil ?_
        refine ax_then ?_
        refine At.regs (L' := [(0, _), (1, _), (2, _), (3, _), (8, _), (33, _)]) (.cons rfl (.cons rfl (.cons rfl (.cons rfl (.cons rfl (.cons rfl (.nil _))))))) ?_
        refine cd_true rfl ?_
        refine cd_seq ?_
        refine cd_region ?_
        refine st (ev_assign rfl) rfl rfl rfl ?_
        refine op_nil ?_
        refine ax_then ?_
        refine At.regs (L' := [(0, _), (1, _), (2, _), (3, _), (8, _)]) (.cons rfl (.cons rfl (.cons rfl (.cons rfl (.cons rfl (.nil _)))))) ?_
        refine cd_ret ?_
        refine ax_then_ret ?_
        refine rt_tmp (.inl rfl) Try.results4 rfl ?_
        exact fun w1 sw => ⟨rfl, sw.gives (.nil _)⟩
      ·
        refine st (ev_move rfl) rfl rfl rfl ?_
        refine st (ev_lss rfl rfl) rfl rfl rfl ?_
        refine st (ev_pick_f rfl rfl) rfl rfl rfl ?_
        refine st (ev_move rfl) rfl rfl rfl ?_
        refine at_split_if (i := 30) rfl (fun hg30 => ?_) (fun hg30 => ?_)
        ·
          refine st_skip rfl rfl rfl ?_
          refine st_skip rfl rfl rfl ?_
          refine st (ev_pick_t rfl rfl) rfl rfl rfl ?_
          refine op_nil ?_
          refine ax_then ?_
          refine At.regs (L' := [(0, _), (1, _), (2, _), (3, _), (8, _), (33, _)]) (.cons rfl (.cons rfl (.cons rfl (.cons rfl (.cons rfl (.cons rfl (.nil _))))))) ?_
          refine cd_true rfl ?_
          refine cd_seq ?_
          refine cd_region ?_
          refine st (ev_assign rfl) rfl rfl rfl ?_
          refine op_nil ?_
          refine ax_then ?_
          refine At.regs (L' := [(0, _), (1, _), (2, _), (3, _), (8, _)]) (.cons rfl (.cons rfl (.cons rfl (.cons rfl (.cons rfl (.nil _)))))) ?_
          refine cd_ret ?_
          refine ax_then_ret ?_
          refine rt_tmp (.inl rfl) Try.results4 rfl ?_
          exact fun w1 sw => ⟨rfl, sw.gives (.nil _)⟩
        ·
          refine st (ev_move rfl) rfl rfl rfl ?_
          refine st (ev_gtr rfl rfl) rfl rfl rfl ?_
          refine st (ev_pick_f rfl rfl) rfl rfl rfl ?_
          refine op_nil ?_
          refine ax_then ?_
          refine At.regs (L' := [(0, _), (1, _), (2, _), (3, _), (8, _), (33, _)]) (.cons rfl (.cons rfl (.cons rfl (.cons rfl (.cons rfl (.cons rfl (.nil _))))))) ?_
          refine cd_if rfl (fun hc33 => ?_) (fun hc33 => ?_)
          ·
            refine cd_seq ?_
            refine cd_region ?_
            refine st (ev_assign rfl) rfl rfl rfl ?_
            refine op_nil ?_
            refine ax_then ?_
            refine At.regs (L' := [(0, _), (1, _), (2, _), (3, _), (8, _)]) (.cons rfl (.cons rfl (.cons rfl (.cons rfl (.cons rfl (.nil _)))))) ?_
            refine cd_ret ?_
            refine ax_then_ret ?_
            refine rt_tmp (.inl rfl) Try.results4 rfl ?_
            exact fun w1 sw => ⟨rfl, sw.gives (.nil _)⟩
          ·
            refine cd_skip ?_
            refine ax_then ?_
            refine At.regs (L' := [(0, _), (1, _), (2, _), (3, _), (8, _)]) (.cons rfl (.cons rfl (.cons rfl (.cons rfl (.cons rfl (.nil _)))))) ?_
            refine cd_seq ?_
            obtain ⟨k, rfl⟩ := Int.eq_ofNat_of_zero_le (show 0 ≤ which by omega)
            have hk7 : k ≤ 7 := by omega
            have hcr := Qm.cnt_rng k hk7
            have hcs := Qm.cnt_sum k hk7
            refine cd_region ?_
            refine st (ev_move rfl) rfl rfl rfl ?_
            refine st (ev_move rfl) rfl rfl rfl ?_
            refine st (ev_move rfl) rfl rfl rfl ?_
            refine st_callR 200 has24 rfl (fun w1 sw => signed_any pb body (k : Int) tw w1 (sw.sl_rd (h := 400) rfl) (by omega)) rfl rfl (fun x38 hx hfr => ?_)
            obtain ⟨mv, kv, ms, R⟩ := x38
            dsimp only at hx hfr ⊢
            obtain ⟨hms, hcov⟩ := hx
            refine at_own_shape (h := 0) rfl (fun hsm => ?_)
            refine at_own_shape (h := 1) rfl (fun hsk => ?_)
            have ha := Qm.aok_of hms
            have hml : ms.length ≤ 4 := by have := Qm.expd_four body (k : Int) tw; rw [← hms, List.length_map] at this; exact this
            have hku := Qm.keysK_h32 3
            have hkn := Qm.keysK_len 3
            have hmf := Qm.mflat_len ha
            refine st (ev_move rfl) rfl rfl rfl ?_
            refine st (ev_extract rfl rfl) rfl rfl rfl ?_
            refine st (ev_extract rfl rfl) rfl rfl rfl ?_
            refine st_alloc (h := 9) ty25 rfl rfl rfl (fun b9 => ?_)
            refine st_alloc (h := 10) ty28 rfl rfl rfl (fun b10 => ?_)
            refine st_store_all 9 ty25 rfl rfl rfl rfl rfl (by intro u hu; simp at hu; rcases hu with rfl | rfl; exact hsb.2; exact hsm.2) rfl rfl ?_
            refine st_store_all 10 ty28 rfl rfl rfl rfl rfl (by intro u hu; simp at hu; rcases hu with rfl | rfl; exact hsk.2; rfl) rfl rfl ?_
            refine op_nil ?_
            refine ax_then ?_
            refine At.regs (L' := [(1, _), (2, _), (8, _), (9, _), (10, _)]) (.cons rfl (.cons rfl (.cons rfl (.cons rfl (.cons rfl (.nil _)))))) ?_
            refine cd_seq ?_
            refine cd_region ?_
            refine st (ev_move rfl) rfl rfl rfl ?_
            refine st (ev_fieldAddr (b := _) Try.underlying28 (f := _) rfl ty3 (by decide) rfl) rfl rfl rfl ?_
            refine st_store1 10 ty3 rfl rfl rfl rfl (show 1 < 2 from by decide) rfl ?_
            refine at_heq (i := 10) (v' := .blk (b10) (.cells ([kv, .int .i64 need]).toArray 28)) rfl rfl ?_
            refine op_nil ?_
            refine ax_then ?_
            refine At.regs (L' := [(1, _), (2, _), (8, _), (9, _), (10, _)]) (.cons rfl (.cons rfl (.cons rfl (.cons rfl (.cons rfl (.nil _)))))) ?_
            refine cd_seq ?_
            refine cd_region ?_
            refine st (ev_move rfl) rfl rfl rfl ?_
            refine st (ev_and rfl rfl) rfl rfl rfl ?_
            refine st (ev_move rfl) rfl rfl rfl ?_
            refine st (ev_shr rfl rfl (by omega)) rfl rfl rfl ?_
            refine st (ev_and rfl rfl) rfl rfl rfl ?_
            refine st (ev_add64 rfl rfl (by omega) (by omega)) rfl rfl rfl ?_
            refine st (ev_move rfl) rfl rfl rfl ?_
            refine st (ev_shr rfl rfl (by omega)) rfl rfl rfl ?_
            refine st (ev_and rfl rfl) rfl rfl rfl ?_
            refine st (ev_add64 rfl rfl (by omega) (by omega)) rfl rfl rfl ?_
            refine at_eq (i := 52) (v' := .int .i64 ((Qm.cnt (k : Int) : Nat) : Int)) rfl (by rw [hcs]) ?_
            refine st (ev_assign rfl) rfl rfl rfl ?_
            refine op_nil ?_
            refine ax_then ?_
            refine At.regs (L' := [(1, _), (2, _), (8, _), (9, _), (10, _), (11, _)]) (.cons rfl (.cons rfl (.cons rfl (.cons rfl (.cons rfl (.cons rfl (.nil _))))))) ?_
            refine cd_seq ?_
            refine cd_region ?_
            refine st (ld_blk_all (h := 9) ty25 rfl rfl rfl (by first | omega | (simp only [List.length_append, List.length_cons, List.length_nil, List.length_set, List.length_replicate, List.length_take, List.length_drop, ints_length, wr_length, sha_len, node_len, recov_len, Ky.named_len, Ky.keyPub_len] <;> omega) | rfl)) rfl rfl rfl ?_
            refine st (ld_blk_all (h := 10) ty28 rfl rfl rfl (by first | omega | (simp only [List.length_append, List.length_cons, List.length_nil, List.length_set, List.length_replicate, List.length_take, List.length_drop, ints_length, wr_length, sha_len, node_len, recov_len, Ky.named_len, Ky.keyPub_len] <;> omega) | rfl)) rfl rfl rfl ?_
            refine st_call has17 rfl (fun w1 sw => rn 55 (who_any pb mv kv need body ms (Qm.keysK 3) w1 (sw.sl_rd (h := 400) rfl) (by omega) ha (by omega) (sw.own_rd (h := 0) rfl) (fun x hx => ⟨sw.row (i := 200) rfl (hcov x hx).1, sw.row (i := 200) rfl (hcov x hx).2⟩) hku (by rw [hkn]; decide) (sw.own_rd (h := 1) rfl))) nil_all rfl rfl (fun v55 _ => ?_)
            have hw55 := Qm.who_h32 body (ms) hku
            have hwu55 := hw55.1
            refine at_heq (i := 55) (v' := .own (v55) 39 32 (flat (Qm.sel (k : Int) 3))) rfl (by rw [Qm.who_sel hd hms 3 (Nat.le_refl _)]) ?_
            have hse := Qm.sel_h32 (k : Int) 3
            have hsl := Qm.sel_cnt (k : Int)
            have hmt := Qm.meets_cnt hd hms (need := need) (by omega) (by omega)
            have hs3 := Qm.sel_len (k : Int) 3
            refine st (ev_assign rfl) rfl rfl rfl ?_
            refine op_nil ?_
            refine ax_then ?_
            refine At.regs (L' := [(1, _), (2, _), (8, _), (9, _), (10, _), (11, _), (12, _)]) (.cons rfl (.cons rfl (.cons rfl (.cons rfl (.cons rfl (.cons rfl (.cons rfl (.nil _)))))))) ?_
            refine cd_seq ?_
            refine cd_region ?_
            refine st (ev_assign rfl) rfl rfl rfl ?_
            refine op_nil ?_
            refine ax_then ?_
            refine At.regs (L' := [(1, _), (2, _), (8, _), (9, _), (10, _), (11, _), (12, _), (13, _)]) (.cons rfl (.cons rfl (.cons rfl (.cons rfl (.cons rfl (.cons rfl (.cons rfl (.cons rfl (.nil _))))))))) ?_
            refine cd_seq ?_
            refine cd_seq ?_
            refine cd_region ?_
            refine st (ev_assign rfl) rfl rfl rfl ?_
            refine op_nil ?_
            refine ax_then ?_
            refine At.regs (L' := [(1, _), (2, _), (8, _), (9, _), (10, _), (11, _), (12, _), (13, _), (14, _)]) (.cons rfl (.cons rfl (.cons rfl (.cons rfl (.cons rfl (.cons rfl (.cons rfl (.cons rfl (.cons rfl (.nil _)))))))))) ?_
            refine cd_block ?_
            refine cd_loop (ι := Nat) (fun i => i ≤ 3) (fun i => 3 - i)
                (fun i => [(1, .int .i64 (k : Int)), (2, .int .i64 need), (9, .pointer (some ⟨b9, 0, none⟩)), (10, .pointer (some ⟨b10, 0, none⟩)), (11, .int .i64 ((Qm.cnt (k : Int) : Nat) : Int)), (12, v55), (13, .int .i64 ((Qm.sel (k : Int) i).length : Nat)), (14, .int .i64 (i : Int))])
                (fun i => [(0, .own (mv) 44 35 (Qm.mflat (ms))), (1, .own (kv) 39 32 (flat (Qm.keysK 3))), (9, .blk (b9) (.cells ([pb, mv]).toArray 25)), (10, .blk (b10) (.cells ([kv, .int .i64 need]).toArray 28)), (55, .own (v55) 39 32 (flat (Qm.sel (k : Int) 3)))])
                (fun i => [(200, .rows R), (400, .sl (pb) 1 (ints .u8 (body)))])
                0 (by omega) (.cons rfl (.cons rfl (.cons rfl (.cons rfl (.cons rfl (.cons rfl (.cons rfl (.cons rfl (.nil _))))))))) (.cons rfl (.cons rfl (.cons rfl (.cons rfl (.cons rfl (.nil _)))))) (.cons rfl (.cons rfl (.nil _))) (fun i hi => ?_)
            have hmo := Qm.sel_mono (k : Int) hi
            have hki : i < 3 → (Qm.keysK 3).getD (i : Int).toNat [] = Ky.keyPub (Qm.sd i) := fun h => by rw [Int.toNat_natCast, Qm.keysK_get h]
            have hkp := Ky.keyPub_len (Qm.sd i)
            have hgl : i < 3 → ((Qm.keysK 3).getD (i : Int).toNat []).length = 32 := fun h => by rw [hki h, hkp]
            have hsg : (Qm.sel (k : Int) i).length < (Qm.sel (k : Int) 3).length → ((Qm.sel (k : Int) 3).getD (((Qm.sel (k : Int) i).length : Nat) : Int).toNat []).length = 32 := fun h => hse.get (by rw [Int.toNat_natCast]; exact h)
            refine cd_seq ?_
            refine cd_seq ?_
            refine cd_region ?_
            refine st (ev_move rfl) rfl rfl rfl ?_
            refine st (ev_lss rfl rfl) rfl rfl rfl ?_
            refine st (ev_move rfl) rfl rfl rfl ?_
            refine at_split_if (i := 58) rfl (fun hg58 => ?_) (fun hg58 => ?_)
            ·
              have hi3 : i < 3 := by omega
              refine st (ev_move rfl) rfl rfl rfl ?_
              refine st (ev_move rfl) rfl rfl rfl ?_
              refine st (ev_len_ownh (h := 55) Try.underlying26 rfl rfl (by assumption)) rfl rfl rfl ?_
              refine st (ev_lss rfl rfl) rfl rfl rfl ?_
              refine st (ev_pick_t rfl rfl) rfl rfl rfl ?_
              refine op_nil ?_
              refine ax_then ?_
              refine At.regs (L' := [(1, _), (2, _), (9, _), (10, _), (11, _), (12, _), (13, _), (14, _), (56, _), (57, _), (58, _), (59, _), (60, _), (61, _), (62, _), (63, _)]) (.cons rfl (.cons rfl (.cons rfl (.cons rfl (.cons rfl (.cons rfl (.cons rfl (.cons rfl (.cons rfl (.cons rfl (.cons rfl (.cons rfl (.cons rfl (.cons rfl (.cons rfl (.cons rfl (.nil _))))))))))))))))) ?_
              refine cd_if rfl (fun hc63 => ?_) (fun hc63 => ?_)
              ·
                have hsg2 := hsg (by omega)
                have hgl2 := hgl hi3
                refine cd_skip ?_
                refine ax_then ?_
                refine At.regs (L' := [(1, _), (2, _), (9, _), (10, _), (11, _), (12, _), (13, _), (14, _), (56, _), (57, _), (58, _), (59, _), (60, _), (61, _), (62, _), (63, _)]) (.cons rfl (.cons rfl (.cons rfl (.cons rfl (.cons rfl (.cons rfl (.cons rfl (.cons rfl (.cons rfl (.cons rfl (.cons rfl (.cons rfl (.cons rfl (.cons rfl (.cons rfl (.cons rfl (.nil _))))))))))))))))) ?_
                refine cd_join (ι := Unit) (fun _ => True) (fun _ => [(1, .int .i64 (k : Int)), (2, .int .i64 need), (9, .pointer (some ⟨b9, 0, none⟩)), (10, .pointer (some ⟨b10, 0, none⟩)), (11, .int .i64 ((Qm.cnt (k : Int) : Nat) : Int)), (12, v55), (13, .int .i64 ((Qm.sel (k : Int) (i + 1)).length : Nat)), (14, .int .i64 (i : Int))]) (fun _ => [(0, .own (mv) 44 35 (Qm.mflat (ms))), (1, .own (kv) 39 32 (flat (Qm.keysK 3))), (9, .blk (b9) (.cells ([pb, mv]).toArray 25)), (10, .blk (b10) (.cells ([kv, .int .i64 need]).toArray 28)), (55, .own (v55) 39 32 (flat (Qm.sel (k : Int) 3)))]) (fun _ => [(200, .rows R), (400, .sl (pb) 1 (ints .u8 (body)))]) ?_ (fun _ hj => ?_)
                ·
                  refine cd_block ?_
                  refine cd_seq ?_
                  refine cd_region ?_
                  refine st (ev_move rfl) rfl rfl rfl ?_
                  refine st (ev_move rfl) rfl rfl rfl ?_
                  refine st (ev_convu64 Try.underlying3 Try.underlying37 rfl (by omega) (by omega)) rfl rfl rfl ?_
                  refine st (ev_shr rfl rfl (by omega)) rfl rfl rfl ?_
                  refine st (ev_and rfl rfl) rfl rfl rfl ?_
                  refine st (ev_eql rfl rfl) rfl rfl rfl ?_
                  refine op_nil ?_
                  refine ax_then ?_
                  refine At.regs (L' := [(1, _), (2, _), (9, _), (10, _), (11, _), (12, _), (13, _), (14, _), (56, _), (57, _), (58, _), (59, _), (60, _), (61, _), (62, _), (63, _), (66, _), (67, _), (68, _), (69, _), (70, _), (71, _)]) (.cons rfl (.cons rfl (.cons rfl (.cons rfl (.cons rfl (.cons rfl (.cons rfl (.cons rfl (.cons rfl (.cons rfl (.cons rfl (.cons rfl (.cons rfl (.cons rfl (.cons rfl (.cons rfl (.cons rfl (.cons rfl (.cons rfl (.cons rfl (.cons rfl (.cons rfl (.nil _))))))))))))))))))))))) ?_
                  refine cd_if rfl (fun hc71 => ?_) (fun hc71 => ?_)
                  ·
                    have hgt := Qm.sel_get (show Qm.bit (k : Int) i from hc71) hi3
                    refine cd_seq ?_
                    refine cd_seq ?_
                    refine cd_open hmix (by decide +kernel) ?_
                    refine qt (ev_move rfl) rfl rfl rfl ?_
                    refine qt (ev_move rfl) rfl rfl rfl ?_
                    refine qt (ev_indexAddr_ownh (h := 55) Try.underlying26 ty39 rfl rfl rfl (by assumption) (by omega) (by omega)) rfl rfl rfl ?_
                    refine qt (ld_ownh (h := 55) ty39 rfl rfl rfl (by assumption) (by omega)) rfl rfl rfl ?_
                    refine qt (ev_fieldAddr (b := _) Try.underlying28 (f := _) rfl ty26 (by decide) rfl) rfl rfl rfl ?_
                    refine qt (ld_blk1 (h := 10) ty26 rfl rfl rfl rfl) rfl rfl rfl ?_
                    refine qt (ev_move rfl) rfl rfl rfl ?_
                    refine qt (ev_indexAddr_ownh (h := 1) Try.underlying26 ty39 rfl rfl rfl (by assumption) (by omega) (by omega)) rfl rfl rfl ?_
                    refine qt (ld_ownh (h := 1) ty39 rfl rfl rfl (by assumption) (by omega)) rfl rfl rfl ?_
                    refine qt (ev_neq_arr Try.underlying39 ty5 eqg39 rfl rfl (by first | omega | (simp only [List.length_append, List.length_cons, List.length_nil, List.length_set, List.length_replicate, List.length_take, List.length_drop, ints_length, wr_length, sha_len, node_len, recov_len, Ky.named_len, Ky.keyPub_len] <;> omega) | rfl) (by first | omega | (simp only [List.length_append, List.length_cons, List.length_nil, List.length_set, List.length_replicate, List.length_take, List.length_drop, ints_length, wr_length, sha_len, node_len, recov_len, Ky.named_len, Ky.keyPub_len] <;> omega) | rfl)) rfl rfl rfl ?_
                    refine qt_end ?_
                    refine op_nil ?_
                    refine ax_then ?_
                    refine At.regs (L' := [(1, _), (2, _), (9, _), (10, _), (11, _), (12, _), (13, _), (14, _), (56, _), (57, _), (58, _), (59, _), (60, _), (61, _), (62, _), (63, _), (66, _), (67, _), (68, _), (69, _), (70, _), (71, _), (72, _), (73, _), (74, _), (75, _), (76, _), (77, _), (78, _), (79, _), (80, _), (81, _)]) (.cons rfl (.cons rfl (.cons rfl (.cons rfl (.cons rfl (.cons rfl (.cons rfl (.cons rfl (.cons rfl (.cons rfl (.cons rfl (.cons rfl (.cons rfl (.cons rfl (.cons rfl (.cons rfl (.cons rfl (.cons rfl (.cons rfl (.cons rfl (.cons rfl (.cons rfl (.cons rfl (.cons rfl (.cons rfl (.cons rfl (.cons rfl (.cons rfl (.cons rfl (.cons rfl (.cons rfl (.cons rfl (.nil _))))))))))))))))))))))))))))))))) ?_
                    refine cd_if_f rfl (fun h => h (by rw [Int.toNat_natCast, hgt, hki hi3])) ?_
                    refine cd_skip ?_
                    refine ax_then ?_
                    refine At.regs (L' := [(1, _), (2, _), (9, _), (10, _), (11, _), (12, _), (13, _), (14, _), (56, _), (57, _), (58, _), (59, _), (60, _), (61, _), (62, _), (63, _), (66, _), (67, _), (68, _), (69, _), (70, _), (71, _), (72, _), (73, _), (74, _), (75, _), (76, _), (77, _), (78, _), (79, _), (80, _), (81, _)]) (.cons rfl (.cons rfl (.cons rfl (.cons rfl (.cons rfl (.cons rfl (.cons rfl (.cons rfl (.cons rfl (.cons rfl (.cons rfl (.cons rfl (.cons rfl (.cons rfl (.cons rfl (.cons rfl (.cons rfl (.cons rfl (.cons rfl (.cons rfl (.cons rfl (.cons rfl (.cons rfl (.cons rfl (.cons rfl (.cons rfl (.cons rfl (.cons rfl (.cons rfl (.cons rfl (.cons rfl (.cons rfl (.nil _))))))))))))))))))))))))))))))))) ?_
                    refine cd_region ?_
                    refine st (ev_move rfl) rfl rfl rfl ?_
                    refine st (ev_add64 rfl rfl (by omega) (by omega)) rfl rfl rfl ?_
                    refine st (ev_assign rfl) rfl rfl rfl ?_
                    refine op_nil ?_
                    refine ax_block ?_
                    refine ax_eq (i := 13) (v' := .int .i64 ((Qm.sel (k : Int) (i + 1)).length : Nat)) rfl (by rw [Qm.sel, if_pos (show Qm.bit (k : Int) i from hc71), List.length_append]; rfl) ?_
                    exact at_met (()) (trivial) (.cons rfl (.cons rfl (.cons rfl (.cons rfl (.cons rfl (.cons rfl (.cons rfl (.cons rfl (.nil _))))))))) (.cons rfl (.cons rfl (.cons rfl (.cons rfl (.cons rfl (.nil _)))))) (.cons rfl (.cons rfl (.nil _)))
                  ·
                    refine cd_skip ?_
                    refine ax_block ?_
                    refine ax_eq (i := 13) (v' := .int .i64 ((Qm.sel (k : Int) (i + 1)).length : Nat)) rfl (by rw [Qm.sel, if_neg (show ¬ Qm.bit (k : Int) i from hc71), List.append_nil]) ?_
                    exact at_met (()) (trivial) (.cons rfl (.cons rfl (.cons rfl (.cons rfl (.cons rfl (.cons rfl (.cons rfl (.cons rfl (.nil _))))))))) (.cons rfl (.cons rfl (.cons rfl (.cons rfl (.cons rfl (.nil _)))))) (.cons rfl (.cons rfl (.nil _)))
                ·
                  refine cd_region ?_
                  refine st (ev_move rfl) rfl rfl rfl ?_
                  refine st (ev_add64 rfl rfl (by omega) (by omega)) rfl rfl rfl ?_
                  refine st (ev_assign rfl) rfl rfl rfl ?_
                  refine op_nil ?_
                  exact at_again (i + 1) (by omega) (by omega) (.cons rfl (.cons rfl (.cons rfl (.cons rfl (.cons rfl (.cons rfl (.cons rfl (.cons rfl (.nil _))))))))) (.cons rfl (.cons rfl (.cons rfl (.cons rfl (.cons rfl (.nil _)))))) (.cons rfl (.cons rfl (.nil _)))
              ·
                have hat : (Qm.sel (k : Int) i).length = (Qm.sel (k : Int) 3).length := by omega
                refine cd_exit ?_
                refine ax_then_exit ?_
                refine ax_then_exit ?_
                refine ax_block_hit ?_
                refine ax_then ?_
                refine At.regs (L' := [(2, _), (9, _), (10, _), (11, _), (12, _), (13, _)]) (.cons rfl (.cons rfl (.cons rfl (.cons rfl (.cons rfl (.cons rfl (.nil _))))))) ?_
                refine cd_seq ?_
                refine cd_region ?_
                refine st (ev_move rfl) rfl rfl rfl ?_
                refine st (ev_len_ownh (h := 55) Try.underlying26 rfl rfl (by assumption)) rfl rfl rfl ?_
                refine st (ev_move rfl) rfl rfl rfl ?_
                refine st (ev_eql rfl rfl) rfl rfl rfl ?_
                refine st (ev_move rfl) rfl rfl rfl ?_
                refine at_eq (i := 88) (v' := .bool true) rfl (by rw [hsl]; simp) ?_
                refine st (ev_move rfl) rfl rfl rfl ?_
                refine st (ev_move rfl) rfl rfl rfl ?_
                refine st (ev_eql rfl rfl) rfl rfl rfl ?_
                refine st (ev_pick_t rfl rfl) rfl rfl rfl ?_
                refine st (ev_move rfl) rfl rfl rfl ?_
                refine at_eq (i := 93) (v' := .bool true) rfl (by rw [hat, hsl]; simp) ?_
                refine st (ld_blk_all (h := 9) ty25 rfl rfl rfl (by first | omega | (simp only [List.length_append, List.length_cons, List.length_nil, List.length_set, List.length_replicate, List.length_take, List.length_drop, ints_length, wr_length, sha_len, node_len, recov_len, Ky.named_len, Ky.keyPub_len] <;> omega) | rfl)) rfl rfl rfl ?_
                refine st (ld_blk_all (h := 10) ty28 rfl rfl rfl (by first | omega | (simp only [List.length_append, List.length_cons, List.length_nil, List.length_set, List.length_replicate, List.length_take, List.length_drop, ints_length, wr_length, sha_len, node_len, recov_len, Ky.named_len, Ky.keyPub_len] <;> omega) | rfl)) rfl rfl rfl ?_
                refine st_callv has19 rfl (fun w1 sw => meets_any pb mv kv need body ms (Qm.keysK 3) w1 (sw.sl_rd (h := 400) rfl) (by omega) ha (by omega) (sw.own_rd (h := 0) rfl) (fun x hx => ⟨sw.row (i := 200) rfl (hcov x hx).1, sw.row (i := 200) rfl (hcov x hx).2⟩) hku (by rw [hkn]; decide) (sw.own_rd (h := 1) rfl)) rfl rfl ?_
                refine st (ev_move rfl) rfl rfl rfl ?_
                refine st (ev_move rfl) rfl rfl rfl ?_
                refine st (ev_geq rfl rfl) rfl rfl rfl ?_
                refine st (ev_eql_bool Try.underlying4 rfl rfl) rfl rfl rfl ?_
                refine st (ev_pick_t rfl rfl) rfl rfl rfl ?_
                refine st (ev_move rfl) rfl rfl rfl ?_
                refine at_eq (i := 102) (v' := .bool true) rfl (by rw [decide_eq_decide.2 hmt, beq_self_eq_true]) ?_
                refine st_callv has23 rfl (fun w1 sw => known7_any w1) rfl rfl ?_
                refine st (ev_pick_t rfl rfl) rfl rfl rfl ?_
                refine st (ev_assign rfl) rfl rfl rfl ?_
                refine op_nil ?_
                refine ax_then ?_
                refine At.regs (L' := [(8, _)]) (.cons rfl (.nil _)) ?_
                refine cd_ret ?_
                refine rt_tmp (.inl rfl) Try.results4 rfl ?_
                exact fun w1 sw => ⟨rfl, sw.gives (.nil _)⟩
            ·
              obtain rfl : i = 3 := by omega
              have hat : (Qm.sel (k : Int) 3).length = (Qm.sel (k : Int) 3).length := rfl
              refine st_skip rfl rfl rfl ?_
              refine st_skip rfl rfl rfl ?_
              refine st_skip rfl rfl rfl ?_
              refine st_skip rfl rfl rfl ?_
              refine st (ev_pick_f rfl rfl) rfl rfl rfl ?_
              refine op_nil ?_
              refine ax_then ?_
              refine At.regs (L' := [(1, _), (2, _), (9, _), (10, _), (11, _), (12, _), (13, _), (14, _), (56, _), (57, _), (58, _), (59, _), (60, _), (61, _), (62, _), (63, _)]) (.cons rfl (.cons rfl (.cons rfl (.cons rfl (.cons rfl (.cons rfl (.cons rfl (.cons rfl (.cons rfl (.cons rfl (.cons rfl (.cons rfl (.cons rfl (.cons rfl (.cons rfl (.cons rfl (.nil _))))))))))))))))) ?_
              refine cd_false rfl ?_
              refine cd_exit ?_
              refine ax_then_exit ?_
              refine ax_then_exit ?_
              refine ax_block_hit ?_
              refine ax_then ?_
              refine At.regs (L' := [(2, _), (9, _), (10, _), (11, _), (12, _), (13, _)]) (.cons rfl (.cons rfl (.cons rfl (.cons rfl (.cons rfl (.cons rfl (.nil _))))))) ?_
              refine cd_seq ?_
              refine cd_region ?_
              refine st (ev_move rfl) rfl rfl rfl ?_
              refine st (ev_len_ownh (h := 55) Try.underlying26 rfl rfl (by assumption)) rfl rfl rfl ?_
              refine st (ev_move rfl) rfl rfl rfl ?_
              refine st (ev_eql rfl rfl) rfl rfl rfl ?_
              refine st (ev_move rfl) rfl rfl rfl ?_
              refine at_eq (i := 88) (v' := .bool true) rfl (by rw [hsl]; simp) ?_
              refine st (ev_move rfl) rfl rfl rfl ?_
              refine st (ev_move rfl) rfl rfl rfl ?_
              refine st (ev_eql rfl rfl) rfl rfl rfl ?_
              refine st (ev_pick_t rfl rfl) rfl rfl rfl ?_
              refine st (ev_move rfl) rfl rfl rfl ?_
              refine at_eq (i := 93) (v' := .bool true) rfl (by rw [hat, hsl]; simp) ?_
              refine st (ld_blk_all (h := 9) ty25 rfl rfl rfl (by first | omega | (simp only [List.length_append, List.length_cons, List.length_nil, List.length_set, List.length_replicate, List.length_take, List.length_drop, ints_length, wr_length, sha_len, node_len, recov_len, Ky.named_len, Ky.keyPub_len] <;> omega) | rfl)) rfl rfl rfl ?_
              refine st (ld_blk_all (h := 10) ty28 rfl rfl rfl (by first | omega | (simp only [List.length_append, List.length_cons, List.length_nil, List.length_set, List.length_replicate, List.length_take, List.length_drop, ints_length, wr_length, sha_len, node_len, recov_len, Ky.named_len, Ky.keyPub_len] <;> omega) | rfl)) rfl rfl rfl ?_
              refine st_callv has19 rfl (fun w1 sw => meets_any pb mv kv need body ms (Qm.keysK 3) w1 (sw.sl_rd (h := 400) rfl) (by omega) ha (by omega) (sw.own_rd (h := 0) rfl) (fun x hx => ⟨sw.row (i := 200) rfl (hcov x hx).1, sw.row (i := 200) rfl (hcov x hx).2⟩) hku (by rw [hkn]; decide) (sw.own_rd (h := 1) rfl)) rfl rfl ?_
              refine st (ev_move rfl) rfl rfl rfl ?_
              refine st (ev_move rfl) rfl rfl rfl ?_
              refine st (ev_geq rfl rfl) rfl rfl rfl ?_
              refine st (ev_eql_bool Try.underlying4 rfl rfl) rfl rfl rfl ?_
              refine st (ev_pick_t rfl rfl) rfl rfl rfl ?_
              refine st (ev_move rfl) rfl rfl rfl ?_
              refine at_eq (i := 102) (v' := .bool true) rfl (by rw [decide_eq_decide.2 hmt, beq_self_eq_true]) ?_
              refine st_callv has23 rfl (fun w1 sw => known7_any w1) rfl rfl ?_
              refine st (ev_pick_t rfl rfl) rfl rfl rfl ?_
              refine st (ev_assign rfl) rfl rfl rfl ?_
              refine op_nil ?_
              refine ax_then ?_
              refine At.regs (L' := [(8, _)]) (.cons rfl (.nil _)) ?_
              refine cd_ret ?_
              refine rt_tmp (.inl rfl) Try.results4 rfl ?_
              exact fun w1 sw => ⟨rfl, sw.gives (.nil _)⟩

end Go.Proofs.Yteedclmcgifmpaa

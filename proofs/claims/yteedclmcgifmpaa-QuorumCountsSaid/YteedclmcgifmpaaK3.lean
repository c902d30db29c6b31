/- Walks: the laws of chapter 5. -/
import Derived.Test.YteedclmcgifmpaaK2
namespace Go.Proofs.Yteedclmcgifmpaa
open Go Go.RowKit Fw
open Sha
open Ots
open Mk
set_option linter.unusedVariables false
set_option linter.unusedSimpArgs false

set_option maxRecDepth 20000 in
set_option maxHeartbeats 1000000 in
theorem known5_any (w : World) : Calls Try.prog 33 #[] w (PostV w (.bool true)) := by
  refine calls_at (vs := []) (X := []) (H := []) (F := []) 20 Try.func33 rfl rfl rfl (Sat.start0 w) ?_
  refine cd_seq ?_
  refine cd_region ?_
  refine st (ev_assign rfl) rfl rfl rfl ?_
  refine op_nil ?_
  refine ax_then ?_
  refine At.regs (L' := [(0, _)]) (.cons rfl (.nil _)) ?_
  refine cd_seq ?_
  refine cd_region ?_
  refine st (ev_build_array ty39 rfl ty5 rfl rfl) rfl rfl rfl ?_
  refine at_eq (i := 4) (v' := .agg (ints .u8 ((1 :: List.replicate 31 0))).toArray) rfl (by kernel_rfl) ?_
  refine st_call has26 rfl (fun w1 sw => rn2 5 20 (new_any (1 :: List.replicate 31 0) 16 w1 rfl)) nil_all rfl rfl (fun x5 _ => ?_)
  obtain ⟨b5, lv5⟩ := x5
  dsimp only
  refine at_heq (i := 5) (v' := .blk (b5) (.cells (Ky.cells (1 :: List.replicate 31 0) lv5 (((16 : Nat) : Int))).toArray 81)) rfl (by rw [show Ky.clamp 16 = (((16 : Nat) : Int)) from rfl]) ?_
  refine st (ev_assign rfl) rfl rfl rfl ?_
  refine op_nil ?_
  refine ax_then ?_
  refine At.regs (L' := [(0, _), (1, _)]) (.cons rfl (.cons rfl (.nil _))) ?_
  refine cd_seq ?_
  refine cd_seq ?_
  refine cd_region ?_
  refine st (ev_move rfl) rfl rfl rfl ?_
  refine st (ev_eql_ptr_nil Try.underlying49 rfl rfl) rfl rfl rfl ?_
  refine op_nil ?_
  refine ax_then ?_
  refine At.regs (L' := [(0, _), (1, _), (7, _)]) (.cons rfl (.cons rfl (.cons rfl (.nil _)))) ?_
  refine cd_false rfl ?_
  refine cd_skip ?_
  refine ax_then ?_
  refine At.regs (L' := [(0, _), (1, _)]) (.cons rfl (.cons rfl (.nil _))) ?_
  refine cd_seq ?_
  refine cd_region ?_
  refine st (ev_move rfl) rfl rfl rfl ?_
  refine st_callv has29 rfl (fun w1 sw => signk_used b5 lv5 (1 :: List.replicate 31 0) 16 (.slice none 0 0) w1 (by decide) rfl (lies_blk (sw.blk_eq (h := 5) rfl)) (sw.own_rd (h := 20) rfl)) rfl rfl ?_
  refine st (ev_move rfl) rfl rfl rfl ?_
  refine st (ev_extract rfl rfl) rfl rfl rfl ?_
  refine st (ev_extract rfl rfl) rfl rfl rfl ?_
  refine st_alloc (h := 2) ty42 rfl rfl rfl (fun b2 => ?_)
  refine st_store_all 2 ty42 rfl rfl rfl rfl (by first | omega | (simp only [List.length_append, List.length_cons, List.length_nil, List.length_set, List.length_replicate, List.length_take, List.length_drop, ints_length, wr_length, sha_len, node_len, recov_len, Ky.named_len, Ky.keyPub_len] <;> omega) | rfl) (by first | (intro u hu; simp at hu; rcases hu with rfl | rfl <;> rfl) | (simp [Value.oneCell'])) (by first | omega | (simp only [List.length_append, List.length_cons, List.length_nil, List.length_set, List.length_replicate, List.length_take, List.length_drop, ints_length, wr_length, sha_len, node_len, recov_len, Ky.named_len, Ky.keyPub_len] <;> omega) | rfl) rfl ?_
  refine st (ev_assign rfl) rfl rfl rfl ?_
  refine op_nil ?_
  refine ax_then ?_
  refine At.regs (L' := [(0, _), (1, _), (3, _)]) (.cons rfl (.cons rfl (.cons rfl (.nil _)))) ?_
  refine cd_seq ?_
  refine cd_region ?_
  refine st (ev_move rfl) rfl rfl rfl ?_
  refine st (ev_eql rfl rfl) rfl rfl rfl ?_
  refine st (ev_move rfl) rfl rfl rfl ?_
  refine at_eq (i := 15) (v' := .bool true) rfl (by rfl) ?_
  refine st (ev_move rfl) rfl rfl rfl ?_
  refine st_callv has32 rfl (fun w1 sw => used_any b5 lv5 (1 :: List.replicate 31 0) 16 w1 rfl (lies_blk (sw.blk_eq (h := 5) rfl)) (sw.own_rd (h := 20) rfl)) rfl rfl ?_
  refine st (ev_eql rfl rfl) rfl rfl rfl ?_
  refine st (ev_pick_t rfl rfl) rfl rfl rfl ?_
  refine st (ev_assign rfl) rfl rfl rfl ?_
  refine op_nil ?_
  refine ax_then ?_
  refine At.regs (L' := [(0, _)]) (.cons rfl (.nil _)) ?_
  refine cd_ret ?_
  refine rt_tmp (.inl rfl) Try.results33 rfl ?_
  exact fun w1 sw => ⟨rfl, sw.gives (.nil _)⟩

set_option maxRecDepth 20000 in
set_option maxHeartbeats 1000000 in
theorem keyOfNothing_any (p : Value) (m : List Int) (w : World) (hm0 : m.length ≤ 140737488351232) (h : Rd w p 1 (ints .u8 m)) : Calls Try.prog 8 #[p] w (PostV w (.bool true)) := by
  refine calls_at (vs := [p]) (X := []) (H := []) (F := [(0, .sl (p) 1 (ints .u8 (m)))]) 37 Try.func8 rfl rfl rfl (Sat.rd0 0 h) ?_
  refine cd_seq ?_
  refine cd_region ?_
  refine st (ev_assign rfl) rfl rfl rfl ?_
  refine op_nil ?_
  refine ax_then ?_
  refine At.regs (L' := [(0, _), (2, _)]) (.cons rfl (.cons rfl (.nil _))) ?_
  refine cd_seq ?_
  refine cd_seq ?_
  refine cd_region ?_
  refine st (ev_move rfl) rfl rfl rfl ?_
  refine st (ev_len_rdi (h := 0) Try.underlying22 rfl rfl) rfl rfl rfl ?_
  refine st (ev_gtr rfl rfl) rfl rfl rfl ?_
  refine op_nil ?_
  refine ax_then ?_
  refine At.regs (L' := [(0, _), (2, _), (8, _)]) (.cons rfl (.cons rfl (.cons rfl (.nil _)))) ?_
  refine cd_if rfl (fun hc8 => ?_) (fun hc8 => ?_)
  ·
    refine cd_seq ?_
    refine cd_region ?_
    refine st (ev_assign rfl) rfl rfl rfl ?_
    refine op_nil ?_
    refine ax_then ?_
    refine At.regs (L' := [(0, _), (2, _)]) (.cons rfl (.cons rfl (.nil _))) ?_
    refine cd_ret ?_
    refine ax_then_ret ?_
    refine rt_tmp (.inl rfl) Try.results8 rfl ?_
    exact fun w1 sw => ⟨rfl, sw.gives (.nil _)⟩
  ·
    refine cd_skip ?_
    refine ax_then ?_
    refine At.regs (L' := [(0, _), (2, _)]) (.cons rfl (.cons rfl (.nil _))) ?_
    refine cd_seq ?_
    refine cd_region ?_
    refine st (ev_assign rfl) rfl rfl rfl ?_
    refine op_nil ?_
    refine ax_then ?_
    refine At.regs (L' := [(0, _), (2, _), (3, _)]) (.cons rfl (.cons rfl (.cons rfl (.nil _)))) ?_
    refine cd_seq ?_
    refine cd_region ?_
    refine st (ev_move rfl) rfl rfl rfl ?_
    refine st (ev_move rfl) rfl rfl rfl ?_
    refine st_callv has29 rfl (fun w1 sw => signk_nil p w1) rfl rfl ?_
    refine st (ev_move rfl) rfl rfl rfl ?_
    refine st (ev_extract rfl rfl) rfl rfl rfl ?_
    refine st (ev_extract rfl rfl) rfl rfl rfl ?_
    refine st_alloc (h := 4) ty42 rfl rfl rfl (fun b4 => ?_)
    refine st_store_all 4 ty42 rfl rfl rfl rfl (by first | omega | (simp only [List.length_append, List.length_cons, List.length_nil, List.length_set, List.length_replicate, List.length_take, List.length_drop, ints_length, wr_length, sha_len, node_len, recov_len, Ky.named_len, Ky.keyPub_len] <;> omega) | rfl) (by first | (intro u hu; simp at hu; rcases hu with rfl | rfl <;> rfl) | (simp [Value.oneCell'])) (by first | omega | (simp only [List.length_append, List.length_cons, List.length_nil, List.length_set, List.length_replicate, List.length_take, List.length_drop, ints_length, wr_length, sha_len, node_len, recov_len, Ky.named_len, Ky.keyPub_len] <;> omega) | rfl) rfl ?_
    refine st (ev_assign rfl) rfl rfl rfl ?_
    refine op_nil ?_
    refine ax_then ?_
    refine At.regs (L' := [(2, _), (3, _), (4, _), (5, _)]) (.cons rfl (.cons rfl (.cons rfl (.cons rfl (.nil _))))) ?_
    refine cd_seq ?_
    refine cd_region ?_
    refine st (ev_move rfl) rfl rfl rfl ?_
    refine st (ev_eql rfl rfl) rfl rfl rfl ?_
    refine st (ev_move rfl) rfl rfl rfl ?_
    refine at_eq (i := 17) (v' := .bool true) rfl (by rfl) ?_
    refine st (ev_fieldAddr (b := _) Try.underlying42 (f := _) rfl ty26 (by decide) rfl) rfl rfl rfl ?_
    refine st (ld_blk1 (h := 4) ty26 rfl rfl rfl rfl) rfl rfl rfl ?_
    refine st (ev_len Try.underlying26 rfl) rfl rfl rfl ?_
    refine st (ev_eql rfl rfl) rfl rfl rfl ?_
    refine st (ev_pick_t rfl rfl) rfl rfl rfl ?_
    refine st (ev_move rfl) rfl rfl rfl ?_
    refine at_eq (i := 23) (v' := .bool true) rfl (by rfl) ?_
    refine st (ev_move rfl) rfl rfl rfl ?_
    refine st_callv has32 rfl (fun w1 sw => used_nil w1) rfl rfl ?_
    refine st (ev_eql rfl rfl) rfl rfl rfl ?_
    refine st (ev_pick_t rfl rfl) rfl rfl rfl ?_
    refine st (ev_move rfl) rfl rfl rfl ?_
    refine at_eq (i := 28) (v' := .bool true) rfl (by rfl) ?_
    refine st (ev_move rfl) rfl rfl rfl ?_
    refine st_callv has28 rfl (fun w1 sw => pubkey_nil w1) rfl rfl ?_
    refine st (ev_build_array ty39 rfl ty5 rfl rfl) rfl rfl rfl ?_
    refine st (ev_eql_arr Try.underlying39 ty5 eqg39 rfl rfl (by first | omega | (simp only [List.length_append, List.length_cons, List.length_nil, List.length_set, List.length_replicate, List.length_take, List.length_drop, ints_length, wr_length, sha_len, node_len, recov_len, Ky.named_len, Ky.keyPub_len] <;> omega) | rfl) (by first | omega | (simp only [List.length_append, List.length_cons, List.length_nil, List.length_set, List.length_replicate, List.length_take, List.length_drop, ints_length, wr_length, sha_len, node_len, recov_len, Ky.named_len, Ky.keyPub_len] <;> omega) | rfl)) rfl rfl rfl ?_
    refine st (ev_pick_t rfl rfl) rfl rfl rfl ?_
    refine st (ev_move rfl) rfl rfl rfl ?_
    refine at_eq (i := 34) (v' := .bool true) rfl (by simp) ?_
    refine st_callv has33 rfl (fun w1 sw => known5_any w1) rfl rfl ?_
    refine st (ev_pick_t rfl rfl) rfl rfl rfl ?_
    refine st (ev_assign rfl) rfl rfl rfl ?_
    refine op_nil ?_
    refine ax_then ?_
    refine At.regs (L' := [(2, _)]) (.cons rfl (.nil _)) ?_
    refine cd_ret ?_
    refine rt_tmp (.inl rfl) Try.results8 rfl ?_
    exact fun w1 sw => ⟨rfl, sw.gives (.nil _)⟩

set_option maxRecDepth 20000 in
set_option maxHeartbeats 2000000 in
theorem keyVerifies_any (p : List Int) (q : Value) (m : List Int) (l l2 : Int) (vc vp vc2 vp2 : Value) (cs ps cs2 ps2 : List (List Int)) (w : World) (hp : p.length = 32) (hm : m.length ≤ 140737488351232) (hu : H32 cs) (hu' : H32 ps) (hu2 : H32 cs2) (hu2' : H32 ps2) (n1 : cs.length ≤ 4398046511104) (n2 : ps.length ≤ 4398046511104) (n3 : cs2.length ≤ 4398046511104) (n4 : ps2.length ≤ 4398046511104) (h0 : Rd w q 1 (ints .u8 m)) (h : Rd w vc 32 (flat cs)) (h' : Rd w vp 32 (flat ps)) (h2 : Rd w vc2 32 (flat cs2)) (h2' : Rd w vp2 32 (flat ps2)) : Calls Try.prog 11 #[.agg (ints .u8 (p)).toArray, q, .agg (List.toArray [.int .i64 l, vc, vp]), .agg (List.toArray [.int .i64 l2, vc2, vp2])] w (PostV w (.bool true)) := by
  refine calls_at (vs := [.agg (ints .u8 (p)).toArray, q, .agg (List.toArray [.int .i64 l, vc, vp]), .agg (List.toArray [.int .i64 l2, vc2, vp2])]) (X := []) (H := []) (F := [(23, .sl (vp2) 32 (flat (ps2))), (22, .sl (vc2) 32 (flat (cs2))), (21, .sl (vp) 32 (flat (ps))), (20, .sl (vc) 32 (flat (cs))), (1, .sl (q) 1 (ints .u8 (m)))]) 63 Try.func11 rfl rfl rfl (((((Sat.rd0 1 h0).more 20 h).more 21 h').more 22 h2).more 23 h2') ?_
  refine cd_seq ?_
  refine cd_region ?_
  refine st_box (h := 4) rfl rfl rfl rfl (fun b4 => ?_)
  refine st_box (h := 6) rfl rfl rfl rfl (fun b6 => ?_)
  refine st_box (h := 7) rfl rfl rfl rfl (fun b7 => ?_)
  refine st (ev_assign rfl) rfl rfl rfl ?_
  refine op_nil ?_
  refine ax_then ?_
  refine At.regs (L' := [(1, _), (4, _), (6, _), (7, _), (8, _)]) (.cons rfl (.cons rfl (.cons rfl (.cons rfl (.cons rfl (.nil _)))))) ?_
  refine cd_seq ?_
  refine cd_seq ?_
  refine cd_region ?_
  refine st (ev_move rfl) rfl rfl rfl ?_
  refine st (ev_len_rdi (h := 1) Try.underlying22 rfl rfl) rfl rfl rfl ?_
  refine st (ev_gtr rfl rfl) rfl rfl rfl ?_
  refine st (ev_move rfl) rfl rfl rfl ?_
  refine at_split_if (i := 12) rfl (fun hg12 => ?_) (fun hg12 => ?_)
  ·
    refine st_skip rfl rfl rfl ?_
    refine st_skip rfl rfl rfl ?_
    refine st_skip rfl rfl rfl ?_
    refine st_skip rfl rfl rfl ?_
    refine st_skip rfl rfl rfl ?_
    refine st_skip rfl rfl rfl ?_
    refine st_skip rfl rfl rfl ?_
    refine st_skip rfl rfl rfl ?_
    refine st_skip rfl rfl rfl ?_
    refine st_skip rfl rfl rfl ?_
    refine st_skip rfl rfl rfl ?_
    refine st_skip rfl rfl rfl ?_
    refine st_skip rfl rfl rfl ?_
    refine st_skip rfl rfl rfl ?_
    refine st_skip rfl rfl rfl ?_
    refine st_skip rfl rfl rfl ?_
    refine st (ev_pick_t rfl rfl) rfl rfl rfl ?_
    refine op_nil ?_
    refine ax_then ?_
    refine At.regs (L' := [(1, _), (4, _), (6, _), (7, _), (8, _), (29, _)]) (.cons rfl (.cons rfl (.cons rfl (.cons rfl (.cons rfl (.cons rfl (.nil _))))))) ?_
    refine cd_true rfl ?_
    refine cd_seq ?_
    refine cd_region ?_
    refine st (ev_assign rfl) rfl rfl rfl ?_
    refine op_nil ?_
    refine ax_then ?_
    refine At.regs (L' := [(1, _), (4, _), (6, _), (7, _), (8, _)]) (.cons rfl (.cons rfl (.cons rfl (.cons rfl (.cons rfl (.nil _)))))) ?_
    refine cd_ret ?_
    refine ax_then_ret ?_
    refine rt_tmp (.inl rfl) Try.results11 rfl ?_
    exact fun w1 sw => ⟨rfl, sw.gives (.nil _)⟩
  ·
    refine st (ev_fieldAddr (b := _) Try.underlying42 (f := _) rfl ty26 (by decide) rfl) rfl rfl rfl ?_
    refine st (ld_blk1 (h := 6) ty26 rfl rfl rfl rfl) rfl rfl rfl ?_
    refine st (ev_len_rdh (h := 20) Try.underlying26 rfl rfl (by assumption)) rfl rfl rfl ?_
    refine st (ev_fieldAddr (b := _) Try.underlying42 (f := _) rfl ty26 (by decide) rfl) rfl rfl rfl ?_
    refine st (ld_blk1 (h := 6) ty26 rfl rfl rfl rfl) rfl rfl rfl ?_
    refine st (ev_len_rdh (h := 21) Try.underlying26 rfl rfl (by assumption)) rfl rfl rfl ?_
    refine st (ev_add64 rfl rfl (by omega) (by omega)) rfl rfl rfl ?_
    refine st (ev_fieldAddr (b := _) Try.underlying42 (f := _) rfl ty26 (by decide) rfl) rfl rfl rfl ?_
    refine st (ld_blk1 (h := 7) ty26 rfl rfl rfl rfl) rfl rfl rfl ?_
    refine st (ev_len_rdh (h := 22) Try.underlying26 rfl rfl (by assumption)) rfl rfl rfl ?_
    refine st (ev_add64 rfl rfl (by omega) (by omega)) rfl rfl rfl ?_
    refine st (ev_fieldAddr (b := _) Try.underlying42 (f := _) rfl ty26 (by decide) rfl) rfl rfl rfl ?_
    refine st (ld_blk1 (h := 7) ty26 rfl rfl rfl rfl) rfl rfl rfl ?_
    refine st (ev_len_rdh (h := 23) Try.underlying26 rfl rfl (by assumption)) rfl rfl rfl ?_
    refine st (ev_add64 rfl rfl (by omega) (by omega)) rfl rfl rfl ?_
    refine st (ev_gtr rfl rfl) rfl rfl rfl ?_
    refine st (ev_pick_f rfl rfl) rfl rfl rfl ?_
    refine op_nil ?_
    refine ax_then ?_
    refine At.regs (L' := [(1, _), (4, _), (6, _), (7, _), (8, _), (29, _)]) (.cons rfl (.cons rfl (.cons rfl (.cons rfl (.cons rfl (.cons rfl (.nil _))))))) ?_
    refine cd_if rfl (fun hc29 => ?_) (fun hc29 => ?_)
    ·
      refine cd_seq ?_
      refine cd_region ?_
      refine st (ev_assign rfl) rfl rfl rfl ?_
      refine op_nil ?_
      refine ax_then ?_
      refine At.regs (L' := [(1, _), (4, _), (6, _), (7, _), (8, _)]) (.cons rfl (.cons rfl (.cons rfl (.cons rfl (.cons rfl (.nil _)))))) ?_
      refine cd_ret ?_
      refine ax_then_ret ?_
      refine rt_tmp (.inl rfl) Try.results11 rfl ?_
      exact fun w1 sw => ⟨rfl, sw.gives (.nil _)⟩
    ·
      refine cd_skip ?_
      refine ax_then ?_
      refine At.regs (L' := [(1, _), (4, _), (6, _), (7, _), (8, _)]) (.cons rfl (.cons rfl (.cons rfl (.cons rfl (.cons rfl (.nil _)))))) ?_
      refine cd_seq ?_
      refine cd_open hmix (by decide +kernel) ?_
      refine qt (ld_blk_all (h := 4) ty39 rfl rfl rfl (by first | omega | (simp only [List.length_append, List.length_cons, List.length_nil, List.length_set, List.length_replicate, List.length_take, List.length_drop, ints_length, wr_length, sha_len, node_len, recov_len, Ky.named_len, Ky.keyPub_len] <;> omega) | rfl)) rfl rfl rfl ?_
      refine qt (ev_move rfl) rfl rfl rfl ?_
      refine qt (ld_blk_all (h := 6) ty42 rfl rfl rfl (by first | omega | (simp only [List.length_append, List.length_cons, List.length_nil, List.length_set, List.length_replicate, List.length_take, List.length_drop, ints_length, wr_length, sha_len, node_len, recov_len, Ky.named_len, Ky.keyPub_len] <;> omega) | rfl)) rfl rfl rfl ?_
      refine qt_callv has35 rfl (fun w1 sw => verify_any p q m l vc vp cs ps w1 hp (by omega) hu hu' (by omega) (by omega) (sw.sl_rd (h := 1) rfl) (sw.sl_rd (h := 20) rfl) (sw.sl_rd (h := 21) rfl)) rfl rfl ?_
      refine qt (ld_blk_all (h := 4) ty39 rfl rfl rfl (by first | omega | (simp only [List.length_append, List.length_cons, List.length_nil, List.length_set, List.length_replicate, List.length_take, List.length_drop, ints_length, wr_length, sha_len, node_len, recov_len, Ky.named_len, Ky.keyPub_len] <;> omega) | rfl)) rfl rfl rfl ?_
      refine qt (ev_move rfl) rfl rfl rfl ?_
      refine qt (ld_blk_all (h := 6) ty42 rfl rfl rfl (by first | omega | (simp only [List.length_append, List.length_cons, List.length_nil, List.length_set, List.length_replicate, List.length_take, List.length_drop, ints_length, wr_length, sha_len, node_len, recov_len, Ky.named_len, Ky.keyPub_len] <;> omega) | rfl)) rfl rfl rfl ?_
      refine qt_callv has36 rfl (fun w1 sw => rverify_any p q m l vc vp cs ps w1 hp (by omega) hu hu' (by omega) (by omega) (sw.sl_rd (h := 1) rfl) (sw.sl_rd (h := 20) rfl) (sw.sl_rd (h := 21) rfl)) rfl rfl ?_
      refine qt (ev_eql_bool Try.underlying4 rfl rfl) rfl rfl rfl ?_
      refine qt (ev_move rfl) rfl rfl rfl ?_
      refine qt_eq (i := 39) (v' := .bool true) rfl (by simp) ?_
      refine qt (ld_blk_all (h := 6) ty42 rfl rfl rfl (by first | omega | (simp only [List.length_append, List.length_cons, List.length_nil, List.length_set, List.length_replicate, List.length_take, List.length_drop, ints_length, wr_length, sha_len, node_len, recov_len, Ky.named_len, Ky.keyPub_len] <;> omega) | rfl)) rfl rfl rfl ?_
      refine qt_callv has37 rfl (fun w1 sw => isSig_any l vc vp cs ps w1 hu hu' (sw.sl_rd (h := 20) rfl) (sw.sl_rd (h := 21) rfl)) rfl rfl ?_
      refine qt (ld_blk_all (h := 6) ty42 rfl rfl rfl (by first | omega | (simp only [List.length_append, List.length_cons, List.length_nil, List.length_set, List.length_replicate, List.length_take, List.length_drop, ints_length, wr_length, sha_len, node_len, recov_len, Ky.named_len, Ky.keyPub_len] <;> omega) | rfl)) rfl rfl rfl ?_
      refine qt_callv has34 rfl (fun w1 sw => risSig_any l vc vp cs ps w1 hu hu' (sw.sl_rd (h := 20) rfl) (sw.sl_rd (h := 21) rfl)) rfl rfl ?_
      refine qt (ev_eql_bool Try.underlying4 rfl rfl) rfl rfl rfl ?_
      refine qt (ev_pick_t rfl rfl) rfl rfl rfl ?_
      refine qt (ev_move rfl) rfl rfl rfl ?_
      refine qt_eq (i := 46) (v' := .bool true) rfl (by simp) ?_
      refine qt (ld_blk_all (h := 6) ty42 rfl rfl rfl (by first | omega | (simp only [List.length_append, List.length_cons, List.length_nil, List.length_set, List.length_replicate, List.length_take, List.length_drop, ints_length, wr_length, sha_len, node_len, recov_len, Ky.named_len, Ky.keyPub_len] <;> omega) | rfl)) rfl rfl rfl ?_
      refine qt (ld_blk_all (h := 7) ty42 rfl rfl rfl (by first | omega | (simp only [List.length_append, List.length_cons, List.length_nil, List.length_set, List.length_replicate, List.length_take, List.length_drop, ints_length, wr_length, sha_len, node_len, recov_len, Ky.named_len, Ky.keyPub_len] <;> omega) | rfl)) rfl rfl rfl ?_
      refine qt_callv has38 rfl (fun w1 sw => same5_any l l2 vc vp vc2 vp2 cs ps cs2 ps2 w1 hu hu' hu2 hu2' (by omega) (by omega) (by omega) (by omega) (sw.sl_rd (h := 20) rfl) (sw.sl_rd (h := 21) rfl) (sw.sl_rd (h := 22) rfl) (sw.sl_rd (h := 23) rfl)) rfl rfl ?_
      refine qt (ld_blk_all (h := 6) ty42 rfl rfl rfl (by first | omega | (simp only [List.length_append, List.length_cons, List.length_nil, List.length_set, List.length_replicate, List.length_take, List.length_drop, ints_length, wr_length, sha_len, node_len, recov_len, Ky.named_len, Ky.keyPub_len] <;> omega) | rfl)) rfl rfl rfl ?_
      refine qt (ld_blk_all (h := 7) ty42 rfl rfl rfl (by first | omega | (simp only [List.length_append, List.length_cons, List.length_nil, List.length_set, List.length_replicate, List.length_take, List.length_drop, ints_length, wr_length, sha_len, node_len, recov_len, Ky.named_len, Ky.keyPub_len] <;> omega) | rfl)) rfl rfl rfl ?_
      refine qt_callv has31 rfl (fun w1 sw => rsame5_any l l2 vc vp vc2 vp2 cs ps cs2 ps2 w1 hu hu' hu2 hu2' (by omega) (by omega) (by omega) (by omega) (sw.sl_rd (h := 20) rfl) (sw.sl_rd (h := 21) rfl) (sw.sl_rd (h := 22) rfl) (sw.sl_rd (h := 23) rfl)) rfl rfl ?_
      refine qt (ev_eql_bool Try.underlying4 rfl rfl) rfl rfl rfl ?_
      refine qt (ev_pick_t rfl rfl) rfl rfl rfl ?_
      refine qt (ev_move rfl) rfl rfl rfl ?_
      refine qt_eq (i := 55) (v' := .bool true) rfl (by simp) ?_
      refine qt (ld_blk_all (h := 6) ty42 rfl rfl rfl (by first | omega | (simp only [List.length_append, List.length_cons, List.length_nil, List.length_set, List.length_replicate, List.length_take, List.length_drop, ints_length, wr_length, sha_len, node_len, recov_len, Ky.named_len, Ky.keyPub_len] <;> omega) | rfl)) rfl rfl rfl ?_
      refine qt (ld_blk_all (h := 6) ty42 rfl rfl rfl (by first | omega | (simp only [List.length_append, List.length_cons, List.length_nil, List.length_set, List.length_replicate, List.length_take, List.length_drop, ints_length, wr_length, sha_len, node_len, recov_len, Ky.named_len, Ky.keyPub_len] <;> omega) | rfl)) rfl rfl rfl ?_
      refine qt_callv has38 rfl (fun w1 sw => same5_any l l vc vp vc vp cs ps cs ps w1 hu hu' hu hu' (by omega) (by omega) (by omega) (by omega) (sw.sl_rd (h := 20) rfl) (sw.sl_rd (h := 21) rfl) (sw.sl_rd (h := 20) rfl) (sw.sl_rd (h := 21) rfl)) rfl rfl ?_
      refine qt (ev_pick_t rfl rfl) rfl rfl rfl ?_
      refine qt (ev_move rfl) rfl rfl rfl ?_
      refine qt_eq (i := 60) (v' := .bool true) rfl (by simp) ?_
      refine qt_callv has33 rfl (fun w1 sw => known5_any w1) rfl rfl ?_
      refine qt (ev_pick_t rfl rfl) rfl rfl rfl ?_
      refine qt (ev_assign rfl) rfl rfl rfl ?_
      refine qt_end ?_
      refine op_nil ?_
      refine ax_then ?_
      refine At.regs (L' := [(8, _)]) (.cons rfl (.nil _)) ?_
      refine cd_ret ?_
      refine rt_tmp (.inl rfl) Try.results11 rfl ?_
      exact fun w1 sw => ⟨rfl, sw.gives (.nil _)⟩

set_option maxRecDepth 20000 in
set_option maxHeartbeats 4000000 in
theorem keyFrom_any (s : List Int) (n : Int) (q : Value) (m : List Int) (w : World) (hl : s.length = 32) (hm0 : m.length ≤ 140737488351232) (h : Rd w q 1 (ints .u8 m)) : Calls Try.prog 9 #[.agg (ints .u8 (s)).toArray, .int .i64 n, q] w (PostV w (.bool true)) := by
  refine calls_at (vs := [.agg (ints .u8 (s)).toArray, .int .i64 n, q]) (X := []) (H := []) (F := [(2, .sl (q) 1 (ints .u8 (m)))]) 86 Try.func9 rfl rfl rfl (Sat.rd0 2 h) ?_
  refine cd_seq ?_
  refine cd_region ?_
  refine st_box (h := 3) rfl rfl rfl rfl (fun b3 => ?_)
  refine st (ev_assign rfl) rfl rfl rfl ?_
  refine op_nil ?_
  refine ax_then ?_
  refine At.regs (L' := [(1, _), (2, _), (3, _), (6, _)]) (.cons rfl (.cons rfl (.cons rfl (.cons rfl (.nil _))))) ?_
  refine cd_seq ?_
  refine cd_seq ?_
  refine cd_region ?_
  refine st (ev_move rfl) rfl rfl rfl ?_
  refine st (ev_lss rfl rfl) rfl rfl rfl ?_
  refine st (ev_move rfl) rfl rfl rfl ?_
  refine at_split_if (i := 16) rfl (fun hg16 => ?_) (fun hg16 => ?_)
  ·
    refine st_skip rfl rfl rfl ?_
    refine st_skip rfl rfl rfl ?_
    refine st (ev_pick_t rfl rfl) rfl rfl rfl ?_
    refine st (ev_move rfl) rfl rfl rfl ?_
    refine st_skip rfl rfl rfl ?_
    refine st_skip rfl rfl rfl ?_
    refine st_skip rfl rfl rfl ?_
    refine st (ev_pick_t rfl rfl) rfl rfl rfl ?_
    refine op_nil ?_
    refine ax_then ?_
    refine At.regs (L' := [(1, _), (2, _), (3, _), (6, _), (24, _)]) (.cons rfl (.cons rfl (.cons rfl (.cons rfl (.cons rfl (.nil _)))))) ?_
    refine cd_true rfl ?_
    refine cd_seq ?_
    refine cd_region ?_
    refine st (ev_assign rfl) rfl rfl rfl ?_
    refine op_nil ?_
    refine ax_then ?_
    refine At.regs (L' := [(1, _), (2, _), (3, _), (6, _)]) (.cons rfl (.cons rfl (.cons rfl (.cons rfl (.nil _))))) ?_
    refine cd_ret ?_
    refine ax_then_ret ?_
    refine rt_tmp (.inl rfl) Try.results9 rfl ?_
    exact fun w1 sw => ⟨rfl, sw.gives (.nil _)⟩
  ·
    refine st (ev_move rfl) rfl rfl rfl ?_
    refine st (ev_gtr rfl rfl) rfl rfl rfl ?_
    refine st (ev_pick_f rfl rfl) rfl rfl rfl ?_
    refine st (ev_move rfl) rfl rfl rfl ?_
    refine at_split_if (i := 20) rfl (fun hg20 => ?_) (fun hg20 => ?_)
    ·
      refine st_skip rfl rfl rfl ?_
      refine st_skip rfl rfl rfl ?_
      refine st_skip rfl rfl rfl ?_
      refine st (ev_pick_t rfl rfl) rfl rfl rfl ?_
      refine op_nil ?_
      refine ax_then ?_
      refine At.regs (L' := [(1, _), (2, _), (3, _), (6, _), (24, _)]) (.cons rfl (.cons rfl (.cons rfl (.cons rfl (.cons rfl (.nil _)))))) ?_
      refine cd_true rfl ?_
      refine cd_seq ?_
      refine cd_region ?_
      refine st (ev_assign rfl) rfl rfl rfl ?_
      refine op_nil ?_
      refine ax_then ?_
      refine At.regs (L' := [(1, _), (2, _), (3, _), (6, _)]) (.cons rfl (.cons rfl (.cons rfl (.cons rfl (.nil _))))) ?_
      refine cd_ret ?_
      refine ax_then_ret ?_
      refine rt_tmp (.inl rfl) Try.results9 rfl ?_
      exact fun w1 sw => ⟨rfl, sw.gives (.nil _)⟩
    ·
      refine st (ev_move rfl) rfl rfl rfl ?_
      refine st (ev_len_rdi (h := 2) Try.underlying22 rfl rfl) rfl rfl rfl ?_
      refine st (ev_gtr rfl rfl) rfl rfl rfl ?_
      refine st (ev_pick_f rfl rfl) rfl rfl rfl ?_
      refine op_nil ?_
      refine ax_then ?_
      refine At.regs (L' := [(1, _), (2, _), (3, _), (6, _), (24, _)]) (.cons rfl (.cons rfl (.cons rfl (.cons rfl (.cons rfl (.nil _)))))) ?_
      refine cd_if rfl (fun hc24 => ?_) (fun hc24 => ?_)
      ·
        refine cd_seq ?_
        refine cd_region ?_
        refine st (ev_assign rfl) rfl rfl rfl ?_
        refine op_nil ?_
        refine ax_then ?_
        refine At.regs (L' := [(1, _), (2, _), (3, _), (6, _)]) (.cons rfl (.cons rfl (.cons rfl (.cons rfl (.nil _))))) ?_
        refine cd_ret ?_
        refine ax_then_ret ?_
        refine rt_tmp (.inl rfl) Try.results9 rfl ?_
        exact fun w1 sw => ⟨rfl, sw.gives (.nil _)⟩
      ·
        refine cd_skip ?_
        refine ax_then ?_
        refine At.regs (L' := [(1, _), (2, _), (3, _), (6, _)]) (.cons rfl (.cons rfl (.cons rfl (.cons rfl (.nil _))))) ?_
        refine cd_join (ι := Nat × Value × Nat × Value) (fun x => True) (fun x => [(1, .int .i64 n), (2, q), (7, .pointer (some ⟨x.1, 0, none⟩)), (8, .pointer (some ⟨x.2.2.1, 0, none⟩))]) (fun x => [(26, .blk (x.1) (.cells (Ky.cells s x.2.1 (Ky.clamp 0)).toArray 81)), (27, .own (x.2.1) 39 32 (flat (Ky.leaves s 16))), (29, .blk (x.2.2.1) (.cells (Ky.cells s x.2.2.2 (Ky.clamp n)).toArray 81)), (30, .own (x.2.2.2) 39 32 (flat (Ky.leaves s 16)))]) (fun x => [(2, .sl (q) 1 (ints .u8 (m)))]) ?_ (fun x hj => ?_)
        ·
          refine at_freeze_blk (h := 3) (H' := []) 3 rfl (.nil _) rfl ?_
          refine cd_mix hmix ?_
          refine mx (i := 0) rfl (by decide +kernel) (by decide +kernel) (by decide +kernel) rfl (fun w0 => ld_mem_all (h := 3) ty39 rfl rfl rfl (by first | omega | (simp only [List.length_append, List.length_cons, List.length_nil, List.length_set, List.length_replicate, List.length_take, List.length_drop, ints_length, wr_length, sha_len, node_len, recov_len, Ky.named_len, Ky.keyPub_len] <;> omega) | rfl)) rfl rfl (Sub.refl _) ?_
          refine mx (i := 2) rfl (by decide +kernel) (by decide +kernel) (by decide +kernel) rfl (fun w0 => ld_mem_all (h := 3) ty39 rfl rfl rfl (by first | omega | (simp only [List.length_append, List.length_cons, List.length_nil, List.length_set, List.length_replicate, List.length_take, List.length_drop, ints_length, wr_length, sha_len, node_len, recov_len, Ky.named_len, Ky.keyPub_len] <;> omega) | rfl)) rfl rfl (Sub.refl _) ?_
          refine mx (i := 3) rfl (by decide +kernel) (by decide +kernel) (by decide +kernel) rfl (fun w0 => ev_move rfl) rfl rfl (Sub.refl _) ?_
          refine mx_one (i := 1) (by decide +kernel) (Sub.refl _) ?_
          refine wo (i := 1) rfl ?_
          refine st_call has26 rfl (fun w1 sw => rn2 26 27 (new_any s 0 w1 hl)) nil_all rfl rfl (fun x26 _ => ?_)
          obtain ⟨b26, lv26⟩ := x26
          dsimp only
          refine op_nil ?_
          refine ax_then ?_
          refine mx_one (i := 4) (by decide +kernel) (Sub.refl _) ?_
          refine wo (i := 4) rfl ?_
          refine st_call has26 rfl (fun w1 sw => rn2 29 30 (new_any s n w1 hl)) nil_all rfl rfl (fun x29 _ => ?_)
          obtain ⟨b29, lv29⟩ := x29
          dsimp only
          refine op_nil ?_
          refine ax_then ?_
          refine mx (i := 5) rfl (by decide +kernel) (by decide +kernel) (by decide +kernel) rfl (fun w0 => ev_assign rfl) rfl rfl (Sub.refl _) ?_
          refine mx (i := 6) rfl (by decide +kernel) (by decide +kernel) (by decide +kernel) rfl (fun w0 => ev_assign rfl) rfl rfl (Sub.refl _) ?_
          refine mx_done (by decide +kernel) (Sub.refl _) ?_
          exact at_met ((b26, lv26, b29, lv29)) (trivial) (.cons rfl (.cons rfl (.cons rfl (.cons rfl (.nil _))))) (.cons rfl (.cons rfl (.cons rfl (.cons rfl (.nil _))))) (.cons rfl (.nil _))
        ·
          obtain ⟨b26, lv26, b29, lv29⟩ := x
          dsimp only
          obtain ⟨k, rfl⟩ := Int.eq_ofNat_of_zero_le (show 0 ≤ n by omega)
          have hk6 : k ≤ 6 := by omega
          refine at_heq (i := 26) (v' := .blk (b26) (.cells (Ky.cells s lv26 (((0 : Nat) : Int))).toArray 81)) rfl (by rw [show Ky.clamp 0 = (((0 : Nat) : Int)) from rfl]) ?_
          refine at_heq (i := 29) (v' := .blk (b29) (.cells (Ky.cells s lv29 ((k : Int))).toArray 81)) rfl (by rw [show Ky.clamp (k : Int) = ((k : Int)) from (by unfold Ky.clamp; omega)]) ?_
          refine cd_seq ?_
          refine cd_seq ?_
          refine cd_region ?_
          refine st (ev_move rfl) rfl rfl rfl ?_
          refine st (ev_eql_ptr_nil Try.underlying49 rfl rfl) rfl rfl rfl ?_
          refine st (ev_move rfl) rfl rfl rfl ?_
          refine st (ev_move rfl) rfl rfl rfl ?_
          refine st (ev_eql_ptr_nil Try.underlying49 rfl rfl) rfl rfl rfl ?_
          refine st (ev_pick_f rfl rfl) rfl rfl rfl ?_
          refine op_nil ?_
          refine ax_then ?_
          refine At.regs (L' := [(1, _), (2, _), (7, _), (8, _), (35, _)]) (.cons rfl (.cons rfl (.cons rfl (.cons rfl (.cons rfl (.nil _)))))) ?_
          refine cd_false rfl ?_
          refine cd_skip ?_
          refine ax_then ?_
          refine At.regs (L' := [(1, _), (2, _), (7, _), (8, _)]) (.cons rfl (.cons rfl (.cons rfl (.cons rfl (.nil _))))) ?_
          refine cd_seq ?_
          refine cd_seq ?_
          refine cd_region ?_
          refine st (ev_assign rfl) rfl rfl rfl ?_
          refine op_nil ?_
          refine ax_then ?_
          refine At.regs (L' := [(1, _), (2, _), (7, _), (8, _), (9, _)]) (.cons rfl (.cons rfl (.cons rfl (.cons rfl (.cons rfl (.nil _)))))) ?_
          refine cd_block ?_
          refine cd_loop (ι := Nat) (fun i => i ≤ k) (fun i => k - i)
              (fun i => [(1, .int .i64 (k : Int)), (2, q), (7, .pointer (some ⟨b26, 0, none⟩)), (8, .pointer (some ⟨b29, 0, none⟩)), (9, .int .i64 (i : Int))])
              (fun i => [(26, .blk (b26) (.cells (Ky.cells s lv26 ((i : Nat) : Int)).toArray 81)), (27, .own (lv26) 39 32 (flat (Ky.leaves s 16))), (29, .blk (b29) (.cells (Ky.cells s lv29 (k : Int)).toArray 81)), (30, .own (lv29) 39 32 (flat (Ky.leaves s 16)))])
              (fun i => [(2, .sl (q) 1 (ints .u8 (m)))])
              0 (by omega) (.cons rfl (.cons rfl (.cons rfl (.cons rfl (.cons rfl (.nil _)))))) (.cons rfl (.cons rfl (.cons rfl (.cons rfl (.nil _))))) (.cons rfl (.nil _)) (fun i hi => ?_)
          refine cd_seq ?_
          refine cd_seq ?_
          refine cd_region ?_
          refine st (ev_move rfl) rfl rfl rfl ?_
          refine st (ev_move rfl) rfl rfl rfl ?_
          refine st (ev_lss rfl rfl) rfl rfl rfl ?_
          refine op_nil ?_
          refine ax_then ?_
          refine At.regs (L' := [(1, _), (2, _), (7, _), (8, _), (9, _), (36, _), (37, _), (38, _)]) (.cons rfl (.cons rfl (.cons rfl (.cons rfl (.cons rfl (.cons rfl (.cons rfl (.cons rfl (.nil _))))))))) ?_
          refine cd_if rfl (fun hc38 => ?_) (fun hc38 => ?_)
          ·
            refine cd_skip ?_
            refine ax_then ?_
            refine At.regs (L' := [(1, _), (2, _), (7, _), (8, _), (9, _), (36, _), (37, _), (38, _)]) (.cons rfl (.cons rfl (.cons rfl (.cons rfl (.cons rfl (.cons rfl (.cons rfl (.cons rfl (.nil _))))))))) ?_
            refine cd_seq ?_
            refine cd_block ?_
            refine cd_region ?_
            refine st (ev_move rfl) rfl rfl rfl ?_
            refine st (ev_move rfl) rfl rfl rfl ?_
            refine st (ev_conv Try.underlying3 Try.underlying5 rfl) rfl rfl rfl ?_
            refine st_bsi (h := 44) (xs := [_]) Try.underlying22 ty5 (by decide) rfl rfl (by decide) rfl rfl (fun b44 => ?_)
            refine st_call has29 rfl (fun w1 sw => rn3 26 154 155 (signk_any b26 lv26 (.slice (some ⟨b44, 0, none⟩) 1 1) s [IntKind.u8.wrap (i : Int)] (i) w1 hl (by omega) (by simp) (sw.blk_eq (h := 26) rfl) (sw.own_rd (h := 27) rfl) (sw.own_off (h := 26) (h' := 27) rfl rfl (by decide)) (sw.own_rd (h := 44) rfl) (sw.own_off (h := 26) (h' := 44) rfl rfl (by decide)))) (mod_blk3 rfl) rfl rfl (fun x45 _ => ?_)
            obtain ⟨va45, vb45⟩ := x45
            dsimp only
            refine at_own_shape (h := 154) rfl (fun hsa45 => ?_)
            refine at_own_shape (h := 155) rfl (fun hsb45 => ?_)
            have hsu45 := sign_h32 s ((i : Nat)) [IntKind.u8.wrap (i : Int)] 36
            have hsn45 := sign_len s ((i : Nat)) [IntKind.u8.wrap (i : Int)] 36
            have hpu45 := path_h32 _ (Ky.leaves s 16) ((i : Nat)) (Nat.le_refl _) (Ky.leaves_h32 s 16)
            have hpn45 := (Ky.way_up s (n := i) (by omega)).1
            refine op_nil ?_
            refine ax_block ?_
            refine ax_then ?_
            refine At.regs (L' := [(1, _), (2, _), (7, _), (8, _), (9, _), (36, _), (37, _), (38, _), (41, _), (42, _), (43, _), (44, _)]) (.cons rfl (.cons rfl (.cons rfl (.cons rfl (.cons rfl (.cons rfl (.cons rfl (.cons rfl (.cons rfl (.cons rfl (.cons rfl (.cons rfl (.nil _))))))))))))) ?_
            refine cd_region ?_
            refine st (ev_move rfl) rfl rfl rfl ?_
            refine st (ev_add64 rfl rfl (by omega) (by omega)) rfl rfl rfl ?_
            refine st (ev_assign rfl) rfl rfl rfl ?_
            refine op_nil ?_
            exact at_again (i + 1) (by omega) (by omega) (.cons rfl (.cons rfl (.cons rfl (.cons rfl (.cons rfl (.nil _)))))) (.cons rfl (.cons rfl (.cons rfl (.cons rfl (.nil _))))) (.cons rfl (.nil _))
          ·
            obtain rfl : i = k := by omega
            refine cd_exit ?_
            refine ax_then_exit ?_
            refine ax_then_exit ?_
            refine ax_block_hit ?_
            refine ax_then ?_
            refine At.regs (L' := [(1, _), (2, _), (7, _), (8, _)]) (.cons rfl (.cons rfl (.cons rfl (.cons rfl (.nil _))))) ?_
            refine cd_seq ?_
            refine cd_region ?_
            refine st (ev_move rfl) rfl rfl rfl ?_
            refine st (ev_move rfl) rfl rfl rfl ?_
            refine st_call has29 rfl (fun w1 sw => rn3 26 150 151 (signk_any b26 lv26 q s m (i) w1 hl (by omega) (by omega) (sw.blk_eq (h := 26) rfl) (sw.own_rd (h := 27) rfl) (sw.own_off (h := 26) (h' := 27) rfl rfl (by decide)) (sw.sl_rd (h := 2) rfl) (sw.off 2 _ 26 _ rfl rfl _ (by simp [Ent.ids])))) (mod_blk3 rfl) rfl rfl (fun x49 _ => ?_)
            obtain ⟨va49, vb49⟩ := x49
            dsimp only
            refine at_own_shape (h := 150) rfl (fun hsa49 => ?_)
            refine at_own_shape (h := 151) rfl (fun hsb49 => ?_)
            have hsu49 := sign_h32 s ((i : Nat)) m 36
            have hsn49 := sign_len s ((i : Nat)) m 36
            have hpu49 := path_h32 _ (Ky.leaves s 16) ((i : Nat)) (Nat.le_refl _) (Ky.leaves_h32 s 16)
            have hpn49 := (Ky.way_up s (n := i) (by omega)).1
            refine st (ev_move rfl) rfl rfl rfl ?_
            refine st (ev_extract rfl rfl) rfl rfl rfl ?_
            refine st (ev_extract rfl rfl) rfl rfl rfl ?_
            refine st_alloc (h := 10) ty42 rfl rfl rfl (fun b10 => ?_)
            refine st_store_all 10 ty42 rfl rfl rfl rfl rfl (by intro u hu; simp at hu; rcases hu with rfl | rfl | rfl; rfl; exact hsa49.2; exact hsb49.2) rfl rfl ?_
            refine st (ev_assign rfl) rfl rfl rfl ?_
            refine op_nil ?_
            refine ax_then ?_
            refine At.regs (L' := [(1, _), (2, _), (7, _), (8, _), (10, _), (11, _)]) (.cons rfl (.cons rfl (.cons rfl (.cons rfl (.cons rfl (.cons rfl (.nil _))))))) ?_
            refine cd_seq ?_
            refine cd_region ?_
            refine st (ev_move rfl) rfl rfl rfl ?_
            refine st (ev_move rfl) rfl rfl rfl ?_
            refine st_call has29 rfl (fun w1 sw => rn3 29 152 153 (signk_any b29 lv29 q s m (i) w1 hl (by omega) (by omega) (sw.blk_eq (h := 29) rfl) (sw.own_rd (h := 30) rfl) (sw.own_off (h := 29) (h' := 30) rfl rfl (by decide)) (sw.sl_rd (h := 2) rfl) (sw.off 2 _ 29 _ rfl rfl _ (by simp [Ent.ids])))) (mod_blk3 rfl) rfl rfl (fun x55 _ => ?_)
            obtain ⟨va55, vb55⟩ := x55
            dsimp only
            refine at_own_shape (h := 152) rfl (fun hsa55 => ?_)
            refine at_own_shape (h := 153) rfl (fun hsb55 => ?_)
            have hsu55 := sign_h32 s ((i : Nat)) m 36
            have hsn55 := sign_len s ((i : Nat)) m 36
            have hpu55 := path_h32 _ (Ky.leaves s 16) ((i : Nat)) (Nat.le_refl _) (Ky.leaves_h32 s 16)
            have hpn55 := (Ky.way_up s (n := i) (by omega)).1
            refine st (ev_move rfl) rfl rfl rfl ?_
            refine st (ev_extract rfl rfl) rfl rfl rfl ?_
            refine st (ev_extract rfl rfl) rfl rfl rfl ?_
            refine st_alloc (h := 12) ty42 rfl rfl rfl (fun b12 => ?_)
            refine st_store_all 12 ty42 rfl rfl rfl rfl rfl (by intro u hu; simp at hu; rcases hu with rfl | rfl | rfl; rfl; exact hsa55.2; exact hsb55.2) rfl rfl ?_
            refine st (ev_assign rfl) rfl rfl rfl ?_
            refine op_nil ?_
            refine ax_then ?_
            refine At.regs (L' := [(1, _), (7, _), (8, _), (10, _), (11, _), (12, _), (13, _)]) (.cons rfl (.cons rfl (.cons rfl (.cons rfl (.cons rfl (.cons rfl (.cons rfl (.nil _)))))))) ?_
            refine cd_seq ?_
            refine cd_region ?_
            refine st (ev_move rfl) rfl rfl rfl ?_
            refine st (ev_eql rfl rfl) rfl rfl rfl ?_
            refine st (ev_move rfl) rfl rfl rfl ?_
            refine at_eq (i := 60) (v' := .bool true) rfl (by rfl) ?_
            refine st (ev_move rfl) rfl rfl rfl ?_
            refine st (ev_eql rfl rfl) rfl rfl rfl ?_
            refine st (ev_pick_t rfl rfl) rfl rfl rfl ?_
            refine st (ev_move rfl) rfl rfl rfl ?_
            refine at_eq (i := 64) (v' := .bool true) rfl (by rfl) ?_
            refine st (ld_blk_all (h := 10) ty42 rfl rfl rfl (by first | omega | (simp only [List.length_append, List.length_cons, List.length_nil, List.length_set, List.length_replicate, List.length_take, List.length_drop, ints_length, wr_length, sha_len, node_len, recov_len, Ky.named_len, Ky.keyPub_len] <;> omega) | rfl)) rfl rfl rfl ?_
            refine st (ld_blk_all (h := 12) ty42 rfl rfl rfl (by first | omega | (simp only [List.length_append, List.length_cons, List.length_nil, List.length_set, List.length_replicate, List.length_take, List.length_drop, ints_length, wr_length, sha_len, node_len, recov_len, Ky.named_len, Ky.keyPub_len] <;> omega) | rfl)) rfl rfl rfl ?_
            refine st_callv has31 rfl (fun w1 sw => rsame5_any (i : Int) (i : Int) va49 vb49 va55 vb55 (sign s i m 36) (path (Ky.leaves s 16) i) (sign s i m 36) (path (Ky.leaves s 16) i) w1 hsu49 hpu49 hsu49 hpu49 (by rw [hsn49]; decide) (by omega) (by rw [hsn49]; decide) (by omega) (sw.own_rd (h := 150) rfl) (sw.own_rd (h := 151) rfl) (sw.own_rd (h := 152) rfl) (sw.own_rd (h := 153) rfl)) rfl rfl ?_
            refine st (ev_pick_t rfl rfl) rfl rfl rfl ?_
            refine st (ev_move rfl) rfl rfl rfl ?_
            refine at_eq (i := 69) (v' := .bool true) rfl (by simp) ?_
            refine st (ev_move rfl) rfl rfl rfl ?_
            refine st_callv has28 rfl (fun w1 sw => pubkey_any b26 lv26 s (i + 1) w1 hl (lies_blk (sw.blk_eq (h := 26) rfl)) (sw.own_rd (h := 27) rfl)) rfl rfl ?_
            refine st (ev_move rfl) rfl rfl rfl ?_
            refine st_callv has28 rfl (fun w1 sw => pubkey_any b29 lv29 s (i + 1) w1 hl (lies_blk (sw.blk_eq (h := 29) rfl)) (sw.own_rd (h := 30) rfl)) rfl rfl ?_
            refine st (ev_eql_arr Try.underlying39 ty5 eqg39 rfl rfl (by first | omega | (simp only [List.length_append, List.length_cons, List.length_nil, List.length_set, List.length_replicate, List.length_take, List.length_drop, ints_length, wr_length, sha_len, node_len, recov_len, Ky.named_len, Ky.keyPub_len] <;> omega) | rfl) (by first | omega | (simp only [List.length_append, List.length_cons, List.length_nil, List.length_set, List.length_replicate, List.length_take, List.length_drop, ints_length, wr_length, sha_len, node_len, recov_len, Ky.named_len, Ky.keyPub_len] <;> omega) | rfl)) rfl rfl rfl ?_
            refine st (ev_pick_t rfl rfl) rfl rfl rfl ?_
            refine st (ev_move rfl) rfl rfl rfl ?_
            refine at_eq (i := 76) (v' := .bool true) rfl (by simp) ?_
            refine st (ev_move rfl) rfl rfl rfl ?_
            refine st_callv has32 rfl (fun w1 sw => used_any b26 lv26 s (i + 1) w1 hl (lies_blk (sw.blk_eq (h := 26) rfl)) (sw.own_rd (h := 27) rfl)) rfl rfl ?_
            refine st (ev_move rfl) rfl rfl rfl ?_
            refine st (ev_add64 rfl rfl (by omega) (by omega)) rfl rfl rfl ?_
            refine st (ev_eql rfl rfl) rfl rfl rfl ?_
            refine st (ev_pick_t rfl rfl) rfl rfl rfl ?_
            refine st (ev_move rfl) rfl rfl rfl ?_
            refine at_eq (i := 83) (v' := .bool true) rfl (by simp) ?_
            refine st_callv has33 rfl (fun w1 sw => known5_any w1) rfl rfl ?_
            refine st (ev_pick_t rfl rfl) rfl rfl rfl ?_
            refine st (ev_assign rfl) rfl rfl rfl ?_
            refine op_nil ?_
            refine ax_then ?_
            refine At.regs (L' := [(6, _)]) (.cons rfl (.nil _)) ?_
            refine cd_ret ?_
            refine rt_tmp (.inl rfl) Try.results9 rfl ?_
            exact fun w1 sw => ⟨rfl, sw.gives (.nil _)⟩

end Go.Proofs.Yteedclmcgifmpaa

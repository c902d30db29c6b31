/- Walks: the laws of chapter 5. -/
import Derived.Test.YteedclmcgifmpaaK3
import Derived.Test.YteedclmcgifmpaaMk2
namespace Go.Proofs.Yteedclmcgifmpaa
open Go Go.RowKit Fw
open Sha
open Ots
open Mk
set_option linter.unusedVariables false
set_option linter.unusedSimpArgs false

set_option maxRecDepth 20000 in
set_option maxHeartbeats 4000000 in
theorem keyTurned_any (s : List Int) (q : Value) (m : List Int) (a pl y : Int) (w : World) (hl : s.length = 32) (hm0 : m.length ≤ 140737488351232) (h : Rd w q 1 (ints .u8 m)) : Calls Try.prog 10 #[.agg (ints .u8 (s)).toArray, q, .int .i64 a, .int .i64 pl, .int .u8 y] w (PostV w (.bool true)) := by
  refine calls_at (vs := [.agg (ints .u8 (s)).toArray, q, .int .i64 a, .int .i64 pl, .int .u8 y]) (X := []) (H := []) (F := [(1, .sl (q) 1 (ints .u8 (m)))]) 85 Try.func10 rfl rfl rfl (Sat.rd0 1 h) ?_
  refine cd_seq ?_
  refine cd_region ?_
  refine st_box (h := 5) rfl rfl rfl rfl (fun b5 => ?_)
  refine st (ev_assign rfl) rfl rfl rfl ?_
  refine op_nil ?_
  refine ax_then ?_
  refine At.regs (L' := [(1, _), (2, _), (3, _), (4, _), (5, _), (10, _)]) (.cons rfl (.cons rfl (.cons rfl (.cons rfl (.cons rfl (.cons rfl (.nil _))))))) ?_
  refine cd_seq ?_
  refine cd_seq ?_
  refine cd_region ?_
  refine st (ev_move rfl) rfl rfl rfl ?_
  refine st (ev_len_rdi (h := 1) Try.underlying22 rfl rfl) rfl rfl rfl ?_
  refine st (ev_gtr rfl rfl) rfl rfl rfl ?_
  refine st (ev_move rfl) rfl rfl rfl ?_
  refine at_split_if (i := 18) rfl (fun hg18 => ?_) (fun hg18 => ?_)
  ·
    refine st_skip rfl rfl rfl ?_
    refine st_skip rfl rfl rfl ?_
    refine st (ev_pick_t rfl rfl) rfl rfl rfl ?_
    refine op_nil ?_
    refine ax_then ?_
    refine At.regs (L' := [(1, _), (2, _), (3, _), (4, _), (5, _), (10, _), (21, _)]) (.cons rfl (.cons rfl (.cons rfl (.cons rfl (.cons rfl (.cons rfl (.cons rfl (.nil _)))))))) ?_
    refine cd_true rfl ?_
    refine cd_seq ?_
    refine cd_region ?_
    refine st (ev_assign rfl) rfl rfl rfl ?_
    refine op_nil ?_
    refine ax_then ?_
    refine At.regs (L' := [(1, _), (2, _), (3, _), (4, _), (5, _), (10, _)]) (.cons rfl (.cons rfl (.cons rfl (.cons rfl (.cons rfl (.cons rfl (.nil _))))))) ?_
    refine cd_ret ?_
    refine ax_then_ret ?_
    refine rt_tmp (.inl rfl) Try.results10 rfl ?_
    exact fun w1 sw => ⟨rfl, sw.gives (.nil _)⟩
  ·
    refine st (ev_move rfl) rfl rfl rfl ?_
    refine st (ev_eql rfl rfl) rfl rfl rfl ?_
    refine st (ev_pick_f rfl rfl) rfl rfl rfl ?_
    refine op_nil ?_
    refine ax_then ?_
    refine At.regs (L' := [(1, _), (2, _), (3, _), (4, _), (5, _), (10, _), (21, _)]) (.cons rfl (.cons rfl (.cons rfl (.cons rfl (.cons rfl (.cons rfl (.cons rfl (.nil _)))))))) ?_
    refine cd_if rfl (fun hc21 => ?_) (fun hc21 => ?_)
    ·
      refine cd_seq ?_
      refine cd_region ?_
      refine st (ev_assign rfl) rfl rfl rfl ?_
      refine op_nil ?_
      refine ax_then ?_
      refine At.regs (L' := [(1, _), (2, _), (3, _), (4, _), (5, _), (10, _)]) (.cons rfl (.cons rfl (.cons rfl (.cons rfl (.cons rfl (.cons rfl (.nil _))))))) ?_
      refine cd_ret ?_
      refine ax_then_ret ?_
      refine rt_tmp (.inl rfl) Try.results10 rfl ?_
      exact fun w1 sw => ⟨rfl, sw.gives (.nil _)⟩
    ·
      refine cd_skip ?_
      refine ax_then ?_
      refine At.regs (L' := [(1, _), (2, _), (3, _), (4, _), (5, _), (10, _)]) (.cons rfl (.cons rfl (.cons rfl (.cons rfl (.cons rfl (.cons rfl (.nil _))))))) ?_
      refine cd_seq ?_
      refine cd_region ?_
      refine st (ld_blk_all (h := 5) ty39 rfl rfl rfl (by first | omega | (simp only [List.length_append, List.length_cons, List.length_nil, List.length_set, List.length_replicate, List.length_take, List.length_drop, ints_length, wr_length, sha_len, node_len, recov_len, Ky.named_len, Ky.keyPub_len] <;> omega) | rfl)) rfl rfl rfl ?_
      refine st_call has26 rfl (fun w1 sw => rn2 23 24 (new_any s 0 w1 hl)) nil_all rfl rfl (fun x23 _ => ?_)
      obtain ⟨b23, lv23⟩ := x23
      dsimp only
      refine at_heq (i := 23) (v' := .blk (b23) (.cells (Ky.cells s lv23 (((0 : Nat) : Int))).toArray 81)) rfl (by rw [show Ky.clamp 0 = (((0 : Nat) : Int)) from rfl]) ?_
      refine st (ev_assign rfl) rfl rfl rfl ?_
      refine op_nil ?_
      refine ax_then ?_
      refine At.regs (L' := [(1, _), (2, _), (3, _), (4, _), (10, _), (11, _)]) (.cons rfl (.cons rfl (.cons rfl (.cons rfl (.cons rfl (.cons rfl (.nil _))))))) ?_
      refine cd_seq ?_
      refine cd_seq ?_
      refine cd_region ?_
      refine st (ev_move rfl) rfl rfl rfl ?_
      refine st (ev_eql_ptr_nil Try.underlying49 rfl rfl) rfl rfl rfl ?_
      refine op_nil ?_
      refine ax_then ?_
      refine At.regs (L' := [(1, _), (2, _), (3, _), (4, _), (10, _), (11, _), (25, _)]) (.cons rfl (.cons rfl (.cons rfl (.cons rfl (.cons rfl (.cons rfl (.cons rfl (.nil _)))))))) ?_
      refine cd_false rfl ?_
      refine cd_skip ?_
      refine ax_then ?_
      refine At.regs (L' := [(1, _), (2, _), (3, _), (4, _), (10, _), (11, _)]) (.cons rfl (.cons rfl (.cons rfl (.cons rfl (.cons rfl (.cons rfl (.nil _))))))) ?_
      refine cd_seq ?_
      refine cd_region ?_
      refine st (ev_move rfl) rfl rfl rfl ?_
      refine st (ev_move rfl) rfl rfl rfl ?_
      refine st_call has29 rfl (fun w1 sw => rn3 23 150 151 (signk_any b23 lv23 q s m (0) w1 hl (by decide) (by omega) (sw.blk_eq (h := 23) rfl) (sw.own_rd (h := 24) rfl) (sw.own_off (h := 23) (h' := 24) rfl rfl (by decide)) (sw.sl_rd (h := 1) rfl) (sw.off 1 _ 23 _ rfl rfl _ (by simp [Ent.ids])))) (mod_blk3 rfl) rfl rfl (fun x29 _ => ?_)
      obtain ⟨va29, vb29⟩ := x29
      dsimp only
      refine at_own_shape (h := 150) rfl (fun hsa29 => ?_)
      refine at_own_shape (h := 151) rfl (fun hsb29 => ?_)
      have hsu29 := sign_h32 s ((0 : Nat)) m 36
      have hsn29 := sign_len s ((0 : Nat)) m 36
      have hpu29 := path_h32 _ (Ky.leaves s 16) ((0 : Nat)) (Nat.le_refl _) (Ky.leaves_h32 s 16)
      have hpn29 := (Ky.way_up s (n := 0) (by decide)).1
      refine st (ev_move rfl) rfl rfl rfl ?_
      refine st (ev_extract rfl rfl) rfl rfl rfl ?_
      refine st (ev_extract rfl rfl) rfl rfl rfl ?_
      refine st_alloc (h := 12) ty42 rfl rfl rfl (fun b12 => ?_)
      refine st_store_all 12 ty42 rfl rfl rfl rfl rfl (by intro u hu; simp at hu; rcases hu with rfl | rfl | rfl; rfl; exact hsa29.2; exact hsb29.2) rfl rfl ?_
      refine st (ev_assign rfl) rfl rfl rfl ?_
      refine op_nil ?_
      refine ax_then ?_
      refine At.regs (L' := [(1, _), (2, _), (3, _), (4, _), (10, _), (11, _), (12, _), (13, _)]) (.cons rfl (.cons rfl (.cons rfl (.cons rfl (.cons rfl (.cons rfl (.cons rfl (.cons rfl (.nil _))))))))) ?_
      refine cd_seq ?_
      refine cd_seq ?_
      have his : Ky.isSig ((0 : Nat) : Int) (sign s ((0 : Nat) : Int) m 36) (path (Ky.leaves s 16) ((0 : Nat) : Int)) := (Ky.ver_sign s m (n := 0) (by decide)).1
      refine cd_region ?_
      refine st (ev_move rfl) rfl rfl rfl ?_
      refine st (ev_neq rfl rfl) rfl rfl rfl ?_
      refine st (ev_move rfl) rfl rfl rfl ?_
      refine at_eq (i := 34) (v' := .bool false) rfl (by rfl) ?_
      refine st (ld_blk_all (h := 12) ty42 rfl rfl rfl (by first | omega | (simp only [List.length_append, List.length_cons, List.length_nil, List.length_set, List.length_replicate, List.length_take, List.length_drop, ints_length, wr_length, sha_len, node_len, recov_len, Ky.named_len, Ky.keyPub_len] <;> omega) | rfl)) rfl rfl rfl ?_
      refine st_callv has34 rfl (fun w1 sw => risSig_any ((0 : Nat) : Int) va29 vb29 (sign s ((0 : Nat) : Int) m 36) (path (Ky.leaves s 16) ((0 : Nat) : Int)) w1 hsu29 hpu29 (sw.own_rd (h := 150) rfl) (sw.own_rd (h := 151) rfl)) rfl rfl ?_
      refine st (ev_not_if rfl) rfl rfl rfl ?_
      refine st (ev_pick_f rfl rfl) rfl rfl rfl ?_
      refine op_nil ?_
      refine ax_then ?_
      refine At.regs (L' := [(1, _), (2, _), (3, _), (4, _), (10, _), (11, _), (12, _), (38, _)]) (.cons rfl (.cons rfl (.cons rfl (.cons rfl (.cons rfl (.cons rfl (.cons rfl (.cons rfl (.nil _))))))))) ?_
      refine cd_if_f rfl (fun h => h his) ?_
      refine cd_skip ?_
      refine ax_then ?_
      refine At.regs (L' := [(1, _), (2, _), (3, _), (4, _), (10, _), (11, _), (12, _)]) (.cons rfl (.cons rfl (.cons rfl (.cons rfl (.cons rfl (.cons rfl (.cons rfl (.nil _)))))))) ?_
      refine cd_seq ?_
      refine cd_region ?_
      refine st (ev_move rfl) rfl rfl rfl ?_
      refine st (ev_and rfl rfl) rfl rfl rfl ?_
      have hmk := mask_range a (m := 65535) (by decide) (by decide)
      have hmp := mask_range pl (m := 31) (by decide) (by decide)
      refine st (ev_rem64 rfl rfl (by omega) (by omega)) rfl rfl rfl ?_
      obtain ⟨g, hg⟩ : ∃ g : Int, g = iand .i64 a 65535 % 40 := ⟨_, rfl⟩
      have hg0 : 0 ≤ g ∧ g < 40 := by omega
      refine at_eq (i := 41) (v' := .int .i64 g) rfl (by rw [hg]) ?_
      refine st (ev_assign rfl) rfl rfl rfl ?_
      refine op_nil ?_
      refine ax_then ?_
      refine At.regs (L' := [(1, _), (3, _), (4, _), (10, _), (11, _), (12, _), (14, _)]) (.cons rfl (.cons rfl (.cons rfl (.cons rfl (.cons rfl (.cons rfl (.cons rfl (.nil _)))))))) ?_
      refine cd_join (ι := List (List Int) × List (List Int)) (fun x => H32 x.1 ∧ H32 x.2 ∧ x.1.length = 36 ∧ x.2.length = 4) (fun x => [(1, q), (11, .pointer (some ⟨b23, 0, none⟩)), (12, .pointer (some ⟨b12, 0, none⟩))]) (fun x => [(12, .blk (b12) (.cells ([.int .i64 ((0 : Nat) : Int), va29, vb29]).toArray 42)), (23, .blk (b23) (.cells (Ky.cells s lv23 ((1 : Nat) : Int)).toArray 81)), (24, .own (lv23) 39 32 (flat (Ky.leaves s 16))), (150, .own (va29) 39 32 (flat (x.1))), (151, .own (vb29) 39 32 (flat (x.2)))]) (fun x => [(1, .sl (q) 1 (ints .u8 (m)))]) ?_ (fun x hj => ?_)
      ·
        refine cd_seq ?_
        refine cd_region ?_
        refine st (ev_move rfl) rfl rfl rfl ?_
        refine st (ev_lss rfl rfl) rfl rfl rfl ?_
        refine op_nil ?_
        refine ax_then ?_
        refine At.regs (L' := [(1, _), (3, _), (4, _), (10, _), (11, _), (12, _), (14, _), (43, _)]) (.cons rfl (.cons rfl (.cons rfl (.cons rfl (.cons rfl (.cons rfl (.cons rfl (.cons rfl (.nil _))))))))) ?_
        refine cd_if rfl (fun hc43 => ?_) (fun hc43 => ?_)
        ·
          have hux := hsu29
          refine cd_open_tail 11 hmix (by decide +kernel) ?_
          refine qt (ev_fieldAddr (b := _) Try.underlying42 (f := _) rfl ty26 (by decide) rfl) rfl rfl rfl ?_
          refine qt (ld_blk1 (h := 12) ty26 rfl rfl rfl rfl) rfl rfl rfl ?_
          refine qt (ev_move rfl) rfl rfl rfl ?_
          refine qt (ev_move rfl) rfl rfl rfl ?_
          refine qt (ev_and rfl rfl) rfl rfl rfl ?_
          refine qt (ev_indexAddr_ownh (h := 150) Try.underlying26 ty39 rfl rfl rfl (by assumption) (by omega) (by omega)) rfl rfl rfl ?_
          refine qt (ev_idxIn Try.underlying39 ty5 rfl rfl (fun w1 sw => sw.own_rd (h := 150) rfl) (by rw [flat_len (by assumption)]; omega) (by omega) (by omega)) rfl rfl rfl ?_
          refine qt (ld_own1 (h := 150) ty5 rfl rfl rfl (Mk.flat_get1 (by assumption) (by omega) (by omega))) rfl rfl rfl ?_
          refine qt (ev_move rfl) rfl rfl rfl ?_
          refine qt (ev_xor rfl rfl) rfl rfl rfl ?_
          refine qt (ev_indexAddr_ownh (h := 150) Try.underlying26 ty39 rfl rfl rfl (by assumption) (by omega) (by omega)) rfl rfl rfl ?_
          refine qt_end ?_
          refine st (ev_idxIn Try.underlying39 ty5 rfl rfl (fun w1 sw => sw.own_rd (h := 150) rfl) (by rw [flat_len (by assumption)]; omega) (by omega) (by omega)) rfl rfl rfl ?_
          refine st_store_own (vl := [.int .u8 _]) 150 ty5 rfl rfl rfl rfl rfl (ints_one .u8 [_]) (by rw [flat_len (by assumption)]; omega) (by decide) rfl ?_
          refine at_heq (i := 150) rfl (congrArg (Ent.own _ _ _) (Mk.flat_set1 _ (by assumption) (by omega) (by omega))) ?_
          obtain ⟨z, hz⟩ : ∃ z, z = (sign s ((0 : Nat) : Int) m 36).set (g).toNat (((sign s ((0 : Nat) : Int) m 36).getD (g).toNat []).set ((iand .i64 pl 31).toNat * 1) (ixor .u8 (((sign s ((0 : Nat) : Int) m 36).getD (g).toNat []).getD ((iand .i64 pl 31).toNat * 1) 0) y)) := ⟨_, rfl⟩
          refine at_heq (i := 150) (v' := .own (va29) 39 32 (flat (z))) rfl (by rw [hz]) ?_
          have hzu : H32 z := by rw [hz]; exact (hsu29).set _ (by rw [List.length_set]; exact (hsu29).get (by omega))
          have hzl : z.length = (sign s ((0 : Nat) : Int) m 36).length := by rw [hz, List.length_set]
          refine op_nil ?_
          exact at_met ((z, path (Ky.leaves s 16) ((0 : Nat) : Int))) (by first | exact ⟨hzu, hpu29, hzl.trans hsn29, hpn29⟩ | exact ⟨hsu29, hzu, hsn29, hzl.trans hpn29⟩) (.cons rfl (.cons rfl (.cons rfl (.nil _)))) (.cons rfl (.cons rfl (.cons rfl (.cons rfl (.cons rfl (.nil _)))))) (.cons rfl (.nil _))
        ·
          have hux := hpu29
          refine cd_open_tail 12 hmix (by decide +kernel) ?_
          refine qt (ev_fieldAddr (b := _) Try.underlying42 (f := _) rfl ty26 (by decide) rfl) rfl rfl rfl ?_
          refine qt (ld_blk1 (h := 12) ty26 rfl rfl rfl rfl) rfl rfl rfl ?_
          refine qt (ev_move rfl) rfl rfl rfl ?_
          refine qt (ev_sub64 rfl rfl (by omega) (by omega)) rfl rfl rfl ?_
          refine qt (ev_move rfl) rfl rfl rfl ?_
          refine qt (ev_and rfl rfl) rfl rfl rfl ?_
          refine qt (ev_indexAddr_ownh (h := 151) Try.underlying26 ty39 rfl rfl rfl (by assumption) (by omega) (by omega)) rfl rfl rfl ?_
          refine qt (ev_idxIn Try.underlying39 ty5 rfl rfl (fun w1 sw => sw.own_rd (h := 151) rfl) (by rw [flat_len (by assumption)]; omega) (by omega) (by omega)) rfl rfl rfl ?_
          refine qt (ld_own1 (h := 151) ty5 rfl rfl rfl (Mk.flat_get1 (by assumption) (by omega) (by omega))) rfl rfl rfl ?_
          refine qt (ev_move rfl) rfl rfl rfl ?_
          refine qt (ev_xor rfl rfl) rfl rfl rfl ?_
          refine qt (ev_indexAddr_ownh (h := 151) Try.underlying26 ty39 rfl rfl rfl (by assumption) (by omega) (by omega)) rfl rfl rfl ?_
          refine qt_end ?_
          refine st (ev_idxIn Try.underlying39 ty5 rfl rfl (fun w1 sw => sw.own_rd (h := 151) rfl) (by rw [flat_len (by assumption)]; omega) (by omega) (by omega)) rfl rfl rfl ?_
          refine st_store_own (vl := [.int .u8 _]) 151 ty5 rfl rfl rfl rfl rfl (ints_one .u8 [_]) (by rw [flat_len (by assumption)]; omega) (by decide) rfl ?_
          refine at_heq (i := 151) rfl (congrArg (Ent.own _ _ _) (Mk.flat_set1 _ (by assumption) (by omega) (by omega))) ?_
          obtain ⟨z, hz⟩ : ∃ z, z = (path (Ky.leaves s 16) ((0 : Nat) : Int)).set (g - 36).toNat (((path (Ky.leaves s 16) ((0 : Nat) : Int)).getD (g - 36).toNat []).set ((iand .i64 pl 31).toNat * 1) (ixor .u8 (((path (Ky.leaves s 16) ((0 : Nat) : Int)).getD (g - 36).toNat []).getD ((iand .i64 pl 31).toNat * 1) 0) y)) := ⟨_, rfl⟩
          refine at_heq (i := 151) (v' := .own (vb29) 39 32 (flat (z))) rfl (by rw [hz]) ?_
          have hzu : H32 z := by rw [hz]; exact (hpu29).set _ (by rw [List.length_set]; exact (hpu29).get (by omega))
          have hzl : z.length = (path (Ky.leaves s 16) ((0 : Nat) : Int)).length := by rw [hz, List.length_set]
          refine op_nil ?_
          exact at_met ((sign s ((0 : Nat) : Int) m 36, z)) (by first | exact ⟨hzu, hpu29, hzl.trans hsn29, hpn29⟩ | exact ⟨hsu29, hzu, hsn29, hzl.trans hpn29⟩) (.cons rfl (.cons rfl (.cons rfl (.nil _)))) (.cons rfl (.cons rfl (.cons rfl (.cons rfl (.cons rfl (.nil _)))))) (.cons rfl (.nil _))
      ·
        obtain ⟨hua, hub, hla, hlb⟩ := hj
        refine cd_seq ?_
        refine cd_open hmix (by decide +kernel) ?_
        refine qt (ev_move rfl) rfl rfl rfl ?_
        refine qt_callv has28 rfl (fun w1 sw => pubkey_any b23 lv23 s (1) w1 hl (lies_blk (sw.blk_eq (h := 23) rfl)) (sw.own_rd (h := 24) rfl)) rfl rfl ?_
        refine qt (ev_move rfl) rfl rfl rfl ?_
        refine qt (ld_blk_all (h := 12) ty42 rfl rfl rfl (by first | omega | (simp only [List.length_append, List.length_cons, List.length_nil, List.length_set, List.length_replicate, List.length_take, List.length_drop, ints_length, wr_length, sha_len, node_len, recov_len, Ky.named_len, Ky.keyPub_len] <;> omega) | rfl)) rfl rfl rfl ?_
        refine qt_callv has35 rfl (fun w1 sw => verify_any (Ky.keyPub s) q m ((0 : Nat) : Int) va29 vb29 x.1 x.2 w1 (Ky.keyPub_len s) (by omega) hua hub (by omega) (by omega) (sw.sl_rd (h := 1) rfl) (sw.own_rd (h := 150) rfl) (sw.own_rd (h := 151) rfl)) rfl rfl ?_
        refine qt (ev_not_if rfl) rfl rfl rfl ?_
        refine qt (ev_move rfl) rfl rfl rfl ?_
        refine qt_split_if (i := 75) rfl (fun hg75 => ?_) (fun hg75 => ?_)
        ·
          refine qt_skip rfl rfl rfl ?_
          refine qt_skip rfl rfl rfl ?_
          refine qt_skip rfl rfl rfl ?_
          refine qt_skip rfl rfl rfl ?_
          refine qt_skip rfl rfl rfl ?_
          refine qt (ev_pick_t rfl rfl) rfl rfl rfl ?_
          refine qt (ev_move rfl) rfl rfl rfl ?_
          refine qt_callv has33 rfl (fun w1 sw => known5_any w1) rfl rfl ?_
          refine qt (ev_pick_t rfl rfl) rfl rfl rfl ?_
          refine qt (ev_assign rfl) rfl rfl rfl ?_
          refine qt_end ?_
          refine op_nil ?_
          refine ax_then ?_
          refine At.regs (L' := [(10, _)]) (.cons rfl (.nil _)) ?_
          refine cd_ret ?_
          refine rt_tmp (.inl rfl) Try.results10 rfl ?_
          exact fun w1 sw => ⟨rfl, sw.gives (.nil _)⟩
        ·
          refine qt (ev_move rfl) rfl rfl rfl ?_
          refine qt_callv has28 rfl (fun w1 sw => pubkey_any b23 lv23 s (1) w1 hl (lies_blk (sw.blk_eq (h := 23) rfl)) (sw.own_rd (h := 24) rfl)) rfl rfl ?_
          refine qt (ev_move rfl) rfl rfl rfl ?_
          refine qt (ld_blk_all (h := 12) ty42 rfl rfl rfl (by first | omega | (simp only [List.length_append, List.length_cons, List.length_nil, List.length_set, List.length_replicate, List.length_take, List.length_drop, ints_length, wr_length, sha_len, node_len, recov_len, Ky.named_len, Ky.keyPub_len] <;> omega) | rfl)) rfl rfl rfl ?_
          refine qt_callv has36 rfl (fun w1 sw => rverify_any (Ky.keyPub s) q m ((0 : Nat) : Int) va29 vb29 x.1 x.2 w1 (Ky.keyPub_len s) (by omega) hua hub (by omega) (by omega) (sw.sl_rd (h := 1) rfl) (sw.own_rd (h := 150) rfl) (sw.own_rd (h := 151) rfl)) rfl rfl ?_
          refine qt (ev_pick_f rfl rfl) rfl rfl rfl ?_
          refine qt (ev_move rfl) rfl rfl rfl ?_
          refine qt_eq (i := 82) (v' := .bool true) rfl (by rw [decide_eq_true (Classical.not_not.1 hg75)]) ?_
          refine qt_callv has33 rfl (fun w1 sw => known5_any w1) rfl rfl ?_
          refine qt (ev_pick_t rfl rfl) rfl rfl rfl ?_
          refine qt (ev_assign rfl) rfl rfl rfl ?_
          refine qt_end ?_
          refine op_nil ?_
          refine ax_then ?_
          refine At.regs (L' := [(10, _)]) (.cons rfl (.nil _)) ?_
          refine cd_ret ?_
          refine rt_tmp (.inl rfl) Try.results10 rfl ?_
          exact fun w1 sw => ⟨rfl, sw.gives (.nil _)⟩

end Go.Proofs.Yteedclmcgifmpaa

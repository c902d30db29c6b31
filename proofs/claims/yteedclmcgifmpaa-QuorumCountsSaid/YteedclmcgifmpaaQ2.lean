/- Walks: chapter 7. -/
import Derived.Test.YteedclmcgifmpaaQa
import Derived.Test.YteedclmcgifmpaaSg
import Derived.Test.YteedclmcgifmpaaK5
namespace Go.Proofs.Yteedclmcgifmpaa
open Go Go.RowKit Fw
open Sha
open Ots
open Mk
set_option linter.unusedVariables false
set_option linter.unusedSimpArgs false

set_option maxRecDepth 20000 in
set_option maxHeartbeats 8000000 in
theorem signed_any (pb : Value) (body : List Int) (which : Int) (tw : Bool) (w : World) (hbody : Rd w pb 1 (ints .u8 body)) (hbl : body.length ≤ 1000000000) : Calls Try.prog 24 #[pb, .int .i64 which, .bool tw] w (PostR (ι := Value × Value × List Qm.Mark × List (Value × Nat × List Value)) w (fun x => x.2.2.1.map Qm.strip = Qm.expd body which tw (3) ∧ Qm.covers x.2.2.2 x.2.2.1) (fun x => .tuple #[.agg (List.toArray [pb, x.1]), .agg (List.toArray [x.2.1, .int .i64 0])]) (fun x => [(0, .own (x.1) 44 35 (Qm.mflat (x.2.2.1))), (1, .own (x.2.1) 39 32 (flat (Qm.keysK 3)))]) (fun x => x.2.2.2)) := by
  have hsb := rd_shape hbody
  refine calls_at (vs := [pb, .int .i64 which, .bool tw]) (X := []) (H := []) (F := [(0, .sl (pb) 1 (ints .u8 (body)))]) 80 Try.func24 rfl rfl rfl (Sat.rd0 0 hbody) ?_
  refine cd_seq ?_
  refine cd_region ?_
  refine st_alloc (h := 6) ty25 rfl rfl rfl (fun b6 => ?_)
  refine st_alloc (h := 7) ty28 rfl rfl rfl (fun b7 => ?_)
  refine op_nil ?_
  refine ax_then ?_
  refine At.regs (L' := [(0, _), (1, _), (2, _), (6, _), (7, _)]) (.cons rfl (.cons rfl (.cons rfl (.cons rfl (.cons rfl (.nil _)))))) ?_
  refine cd_seq ?_
  refine cd_region ?_
  refine st (ev_move rfl) rfl rfl rfl ?_
  refine st (ev_build_struct ty25 rfl pl25 rfl ((fill_put (i := 0) (off := 0) (n := 1) (vs := [pb]) rfl hsb.1 rfl (Nat.le_of_ble_eq_true rfl)).trans fill_nil)) rfl rfl rfl ?_
  refine at_eq (i := 15) (v' := .agg (List.toArray [pb, .slice none 0 0])) rfl rfl ?_
  refine st_alloc (h := 8) ty25 rfl rfl rfl (fun b8 => ?_)
  refine st_store_all 8 ty25 rfl rfl rfl rfl rfl (by intro u hu; simp at hu; rcases hu with rfl | rfl; exact hsb.2; rfl) rfl rfl ?_
  refine op_nil ?_
  refine ax_then ?_
  refine At.regs (L' := [(0, _), (1, _), (2, _), (6, _), (7, _), (8, _)]) (.cons rfl (.cons rfl (.cons rfl (.cons rfl (.cons rfl (.cons rfl (.nil _))))))) ?_
  refine cd_seq ?_
  refine cd_region ?_
  refine st_alloc (h := 9) ty28 rfl rfl rfl (fun b9 => ?_)
  refine op_nil ?_
  refine ax_then ?_
  refine At.regs (L' := [(0, _), (1, _), (2, _), (6, _), (7, _), (8, _), (9, _)]) (.cons rfl (.cons rfl (.cons rfl (.cons rfl (.cons rfl (.cons rfl (.cons rfl (.nil _)))))))) ?_
  refine cd_seq ?_
  refine cd_seq ?_
  refine cd_region ?_
  refine st (ev_assign rfl) rfl rfl rfl ?_
  refine op_nil ?_
  refine ax_then ?_
  refine At.regs (L' := [(0, _), (1, _), (2, _), (6, _), (7, _), (8, _), (9, _), (10, _)]) (.cons rfl (.cons rfl (.cons rfl (.cons rfl (.cons rfl (.cons rfl (.cons rfl (.cons rfl (.nil _))))))))) ?_
  refine cd_block ?_
  refine at_rows_nil 200 ?_
  refine at_own_nil 100 44 35 ?_
  refine at_own_nil 101 39 32 ?_
  refine at_heq (i := 100) (v' := .own (.slice none 0 0) 44 35 (Qm.mflat ([]))) rfl rfl ?_
  refine at_heq (i := 101) (v' := .own (.slice none 0 0) 39 32 (flat (Qm.keysK 0))) rfl rfl ?_
  refine cd_loop (ι := Nat × Value × Value × List Qm.Mark × List (Value × Nat × List Value)) (fun x => x.1 ≤ 3 ∧ (x.2.2.2.1).map Qm.strip = Qm.expd body which tw (x.1) ∧ Qm.covers (x.2.2.2.2) (x.2.2.2.1) ∧ Qm.FR w (x.2.2.2.2)) (fun x => 3 - x.1)
      (fun x => [(0, pb), (1, .int .i64 which), (2, .bool tw), (6, .pointer (some ⟨b6, 0, none⟩)), (7, .pointer (some ⟨b7, 0, none⟩)), (8, .pointer (some ⟨b8, 0, none⟩)), (9, .pointer (some ⟨b9, 0, none⟩)), (10, .int .i64 (x.1 : Int))])
      (fun x => [(6, .blk (b6) (.cells ([.slice none 0 0, .slice none 0 0]).toArray 25)), (7, .blk (b7) (.cells ([.slice none 0 0, .int .i64 0]).toArray 28)), (8, .blk (b8) (.cells ([pb, x.2.1]).toArray 25)), (9, .blk (b9) (.cells ([x.2.2.1, .int .i64 0]).toArray 28)), (100, .own (x.2.1) 44 35 (Qm.mflat (x.2.2.2.1))), (101, .own (x.2.2.1) 39 32 (flat (Qm.keysK (x.1))))])
      (fun x => [(0, .sl (pb) 1 (ints .u8 (body))), (200, .rows x.2.2.2.2)])
      (0, .slice none 0 0, .slice none 0 0, [], []) (⟨by decide, rfl, (fun m hm => absurd hm (by simp)), (fun y hy => absurd hy (by simp))⟩) (.cons rfl (.cons rfl (.cons rfl (.cons rfl (.cons rfl (.cons rfl (.cons rfl (.cons rfl (.nil _))))))))) (.cons rfl (.cons rfl (.cons rfl (.cons rfl (.cons rfl (.cons rfl (.nil _))))))) (.cons rfl (.cons rfl (.nil _))) (fun x hi => ?_)
  obtain ⟨i, mv, kv, ms, R⟩ := x
  dsimp only at hi ⊢
  obtain ⟨hi3, hms, hcov, hfr⟩ := hi
  have hel := Qm.expd_len body which tw i
  have hmsl : ms.length ≤ 6 := by have := congrArg List.length hms; rw [List.length_map] at this; omega
  have hmf := Qm.mflat_len (Qm.aok_of hms)
  have hku := Qm.keysK_h32 i
  have hkn := Qm.keysK_len i
  have hkp := Ky.keyPub_len (Qm.sd i)
  refine cd_seq ?_
  refine cd_seq ?_
  refine cd_region ?_
  refine st (ev_move rfl) rfl rfl rfl ?_
  refine st (ev_lss rfl rfl) rfl rfl rfl ?_
  refine op_nil ?_
  refine ax_then ?_
  refine At.regs (L' := [(0, _), (1, _), (2, _), (6, _), (7, _), (8, _), (9, _), (10, _), (16, _), (17, _)]) (.cons rfl (.cons rfl (.cons rfl (.cons rfl (.cons rfl (.cons rfl (.cons rfl (.cons rfl (.cons rfl (.cons rfl (.nil _))))))))))) ?_
  refine cd_if rfl (fun hc17 => ?_) (fun hc17 => ?_)
  ·
    have hi4 : i < 3 := by omega
    refine cd_skip ?_
    refine ax_then ?_
    refine At.regs (L' := [(0, _), (1, _), (2, _), (6, _), (7, _), (8, _), (9, _), (10, _), (16, _), (17, _)]) (.cons rfl (.cons rfl (.cons rfl (.cons rfl (.cons rfl (.cons rfl (.cons rfl (.cons rfl (.cons rfl (.cons rfl (.nil _))))))))))) ?_
    refine cd_join (ι := Value × Value × List Qm.Mark × List (Value × Nat × List Value)) (fun y => (y.2.2.1).map Qm.strip = Qm.expd body which tw (i + 1) ∧ Qm.covers (y.2.2.2) (y.2.2.1) ∧ Qm.FR w (y.2.2.2)) (fun y => [(0, pb), (1, .int .i64 which), (2, .bool tw), (6, .pointer (some ⟨b6, 0, none⟩)), (7, .pointer (some ⟨b7, 0, none⟩)), (8, .pointer (some ⟨b8, 0, none⟩)), (9, .pointer (some ⟨b9, 0, none⟩)), (10, .int .i64 (i : Int))]) (fun y => [(6, .blk (b6) (.cells ([.slice none 0 0, .slice none 0 0]).toArray 25)), (7, .blk (b7) (.cells ([.slice none 0 0, .int .i64 0]).toArray 28)), (8, .blk (b8) (.cells ([pb, y.1]).toArray 25)), (9, .blk (b9) (.cells ([y.2.1, .int .i64 0]).toArray 28)), (100, .own (y.1) 44 35 (Qm.mflat (y.2.2.1))), (101, .own (y.2.1) 39 32 (flat (Qm.keysK (i + 1))))]) (fun y => [(0, .sl (pb) 1 (ints .u8 (body))), (200, .rows y.2.2.2)]) ?_ (fun y hj => ?_)
    ·
      refine cd_block ?_
      refine cd_seq ?_
      refine cd_region ?_
      refine st (ev_move rfl) rfl rfl rfl ?_
      refine st (ev_conv Try.underlying3 Try.underlying5 rfl) rfl rfl rfl ?_
      refine at_eq (i := 21) (v' := .int .u8 (i : Int)) rfl (by rw [show IntKind.u8.wrap (i : Int) = (i : Int) by simp [IntKind.wrap, IntKind.bits, IntKind.signed]; omega]) ?_
      refine st (ev_build_array ty39 rfl ty5 rfl ((fill_put (i := 0) (off := 0) (n := 1) (vs := [.int .u8 (i : Int)]) rfl rfl rfl (Nat.le_of_ble_eq_true rfl)).trans fill_nil)) rfl rfl rfl ?_
      refine at_eq (i := 22) (v' := .agg (ints .u8 (Qm.sd i)).toArray) rfl (congrArg (fun x => Value.agg (List.toArray x)) (Qm.sd_new i)) ?_
      refine st_call has27 rfl (fun w1 sw => rn2 23 24 (rnew_any (Qm.sd i) 0 w1 (Qm.sd_len i))) nil_all rfl rfl (fun x23 _ => ?_)
      obtain ⟨b23, lv23⟩ := x23
      dsimp only
      refine at_heq (i := 23) (v' := .blk (b23) (.cells (Ky.rcells (Qm.sd i) lv23 (Ky.keyPub (Qm.sd i)) (((0 : Nat) : Int))).toArray 55)) rfl rfl ?_
      refine st (ev_assign rfl) rfl rfl rfl ?_
      refine op_nil ?_
      refine ax_then ?_
      refine At.regs (L' := [(0, _), (1, _), (2, _), (6, _), (7, _), (8, _), (9, _), (10, _), (11, _), (16, _), (17, _), (20, _), (21, _), (22, _), (23, _)]) (.cons rfl (.cons rfl (.cons rfl (.cons rfl (.cons rfl (.cons rfl (.cons rfl (.cons rfl (.cons rfl (.cons rfl (.cons rfl (.cons rfl (.cons rfl (.cons rfl (.cons rfl (.nil _)))))))))))))))) ?_
      refine cd_seq ?_
      refine cd_mixp [(300, .mem b23 0 (Ky.rcells (Qm.sd i) lv23 (Ky.keyPub (Qm.sd i)) (((0 : Nat) : Int)))), (0, .sl (pb) 1 (ints .u8 (body)))] hmix ?_
      refine mxp (i := 0) rfl (by decide +kernel) (by decide +kernel) (by decide +kernel) rfl (fun w0 => ev_fieldAddr (b := _) Try.underlying28 (f := _) rfl ty26 (by decide) rfl) rfl rfl (fun w sw => CF.cons (lies_blk (sw.blk_eq (h := 23) rfl)) (sw.cf (.cons rfl (.nil _)))) ?_
      refine mxp (i := 2) rfl (by decide +kernel) (by decide +kernel) (by decide +kernel) rfl (fun w0 => ev_move rfl) rfl rfl (fun w sw => CF.cons (lies_blk (sw.blk_eq (h := 23) rfl)) (sw.cf (.cons rfl (.nil _)))) ?_
      refine mxp (i := 3) rfl (by decide +kernel) (by decide +kernel) (by decide +kernel) rfl (fun w0 => ev_nilCheck rfl) rfl rfl (fun w sw => CF.cons (lies_blk (sw.blk_eq (h := 23) rfl)) (sw.cf (.cons rfl (.nil _)))) ?_
      refine mxp (i := 4) rfl (by decide +kernel) (by decide +kernel) (by decide +kernel) rfl (fun w0 => ev_fieldAddr (b := _) Try.underlying55 (f := _) rfl ty39 (by decide) rfl) rfl rfl (fun w sw => CF.cons (lies_blk (sw.blk_eq (h := 23) rfl)) (sw.cf (.cons rfl (.nil _)))) ?_
      refine mxp (i := 5) rfl (by decide +kernel) (by decide +kernel) (by decide +kernel) rfl (fun w0 => ld_mem (h := 300) (k := 33) ty39 rfl rfl rfl rfl (by rw [Ky.rcells_len (Qm.sd_len i) (Ky.keyPub_len _)]; decide)) rfl rfl (fun w sw => CF.cons (lies_blk (sw.blk_eq (h := 23) rfl)) (sw.cf (.cons rfl (.nil _)))) ?_
      refine at_eq (i := 29) (v' := .agg (ints .u8 (Ky.keyPub (Qm.sd i))).toArray) rfl (congrArg (fun x => Value.agg (List.toArray x)) (Ky.rcells_pub (Qm.sd_len i) (Ky.keyPub_len _) _ _)) ?_
      refine mxp_two (i := 1) (j := 6) (by decide +kernel) (fun w sw => CF.cons (lies_blk (sw.blk_eq (h := 23) rfl)) (sw.cf (.cons rfl (.nil _)))) ?_ ?_
      ·
        refine wo (i := 1) rfl ?_
        refine st (ld_blk1 (h := 9) ty26 rfl rfl rfl rfl) rfl rfl rfl ?_
        refine op_nil ?_
        refine ax_then ?_
        refine mxp_one (i := 6) (by decide +kernel) (fun w sw => CF.cons (lies_blk (sw.blk_eq (h := 23) rfl)) (sw.cf (.cons rfl (.nil _)))) ?_
        refine wo (i := 6) rfl ?_
        refine st_bsh1 (h := 30) Try.underlying26 ty39 rfl (by first | assumption | omega) rfl rfl (fun b30 hu30 => ?_)
        refine op_nil ?_
        refine ax_then ?_
        refine mxp_one (i := 7) (by decide +kernel) (fun w sw => CF.cons (lies_blk (sw.blk_eq (h := 23) rfl)) (sw.cf (.cons rfl (.nil _)))) ?_
        refine wo (i := 7) rfl ?_
        refine st_appendh (h := 101) Try.underlying26 Try.underlying26 ty39 rfl rfl rfl rfl (fun w1 sw => sw.own_rd (h := 30) rfl) (by assumption) (by assumption) (by first | omega | (simp only [List.length_append, List.length_cons, List.length_nil, List.length_set, List.length_replicate, List.length_take, List.length_drop, ints_length, wr_length, sha_len, node_len, recov_len, Ky.named_len, Ky.keyPub_len] <;> omega)) (by decide) rfl rfl (fun v31 hu31 => ?_)
        refine at_heq (i := 101) (v' := .own (v31) 39 32 (flat (Qm.keysK (i + 1)))) rfl (by rw [Qm.keysK_snoc]) ?_
        refine at_own_shape (h := 101) rfl (fun hs31 => ?_)
        refine op_nil ?_
        refine ax_then ?_
        refine mxp (i := 8) rfl (by decide +kernel) (by decide +kernel) (by decide +kernel) rfl (fun w0 => ev_fieldAddr (b := _) Try.underlying28 (f := _) rfl ty26 (by decide) rfl) rfl rfl (fun w sw => CF.cons (lies_blk (sw.blk_eq (h := 23) rfl)) (sw.cf (.cons rfl (.nil _)))) ?_
        refine mxp_one (i := 9) (by decide +kernel) (fun w sw => CF.cons (lies_blk (sw.blk_eq (h := 23) rfl)) (sw.cf (.cons rfl (.nil _)))) ?_
        refine wo (i := 9) rfl ?_
        refine st_store1 9 ty26 rfl rfl rfl hs31.2 (show 0 < 2 from by decide) rfl ?_
        refine at_heq (i := 9) (v' := .blk (b9) (.cells ([v31, .int .i64 0]).toArray 28)) rfl rfl ?_
        refine op_nil ?_
        refine ax_then ?_
        refine mxp_done (by decide +kernel) (fun w sw => CF.cons (lies_blk (sw.blk_eq (h := 23) rfl)) (sw.cf (.cons rfl (.nil _)))) ?_
        refine ax_then ?_
        refine At.regs (L' := [(0, _), (1, _), (2, _), (6, _), (7, _), (8, _), (9, _), (10, _), (11, _), (16, _), (17, _), (20, _), (21, _), (22, _), (23, _), (24, _), (25, _), (26, _), (27, _), (28, _), (29, _), (30, _), (31, _), (32, _)]) (.cons rfl (.cons rfl (.cons rfl (.cons rfl (.cons rfl (.cons rfl (.cons rfl (.cons rfl (.cons rfl (.cons rfl (.cons rfl (.cons rfl (.cons rfl (.cons rfl (.cons rfl (.cons rfl (.cons rfl (.cons rfl (.cons rfl (.cons rfl (.cons rfl (.cons rfl (.cons rfl (.cons rfl (.nil _))))))))))))))))))))))))) ?_
        refine cd_seq ?_
        refine cd_region ?_
        refine st (ev_move rfl) rfl rfl rfl ?_
        refine st (ev_move rfl) rfl rfl rfl ?_
        refine st (ev_convu64 Try.underlying3 Try.underlying37 rfl (by omega) (by omega)) rfl rfl rfl ?_
        refine st (ev_shr rfl rfl (by omega)) rfl rfl rfl ?_
        refine st (ev_and rfl rfl) rfl rfl rfl ?_
        refine st (ev_eql rfl rfl) rfl rfl rfl ?_
        refine op_nil ?_
        refine ax_then ?_
        refine At.regs (L' := [(0, _), (1, _), (2, _), (6, _), (7, _), (8, _), (9, _), (10, _), (11, _), (16, _), (17, _), (20, _), (21, _), (22, _), (23, _), (24, _), (25, _), (26, _), (27, _), (28, _), (29, _), (30, _), (31, _), (32, _), (33, _), (34, _), (35, _), (36, _), (37, _), (38, _)]) (.cons rfl (.cons rfl (.cons rfl (.cons rfl (.cons rfl (.cons rfl (.cons rfl (.cons rfl (.cons rfl (.cons rfl (.cons rfl (.cons rfl (.cons rfl (.cons rfl (.cons rfl (.cons rfl (.cons rfl (.cons rfl (.cons rfl (.cons rfl (.cons rfl (.cons rfl (.cons rfl (.cons rfl (.cons rfl (.cons rfl (.cons rfl (.cons rfl (.cons rfl (.cons rfl (.nil _))))))))))))))))))))))))))))))) ?_
        refine cd_if rfl (fun hc38 => ?_) (fun hc38 => ?_)
        ·
          refine cd_seq ?_
          refine cd_region ?_
          refine st (ev_move rfl) rfl rfl rfl ?_
          refine st (ev_move rfl) rfl rfl rfl ?_
          refine st_call has30 rfl (fun w1 sw => rn3 23 150 151 (rsignk_any b23 lv23 pb (Qm.sd i) body 0 w1 (Qm.sd_len i) (by decide) hbl (sw.blk_eq (h := 23) rfl) (sw.own_rd (h := 24) rfl) (sw.own_off (h := 23) (h' := 24) rfl rfl (by decide)) (sw.sl_rd (h := 0) rfl) (sw.off 0 _ 23 _ rfl rfl _ (by simp [Ent.ids])))) (mod_blk3 rfl) rfl rfl (fun x42 _ => ?_)
          obtain ⟨va42, vb42⟩ := x42
          dsimp only
          refine at_own_shape (h := 150) rfl (fun hsa42 => ?_)
          refine at_own_shape (h := 151) rfl (fun hsb42 => ?_)
          obtain ⟨m42, hm42⟩ : ∃ m : Qm.Mark, m = ⟨Ky.keyPub (Qm.sd i), ((0 : Nat) : Int), va42, vb42, sign (Qm.sd i) (0 : Nat) body 36, path (Ky.leaves (Qm.sd i) 16) ((0 : Nat) : Int)⟩ := ⟨_, rfl⟩
          have hme42 : Qm.strip m42 = Qm.exp1 body i 0 := by rw [hm42]; rfl
          have hmc42 : (Qm.mcells m42).length = 35 := by rw [hm42]; simp [Qm.mcells, ints_length, Ky.keyPub_len]
          have hmo42 := Qm.mone (m := m42) (by rw [hm42]; exact hsa42.2) (by rw [hm42]; exact hsb42.2)
          refine st (ev_move rfl) rfl rfl rfl ?_
          refine st (ev_extract rfl rfl) rfl rfl rfl ?_
          refine st (ev_extract rfl rfl) rfl rfl rfl ?_
          refine st_alloc (h := 12) ty42 rfl rfl rfl (fun b12 => ?_)
          refine st_store_all 12 ty42 rfl rfl rfl rfl rfl (by intro u hu; simp at hu; rcases hu with rfl | rfl | rfl; rfl; exact hsa42.2; exact hsb42.2) rfl rfl ?_
          refine st (ev_assign rfl) rfl rfl rfl ?_
          refine op_nil ?_
          refine ax_then ?_
          refine At.regs (L' := [(0, _), (1, _), (2, _), (6, _), (7, _), (8, _), (9, _), (10, _), (11, _), (12, _), (16, _), (17, _), (20, _), (21, _), (22, _), (23, _), (24, _), (25, _), (26, _), (27, _), (28, _), (29, _), (30, _), (31, _), (32, _), (33, _), (34, _), (35, _), (36, _), (37, _), (38, _), (39, _), (40, _), (41, _), (42, _), (43, _), (44, _)]) (.cons rfl (.cons rfl (.cons rfl (.cons rfl (.cons rfl (.cons rfl (.cons rfl (.cons rfl (.cons rfl (.cons rfl (.cons rfl (.cons rfl (.cons rfl (.cons rfl (.cons rfl (.cons rfl (.cons rfl (.cons rfl (.cons rfl (.cons rfl (.cons rfl (.cons rfl (.cons rfl (.cons rfl (.cons rfl (.cons rfl (.cons rfl (.cons rfl (.cons rfl (.cons rfl (.cons rfl (.cons rfl (.cons rfl (.cons rfl (.cons rfl (.cons rfl (.cons rfl (.nil _)))))))))))))))))))))))))))))))))))))) ?_
          refine cd_seq ?_
          refine cd_mixp [(300, .mem b23 0 (Ky.rcells (Qm.sd i) lv23 (Ky.keyPub (Qm.sd i)) (((1 : Nat) : Int)))), (301, .mem b12 0 [.int .i64 ((0 : Nat) : Int), va42, vb42]), (0, .sl (pb) 1 (ints .u8 (body)))] hmix ?_
          refine mxp (i := 0) rfl (by decide +kernel) (by decide +kernel) (by decide +kernel) rfl (fun w0 => ev_fieldAddr (b := _) Try.underlying25 (f := _) rfl ty23 (by decide) rfl) rfl rfl (fun w sw => CF.cons (lies_blk (sw.blk_eq (h := 23) rfl)) (CF.cons (lies_blk (sw.blk_eq (h := 12) rfl)) (sw.cf (.cons rfl (.nil _))))) ?_
          refine mxp (i := 2) rfl (by decide +kernel) (by decide +kernel) (by decide +kernel) rfl (fun w0 => ev_move rfl) rfl rfl (fun w sw => CF.cons (lies_blk (sw.blk_eq (h := 23) rfl)) (CF.cons (lies_blk (sw.blk_eq (h := 12) rfl)) (sw.cf (.cons rfl (.nil _))))) ?_
          refine mxp (i := 3) rfl (by decide +kernel) (by decide +kernel) (by decide +kernel) rfl (fun w0 => ev_nilCheck rfl) rfl rfl (fun w sw => CF.cons (lies_blk (sw.blk_eq (h := 23) rfl)) (CF.cons (lies_blk (sw.blk_eq (h := 12) rfl)) (sw.cf (.cons rfl (.nil _))))) ?_
          refine mxp (i := 4) rfl (by decide +kernel) (by decide +kernel) (by decide +kernel) rfl (fun w0 => ev_fieldAddr (b := _) Try.underlying55 (f := _) rfl ty39 (by decide) rfl) rfl rfl (fun w sw => CF.cons (lies_blk (sw.blk_eq (h := 23) rfl)) (CF.cons (lies_blk (sw.blk_eq (h := 12) rfl)) (sw.cf (.cons rfl (.nil _))))) ?_
          refine mxp (i := 5) rfl (by decide +kernel) (by decide +kernel) (by decide +kernel) rfl (fun w0 => ld_mem (h := 300) (k := 33) ty39 rfl rfl rfl rfl (by rw [Ky.rcells_len (Qm.sd_len i) (Ky.keyPub_len _)]; decide)) rfl rfl (fun w sw => CF.cons (lies_blk (sw.blk_eq (h := 23) rfl)) (CF.cons (lies_blk (sw.blk_eq (h := 12) rfl)) (sw.cf (.cons rfl (.nil _))))) ?_
          refine at_eq (i := 50) (v' := .agg (ints .u8 (Ky.keyPub (Qm.sd i))).toArray) rfl (congrArg (fun x => Value.agg (List.toArray x)) (Ky.rcells_pub (Qm.sd_len i) (Ky.keyPub_len _) _ _)) ?_
          refine mxp (i := 6) rfl (by decide +kernel) (by decide +kernel) (by decide +kernel) rfl (fun w0 => ld_mem_all (h := 301) ty42 rfl rfl rfl (by first | omega | (simp only [List.length_append, List.length_cons, List.length_nil, List.length_set, List.length_replicate, List.length_take, List.length_drop, ints_length, wr_length, sha_len, node_len, recov_len, Ky.named_len, Ky.keyPub_len] <;> omega) | rfl)) rfl rfl (fun w sw => CF.cons (lies_blk (sw.blk_eq (h := 23) rfl)) (CF.cons (lies_blk (sw.blk_eq (h := 12) rfl)) (sw.cf (.cons rfl (.nil _))))) ?_
          refine mxp (i := 7) rfl (by decide +kernel) (by decide +kernel) (by decide +kernel) rfl (fun w0 => ev_build_struct ty44 rfl pl44 rfl ((fill_put (i := 0) (off := 0) (n := 32) (vs := ints .u8 (Ky.keyPub (Qm.sd i))) rfl rfl (by rw [ints_length, Ky.keyPub_len]) (Nat.le_of_ble_eq_true rfl)).trans ((fill_put (i := 1) (off := 32) (n := 3) (vs := [.int .i64 ((0 : Nat) : Int), va42, vb42]) rfl rfl rfl (by rw [wr_length (by rw [ints_length, Ky.keyPub_len]; exact Nat.le_of_ble_eq_true rfl)]; exact Nat.le_of_ble_eq_true rfl)).trans fill_nil))) rfl rfl (fun w sw => CF.cons (lies_blk (sw.blk_eq (h := 23) rfl)) (CF.cons (lies_blk (sw.blk_eq (h := 12) rfl)) (sw.cf (.cons rfl (.nil _))))) ?_
          refine at_eq (i := 52) (v' := .agg (Qm.mcells m42).toArray) rfl (congrArg (fun x => Value.agg (List.toArray x)) ((Qm.mark_new (Ky.keyPub_len _) _ _ _).trans (by rw [hm42]; rfl))) ?_
          refine mxp_two (i := 1) (j := 8) (by decide +kernel) (fun w sw => CF.cons (lies_blk (sw.blk_eq (h := 23) rfl)) (CF.cons (lies_blk (sw.blk_eq (h := 12) rfl)) (sw.cf (.cons rfl (.nil _))))) ?_ ?_
          ·
            refine wo (i := 1) rfl ?_
            refine st (ld_blk1 (h := 8) ty23 rfl rfl rfl rfl) rfl rfl rfl ?_
            refine op_nil ?_
            refine ax_then ?_
            refine mxp_one (i := 8) (by decide +kernel) (fun w sw => CF.cons (lies_blk (sw.blk_eq (h := 23) rfl)) (CF.cons (lies_blk (sw.blk_eq (h := 12) rfl)) (sw.cf (.cons rfl (.nil _))))) ?_
            refine wo (i := 8) rfl ?_
            refine st_bs1 (h := 53) Try.underlying23 ty44 rfl rfl hmc42 (by decide) (by decide) rfl rfl (fun b53 => ?_)
            refine op_nil ?_
            refine ax_then ?_
            refine mxp_one (i := 9) (by decide +kernel) (fun w sw => CF.cons (lies_blk (sw.blk_eq (h := 23) rfl)) (CF.cons (lies_blk (sw.blk_eq (h := 12) rfl)) (sw.cf (.cons rfl (.nil _))))) ?_
            refine wo (i := 9) rfl ?_
            refine st_append (n := (ms).length) (m := 1) (h := 100) Try.underlying23 Try.underlying23 ty44 rfl rfl rfl rfl (fun w1 sw => sw.own_rd (h := 53) rfl) (by decide) hmf hmc42 (by first | omega | (simp only [List.length_append, List.length_cons, List.length_nil]; omega)) (by decide) hmo42 rfl rfl (fun v54 => ?_)
            refine at_heq (i := 100) (v' := .own (v54) 44 35 (Qm.mflat (ms ++ [m42]))) rfl (by rw [Qm.mflat_snoc]) ?_
            refine at_own_shape (h := 100) rfl (fun hs54 => ?_)
            refine op_nil ?_
            refine ax_then ?_
            refine mxp (i := 10) rfl (by decide +kernel) (by decide +kernel) (by decide +kernel) rfl (fun w0 => ev_fieldAddr (b := _) Try.underlying25 (f := _) rfl ty23 (by decide) rfl) rfl rfl (fun w sw => CF.cons (lies_blk (sw.blk_eq (h := 23) rfl)) (CF.cons (lies_blk (sw.blk_eq (h := 12) rfl)) (sw.cf (.cons rfl (.nil _))))) ?_
            refine mxp_one (i := 11) (by decide +kernel) (fun w sw => CF.cons (lies_blk (sw.blk_eq (h := 23) rfl)) (CF.cons (lies_blk (sw.blk_eq (h := 12) rfl)) (sw.cf (.cons rfl (.nil _))))) ?_
            refine wo (i := 11) rfl ?_
            refine st_store1 8 ty23 rfl rfl rfl hs54.2 (show 1 < 2 from by decide) rfl ?_
            refine at_heq (i := 8) (v' := .blk (b8) (.cells ([pb, v54]).toArray 25)) rfl rfl ?_
            refine op_nil ?_
            refine ax_then ?_
            refine mxp_done (by decide +kernel) (fun w sw => CF.cons (lies_blk (sw.blk_eq (h := 23) rfl)) (CF.cons (lies_blk (sw.blk_eq (h := 12) rfl)) (sw.cf (.cons rfl (.nil _))))) ?_
            refine ax_then ?_
            refine At.regs (L' := [(0, _), (1, _), (2, _), (6, _), (7, _), (8, _), (9, _), (10, _), (11, _), (12, _), (16, _), (17, _), (20, _), (21, _), (22, _), (23, _), (24, _), (25, _), (26, _), (27, _), (28, _), (29, _), (30, _), (31, _), (32, _), (33, _), (34, _), (35, _), (36, _), (37, _), (38, _), (39, _), (40, _), (41, _), (42, _), (43, _), (44, _), (45, _), (46, _), (47, _), (48, _), (49, _), (50, _), (51, _), (52, _), (53, _), (54, _), (55, _)]) (.cons rfl (.cons rfl (.cons rfl (.cons rfl (.cons rfl (.cons rfl (.cons rfl (.cons rfl (.cons rfl (.cons rfl (.cons rfl (.cons rfl (.cons rfl (.cons rfl (.cons rfl (.cons rfl (.cons rfl (.cons rfl (.cons rfl (.cons rfl (.cons rfl (.cons rfl (.cons rfl (.cons rfl (.cons rfl (.cons rfl (.cons rfl (.cons rfl (.cons rfl (.cons rfl (.cons rfl (.cons rfl (.cons rfl (.cons rfl (.cons rfl (.cons rfl (.cons rfl (.cons rfl (.cons rfl (.cons rfl (.cons rfl (.cons rfl (.cons rfl (.cons rfl (.cons rfl (.cons rfl (.cons rfl (.cons rfl (.nil _))))))))))))))))))))))))))))))))))))))))))))))))) ?_
            refine cd_seq ?_
            refine at_rows_add (h := 150) (i := 200) (H' := [(6, _), (7, _), (8, _), (9, _), (12, _), (23, _), (24, _), (100, _), (101, _), (151, _)]) rfl rfl (.cons rfl (.cons rfl (.cons rfl (.cons rfl (.cons rfl (.cons rfl (.cons rfl (.cons rfl (.cons rfl (.cons rfl (.nil _))))))))))) rfl (fun hf1 => ?_)
            refine at_rows_add (h := 151) (i := 200) (H' := [(6, _), (7, _), (8, _), (9, _), (12, _), (23, _), (24, _), (100, _), (101, _)]) rfl rfl (.cons rfl (.cons rfl (.cons rfl (.cons rfl (.cons rfl (.cons rfl (.cons rfl (.cons rfl (.cons rfl (.nil _)))))))))) rfl (fun hf2 => ?_)
            refine cd_region ?_
            refine st (ev_move rfl) rfl rfl rfl ?_
            refine st (ev_move rfl) rfl rfl rfl ?_
            refine at_split (i := 57) rfl (fun hg57 => ?_) (fun hg57 => ?_)
            ·
              refine st (ev_move rfl) rfl rfl rfl ?_
              refine st (ev_eql rfl rfl) rfl rfl rfl ?_
              refine st (ev_pick_t rfl rfl) rfl rfl rfl ?_
              refine op_nil ?_
              refine ax_then ?_
              refine At.regs (L' := [(0, _), (1, _), (2, _), (6, _), (7, _), (8, _), (9, _), (10, _), (11, _), (12, _), (16, _), (17, _), (20, _), (21, _), (22, _), (23, _), (24, _), (25, _), (26, _), (27, _), (28, _), (29, _), (30, _), (31, _), (32, _), (33, _), (34, _), (35, _), (36, _), (37, _), (38, _), (39, _), (40, _), (41, _), (42, _), (43, _), (44, _), (45, _), (46, _), (47, _), (48, _), (49, _), (50, _), (51, _), (52, _), (53, _), (54, _), (55, _), (56, _), (57, _), (58, _), (59, _), (60, _)]) (.cons rfl (.cons rfl (.cons rfl (.cons rfl (.cons rfl (.cons rfl (.cons rfl (.cons rfl (.cons rfl (.cons rfl (.cons rfl (.cons rfl (.cons rfl (.cons rfl (.cons rfl (.cons rfl (.cons rfl (.cons rfl (.cons rfl (.cons rfl (.cons rfl (.cons rfl (.cons rfl (.cons rfl (.cons rfl (.cons rfl (.cons rfl (.cons rfl (.cons rfl (.cons rfl (.cons rfl (.cons rfl (.cons rfl (.cons rfl (.cons rfl (.cons rfl (.cons rfl (.cons rfl (.cons rfl (.cons rfl (.cons rfl (.cons rfl (.cons rfl (.cons rfl (.cons rfl (.cons rfl (.cons rfl (.cons rfl (.cons rfl (.cons rfl (.cons rfl (.cons rfl (.cons rfl (.nil _)))))))))))))))))))))))))))))))))))))))))))))))))))))) ?_
              refine cd_if rfl (fun hc60 => ?_) (fun hc60 => ?_)
              ·
                refine cd_seq ?_
                refine cd_region ?_
                have hmf2 : (Qm.mflat (ms ++ [m42])).length = (ms ++ [m42]).length * 35 := by rw [← Qm.mflat_snoc, List.length_append, hmf, hmc42, List.length_append]; simp; omega
                refine st (ev_move rfl) rfl rfl rfl ?_
                refine st (ev_move rfl) rfl rfl rfl ?_
                refine st_call has30 rfl (fun w1 sw => rn3 23 152 153 (rsignk_any b23 lv23 pb (Qm.sd i) body 1 w1 (Qm.sd_len i) (by decide) hbl (sw.blk_eq (h := 23) rfl) (sw.own_rd (h := 24) rfl) (sw.own_off (h := 23) (h' := 24) rfl rfl (by decide)) (sw.sl_rd (h := 0) rfl) (sw.off 0 _ 23 _ rfl rfl _ (by simp [Ent.ids])))) (mod_blk3 rfl) rfl rfl (fun x64 _ => ?_)
                obtain ⟨va64, vb64⟩ := x64
                dsimp only
                refine at_own_shape (h := 152) rfl (fun hsa64 => ?_)
                refine at_own_shape (h := 153) rfl (fun hsb64 => ?_)
                obtain ⟨m64, hm64⟩ : ∃ m : Qm.Mark, m = ⟨Ky.keyPub (Qm.sd i), ((1 : Nat) : Int), va64, vb64, sign (Qm.sd i) (1 : Nat) body 36, path (Ky.leaves (Qm.sd i) 16) ((1 : Nat) : Int)⟩ := ⟨_, rfl⟩
                have hme64 : Qm.strip m64 = Qm.exp1 body i 1 := by rw [hm64]; rfl
                have hmc64 : (Qm.mcells m64).length = 35 := by rw [hm64]; simp [Qm.mcells, ints_length, Ky.keyPub_len]
                have hmo64 := Qm.mone (m := m64) (by rw [hm64]; exact hsa64.2) (by rw [hm64]; exact hsb64.2)
                refine st (ev_move rfl) rfl rfl rfl ?_
                refine st (ev_extract rfl rfl) rfl rfl rfl ?_
                refine st (ev_extract rfl rfl) rfl rfl rfl ?_
                refine st_store_all 12 ty42 rfl rfl rfl rfl rfl (by intro u hu; simp at hu; rcases hu with rfl | rfl | rfl; rfl; exact hsa64.2; exact hsb64.2) rfl rfl ?_
                refine op_nil ?_
                refine ax_then ?_
                refine At.regs (L' := [(0, _), (1, _), (2, _), (6, _), (7, _), (8, _), (9, _), (10, _), (11, _), (12, _), (16, _), (17, _), (20, _), (21, _), (22, _), (23, _), (24, _), (25, _), (26, _), (27, _), (28, _), (29, _), (30, _), (31, _), (32, _), (33, _), (34, _), (35, _), (36, _), (37, _), (38, _), (39, _), (40, _), (41, _), (42, _), (43, _), (44, _), (45, _), (46, _), (47, _), (48, _), (49, _), (50, _), (51, _), (52, _), (53, _), (54, _), (55, _), (56, _), (57, _), (58, _), (59, _), (60, _), (61, _), (62, _), (63, _), (64, _), (65, _)]) (.cons rfl (.cons rfl (.cons rfl (.cons rfl (.cons rfl (.cons rfl (.cons rfl (.cons rfl (.cons rfl (.cons rfl (.cons rfl (.cons rfl (.cons rfl (.cons rfl (.cons rfl (.cons rfl (.cons rfl (.cons rfl (.cons rfl (.cons rfl (.cons rfl (.cons rfl (.cons rfl (.cons rfl (.cons rfl (.cons rfl (.cons rfl (.cons rfl (.cons rfl (.cons rfl (.cons rfl (.cons rfl (.cons rfl (.cons rfl (.cons rfl (.cons rfl (.cons rfl (.cons rfl (.cons rfl (.cons rfl (.cons rfl (.cons rfl (.cons rfl (.cons rfl (.cons rfl (.cons rfl (.cons rfl (.cons rfl (.cons rfl (.cons rfl (.cons rfl (.cons rfl (.cons rfl (.cons rfl (.cons rfl (.cons rfl (.cons rfl (.cons rfl (.nil _))))))))))))))))))))))))))))))))))))))))))))))))))))))))))) ?_
                refine cd_mixp [(300, .mem b23 0 (Ky.rcells (Qm.sd i) lv23 (Ky.keyPub (Qm.sd i)) (((2 : Nat) : Int)))), (301, .mem b12 0 [.int .i64 ((1 : Nat) : Int), va64, vb64]), (0, .sl (pb) 1 (ints .u8 (body)))] hmix ?_
                refine mxp (i := 0) rfl (by decide +kernel) (by decide +kernel) (by decide +kernel) rfl (fun w0 => ev_fieldAddr (b := _) Try.underlying25 (f := _) rfl ty23 (by decide) rfl) rfl rfl (fun w sw => CF.cons (lies_blk (sw.blk_eq (h := 23) rfl)) (CF.cons (lies_blk (sw.blk_eq (h := 12) rfl)) (sw.cf (.cons rfl (.nil _))))) ?_
                refine mxp (i := 2) rfl (by decide +kernel) (by decide +kernel) (by decide +kernel) rfl (fun w0 => ev_move rfl) rfl rfl (fun w sw => CF.cons (lies_blk (sw.blk_eq (h := 23) rfl)) (CF.cons (lies_blk (sw.blk_eq (h := 12) rfl)) (sw.cf (.cons rfl (.nil _))))) ?_
                refine mxp (i := 3) rfl (by decide +kernel) (by decide +kernel) (by decide +kernel) rfl (fun w0 => ev_nilCheck rfl) rfl rfl (fun w sw => CF.cons (lies_blk (sw.blk_eq (h := 23) rfl)) (CF.cons (lies_blk (sw.blk_eq (h := 12) rfl)) (sw.cf (.cons rfl (.nil _))))) ?_
                refine mxp (i := 4) rfl (by decide +kernel) (by decide +kernel) (by decide +kernel) rfl (fun w0 => ev_fieldAddr (b := _) Try.underlying55 (f := _) rfl ty39 (by decide) rfl) rfl rfl (fun w sw => CF.cons (lies_blk (sw.blk_eq (h := 23) rfl)) (CF.cons (lies_blk (sw.blk_eq (h := 12) rfl)) (sw.cf (.cons rfl (.nil _))))) ?_
                refine mxp (i := 5) rfl (by decide +kernel) (by decide +kernel) (by decide +kernel) rfl (fun w0 => ld_mem (h := 300) (k := 33) ty39 rfl rfl rfl rfl (by rw [Ky.rcells_len (Qm.sd_len i) (Ky.keyPub_len _)]; decide)) rfl rfl (fun w sw => CF.cons (lies_blk (sw.blk_eq (h := 23) rfl)) (CF.cons (lies_blk (sw.blk_eq (h := 12) rfl)) (sw.cf (.cons rfl (.nil _))))) ?_
                refine at_eq (i := 72) (v' := .agg (ints .u8 (Ky.keyPub (Qm.sd i))).toArray) rfl (congrArg (fun x => Value.agg (List.toArray x)) (Ky.rcells_pub (Qm.sd_len i) (Ky.keyPub_len _) _ _)) ?_
                refine mxp (i := 6) rfl (by decide +kernel) (by decide +kernel) (by decide +kernel) rfl (fun w0 => ld_mem_all (h := 301) ty42 rfl rfl rfl (by first | omega | (simp only [List.length_append, List.length_cons, List.length_nil, List.length_set, List.length_replicate, List.length_take, List.length_drop, ints_length, wr_length, sha_len, node_len, recov_len, Ky.named_len, Ky.keyPub_len] <;> omega) | rfl)) rfl rfl (fun w sw => CF.cons (lies_blk (sw.blk_eq (h := 23) rfl)) (CF.cons (lies_blk (sw.blk_eq (h := 12) rfl)) (sw.cf (.cons rfl (.nil _))))) ?_
                refine mxp (i := 7) rfl (by decide +kernel) (by decide +kernel) (by decide +kernel) rfl (fun w0 => ev_build_struct ty44 rfl pl44 rfl ((fill_put (i := 0) (off := 0) (n := 32) (vs := ints .u8 (Ky.keyPub (Qm.sd i))) rfl rfl (by rw [ints_length, Ky.keyPub_len]) (Nat.le_of_ble_eq_true rfl)).trans ((fill_put (i := 1) (off := 32) (n := 3) (vs := [.int .i64 ((1 : Nat) : Int), va64, vb64]) rfl rfl rfl (by rw [wr_length (by rw [ints_length, Ky.keyPub_len]; exact Nat.le_of_ble_eq_true rfl)]; exact Nat.le_of_ble_eq_true rfl)).trans fill_nil))) rfl rfl (fun w sw => CF.cons (lies_blk (sw.blk_eq (h := 23) rfl)) (CF.cons (lies_blk (sw.blk_eq (h := 12) rfl)) (sw.cf (.cons rfl (.nil _))))) ?_
                refine at_eq (i := 74) (v' := .agg (Qm.mcells m64).toArray) rfl (congrArg (fun x => Value.agg (List.toArray x)) ((Qm.mark_new (Ky.keyPub_len _) _ _ _).trans (by rw [hm64]; rfl))) ?_
                refine mxp_two (i := 1) (j := 8) (by decide +kernel) (fun w sw => CF.cons (lies_blk (sw.blk_eq (h := 23) rfl)) (CF.cons (lies_blk (sw.blk_eq (h := 12) rfl)) (sw.cf (.cons rfl (.nil _))))) ?_ ?_
                ·
                  refine wo (i := 1) rfl ?_
                  refine st (ld_blk1 (h := 8) ty23 rfl rfl rfl rfl) rfl rfl rfl ?_
                  refine op_nil ?_
                  refine ax_then ?_
                  refine mxp_one (i := 8) (by decide +kernel) (fun w sw => CF.cons (lies_blk (sw.blk_eq (h := 23) rfl)) (CF.cons (lies_blk (sw.blk_eq (h := 12) rfl)) (sw.cf (.cons rfl (.nil _))))) ?_
                  refine wo (i := 8) rfl ?_
                  refine st_bs1 (h := 75) Try.underlying23 ty44 rfl rfl hmc64 (by decide) (by decide) rfl rfl (fun b75 => ?_)
                  refine op_nil ?_
                  refine ax_then ?_
                  refine mxp_one (i := 9) (by decide +kernel) (fun w sw => CF.cons (lies_blk (sw.blk_eq (h := 23) rfl)) (CF.cons (lies_blk (sw.blk_eq (h := 12) rfl)) (sw.cf (.cons rfl (.nil _))))) ?_
                  refine wo (i := 9) rfl ?_
                  refine st_append (n := ((ms ++ [m42])).length) (m := 1) (h := 100) Try.underlying23 Try.underlying23 ty44 rfl rfl rfl rfl (fun w1 sw => sw.own_rd (h := 75) rfl) (by decide) hmf2 hmc64 (by first | omega | (simp only [List.length_append, List.length_cons, List.length_nil]; omega)) (by decide) hmo64 rfl rfl (fun v76 => ?_)
                  refine at_heq (i := 100) (v' := .own (v76) 44 35 (Qm.mflat ((ms ++ [m42]) ++ [m64]))) rfl (by rw [Qm.mflat_snoc]) ?_
                  refine at_own_shape (h := 100) rfl (fun hs76 => ?_)
                  refine op_nil ?_
                  refine ax_then ?_
                  refine mxp (i := 10) rfl (by decide +kernel) (by decide +kernel) (by decide +kernel) rfl (fun w0 => ev_fieldAddr (b := _) Try.underlying25 (f := _) rfl ty23 (by decide) rfl) rfl rfl (fun w sw => CF.cons (lies_blk (sw.blk_eq (h := 23) rfl)) (CF.cons (lies_blk (sw.blk_eq (h := 12) rfl)) (sw.cf (.cons rfl (.nil _))))) ?_
                  refine mxp_one (i := 11) (by decide +kernel) (fun w sw => CF.cons (lies_blk (sw.blk_eq (h := 23) rfl)) (CF.cons (lies_blk (sw.blk_eq (h := 12) rfl)) (sw.cf (.cons rfl (.nil _))))) ?_
                  refine wo (i := 11) rfl ?_
                  refine st_store1 8 ty23 rfl rfl rfl hs76.2 (show 1 < 2 from by decide) rfl ?_
                  refine at_heq (i := 8) (v' := .blk (b8) (.cells ([pb, v76]).toArray 25)) rfl rfl ?_
                  refine at_rows_add (h := 152) (i := 200) (H' := [(6, _), (7, _), (8, _), (9, _), (12, _), (23, _), (24, _), (100, _), (101, _), (153, _)]) rfl rfl (.cons rfl (.cons rfl (.cons rfl (.cons rfl (.cons rfl (.cons rfl (.cons rfl (.cons rfl (.cons rfl (.cons rfl (.nil _))))))))))) rfl (fun hf3 => ?_)
                  refine at_rows_add (h := 153) (i := 200) (H' := [(6, _), (7, _), (8, _), (9, _), (12, _), (23, _), (24, _), (100, _), (101, _)]) rfl rfl (.cons rfl (.cons rfl (.cons rfl (.cons rfl (.cons rfl (.cons rfl (.cons rfl (.cons rfl (.cons rfl (.nil _)))))))))) rfl (fun hf4 => ?_)
                  refine op_nil ?_
                  refine ax_then ?_
                  refine mxp_done (by decide +kernel) (fun w sw => CF.cons (lies_blk (sw.blk_eq (h := 23) rfl)) (CF.cons (lies_blk (sw.blk_eq (h := 12) rfl)) (sw.cf (.cons rfl (.nil _))))) ?_
                  refine ax_block ?_
                  first | exact at_met ((v76, v31, ms ++ [m42] ++ [m64], ((vb64, 32, flat (path (Ky.leaves (Qm.sd i) 16) ((1 : Nat) : Int))) :: (va64, 32, flat (sign (Qm.sd i) (1 : Nat) body 36)) :: ((vb42, 32, flat (path (Ky.leaves (Qm.sd i) 16) ((0 : Nat) : Int))) :: (va42, 32, flat (sign (Qm.sd i) (0 : Nat) body 36)) :: R)))) (⟨by rw [Qm.expd, Qm.step, if_pos (show Qm.bit which i from hc38), if_pos ⟨hg57, by omega⟩]; simp [hms, hme42, hme64], by have := (hcov.snoc m42).snoc m64; rw [hm42, hm64] at this; rw [hm42, hm64]; exact this, (((hfr.cons hf1).cons hf2).cons hf3).cons hf4⟩) (.cons rfl (.cons rfl (.cons rfl (.cons rfl (.cons rfl (.cons rfl (.cons rfl (.cons rfl (.nil _))))))))) (.cons rfl (.cons rfl (.cons rfl (.cons rfl (.cons rfl (.cons rfl (.nil _))))))) (.cons rfl (.cons rfl (.nil _))) | exact at_met ((v54, v31, ms ++ [m42], ((vb42, 32, flat (path (Ky.leaves (Qm.sd i) 16) ((0 : Nat) : Int))) :: (va42, 32, flat (sign (Qm.sd i) (0 : Nat) body 36)) :: R))) (⟨by rw [Qm.expd, Qm.step, if_pos (show Qm.bit which i from hc38), if_neg (fun hh => by first | (rw [hg57] at hh; cases hh.1; done) | exact hc60 (by omega))]; simp [hms, hme42], by have := hcov.snoc m42; rw [hm42] at this; rw [hm42]; exact this, (hfr.cons hf1).cons hf2⟩) (.cons rfl (.cons rfl (.cons rfl (.cons rfl (.cons rfl (.cons rfl (.cons rfl (.cons rfl (.nil _))))))))) (.cons rfl (.cons rfl (.cons rfl (.cons rfl (.cons rfl (.cons rfl (.nil _))))))) (.cons rfl (.cons rfl (.nil _))) | exact at_met ((mv, v31, ms, R)) (⟨by rw [Qm.expd, Qm.step, if_neg (show ¬ Qm.bit which i from hc38), List.append_nil]; exact hms, hcov, hfr⟩) (.cons rfl (.cons rfl (.cons rfl (.cons rfl (.cons rfl (.cons rfl (.cons rfl (.cons rfl (.nil _))))))))) (.cons rfl (.cons rfl (.cons rfl (.cons rfl (.cons rfl (.cons rfl (.nil _))))))) (.cons rfl (.cons rfl (.nil _)))
                ·
                  refine wo (i := 8) rfl ?_
                  refine st_bs1 (h := 75) Try.underlying23 ty44 rfl rfl hmc64 (by decide) (by decide) rfl rfl (fun b75 => ?_)
                  refine op_nil ?_
                  refine ax_then ?_
                  refine mxp_one (i := 1) (by decide +kernel) (fun w sw => CF.cons (lies_blk (sw.blk_eq (h := 23) rfl)) (CF.cons (lies_blk (sw.blk_eq (h := 12) rfl)) (sw.cf (.cons rfl (.nil _))))) ?_
                  refine wo (i := 1) rfl ?_
                  refine st (ld_blk1 (h := 8) ty23 rfl rfl rfl rfl) rfl rfl rfl ?_
                  refine op_nil ?_
                  refine ax_then ?_
                  refine mxp_one (i := 9) (by decide +kernel) (fun w sw => CF.cons (lies_blk (sw.blk_eq (h := 23) rfl)) (CF.cons (lies_blk (sw.blk_eq (h := 12) rfl)) (sw.cf (.cons rfl (.nil _))))) ?_
                  refine wo (i := 9) rfl ?_
                  refine st_append (n := ((ms ++ [m42])).length) (m := 1) (h := 100) Try.underlying23 Try.underlying23 ty44 rfl rfl rfl rfl (fun w1 sw => sw.own_rd (h := 75) rfl) (by decide) hmf2 hmc64 (by first | omega | (simp only [List.length_append, List.length_cons, List.length_nil]; omega)) (by decide) hmo64 rfl rfl (fun v76 => ?_)
                  refine at_heq (i := 100) (v' := .own (v76) 44 35 (Qm.mflat ((ms ++ [m42]) ++ [m64]))) rfl (by rw [Qm.mflat_snoc]) ?_
                  refine at_own_shape (h := 100) rfl (fun hs76 => ?_)
                  refine op_nil ?_
                  refine ax_then ?_
                  refine mxp (i := 10) rfl (by decide +kernel) (by decide +kernel) (by decide +kernel) rfl (fun w0 => ev_fieldAddr (b := _) Try.underlying25 (f := _) rfl ty23 (by decide) rfl) rfl rfl (fun w sw => CF.cons (lies_blk (sw.blk_eq (h := 23) rfl)) (CF.cons (lies_blk (sw.blk_eq (h := 12) rfl)) (sw.cf (.cons rfl (.nil _))))) ?_
                  refine mxp_one (i := 11) (by decide +kernel) (fun w sw => CF.cons (lies_blk (sw.blk_eq (h := 23) rfl)) (CF.cons (lies_blk (sw.blk_eq (h := 12) rfl)) (sw.cf (.cons rfl (.nil _))))) ?_
                  refine wo (i := 11) rfl ?_
                  refine st_store1 8 ty23 rfl rfl rfl hs76.2 (show 1 < 2 from by decide) rfl ?_
                  refine at_heq (i := 8) (v' := .blk (b8) (.cells ([pb, v76]).toArray 25)) rfl rfl ?_
                  refine at_rows_add (h := 152) (i := 200) (H' := [(6, _), (7, _), (8, _), (9, _), (12, _), (23, _), (24, _), (100, _), (101, _), (153, _)]) rfl rfl (.cons rfl (.cons rfl (.cons rfl (.cons rfl (.cons rfl (.cons rfl (.cons rfl (.cons rfl (.cons rfl (.cons rfl (.nil _))))))))))) rfl (fun hf3 => ?_)
                  refine at_rows_add (h := 153) (i := 200) (H' := [(6, _), (7, _), (8, _), (9, _), (12, _), (23, _), (24, _), (100, _), (101, _)]) rfl rfl (.cons rfl (.cons rfl (.cons rfl (.cons rfl (.cons rfl (.cons rfl (.cons rfl (.cons rfl (.cons rfl (.nil _)))))))))) rfl (fun hf4 => ?_)
                  refine op_nil ?_
                  refine ax_then ?_
                  refine mxp_done (by decide +kernel) (fun w sw => CF.cons (lies_blk (sw.blk_eq (h := 23) rfl)) (CF.cons (lies_blk (sw.blk_eq (h := 12) rfl)) (sw.cf (.cons rfl (.nil _))))) ?_
                  refine ax_block ?_
                  first | exact at_met ((v76, v31, ms ++ [m42] ++ [m64], ((vb64, 32, flat (path (Ky.leaves (Qm.sd i) 16) ((1 : Nat) : Int))) :: (va64, 32, flat (sign (Qm.sd i) (1 : Nat) body 36)) :: ((vb42, 32, flat (path (Ky.leaves (Qm.sd i) 16) ((0 : Nat) : Int))) :: (va42, 32, flat (sign (Qm.sd i) (0 : Nat) body 36)) :: R)))) (⟨by rw [Qm.expd, Qm.step, if_pos (show Qm.bit which i from hc38), if_pos ⟨hg57, by omega⟩]; simp [hms, hme42, hme64], by have := (hcov.snoc m42).snoc m64; rw [hm42, hm64] at this; rw [hm42, hm64]; exact this, (((hfr.cons hf1).cons hf2).cons hf3).cons hf4⟩) (.cons rfl (.cons rfl (.cons rfl (.cons rfl (.cons rfl (.cons rfl (.cons rfl (.cons rfl (.nil _))))))))) (.cons rfl (.cons rfl (.cons rfl (.cons rfl (.cons rfl (.cons rfl (.nil _))))))) (.cons rfl (.cons rfl (.nil _))) | exact at_met ((v54, v31, ms ++ [m42], ((vb42, 32, flat (path (Ky.leaves (Qm.sd i) 16) ((0 : Nat) : Int))) :: (va42, 32, flat (sign (Qm.sd i) (0 : Nat) body 36)) :: R))) (⟨by rw [Qm.expd, Qm.step, if_pos (show Qm.bit which i from hc38), if_neg (fun hh => by first | (rw [hg57] at hh; cases hh.1; done) | exact hc60 (by omega))]; simp [hms, hme42], by have := hcov.snoc m42; rw [hm42] at this; rw [hm42]; exact this, (hfr.cons hf1).cons hf2⟩) (.cons rfl (.cons rfl (.cons rfl (.cons rfl (.cons rfl (.cons rfl (.cons rfl (.cons rfl (.nil _))))))))) (.cons rfl (.cons rfl (.cons rfl (.cons rfl (.cons rfl (.cons rfl (.nil _))))))) (.cons rfl (.cons rfl (.nil _))) | exact at_met ((mv, v31, ms, R)) (⟨by rw [Qm.expd, Qm.step, if_neg (show ¬ Qm.bit which i from hc38), List.append_nil]; exact hms, hcov, hfr⟩) (.cons rfl (.cons rfl (.cons rfl (.cons rfl (.cons rfl (.cons rfl (.cons rfl (.cons rfl (.nil _))))))))) (.cons rfl (.cons rfl (.cons rfl (.cons rfl (.cons rfl (.cons rfl (.nil _))))))) (.cons rfl (.cons rfl (.nil _)))
              ·
                refine cd_skip ?_
                refine ax_block ?_
                first | exact at_met ((v76, v31, ms ++ [m42] ++ [m64], ((vb64, 32, flat (path (Ky.leaves (Qm.sd i) 16) ((1 : Nat) : Int))) :: (va64, 32, flat (sign (Qm.sd i) (1 : Nat) body 36)) :: ((vb42, 32, flat (path (Ky.leaves (Qm.sd i) 16) ((0 : Nat) : Int))) :: (va42, 32, flat (sign (Qm.sd i) (0 : Nat) body 36)) :: R)))) (⟨by rw [Qm.expd, Qm.step, if_pos (show Qm.bit which i from hc38), if_pos ⟨hg57, by omega⟩]; simp [hms, hme42, hme64], by have := (hcov.snoc m42).snoc m64; rw [hm42, hm64] at this; rw [hm42, hm64]; exact this, (((hfr.cons hf1).cons hf2).cons hf3).cons hf4⟩) (.cons rfl (.cons rfl (.cons rfl (.cons rfl (.cons rfl (.cons rfl (.cons rfl (.cons rfl (.nil _))))))))) (.cons rfl (.cons rfl (.cons rfl (.cons rfl (.cons rfl (.cons rfl (.nil _))))))) (.cons rfl (.cons rfl (.nil _))) | exact at_met ((v54, v31, ms ++ [m42], ((vb42, 32, flat (path (Ky.leaves (Qm.sd i) 16) ((0 : Nat) : Int))) :: (va42, 32, flat (sign (Qm.sd i) (0 : Nat) body 36)) :: R))) (⟨by rw [Qm.expd, Qm.step, if_pos (show Qm.bit which i from hc38), if_neg (fun hh => by first | (rw [hg57] at hh; cases hh.1; done) | exact hc60 (by omega))]; simp [hms, hme42], by have := hcov.snoc m42; rw [hm42] at this; rw [hm42]; exact this, (hfr.cons hf1).cons hf2⟩) (.cons rfl (.cons rfl (.cons rfl (.cons rfl (.cons rfl (.cons rfl (.cons rfl (.cons rfl (.nil _))))))))) (.cons rfl (.cons rfl (.cons rfl (.cons rfl (.cons rfl (.cons rfl (.nil _))))))) (.cons rfl (.cons rfl (.nil _))) | exact at_met ((mv, v31, ms, R)) (⟨by rw [Qm.expd, Qm.step, if_neg (show ¬ Qm.bit which i from hc38), List.append_nil]; exact hms, hcov, hfr⟩) (.cons rfl (.cons rfl (.cons rfl (.cons rfl (.cons rfl (.cons rfl (.cons rfl (.cons rfl (.nil _))))))))) (.cons rfl (.cons rfl (.cons rfl (.cons rfl (.cons rfl (.cons rfl (.nil _))))))) (.cons rfl (.cons rfl (.nil _)))
            ·
              refine st_skip rfl rfl rfl ?_
              refine st_skip rfl rfl rfl ?_
              refine st (ev_pick_f rfl rfl) rfl rfl rfl ?_
              refine op_nil ?_
              refine ax_then ?_
              refine At.regs (L' := [(0, _), (1, _), (2, _), (6, _), (7, _), (8, _), (9, _), (10, _), (11, _), (12, _), (16, _), (17, _), (20, _), (21, _), (22, _), (23, _), (24, _), (25, _), (26, _), (27, _), (28, _), (29, _), (30, _), (31, _), (32, _), (33, _), (34, _), (35, _), (36, _), (37, _), (38, _), (39, _), (40, _), (41, _), (42, _), (43, _), (44, _), (45, _), (46, _), (47, _), (48, _), (49, _), (50, _), (51, _), (52, _), (53, _), (54, _), (55, _), (56, _), (57, _), (58, _), (59, _), (60, _)]) (.cons rfl (.cons rfl (.cons rfl (.cons rfl (.cons rfl (.cons rfl (.cons rfl (.cons rfl (.cons rfl (.cons rfl (.cons rfl (.cons rfl (.cons rfl (.cons rfl (.cons rfl (.cons rfl (.cons rfl (.cons rfl (.cons rfl (.cons rfl (.cons rfl (.cons rfl (.cons rfl (.cons rfl (.cons rfl (.cons rfl (.cons rfl (.cons rfl (.cons rfl (.cons rfl (.cons rfl (.cons rfl (.cons rfl (.cons rfl (.cons rfl (.cons rfl (.cons rfl (.cons rfl (.cons rfl (.cons rfl (.cons rfl (.cons rfl (.cons rfl (.cons rfl (.cons rfl (.cons rfl (.cons rfl (.cons rfl (.cons rfl (.cons rfl (.cons rfl (.cons rfl (.cons rfl (.nil _)))))))))))))))))))))))))))))))))))))))))))))))))))))) ?_
              refine cd_false rfl ?_
              refine cd_skip ?_
              refine ax_block ?_
              first | exact at_met ((v76, v31, ms ++ [m42] ++ [m64], ((vb64, 32, flat (path (Ky.leaves (Qm.sd i) 16) ((1 : Nat) : Int))) :: (va64, 32, flat (sign (Qm.sd i) (1 : Nat) body 36)) :: ((vb42, 32, flat (path (Ky.leaves (Qm.sd i) 16) ((0 : Nat) : Int))) :: (va42, 32, flat (sign (Qm.sd i) (0 : Nat) body 36)) :: R)))) (⟨by rw [Qm.expd, Qm.step, if_pos (show Qm.bit which i from hc38), if_pos ⟨hg57, by omega⟩]; simp [hms, hme42, hme64], by have := (hcov.snoc m42).snoc m64; rw [hm42, hm64] at this; rw [hm42, hm64]; exact this, (((hfr.cons hf1).cons hf2).cons hf3).cons hf4⟩) (.cons rfl (.cons rfl (.cons rfl (.cons rfl (.cons rfl (.cons rfl (.cons rfl (.cons rfl (.nil _))))))))) (.cons rfl (.cons rfl (.cons rfl (.cons rfl (.cons rfl (.cons rfl (.nil _))))))) (.cons rfl (.cons rfl (.nil _))) | exact at_met ((v54, v31, ms ++ [m42], ((vb42, 32, flat (path (Ky.leaves (Qm.sd i) 16) ((0 : Nat) : Int))) :: (va42, 32, flat (sign (Qm.sd i) (0 : Nat) body 36)) :: R))) (⟨by rw [Qm.expd, Qm.step, if_pos (show Qm.bit which i from hc38), if_neg (fun hh => by first | (rw [hg57] at hh; cases hh.1; done) | exact hc60 (by omega))]; simp [hms, hme42], by have := hcov.snoc m42; rw [hm42] at this; rw [hm42]; exact this, (hfr.cons hf1).cons hf2⟩) (.cons rfl (.cons rfl (.cons rfl (.cons rfl (.cons rfl (.cons rfl (.cons rfl (.cons rfl (.nil _))))))))) (.cons rfl (.cons rfl (.cons rfl (.cons rfl (.cons rfl (.cons rfl (.nil _))))))) (.cons rfl (.cons rfl (.nil _))) | exact at_met ((mv, v31, ms, R)) (⟨by rw [Qm.expd, Qm.step, if_neg (show ¬ Qm.bit which i from hc38), List.append_nil]; exact hms, hcov, hfr⟩) (.cons rfl (.cons rfl (.cons rfl (.cons rfl (.cons rfl (.cons rfl (.cons rfl (.cons rfl (.nil _))))))))) (.cons rfl (.cons rfl (.cons rfl (.cons rfl (.cons rfl (.cons rfl (.nil _))))))) (.cons rfl (.cons rfl (.nil _)))
          ·
            refine wo (i := 8) rfl ?_
            refine st_bs1 (h := 53) Try.underlying23 ty44 rfl rfl hmc42 (by decide) (by decide) rfl rfl (fun b53 => ?_)
            refine op_nil ?_
            refine ax_then ?_
            refine mxp_one (i := 1) (by decide +kernel) (fun w sw => CF.cons (lies_blk (sw.blk_eq (h := 23) rfl)) (CF.cons (lies_blk (sw.blk_eq (h := 12) rfl)) (sw.cf (.cons rfl (.nil _))))) ?_
            refine wo (i := 1) rfl ?_
            refine st (ld_blk1 (h := 8) ty23 rfl rfl rfl rfl) rfl rfl rfl ?_
            refine op_nil ?_
            refine ax_then ?_
            refine mxp_one (i := 9) (by decide +kernel) (fun w sw => CF.cons (lies_blk (sw.blk_eq (h := 23) rfl)) (CF.cons (lies_blk (sw.blk_eq (h := 12) rfl)) (sw.cf (.cons rfl (.nil _))))) ?_
            refine wo (i := 9) rfl ?_
            refine st_append (n := (ms).length) (m := 1) (h := 100) Try.underlying23 Try.underlying23 ty44 rfl rfl rfl rfl (fun w1 sw => sw.own_rd (h := 53) rfl) (by decide) hmf hmc42 (by first | omega | (simp only [List.length_append, List.length_cons, List.length_nil]; omega)) (by decide) hmo42 rfl rfl (fun v54 => ?_)
            refine at_heq (i := 100) (v' := .own (v54) 44 35 (Qm.mflat (ms ++ [m42]))) rfl (by rw [Qm.mflat_snoc]) ?_
            refine at_own_shape (h := 100) rfl (fun hs54 => ?_)
            refine op_nil ?_
            refine ax_then ?_
            refine mxp (i := 10) rfl (by decide +kernel) (by decide +kernel) (by decide +kernel) rfl (fun w0 => ev_fieldAddr (b := _) Try.underlying25 (f := _) rfl ty23 (by decide) rfl) rfl rfl (fun w sw => CF.cons (lies_blk (sw.blk_eq (h := 23) rfl)) (CF.cons (lies_blk (sw.blk_eq (h := 12) rfl)) (sw.cf (.cons rfl (.nil _))))) ?_
            refine mxp_one (i := 11) (by decide +kernel) (fun w sw => CF.cons (lies_blk (sw.blk_eq (h := 23) rfl)) (CF.cons (lies_blk (sw.blk_eq (h := 12) rfl)) (sw.cf (.cons rfl (.nil _))))) ?_
            refine wo (i := 11) rfl ?_
            refine st_store1 8 ty23 rfl rfl rfl hs54.2 (show 1 < 2 from by decide) rfl ?_
            refine at_heq (i := 8) (v' := .blk (b8) (.cells ([pb, v54]).toArray 25)) rfl rfl ?_
            refine op_nil ?_
            refine ax_then ?_
            refine mxp_done (by decide +kernel) (fun w sw => CF.cons (lies_blk (sw.blk_eq (h := 23) rfl)) (CF.cons (lies_blk (sw.blk_eq (h := 12) rfl)) (sw.cf (.cons rfl (.nil _))))) ?_
            refine ax_then ?_
            refine At.regs (L' := [(0, _), (1, _), (2, _), (6, _), (7, _), (8, _), (9, _), (10, _), (11, _), (12, _), (16, _), (17, _), (20, _), (21, _), (22, _), (23, _), (24, _), (25, _), (26, _), (27, _), (28, _), (29, _), (30, _), (31, _), (32, _), (33, _), (34, _), (35, _), (36, _), (37, _), (38, _), (39, _), (40, _), (41, _), (42, _), (43, _), (44, _), (45, _), (46, _), (47, _), (48, _), (49, _), (50, _), (51, _), (52, _), (53, _), (54, _), (55, _)]) (.cons rfl (.cons rfl (.cons rfl (.cons rfl (.cons rfl (.cons rfl (.cons rfl (.cons rfl (.cons rfl (.cons rfl (.cons rfl (.cons rfl (.cons rfl (.cons rfl (.cons rfl (.cons rfl (.cons rfl (.cons rfl (.cons rfl (.cons rfl (.cons rfl (.cons rfl (.cons rfl (.cons rfl (.cons rfl (.cons rfl (.cons rfl (.cons rfl (.cons rfl (.cons rfl (.cons rfl (.cons rfl (.cons rfl (.cons rfl (.cons rfl (.cons rfl (.cons rfl (.cons rfl (.cons rfl (.cons rfl (.cons rfl (.cons rfl (.cons rfl (.cons rfl (.cons rfl (.cons rfl (.cons rfl (.cons rfl (.nil _))))))))))))))))))))))))))))))))))))))))))))))))) ?_
            refine cd_seq ?_
            refine at_rows_add (h := 150) (i := 200) (H' := [(6, _), (7, _), (8, _), (9, _), (12, _), (23, _), (24, _), (100, _), (101, _), (151, _)]) rfl rfl (.cons rfl (.cons rfl (.cons rfl (.cons rfl (.cons rfl (.cons rfl (.cons rfl (.cons rfl (.cons rfl (.cons rfl (.nil _))))))))))) rfl (fun hf1 => ?_)
            refine at_rows_add (h := 151) (i := 200) (H' := [(6, _), (7, _), (8, _), (9, _), (12, _), (23, _), (24, _), (100, _), (101, _)]) rfl rfl (.cons rfl (.cons rfl (.cons rfl (.cons rfl (.cons rfl (.cons rfl (.cons rfl (.cons rfl (.cons rfl (.nil _)))))))))) rfl (fun hf2 => ?_)
            refine cd_region ?_
            refine st (ev_move rfl) rfl rfl rfl ?_
            refine st (ev_move rfl) rfl rfl rfl ?_
            refine at_split (i := 57) rfl (fun hg57 => ?_) (fun hg57 => ?_)
            ·
              refine st (ev_move rfl) rfl rfl rfl ?_
              refine st (ev_eql rfl rfl) rfl rfl rfl ?_
              refine st (ev_pick_t rfl rfl) rfl rfl rfl ?_
              refine op_nil ?_
              refine ax_then ?_
              refine At.regs (L' := [(0, _), (1, _), (2, _), (6, _), (7, _), (8, _), (9, _), (10, _), (11, _), (12, _), (16, _), (17, _), (20, _), (21, _), (22, _), (23, _), (24, _), (25, _), (26, _), (27, _), (28, _), (29, _), (30, _), (31, _), (32, _), (33, _), (34, _), (35, _), (36, _), (37, _), (38, _), (39, _), (40, _), (41, _), (42, _), (43, _), (44, _), (45, _), (46, _), (47, _), (48, _), (49, _), (50, _), (51, _), (52, _), (53, _), (54, _), (55, _), (56, _), (57, _), (58, _), (59, _), (60, _)]) (.cons rfl (.cons rfl (.cons rfl (.cons rfl (.cons rfl (.cons rfl (.cons rfl (.cons rfl (.cons rfl (.cons rfl (.cons rfl (.cons rfl (.cons rfl (.cons rfl (.cons rfl (.cons rfl (.cons rfl (.cons rfl (.cons rfl (.cons rfl (.cons rfl (.cons rfl (.cons rfl (.cons rfl (.cons rfl (.cons rfl (.cons rfl (.cons rfl (.cons rfl (.cons rfl (.cons rfl (.cons rfl (.cons rfl (.cons rfl (.cons rfl (.cons rfl (.cons rfl (.cons rfl (.cons rfl (.cons rfl (.cons rfl (.cons rfl (.cons rfl (.cons rfl (.cons rfl (.cons rfl (.cons rfl (.cons rfl (.cons rfl (.cons rfl (.cons rfl (.cons rfl (.cons rfl (.nil _)))))))))))))))))))))))))))))))))))))))))))))))))))))) ?_
              refine cd_if rfl (fun hc60 => ?_) (fun hc60 => ?_)
              ·
                refine cd_seq ?_
                refine cd_region ?_
                have hmf2 : (Qm.mflat (ms ++ [m42])).length = (ms ++ [m42]).length * 35 := by rw [← Qm.mflat_snoc, List.length_append, hmf, hmc42, List.length_append]; simp; omega
                refine st (ev_move rfl) rfl rfl rfl ?_
                refine st (ev_move rfl) rfl rfl rfl ?_
                refine st_call has30 rfl (fun w1 sw => rn3 23 152 153 (rsignk_any b23 lv23 pb (Qm.sd i) body 1 w1 (Qm.sd_len i) (by decide) hbl (sw.blk_eq (h := 23) rfl) (sw.own_rd (h := 24) rfl) (sw.own_off (h := 23) (h' := 24) rfl rfl (by decide)) (sw.sl_rd (h := 0) rfl) (sw.off 0 _ 23 _ rfl rfl _ (by simp [Ent.ids])))) (mod_blk3 rfl) rfl rfl (fun x64 _ => ?_)
                obtain ⟨va64, vb64⟩ := x64
                dsimp only
                refine at_own_shape (h := 152) rfl (fun hsa64 => ?_)
                refine at_own_shape (h := 153) rfl (fun hsb64 => ?_)
                obtain ⟨m64, hm64⟩ : ∃ m : Qm.Mark, m = ⟨Ky.keyPub (Qm.sd i), ((1 : Nat) : Int), va64, vb64, sign (Qm.sd i) (1 : Nat) body 36, path (Ky.leaves (Qm.sd i) 16) ((1 : Nat) : Int)⟩ := ⟨_, rfl⟩
                have hme64 : Qm.strip m64 = Qm.exp1 body i 1 := by rw [hm64]; rfl
                have hmc64 : (Qm.mcells m64).length = 35 := by rw [hm64]; simp [Qm.mcells, ints_length, Ky.keyPub_len]
                have hmo64 := Qm.mone (m := m64) (by rw [hm64]; exact hsa64.2) (by rw [hm64]; exact hsb64.2)
                refine st (ev_move rfl) rfl rfl rfl ?_
                refine st (ev_extract rfl rfl) rfl rfl rfl ?_
                refine st (ev_extract rfl rfl) rfl rfl rfl ?_
                refine st_store_all 12 ty42 rfl rfl rfl rfl rfl (by intro u hu; simp at hu; rcases hu with rfl | rfl | rfl; rfl; exact hsa64.2; exact hsb64.2) rfl rfl ?_
                refine op_nil ?_
                refine ax_then ?_
                refine At.regs (L' := [(0, _), (1, _), (2, _), (6, _), (7, _), (8, _), (9, _), (10, _), (11, _), (12, _), (16, _), (17, _), (20, _), (21, _), (22, _), (23, _), (24, _), (25, _), (26, _), (27, _), (28, _), (29, _), (30, _), (31, _), (32, _), (33, _), (34, _), (35, _), (36, _), (37, _), (38, _), (39, _), (40, _), (41, _), (42, _), (43, _), (44, _), (45, _), (46, _), (47, _), (48, _), (49, _), (50, _), (51, _), (52, _), (53, _), (54, _), (55, _), (56, _), (57, _), (58, _), (59, _), (60, _), (61, _), (62, _), (63, _), (64, _), (65, _)]) (.cons rfl (.cons rfl (.cons rfl (.cons rfl (.cons rfl (.cons rfl (.cons rfl (.cons rfl (.cons rfl (.cons rfl (.cons rfl (.cons rfl (.cons rfl (.cons rfl (.cons rfl (.cons rfl (.cons rfl (.cons rfl (.cons rfl (.cons rfl (.cons rfl (.cons rfl (.cons rfl (.cons rfl (.cons rfl (.cons rfl (.cons rfl (.cons rfl (.cons rfl (.cons rfl (.cons rfl (.cons rfl (.cons rfl (.cons rfl (.cons rfl (.cons rfl (.cons rfl (.cons rfl (.cons rfl (.cons rfl (.cons rfl (.cons rfl (.cons rfl (.cons rfl (.cons rfl (.cons rfl (.cons rfl (.cons rfl (.cons rfl (.cons rfl (.cons rfl (.cons rfl (.cons rfl (.cons rfl (.cons rfl (.cons rfl (.cons rfl (.cons rfl (.nil _))))))))))))))))))))))))))))))))))))))))))))))))))))))))))) ?_
                refine cd_mixp [(300, .mem b23 0 (Ky.rcells (Qm.sd i) lv23 (Ky.keyPub (Qm.sd i)) (((2 : Nat) : Int)))), (301, .mem b12 0 [.int .i64 ((1 : Nat) : Int), va64, vb64]), (0, .sl (pb) 1 (ints .u8 (body)))] hmix ?_
                refine mxp (i := 0) rfl (by decide +kernel) (by decide +kernel) (by decide +kernel) rfl (fun w0 => ev_fieldAddr (b := _) Try.underlying25 (f := _) rfl ty23 (by decide) rfl) rfl rfl (fun w sw => CF.cons (lies_blk (sw.blk_eq (h := 23) rfl)) (CF.cons (lies_blk (sw.blk_eq (h := 12) rfl)) (sw.cf (.cons rfl (.nil _))))) ?_
                refine mxp (i := 2) rfl (by decide +kernel) (by decide +kernel) (by decide +kernel) rfl (fun w0 => ev_move rfl) rfl rfl (fun w sw => CF.cons (lies_blk (sw.blk_eq (h := 23) rfl)) (CF.cons (lies_blk (sw.blk_eq (h := 12) rfl)) (sw.cf (.cons rfl (.nil _))))) ?_
                refine mxp (i := 3) rfl (by decide +kernel) (by decide +kernel) (by decide +kernel) rfl (fun w0 => ev_nilCheck rfl) rfl rfl (fun w sw => CF.cons (lies_blk (sw.blk_eq (h := 23) rfl)) (CF.cons (lies_blk (sw.blk_eq (h := 12) rfl)) (sw.cf (.cons rfl (.nil _))))) ?_
                refine mxp (i := 4) rfl (by decide +kernel) (by decide +kernel) (by decide +kernel) rfl (fun w0 => ev_fieldAddr (b := _) Try.underlying55 (f := _) rfl ty39 (by decide) rfl) rfl rfl (fun w sw => CF.cons (lies_blk (sw.blk_eq (h := 23) rfl)) (CF.cons (lies_blk (sw.blk_eq (h := 12) rfl)) (sw.cf (.cons rfl (.nil _))))) ?_
                refine mxp (i := 5) rfl (by decide +kernel) (by decide +kernel) (by decide +kernel) rfl (fun w0 => ld_mem (h := 300) (k := 33) ty39 rfl rfl rfl rfl (by rw [Ky.rcells_len (Qm.sd_len i) (Ky.keyPub_len _)]; decide)) rfl rfl (fun w sw => CF.cons (lies_blk (sw.blk_eq (h := 23) rfl)) (CF.cons (lies_blk (sw.blk_eq (h := 12) rfl)) (sw.cf (.cons rfl (.nil _))))) ?_
                refine at_eq (i := 72) (v' := .agg (ints .u8 (Ky.keyPub (Qm.sd i))).toArray) rfl (congrArg (fun x => Value.agg (List.toArray x)) (Ky.rcells_pub (Qm.sd_len i) (Ky.keyPub_len _) _ _)) ?_
                refine mxp (i := 6) rfl (by decide +kernel) (by decide +kernel) (by decide +kernel) rfl (fun w0 => ld_mem_all (h := 301) ty42 rfl rfl rfl (by first | omega | (simp only [List.length_append, List.length_cons, List.length_nil, List.length_set, List.length_replicate, List.length_take, List.length_drop, ints_length, wr_length, sha_len, node_len, recov_len, Ky.named_len, Ky.keyPub_len] <;> omega) | rfl)) rfl rfl (fun w sw => CF.cons (lies_blk (sw.blk_eq (h := 23) rfl)) (CF.cons (lies_blk (sw.blk_eq (h := 12) rfl)) (sw.cf (.cons rfl (.nil _))))) ?_
                refine mxp (i := 7) rfl (by decide +kernel) (by decide +kernel) (by decide +kernel) rfl (fun w0 => ev_build_struct ty44 rfl pl44 rfl ((fill_put (i := 0) (off := 0) (n := 32) (vs := ints .u8 (Ky.keyPub (Qm.sd i))) rfl rfl (by rw [ints_length, Ky.keyPub_len]) (Nat.le_of_ble_eq_true rfl)).trans ((fill_put (i := 1) (off := 32) (n := 3) (vs := [.int .i64 ((1 : Nat) : Int), va64, vb64]) rfl rfl rfl (by rw [wr_length (by rw [ints_length, Ky.keyPub_len]; exact Nat.le_of_ble_eq_true rfl)]; exact Nat.le_of_ble_eq_true rfl)).trans fill_nil))) rfl rfl (fun w sw => CF.cons (lies_blk (sw.blk_eq (h := 23) rfl)) (CF.cons (lies_blk (sw.blk_eq (h := 12) rfl)) (sw.cf (.cons rfl (.nil _))))) ?_
                refine at_eq (i := 74) (v' := .agg (Qm.mcells m64).toArray) rfl (congrArg (fun x => Value.agg (List.toArray x)) ((Qm.mark_new (Ky.keyPub_len _) _ _ _).trans (by rw [hm64]; rfl))) ?_
                refine mxp_two (i := 1) (j := 8) (by decide +kernel) (fun w sw => CF.cons (lies_blk (sw.blk_eq (h := 23) rfl)) (CF.cons (lies_blk (sw.blk_eq (h := 12) rfl)) (sw.cf (.cons rfl (.nil _))))) ?_ ?_
                ·
                  refine wo (i := 1) rfl ?_
                  refine st (ld_blk1 (h := 8) ty23 rfl rfl rfl rfl) rfl rfl rfl ?_
                  refine op_nil ?_
                  refine ax_then ?_
                  refine mxp_one (i := 8) (by decide +kernel) (fun w sw => CF.cons (lies_blk (sw.blk_eq (h := 23) rfl)) (CF.cons (lies_blk (sw.blk_eq (h := 12) rfl)) (sw.cf (.cons rfl (.nil _))))) ?_
                  refine wo (i := 8) rfl ?_
                  refine st_bs1 (h := 75) Try.underlying23 ty44 rfl rfl hmc64 (by decide) (by decide) rfl rfl (fun b75 => ?_)
                  refine op_nil ?_
                  refine ax_then ?_
                  refine mxp_one (i := 9) (by decide +kernel) (fun w sw => CF.cons (lies_blk (sw.blk_eq (h := 23) rfl)) (CF.cons (lies_blk (sw.blk_eq (h := 12) rfl)) (sw.cf (.cons rfl (.nil _))))) ?_
                  refine wo (i := 9) rfl ?_
                  refine st_append (n := ((ms ++ [m42])).length) (m := 1) (h := 100) Try.underlying23 Try.underlying23 ty44 rfl rfl rfl rfl (fun w1 sw => sw.own_rd (h := 75) rfl) (by decide) hmf2 hmc64 (by first | omega | (simp only [List.length_append, List.length_cons, List.length_nil]; omega)) (by decide) hmo64 rfl rfl (fun v76 => ?_)
                  refine at_heq (i := 100) (v' := .own (v76) 44 35 (Qm.mflat ((ms ++ [m42]) ++ [m64]))) rfl (by rw [Qm.mflat_snoc]) ?_
                  refine at_own_shape (h := 100) rfl (fun hs76 => ?_)
                  refine op_nil ?_
                  refine ax_then ?_
                  refine mxp (i := 10) rfl (by decide +kernel) (by decide +kernel) (by decide +kernel) rfl (fun w0 => ev_fieldAddr (b := _) Try.underlying25 (f := _) rfl ty23 (by decide) rfl) rfl rfl (fun w sw => CF.cons (lies_blk (sw.blk_eq (h := 23) rfl)) (CF.cons (lies_blk (sw.blk_eq (h := 12) rfl)) (sw.cf (.cons rfl (.nil _))))) ?_
                  refine mxp_one (i := 11) (by decide +kernel) (fun w sw => CF.cons (lies_blk (sw.blk_eq (h := 23) rfl)) (CF.cons (lies_blk (sw.blk_eq (h := 12) rfl)) (sw.cf (.cons rfl (.nil _))))) ?_
                  refine wo (i := 11) rfl ?_
                  refine st_store1 8 ty23 rfl rfl rfl hs76.2 (show 1 < 2 from by decide) rfl ?_
                  refine at_heq (i := 8) (v' := .blk (b8) (.cells ([pb, v76]).toArray 25)) rfl rfl ?_
                  refine at_rows_add (h := 152) (i := 200) (H' := [(6, _), (7, _), (8, _), (9, _), (12, _), (23, _), (24, _), (100, _), (101, _), (153, _)]) rfl rfl (.cons rfl (.cons rfl (.cons rfl (.cons rfl (.cons rfl (.cons rfl (.cons rfl (.cons rfl (.cons rfl (.cons rfl (.nil _))))))))))) rfl (fun hf3 => ?_)
                  refine at_rows_add (h := 153) (i := 200) (H' := [(6, _), (7, _), (8, _), (9, _), (12, _), (23, _), (24, _), (100, _), (101, _)]) rfl rfl (.cons rfl (.cons rfl (.cons rfl (.cons rfl (.cons rfl (.cons rfl (.cons rfl (.cons rfl (.cons rfl (.nil _)))))))))) rfl (fun hf4 => ?_)
                  refine op_nil ?_
                  refine ax_then ?_
                  refine mxp_done (by decide +kernel) (fun w sw => CF.cons (lies_blk (sw.blk_eq (h := 23) rfl)) (CF.cons (lies_blk (sw.blk_eq (h := 12) rfl)) (sw.cf (.cons rfl (.nil _))))) ?_
                  refine ax_block ?_
                  first | exact at_met ((v76, v31, ms ++ [m42] ++ [m64], ((vb64, 32, flat (path (Ky.leaves (Qm.sd i) 16) ((1 : Nat) : Int))) :: (va64, 32, flat (sign (Qm.sd i) (1 : Nat) body 36)) :: ((vb42, 32, flat (path (Ky.leaves (Qm.sd i) 16) ((0 : Nat) : Int))) :: (va42, 32, flat (sign (Qm.sd i) (0 : Nat) body 36)) :: R)))) (⟨by rw [Qm.expd, Qm.step, if_pos (show Qm.bit which i from hc38), if_pos ⟨hg57, by omega⟩]; simp [hms, hme42, hme64], by have := (hcov.snoc m42).snoc m64; rw [hm42, hm64] at this; rw [hm42, hm64]; exact this, (((hfr.cons hf1).cons hf2).cons hf3).cons hf4⟩) (.cons rfl (.cons rfl (.cons rfl (.cons rfl (.cons rfl (.cons rfl (.cons rfl (.cons rfl (.nil _))))))))) (.cons rfl (.cons rfl (.cons rfl (.cons rfl (.cons rfl (.cons rfl (.nil _))))))) (.cons rfl (.cons rfl (.nil _))) | exact at_met ((v54, v31, ms ++ [m42], ((vb42, 32, flat (path (Ky.leaves (Qm.sd i) 16) ((0 : Nat) : Int))) :: (va42, 32, flat (sign (Qm.sd i) (0 : Nat) body 36)) :: R))) (⟨by rw [Qm.expd, Qm.step, if_pos (show Qm.bit which i from hc38), if_neg (fun hh => by first | (rw [hg57] at hh; cases hh.1; done) | exact hc60 (by omega))]; simp [hms, hme42], by have := hcov.snoc m42; rw [hm42] at this; rw [hm42]; exact this, (hfr.cons hf1).cons hf2⟩) (.cons rfl (.cons rfl (.cons rfl (.cons rfl (.cons rfl (.cons rfl (.cons rfl (.cons rfl (.nil _))))))))) (.cons rfl (.cons rfl (.cons rfl (.cons rfl (.cons rfl (.cons rfl (.nil _))))))) (.cons rfl (.cons rfl (.nil _))) | exact at_met ((mv, v31, ms, R)) (⟨by rw [Qm.expd, Qm.step, if_neg (show ¬ Qm.bit which i from hc38), List.append_nil]; exact hms, hcov, hfr⟩) (.cons rfl (.cons rfl (.cons rfl (.cons rfl (.cons rfl (.cons rfl (.cons rfl (.cons rfl (.nil _))))))))) (.cons rfl (.cons rfl (.cons rfl (.cons rfl (.cons rfl (.cons rfl (.nil _))))))) (.cons rfl (.cons rfl (.nil _)))
                ·
                  refine wo (i := 8) rfl ?_
                  refine st_bs1 (h := 75) Try.underlying23 ty44 rfl rfl hmc64 (by decide) (by decide) rfl rfl (fun b75 => ?_)
                  refine op_nil ?_
                  refine ax_then ?_
                  refine mxp_one (i := 1) (by decide +kernel) (fun w sw => CF.cons (lies_blk (sw.blk_eq (h := 23) rfl)) (CF.cons (lies_blk (sw.blk_eq (h := 12) rfl)) (sw.cf (.cons rfl (.nil _))))) ?_
                  refine wo (i := 1) rfl ?_
                  refine st (ld_blk1 (h := 8) ty23 rfl rfl rfl rfl) rfl rfl rfl ?_
                  refine op_nil ?_
                  refine ax_then ?_
                  refine mxp_one (i := 9) (by decide +kernel) (fun w sw => CF.cons (lies_blk (sw.blk_eq (h := 23) rfl)) (CF.cons (lies_blk (sw.blk_eq (h := 12) rfl)) (sw.cf (.cons rfl (.nil _))))) ?_
                  refine wo (i := 9) rfl ?_
                  refine st_append (n := ((ms ++ [m42])).length) (m := 1) (h := 100) Try.underlying23 Try.underlying23 ty44 rfl rfl rfl rfl (fun w1 sw => sw.own_rd (h := 75) rfl) (by decide) hmf2 hmc64 (by first | omega | (simp only [List.length_append, List.length_cons, List.length_nil]; omega)) (by decide) hmo64 rfl rfl (fun v76 => ?_)
                  refine at_heq (i := 100) (v' := .own (v76) 44 35 (Qm.mflat ((ms ++ [m42]) ++ [m64]))) rfl (by rw [Qm.mflat_snoc]) ?_
                  refine at_own_shape (h := 100) rfl (fun hs76 => ?_)
                  refine op_nil ?_
                  refine ax_then ?_
                  refine mxp (i := 10) rfl (by decide +kernel) (by decide +kernel) (by decide +kernel) rfl (fun w0 => ev_fieldAddr (b := _) Try.underlying25 (f := _) rfl ty23 (by decide) rfl) rfl rfl (fun w sw => CF.cons (lies_blk (sw.blk_eq (h := 23) rfl)) (CF.cons (lies_blk (sw.blk_eq (h := 12) rfl)) (sw.cf (.cons rfl (.nil _))))) ?_
                  refine mxp_one (i := 11) (by decide +kernel) (fun w sw => CF.cons (lies_blk (sw.blk_eq (h := 23) rfl)) (CF.cons (lies_blk (sw.blk_eq (h := 12) rfl)) (sw.cf (.cons rfl (.nil _))))) ?_
                  refine wo (i := 11) rfl ?_
                  refine st_store1 8 ty23 rfl rfl rfl hs76.2 (show 1 < 2 from by decide) rfl ?_
                  refine at_heq (i := 8) (v' := .blk (b8) (.cells ([pb, v76]).toArray 25)) rfl rfl ?_
                  refine at_rows_add (h := 152) (i := 200) (H' := [(6, _), (7, _), (8, _), (9, _), (12, _), (23, _), (24, _), (100, _), (101, _), (153, _)]) rfl rfl (.cons rfl (.cons rfl (.cons rfl (.cons rfl (.cons rfl (.cons rfl (.cons rfl (.cons rfl (.cons rfl (.cons rfl (.nil _))))))))))) rfl (fun hf3 => ?_)
                  refine at_rows_add (h := 153) (i := 200) (H' := [(6, _), (7, _), (8, _), (9, _), (12, _), (23, _), (24, _), (100, _), (101, _)]) rfl rfl (.cons rfl (.cons rfl (.cons rfl (.cons rfl (.cons rfl (.cons rfl (.cons rfl (.cons rfl (.cons rfl (.nil _)))))))))) rfl (fun hf4 => ?_)
                  refine op_nil ?_
                  refine ax_then ?_
                  refine mxp_done (by decide +kernel) (fun w sw => CF.cons (lies_blk (sw.blk_eq (h := 23) rfl)) (CF.cons (lies_blk (sw.blk_eq (h := 12) rfl)) (sw.cf (.cons rfl (.nil _))))) ?_
                  refine ax_block ?_
                  first | exact at_met ((v76, v31, ms ++ [m42] ++ [m64], ((vb64, 32, flat (path (Ky.leaves (Qm.sd i) 16) ((1 : Nat) : Int))) :: (va64, 32, flat (sign (Qm.sd i) (1 : Nat) body 36)) :: ((vb42, 32, flat (path (Ky.leaves (Qm.sd i) 16) ((0 : Nat) : Int))) :: (va42, 32, flat (sign (Qm.sd i) (0 : Nat) body 36)) :: R)))) (⟨by rw [Qm.expd, Qm.step, if_pos (show Qm.bit which i from hc38), if_pos ⟨hg57, by omega⟩]; simp [hms, hme42, hme64], by have := (hcov.snoc m42).snoc m64; rw [hm42, hm64] at this; rw [hm42, hm64]; exact this, (((hfr.cons hf1).cons hf2).cons hf3).cons hf4⟩) (.cons rfl (.cons rfl (.cons rfl (.cons rfl (.cons rfl (.cons rfl (.cons rfl (.cons rfl (.nil _))))))))) (.cons rfl (.cons rfl (.cons rfl (.cons rfl (.cons rfl (.cons rfl (.nil _))))))) (.cons rfl (.cons rfl (.nil _))) | exact at_met ((v54, v31, ms ++ [m42], ((vb42, 32, flat (path (Ky.leaves (Qm.sd i) 16) ((0 : Nat) : Int))) :: (va42, 32, flat (sign (Qm.sd i) (0 : Nat) body 36)) :: R))) (⟨by rw [Qm.expd, Qm.step, if_pos (show Qm.bit which i from hc38), if_neg (fun hh => by first | (rw [hg57] at hh; cases hh.1; done) | exact hc60 (by omega))]; simp [hms, hme42], by have := hcov.snoc m42; rw [hm42] at this; rw [hm42]; exact this, (hfr.cons hf1).cons hf2⟩) (.cons rfl (.cons rfl (.cons rfl (.cons rfl (.cons rfl (.cons rfl (.cons rfl (.cons rfl (.nil _))))))))) (.cons rfl (.cons rfl (.cons rfl (.cons rfl (.cons rfl (.cons rfl (.nil _))))))) (.cons rfl (.cons rfl (.nil _))) | exact at_met ((mv, v31, ms, R)) (⟨by rw [Qm.expd, Qm.step, if_neg (show ¬ Qm.bit which i from hc38), List.append_nil]; exact hms, hcov, hfr⟩) (.cons rfl (.cons rfl (.cons rfl (.cons rfl (.cons rfl (.cons rfl (.cons rfl (.cons rfl (.nil _))))))))) (.cons rfl (.cons rfl (.cons rfl (.cons rfl (.cons rfl (.cons rfl (.nil _))))))) (.cons rfl (.cons rfl (.nil _)))
              ·
                refine cd_skip ?_
                refine ax_block ?_
                first | exact at_met ((v76, v31, ms ++ [m42] ++ [m64], ((vb64, 32, flat (path (Ky.leaves (Qm.sd i) 16) ((1 : Nat) : Int))) :: (va64, 32, flat (sign (Qm.sd i) (1 : Nat) body 36)) :: ((vb42, 32, flat (path (Ky.leaves (Qm.sd i) 16) ((0 : Nat) : Int))) :: (va42, 32, flat (sign (Qm.sd i) (0 : Nat) body 36)) :: R)))) (⟨by rw [Qm.expd, Qm.step, if_pos (show Qm.bit which i from hc38), if_pos ⟨hg57, by omega⟩]; simp [hms, hme42, hme64], by have := (hcov.snoc m42).snoc m64; rw [hm42, hm64] at this; rw [hm42, hm64]; exact this, (((hfr.cons hf1).cons hf2).cons hf3).cons hf4⟩) (.cons rfl (.cons rfl (.cons rfl (.cons rfl (.cons rfl (.cons rfl (.cons rfl (.cons rfl (.nil _))))))))) (.cons rfl (.cons rfl (.cons rfl (.cons rfl (.cons rfl (.cons rfl (.nil _))))))) (.cons rfl (.cons rfl (.nil _))) | exact at_met ((v54, v31, ms ++ [m42], ((vb42, 32, flat (path (Ky.leaves (Qm.sd i) 16) ((0 : Nat) : Int))) :: (va42, 32, flat (sign (Qm.sd i) (0 : Nat) body 36)) :: R))) (⟨by rw [Qm.expd, Qm.step, if_pos (show Qm.bit which i from hc38), if_neg (fun hh => by first | (rw [hg57] at hh; cases hh.1; done) | exact hc60 (by omega))]; simp [hms, hme42], by have := hcov.snoc m42; rw [hm42] at this; rw [hm42]; exact this, (hfr.cons hf1).cons hf2⟩) (.cons rfl (.cons rfl (.cons rfl (.cons rfl (.cons rfl (.cons rfl (.cons rfl (.cons rfl (.nil _))))))))) (.cons rfl (.cons rfl (.cons rfl (.cons rfl (.cons rfl (.cons rfl (.nil _))))))) (.cons rfl (.cons rfl (.nil _))) | exact at_met ((mv, v31, ms, R)) (⟨by rw [Qm.expd, Qm.step, if_neg (show ¬ Qm.bit which i from hc38), List.append_nil]; exact hms, hcov, hfr⟩) (.cons rfl (.cons rfl (.cons rfl (.cons rfl (.cons rfl (.cons rfl (.cons rfl (.cons rfl (.nil _))))))))) (.cons rfl (.cons rfl (.cons rfl (.cons rfl (.cons rfl (.cons rfl (.nil _))))))) (.cons rfl (.cons rfl (.nil _)))
            ·
              refine st_skip rfl rfl rfl ?_
              refine st_skip rfl rfl rfl ?_
              refine st (ev_pick_f rfl rfl) rfl rfl rfl ?_
              refine op_nil ?_
              refine ax_then ?_
              refine At.regs (L' := [(0, _), (1, _), (2, _), (6, _), (7, _), (8, _), (9, _), (10, _), (11, _), (12, _), (16, _), (17, _), (20, _), (21, _), (22, _), (23, _), (24, _), (25, _), (26, _), (27, _), (28, _), (29, _), (30, _), (31, _), (32, _), (33, _), (34, _), (35, _), (36, _), (37, _), (38, _), (39, _), (40, _), (41, _), (42, _), (43, _), (44, _), (45, _), (46, _), (47, _), (48, _), (49, _), (50, _), (51, _), (52, _), (53, _), (54, _), (55, _), (56, _), (57, _), (58, _), (59, _), (60, _)]) (.cons rfl (.cons rfl (.cons rfl (.cons rfl (.cons rfl (.cons rfl (.cons rfl (.cons rfl (.cons rfl (.cons rfl (.cons rfl (.cons rfl (.cons rfl (.cons rfl (.cons rfl (.cons rfl (.cons rfl (.cons rfl (.cons rfl (.cons rfl (.cons rfl (.cons rfl (.cons rfl (.cons rfl (.cons rfl (.cons rfl (.cons rfl (.cons rfl (.cons rfl (.cons rfl (.cons rfl (.cons rfl (.cons rfl (.cons rfl (.cons rfl (.cons rfl (.cons rfl (.cons rfl (.cons rfl (.cons rfl (.cons rfl (.cons rfl (.cons rfl (.cons rfl (.cons rfl (.cons rfl (.cons rfl (.cons rfl (.cons rfl (.cons rfl (.cons rfl (.cons rfl (.cons rfl (.nil _)))))))))))))))))))))))))))))))))))))))))))))))))))))) ?_
              refine cd_false rfl ?_
              refine cd_skip ?_
              refine ax_block ?_
              first | exact at_met ((v76, v31, ms ++ [m42] ++ [m64], ((vb64, 32, flat (path (Ky.leaves (Qm.sd i) 16) ((1 : Nat) : Int))) :: (va64, 32, flat (sign (Qm.sd i) (1 : Nat) body 36)) :: ((vb42, 32, flat (path (Ky.leaves (Qm.sd i) 16) ((0 : Nat) : Int))) :: (va42, 32, flat (sign (Qm.sd i) (0 : Nat) body 36)) :: R)))) (⟨by rw [Qm.expd, Qm.step, if_pos (show Qm.bit which i from hc38), if_pos ⟨hg57, by omega⟩]; simp [hms, hme42, hme64], by have := (hcov.snoc m42).snoc m64; rw [hm42, hm64] at this; rw [hm42, hm64]; exact this, (((hfr.cons hf1).cons hf2).cons hf3).cons hf4⟩) (.cons rfl (.cons rfl (.cons rfl (.cons rfl (.cons rfl (.cons rfl (.cons rfl (.cons rfl (.nil _))))))))) (.cons rfl (.cons rfl (.cons rfl (.cons rfl (.cons rfl (.cons rfl (.nil _))))))) (.cons rfl (.cons rfl (.nil _))) | exact at_met ((v54, v31, ms ++ [m42], ((vb42, 32, flat (path (Ky.leaves (Qm.sd i) 16) ((0 : Nat) : Int))) :: (va42, 32, flat (sign (Qm.sd i) (0 : Nat) body 36)) :: R))) (⟨by rw [Qm.expd, Qm.step, if_pos (show Qm.bit which i from hc38), if_neg (fun hh => by first | (rw [hg57] at hh; cases hh.1; done) | exact hc60 (by omega))]; simp [hms, hme42], by have := hcov.snoc m42; rw [hm42] at this; rw [hm42]; exact this, (hfr.cons hf1).cons hf2⟩) (.cons rfl (.cons rfl (.cons rfl (.cons rfl (.cons rfl (.cons rfl (.cons rfl (.cons rfl (.nil _))))))))) (.cons rfl (.cons rfl (.cons rfl (.cons rfl (.cons rfl (.cons rfl (.nil _))))))) (.cons rfl (.cons rfl (.nil _))) | exact at_met ((mv, v31, ms, R)) (⟨by rw [Qm.expd, Qm.step, if_neg (show ¬ Qm.bit which i from hc38), List.append_nil]; exact hms, hcov, hfr⟩) (.cons rfl (.cons rfl (.cons rfl (.cons rfl (.cons rfl (.cons rfl (.cons rfl (.cons rfl (.nil _))))))))) (.cons rfl (.cons rfl (.cons rfl (.cons rfl (.cons rfl (.cons rfl (.nil _))))))) (.cons rfl (.cons rfl (.nil _)))
        ·
          refine cd_skip ?_
          refine ax_block ?_
          first | exact at_met ((v76, v31, ms ++ [m42] ++ [m64], ((vb64, 32, flat (path (Ky.leaves (Qm.sd i) 16) ((1 : Nat) : Int))) :: (va64, 32, flat (sign (Qm.sd i) (1 : Nat) body 36)) :: ((vb42, 32, flat (path (Ky.leaves (Qm.sd i) 16) ((0 : Nat) : Int))) :: (va42, 32, flat (sign (Qm.sd i) (0 : Nat) body 36)) :: R)))) (⟨by rw [Qm.expd, Qm.step, if_pos (show Qm.bit which i from hc38), if_pos ⟨hg57, by omega⟩]; simp [hms, hme42, hme64], by have := (hcov.snoc m42).snoc m64; rw [hm42, hm64] at this; rw [hm42, hm64]; exact this, (((hfr.cons hf1).cons hf2).cons hf3).cons hf4⟩) (.cons rfl (.cons rfl (.cons rfl (.cons rfl (.cons rfl (.cons rfl (.cons rfl (.cons rfl (.nil _))))))))) (.cons rfl (.cons rfl (.cons rfl (.cons rfl (.cons rfl (.cons rfl (.nil _))))))) (.cons rfl (.cons rfl (.nil _))) | exact at_met ((v54, v31, ms ++ [m42], ((vb42, 32, flat (path (Ky.leaves (Qm.sd i) 16) ((0 : Nat) : Int))) :: (va42, 32, flat (sign (Qm.sd i) (0 : Nat) body 36)) :: R))) (⟨by rw [Qm.expd, Qm.step, if_pos (show Qm.bit which i from hc38), if_neg (fun hh => by first | (rw [hg57] at hh; cases hh.1; done) | exact hc60 (by omega))]; simp [hms, hme42], by have := hcov.snoc m42; rw [hm42] at this; rw [hm42]; exact this, (hfr.cons hf1).cons hf2⟩) (.cons rfl (.cons rfl (.cons rfl (.cons rfl (.cons rfl (.cons rfl (.cons rfl (.cons rfl (.nil _))))))))) (.cons rfl (.cons rfl (.cons rfl (.cons rfl (.cons rfl (.cons rfl (.nil _))))))) (.cons rfl (.cons rfl (.nil _))) | exact at_met ((mv, v31, ms, R)) (⟨by rw [Qm.expd, Qm.step, if_neg (show ¬ Qm.bit which i from hc38), List.append_nil]; exact hms, hcov, hfr⟩) (.cons rfl (.cons rfl (.cons rfl (.cons rfl (.cons rfl (.cons rfl (.cons rfl (.cons rfl (.nil _))))))))) (.cons rfl (.cons rfl (.cons rfl (.cons rfl (.cons rfl (.cons rfl (.nil _))))))) (.cons rfl (.cons rfl (.nil _)))
      ·
        refine wo (i := 6) rfl ?_
        refine st_bsh1 (h := 30) Try.underlying26 ty39 rfl (by first | assumption | omega) rfl rfl (fun b30 hu30 => ?_)
        refine op_nil ?_
        refine ax_then ?_
        refine mxp_one (i := 1) (by decide +kernel) (fun w sw => CF.cons (lies_blk (sw.blk_eq (h := 23) rfl)) (sw.cf (.cons rfl (.nil _)))) ?_
        refine wo (i := 1) rfl ?_
        refine st (ld_blk1 (h := 9) ty26 rfl rfl rfl rfl) rfl rfl rfl ?_
        refine op_nil ?_
        refine ax_then ?_
        refine mxp_one (i := 7) (by decide +kernel) (fun w sw => CF.cons (lies_blk (sw.blk_eq (h := 23) rfl)) (sw.cf (.cons rfl (.nil _)))) ?_
        refine wo (i := 7) rfl ?_
        refine st_appendh (h := 101) Try.underlying26 Try.underlying26 ty39 rfl rfl rfl rfl (fun w1 sw => sw.own_rd (h := 30) rfl) (by assumption) (by assumption) (by first | omega | (simp only [List.length_append, List.length_cons, List.length_nil, List.length_set, List.length_replicate, List.length_take, List.length_drop, ints_length, wr_length, sha_len, node_len, recov_len, Ky.named_len, Ky.keyPub_len] <;> omega)) (by decide) rfl rfl (fun v31 hu31 => ?_)
        refine at_heq (i := 101) (v' := .own (v31) 39 32 (flat (Qm.keysK (i + 1)))) rfl (by rw [Qm.keysK_snoc]) ?_
        refine at_own_shape (h := 101) rfl (fun hs31 => ?_)
        refine op_nil ?_
        refine ax_then ?_
        refine mxp (i := 8) rfl (by decide +kernel) (by decide +kernel) (by decide +kernel) rfl (fun w0 => ev_fieldAddr (b := _) Try.underlying28 (f := _) rfl ty26 (by decide) rfl) rfl rfl (fun w sw => CF.cons (lies_blk (sw.blk_eq (h := 23) rfl)) (sw.cf (.cons rfl (.nil _)))) ?_
        refine mxp_one (i := 9) (by decide +kernel) (fun w sw => CF.cons (lies_blk (sw.blk_eq (h := 23) rfl)) (sw.cf (.cons rfl (.nil _)))) ?_
        refine wo (i := 9) rfl ?_
        refine st_store1 9 ty26 rfl rfl rfl hs31.2 (show 0 < 2 from by decide) rfl ?_
        refine at_heq (i := 9) (v' := .blk (b9) (.cells ([v31, .int .i64 0]).toArray 28)) rfl rfl ?_
        refine op_nil ?_
        refine ax_then ?_
        refine mxp_done (by decide +kernel) (fun w sw => CF.cons (lies_blk (sw.blk_eq (h := 23) rfl)) (sw.cf (.cons rfl (.nil _)))) ?_
        refine ax_then ?_
        refine At.regs (L' := [(0, _), (1, _), (2, _), (6, _), (7, _), (8, _), (9, _), (10, _), (11, _), (16, _), (17, _), (20, _), (21, _), (22, _), (23, _), (24, _), (25, _), (26, _), (27, _), (28, _), (29, _), (30, _), (31, _), (32, _)]) (.cons rfl (.cons rfl (.cons rfl (.cons rfl (.cons rfl (.cons rfl (.cons rfl (.cons rfl (.cons rfl (.cons rfl (.cons rfl (.cons rfl (.cons rfl (.cons rfl (.cons rfl (.cons rfl (.cons rfl (.cons rfl (.cons rfl (.cons rfl (.cons rfl (.cons rfl (.cons rfl (.cons rfl (.nil _))))))))))))))))))))))))) ?_
        refine cd_seq ?_
        refine cd_region ?_
        refine st (ev_move rfl) rfl rfl rfl ?_
        refine st (ev_move rfl) rfl rfl rfl ?_
        refine st (ev_convu64 Try.underlying3 Try.underlying37 rfl (by omega) (by omega)) rfl rfl rfl ?_
        refine st (ev_shr rfl rfl (by omega)) rfl rfl rfl ?_
        refine st (ev_and rfl rfl) rfl rfl rfl ?_
        refine st (ev_eql rfl rfl) rfl rfl rfl ?_
        refine op_nil ?_
        refine ax_then ?_
        refine At.regs (L' := [(0, _), (1, _), (2, _), (6, _), (7, _), (8, _), (9, _), (10, _), (11, _), (16, _), (17, _), (20, _), (21, _), (22, _), (23, _), (24, _), (25, _), (26, _), (27, _), (28, _), (29, _), (30, _), (31, _), (32, _), (33, _), (34, _), (35, _), (36, _), (37, _), (38, _)]) (.cons rfl (.cons rfl (.cons rfl (.cons rfl (.cons rfl (.cons rfl (.cons rfl (.cons rfl (.cons rfl (.cons rfl (.cons rfl (.cons rfl (.cons rfl (.cons rfl (.cons rfl (.cons rfl (.cons rfl (.cons rfl (.cons rfl (.cons rfl (.cons rfl (.cons rfl (.cons rfl (.cons rfl (.cons rfl (.cons rfl (.cons rfl (.cons rfl (.cons rfl (.cons rfl (.nil _))))))))))))))))))))))))))))))) ?_
        refine cd_if rfl (fun hc38 => ?_) (fun hc38 => ?_)
        ·
          refine cd_seq ?_
          refine cd_region ?_
          refine st (ev_move rfl) rfl rfl rfl ?_
          refine st (ev_move rfl) rfl rfl rfl ?_
          refine st_call has30 rfl (fun w1 sw => rn3 23 150 151 (rsignk_any b23 lv23 pb (Qm.sd i) body 0 w1 (Qm.sd_len i) (by decide) hbl (sw.blk_eq (h := 23) rfl) (sw.own_rd (h := 24) rfl) (sw.own_off (h := 23) (h' := 24) rfl rfl (by decide)) (sw.sl_rd (h := 0) rfl) (sw.off 0 _ 23 _ rfl rfl _ (by simp [Ent.ids])))) (mod_blk3 rfl) rfl rfl (fun x42 _ => ?_)
          obtain ⟨va42, vb42⟩ := x42
          dsimp only
          refine at_own_shape (h := 150) rfl (fun hsa42 => ?_)
          refine at_own_shape (h := 151) rfl (fun hsb42 => ?_)
          obtain ⟨m42, hm42⟩ : ∃ m : Qm.Mark, m = ⟨Ky.keyPub (Qm.sd i), ((0 : Nat) : Int), va42, vb42, sign (Qm.sd i) (0 : Nat) body 36, path (Ky.leaves (Qm.sd i) 16) ((0 : Nat) : Int)⟩ := ⟨_, rfl⟩
          have hme42 : Qm.strip m42 = Qm.exp1 body i 0 := by rw [hm42]; rfl
          have hmc42 : (Qm.mcells m42).length = 35 := by rw [hm42]; simp [Qm.mcells, ints_length, Ky.keyPub_len]
          have hmo42 := Qm.mone (m := m42) (by rw [hm42]; exact hsa42.2) (by rw [hm42]; exact hsb42.2)
          refine st (ev_move rfl) rfl rfl rfl ?_
          refine st (ev_extract rfl rfl) rfl rfl rfl ?_
          refine st (ev_extract rfl rfl) rfl rfl rfl ?_
          refine st_alloc (h := 12) ty42 rfl rfl rfl (fun b12 => ?_)
          refine st_store_all 12 ty42 rfl rfl rfl rfl rfl (by intro u hu; simp at hu; rcases hu with rfl | rfl | rfl; rfl; exact hsa42.2; exact hsb42.2) rfl rfl ?_
          refine st (ev_assign rfl) rfl rfl rfl ?_
          refine op_nil ?_
          refine ax_then ?_
          refine At.regs (L' := [(0, _), (1, _), (2, _), (6, _), (7, _), (8, _), (9, _), (10, _), (11, _), (12, _), (16, _), (17, _), (20, _), (21, _), (22, _), (23, _), (24, _), (25, _), (26, _), (27, _), (28, _), (29, _), (30, _), (31, _), (32, _), (33, _), (34, _), (35, _), (36, _), (37, _), (38, _), (39, _), (40, _), (41, _), (42, _), (43, _), (44, _)]) (.cons rfl (.cons rfl (.cons rfl (.cons rfl (.cons rfl (.cons rfl (.cons rfl (.cons rfl (.cons rfl (.cons rfl (.cons rfl (.cons rfl (.cons rfl (.cons rfl (.cons rfl (.cons rfl (.cons rfl (.cons rfl (.cons rfl (.cons rfl (.cons rfl (.cons rfl (.cons rfl (.cons rfl (.cons rfl (.cons rfl (.cons rfl (.cons rfl (.cons rfl (.cons rfl (.cons rfl (.cons rfl (.cons rfl (.cons rfl (.cons rfl (.cons rfl (.cons rfl (.nil _)))))))))))))))))))))))))))))))))))))) ?_
          refine cd_seq ?_
          refine cd_mixp [(300, .mem b23 0 (Ky.rcells (Qm.sd i) lv23 (Ky.keyPub (Qm.sd i)) (((1 : Nat) : Int)))), (301, .mem b12 0 [.int .i64 ((0 : Nat) : Int), va42, vb42]), (0, .sl (pb) 1 (ints .u8 (body)))] hmix ?_
          refine mxp (i := 0) rfl (by decide +kernel) (by decide +kernel) (by decide +kernel) rfl (fun w0 => ev_fieldAddr (b := _) Try.underlying25 (f := _) rfl ty23 (by decide) rfl) rfl rfl (fun w sw => CF.cons (lies_blk (sw.blk_eq (h := 23) rfl)) (CF.cons (lies_blk (sw.blk_eq (h := 12) rfl)) (sw.cf (.cons rfl (.nil _))))) ?_
          refine mxp (i := 2) rfl (by decide +kernel) (by decide +kernel) (by decide +kernel) rfl (fun w0 => ev_move rfl) rfl rfl (fun w sw => CF.cons (lies_blk (sw.blk_eq (h := 23) rfl)) (CF.cons (lies_blk (sw.blk_eq (h := 12) rfl)) (sw.cf (.cons rfl (.nil _))))) ?_
          refine mxp (i := 3) rfl (by decide +kernel) (by decide +kernel) (by decide +kernel) rfl (fun w0 => ev_nilCheck rfl) rfl rfl (fun w sw => CF.cons (lies_blk (sw.blk_eq (h := 23) rfl)) (CF.cons (lies_blk (sw.blk_eq (h := 12) rfl)) (sw.cf (.cons rfl (.nil _))))) ?_
          refine mxp (i := 4) rfl (by decide +kernel) (by decide +kernel) (by decide +kernel) rfl (fun w0 => ev_fieldAddr (b := _) Try.underlying55 (f := _) rfl ty39 (by decide) rfl) rfl rfl (fun w sw => CF.cons (lies_blk (sw.blk_eq (h := 23) rfl)) (CF.cons (lies_blk (sw.blk_eq (h := 12) rfl)) (sw.cf (.cons rfl (.nil _))))) ?_
          refine mxp (i := 5) rfl (by decide +kernel) (by decide +kernel) (by decide +kernel) rfl (fun w0 => ld_mem (h := 300) (k := 33) ty39 rfl rfl rfl rfl (by rw [Ky.rcells_len (Qm.sd_len i) (Ky.keyPub_len _)]; decide)) rfl rfl (fun w sw => CF.cons (lies_blk (sw.blk_eq (h := 23) rfl)) (CF.cons (lies_blk (sw.blk_eq (h := 12) rfl)) (sw.cf (.cons rfl (.nil _))))) ?_
          refine at_eq (i := 50) (v' := .agg (ints .u8 (Ky.keyPub (Qm.sd i))).toArray) rfl (congrArg (fun x => Value.agg (List.toArray x)) (Ky.rcells_pub (Qm.sd_len i) (Ky.keyPub_len _) _ _)) ?_
          refine mxp (i := 6) rfl (by decide +kernel) (by decide +kernel) (by decide +kernel) rfl (fun w0 => ld_mem_all (h := 301) ty42 rfl rfl rfl (by first | omega | (simp only [List.length_append, List.length_cons, List.length_nil, List.length_set, List.length_replicate, List.length_take, List.length_drop, ints_length, wr_length, sha_len, node_len, recov_len, Ky.named_len, Ky.keyPub_len] <;> omega) | rfl)) rfl rfl (fun w sw => CF.cons (lies_blk (sw.blk_eq (h := 23) rfl)) (CF.cons (lies_blk (sw.blk_eq (h := 12) rfl)) (sw.cf (.cons rfl (.nil _))))) ?_
          refine mxp (i := 7) rfl (by decide +kernel) (by decide +kernel) (by decide +kernel) rfl (fun w0 => ev_build_struct ty44 rfl pl44 rfl ((fill_put (i := 0) (off := 0) (n := 32) (vs := ints .u8 (Ky.keyPub (Qm.sd i))) rfl rfl (by rw [ints_length, Ky.keyPub_len]) (Nat.le_of_ble_eq_true rfl)).trans ((fill_put (i := 1) (off := 32) (n := 3) (vs := [.int .i64 ((0 : Nat) : Int), va42, vb42]) rfl rfl rfl (by rw [wr_length (by rw [ints_length, Ky.keyPub_len]; exact Nat.le_of_ble_eq_true rfl)]; exact Nat.le_of_ble_eq_true rfl)).trans fill_nil))) rfl rfl (fun w sw => CF.cons (lies_blk (sw.blk_eq (h := 23) rfl)) (CF.cons (lies_blk (sw.blk_eq (h := 12) rfl)) (sw.cf (.cons rfl (.nil _))))) ?_
          refine at_eq (i := 52) (v' := .agg (Qm.mcells m42).toArray) rfl (congrArg (fun x => Value.agg (List.toArray x)) ((Qm.mark_new (Ky.keyPub_len _) _ _ _).trans (by rw [hm42]; rfl))) ?_
          refine mxp_two (i := 1) (j := 8) (by decide +kernel) (fun w sw => CF.cons (lies_blk (sw.blk_eq (h := 23) rfl)) (CF.cons (lies_blk (sw.blk_eq (h := 12) rfl)) (sw.cf (.cons rfl (.nil _))))) ?_ ?_
          ·
            refine wo (i := 1) rfl ?_
            refine st (ld_blk1 (h := 8) ty23 rfl rfl rfl rfl) rfl rfl rfl ?_
            refine op_nil ?_
            refine ax_then ?_
            refine mxp_one (i := 8) (by decide +kernel) (fun w sw => CF.cons (lies_blk (sw.blk_eq (h := 23) rfl)) (CF.cons (lies_blk (sw.blk_eq (h := 12) rfl)) (sw.cf (.cons rfl (.nil _))))) ?_
            refine wo (i := 8) rfl ?_
            refine st_bs1 (h := 53) Try.underlying23 ty44 rfl rfl hmc42 (by decide) (by decide) rfl rfl (fun b53 => ?_)
            refine op_nil ?_
            refine ax_then ?_
            refine mxp_one (i := 9) (by decide +kernel) (fun w sw => CF.cons (lies_blk (sw.blk_eq (h := 23) rfl)) (CF.cons (lies_blk (sw.blk_eq (h := 12) rfl)) (sw.cf (.cons rfl (.nil _))))) ?_
            refine wo (i := 9) rfl ?_
            refine st_append (n := (ms).length) (m := 1) (h := 100) Try.underlying23 Try.underlying23 ty44 rfl rfl rfl rfl (fun w1 sw => sw.own_rd (h := 53) rfl) (by decide) hmf hmc42 (by first | omega | (simp only [List.length_append, List.length_cons, List.length_nil]; omega)) (by decide) hmo42 rfl rfl (fun v54 => ?_)
            refine at_heq (i := 100) (v' := .own (v54) 44 35 (Qm.mflat (ms ++ [m42]))) rfl (by rw [Qm.mflat_snoc]) ?_
            refine at_own_shape (h := 100) rfl (fun hs54 => ?_)
            refine op_nil ?_
            refine ax_then ?_
            refine mxp (i := 10) rfl (by decide +kernel) (by decide +kernel) (by decide +kernel) rfl (fun w0 => ev_fieldAddr (b := _) Try.underlying25 (f := _) rfl ty23 (by decide) rfl) rfl rfl (fun w sw => CF.cons (lies_blk (sw.blk_eq (h := 23) rfl)) (CF.cons (lies_blk (sw.blk_eq (h := 12) rfl)) (sw.cf (.cons rfl (.nil _))))) ?_
            refine mxp_one (i := 11) (by decide +kernel) (fun w sw => CF.cons (lies_blk (sw.blk_eq (h := 23) rfl)) (CF.cons (lies_blk (sw.blk_eq (h := 12) rfl)) (sw.cf (.cons rfl (.nil _))))) ?_
            refine wo (i := 11) rfl ?_
            refine st_store1 8 ty23 rfl rfl rfl hs54.2 (show 1 < 2 from by decide) rfl ?_
            refine at_heq (i := 8) (v' := .blk (b8) (.cells ([pb, v54]).toArray 25)) rfl rfl ?_
            refine op_nil ?_
            refine ax_then ?_
            refine mxp_done (by decide +kernel) (fun w sw => CF.cons (lies_blk (sw.blk_eq (h := 23) rfl)) (CF.cons (lies_blk (sw.blk_eq (h := 12) rfl)) (sw.cf (.cons rfl (.nil _))))) ?_
            refine ax_then ?_
            refine At.regs (L' := [(0, _), (1, _), (2, _), (6, _), (7, _), (8, _), (9, _), (10, _), (11, _), (12, _), (16, _), (17, _), (20, _), (21, _), (22, _), (23, _), (24, _), (25, _), (26, _), (27, _), (28, _), (29, _), (30, _), (31, _), (32, _), (33, _), (34, _), (35, _), (36, _), (37, _), (38, _), (39, _), (40, _), (41, _), (42, _), (43, _), (44, _), (45, _), (46, _), (47, _), (48, _), (49, _), (50, _), (51, _), (52, _), (53, _), (54, _), (55, _)]) (.cons rfl (.cons rfl (.cons rfl (.cons rfl (.cons rfl (.cons rfl (.cons rfl (.cons rfl (.cons rfl (.cons rfl (.cons rfl (.cons rfl (.cons rfl (.cons rfl (.cons rfl (.cons rfl (.cons rfl (.cons rfl (.cons rfl (.cons rfl (.cons rfl (.cons rfl (.cons rfl (.cons rfl (.cons rfl (.cons rfl (.cons rfl (.cons rfl (.cons rfl (.cons rfl (.cons rfl (.cons rfl (.cons rfl (.cons rfl (.cons rfl (.cons rfl (.cons rfl (.cons rfl (.cons rfl (.cons rfl (.cons rfl (.cons rfl (.cons rfl (.cons rfl (.cons rfl (.cons rfl (.cons rfl (.cons rfl (.nil _))))))))))))))))))))))))))))))))))))))))))))))))) ?_
            refine cd_seq ?_
            refine at_rows_add (h := 150) (i := 200) (H' := [(6, _), (7, _), (8, _), (9, _), (12, _), (23, _), (24, _), (100, _), (101, _), (151, _)]) rfl rfl (.cons rfl (.cons rfl (.cons rfl (.cons rfl (.cons rfl (.cons rfl (.cons rfl (.cons rfl (.cons rfl (.cons rfl (.nil _))))))))))) rfl (fun hf1 => ?_)
            refine at_rows_add (h := 151) (i := 200) (H' := [(6, _), (7, _), (8, _), (9, _), (12, _), (23, _), (24, _), (100, _), (101, _)]) rfl rfl (.cons rfl (.cons rfl (.cons rfl (.cons rfl (.cons rfl (.cons rfl (.cons rfl (.cons rfl (.cons rfl (.nil _)))))))))) rfl (fun hf2 => ?_)
            refine cd_region ?_
            refine st (ev_move rfl) rfl rfl rfl ?_
            refine st (ev_move rfl) rfl rfl rfl ?_
            refine at_split (i := 57) rfl (fun hg57 => ?_) (fun hg57 => ?_)
            ·
              refine st (ev_move rfl) rfl rfl rfl ?_
              refine st (ev_eql rfl rfl) rfl rfl rfl ?_
              refine st (ev_pick_t rfl rfl) rfl rfl rfl ?_
              refine op_nil ?_
              refine ax_then ?_
              refine At.regs (L' := [(0, _), (1, _), (2, _), (6, _), (7, _), (8, _), (9, _), (10, _), (11, _), (12, _), (16, _), (17, _), (20, _), (21, _), (22, _), (23, _), (24, _), (25, _), (26, _), (27, _), (28, _), (29, _), (30, _), (31, _), (32, _), (33, _), (34, _), (35, _), (36, _), (37, _), (38, _), (39, _), (40, _), (41, _), (42, _), (43, _), (44, _), (45, _), (46, _), (47, _), (48, _), (49, _), (50, _), (51, _), (52, _), (53, _), (54, _), (55, _), (56, _), (57, _), (58, _), (59, _), (60, _)]) (.cons rfl (.cons rfl (.cons rfl (.cons rfl (.cons rfl (.cons rfl (.cons rfl (.cons rfl (.cons rfl (.cons rfl (.cons rfl (.cons rfl (.cons rfl (.cons rfl (.cons rfl (.cons rfl (.cons rfl (.cons rfl (.cons rfl (.cons rfl (.cons rfl (.cons rfl (.cons rfl (.cons rfl (.cons rfl (.cons rfl (.cons rfl (.cons rfl (.cons rfl (.cons rfl (.cons rfl (.cons rfl (.cons rfl (.cons rfl (.cons rfl (.cons rfl (.cons rfl (.cons rfl (.cons rfl (.cons rfl (.cons rfl (.cons rfl (.cons rfl (.cons rfl (.cons rfl (.cons rfl (.cons rfl (.cons rfl (.cons rfl (.cons rfl (.cons rfl (.cons rfl (.cons rfl (.nil _)))))))))))))))))))))))))))))))))))))))))))))))))))))) ?_
              refine cd_if rfl (fun hc60 => ?_) (fun hc60 => ?_)
              ·
                refine cd_seq ?_
                refine cd_region ?_
                have hmf2 : (Qm.mflat (ms ++ [m42])).length = (ms ++ [m42]).length * 35 := by rw [← Qm.mflat_snoc, List.length_append, hmf, hmc42, List.length_append]; simp; omega
                refine st (ev_move rfl) rfl rfl rfl ?_
                refine st (ev_move rfl) rfl rfl rfl ?_
                refine st_call has30 rfl (fun w1 sw => rn3 23 152 153 (rsignk_any b23 lv23 pb (Qm.sd i) body 1 w1 (Qm.sd_len i) (by decide) hbl (sw.blk_eq (h := 23) rfl) (sw.own_rd (h := 24) rfl) (sw.own_off (h := 23) (h' := 24) rfl rfl (by decide)) (sw.sl_rd (h := 0) rfl) (sw.off 0 _ 23 _ rfl rfl _ (by simp [Ent.ids])))) (mod_blk3 rfl) rfl rfl (fun x64 _ => ?_)
                obtain ⟨va64, vb64⟩ := x64
                dsimp only
                refine at_own_shape (h := 152) rfl (fun hsa64 => ?_)
                refine at_own_shape (h := 153) rfl (fun hsb64 => ?_)
                obtain ⟨m64, hm64⟩ : ∃ m : Qm.Mark, m = ⟨Ky.keyPub (Qm.sd i), ((1 : Nat) : Int), va64, vb64, sign (Qm.sd i) (1 : Nat) body 36, path (Ky.leaves (Qm.sd i) 16) ((1 : Nat) : Int)⟩ := ⟨_, rfl⟩
                have hme64 : Qm.strip m64 = Qm.exp1 body i 1 := by rw [hm64]; rfl
                have hmc64 : (Qm.mcells m64).length = 35 := by rw [hm64]; simp [Qm.mcells, ints_length, Ky.keyPub_len]
                have hmo64 := Qm.mone (m := m64) (by rw [hm64]; exact hsa64.2) (by rw [hm64]; exact hsb64.2)
                refine st (ev_move rfl) rfl rfl rfl ?_
                refine st (ev_extract rfl rfl) rfl rfl rfl ?_
                refine st (ev_extract rfl rfl) rfl rfl rfl ?_
                refine st_store_all 12 ty42 rfl rfl rfl rfl rfl (by intro u hu; simp at hu; rcases hu with rfl | rfl | rfl; rfl; exact hsa64.2; exact hsb64.2) rfl rfl ?_
                refine op_nil ?_
                refine ax_then ?_
                refine At.regs (L' := [(0, _), (1, _), (2, _), (6, _), (7, _), (8, _), (9, _), (10, _), (11, _), (12, _), (16, _), (17, _), (20, _), (21, _), (22, _), (23, _), (24, _), (25, _), (26, _), (27, _), (28, _), (29, _), (30, _), (31, _), (32, _), (33, _), (34, _), (35, _), (36, _), (37, _), (38, _), (39, _), (40, _), (41, _), (42, _), (43, _), (44, _), (45, _), (46, _), (47, _), (48, _), (49, _), (50, _), (51, _), (52, _), (53, _), (54, _), (55, _), (56, _), (57, _), (58, _), (59, _), (60, _), (61, _), (62, _), (63, _), (64, _), (65, _)]) (.cons rfl (.cons rfl (.cons rfl (.cons rfl (.cons rfl (.cons rfl (.cons rfl (.cons rfl (.cons rfl (.cons rfl (.cons rfl (.cons rfl (.cons rfl (.cons rfl (.cons rfl (.cons rfl (.cons rfl (.cons rfl (.cons rfl (.cons rfl (.cons rfl (.cons rfl (.cons rfl (.cons rfl (.cons rfl (.cons rfl (.cons rfl (.cons rfl (.cons rfl (.cons rfl (.cons rfl (.cons rfl (.cons rfl (.cons rfl (.cons rfl (.cons rfl (.cons rfl (.cons rfl (.cons rfl (.cons rfl (.cons rfl (.cons rfl (.cons rfl (.cons rfl (.cons rfl (.cons rfl (.cons rfl (.cons rfl (.cons rfl (.cons rfl (.cons rfl (.cons rfl (.cons rfl (.cons rfl (.cons rfl (.cons rfl (.cons rfl (.cons rfl (.nil _))))))))))))))))))))))))))))))))))))))))))))))))))))))))))) ?_
                refine cd_mixp [(300, .mem b23 0 (Ky.rcells (Qm.sd i) lv23 (Ky.keyPub (Qm.sd i)) (((2 : Nat) : Int)))), (301, .mem b12 0 [.int .i64 ((1 : Nat) : Int), va64, vb64]), (0, .sl (pb) 1 (ints .u8 (body)))] hmix ?_
                refine mxp (i := 0) rfl (by decide +kernel) (by decide +kernel) (by decide +kernel) rfl (fun w0 => ev_fieldAddr (b := _) Try.underlying25 (f := _) rfl ty23 (by decide) rfl) rfl rfl (fun w sw => CF.cons (lies_blk (sw.blk_eq (h := 23) rfl)) (CF.cons (lies_blk (sw.blk_eq (h := 12) rfl)) (sw.cf (.cons rfl (.nil _))))) ?_
                refine mxp (i := 2) rfl (by decide +kernel) (by decide +kernel) (by decide +kernel) rfl (fun w0 => ev_move rfl) rfl rfl (fun w sw => CF.cons (lies_blk (sw.blk_eq (h := 23) rfl)) (CF.cons (lies_blk (sw.blk_eq (h := 12) rfl)) (sw.cf (.cons rfl (.nil _))))) ?_
                refine mxp (i := 3) rfl (by decide +kernel) (by decide +kernel) (by decide +kernel) rfl (fun w0 => ev_nilCheck rfl) rfl rfl (fun w sw => CF.cons (lies_blk (sw.blk_eq (h := 23) rfl)) (CF.cons (lies_blk (sw.blk_eq (h := 12) rfl)) (sw.cf (.cons rfl (.nil _))))) ?_
                refine mxp (i := 4) rfl (by decide +kernel) (by decide +kernel) (by decide +kernel) rfl (fun w0 => ev_fieldAddr (b := _) Try.underlying55 (f := _) rfl ty39 (by decide) rfl) rfl rfl (fun w sw => CF.cons (lies_blk (sw.blk_eq (h := 23) rfl)) (CF.cons (lies_blk (sw.blk_eq (h := 12) rfl)) (sw.cf (.cons rfl (.nil _))))) ?_
                refine mxp (i := 5) rfl (by decide +kernel) (by decide +kernel) (by decide +kernel) rfl (fun w0 => ld_mem (h := 300) (k := 33) ty39 rfl rfl rfl rfl (by rw [Ky.rcells_len (Qm.sd_len i) (Ky.keyPub_len _)]; decide)) rfl rfl (fun w sw => CF.cons (lies_blk (sw.blk_eq (h := 23) rfl)) (CF.cons (lies_blk (sw.blk_eq (h := 12) rfl)) (sw.cf (.cons rfl (.nil _))))) ?_
                refine at_eq (i := 72) (v' := .agg (ints .u8 (Ky.keyPub (Qm.sd i))).toArray) rfl (congrArg (fun x => Value.agg (List.toArray x)) (Ky.rcells_pub (Qm.sd_len i) (Ky.keyPub_len _) _ _)) ?_
                refine mxp (i := 6) rfl (by decide +kernel) (by decide +kernel) (by decide +kernel) rfl (fun w0 => ld_mem_all (h := 301) ty42 rfl rfl rfl (by first | omega | (simp only [List.length_append, List.length_cons, List.length_nil, List.length_set, List.length_replicate, List.length_take, List.length_drop, ints_length, wr_length, sha_len, node_len, recov_len, Ky.named_len, Ky.keyPub_len] <;> omega) | rfl)) rfl rfl (fun w sw => CF.cons (lies_blk (sw.blk_eq (h := 23) rfl)) (CF.cons (lies_blk (sw.blk_eq (h := 12) rfl)) (sw.cf (.cons rfl (.nil _))))) ?_
                refine mxp (i := 7) rfl (by decide +kernel) (by decide +kernel) (by decide +kernel) rfl (fun w0 => ev_build_struct ty44 rfl pl44 rfl ((fill_put (i := 0) (off := 0) (n := 32) (vs := ints .u8 (Ky.keyPub (Qm.sd i))) rfl rfl (by rw [ints_length, Ky.keyPub_len]) (Nat.le_of_ble_eq_true rfl)).trans ((fill_put (i := 1) (off := 32) (n := 3) (vs := [.int .i64 ((1 : Nat) : Int), va64, vb64]) rfl rfl rfl (by rw [wr_length (by rw [ints_length, Ky.keyPub_len]; exact Nat.le_of_ble_eq_true rfl)]; exact Nat.le_of_ble_eq_true rfl)).trans fill_nil))) rfl rfl (fun w sw => CF.cons (lies_blk (sw.blk_eq (h := 23) rfl)) (CF.cons (lies_blk (sw.blk_eq (h := 12) rfl)) (sw.cf (.cons rfl (.nil _))))) ?_
                refine at_eq (i := 74) (v' := .agg (Qm.mcells m64).toArray) rfl (congrArg (fun x => Value.agg (List.toArray x)) ((Qm.mark_new (Ky.keyPub_len _) _ _ _).trans (by rw [hm64]; rfl))) ?_
                refine mxp_two (i := 1) (j := 8) (by decide +kernel) (fun w sw => CF.cons (lies_blk (sw.blk_eq (h := 23) rfl)) (CF.cons (lies_blk (sw.blk_eq (h := 12) rfl)) (sw.cf (.cons rfl (.nil _))))) ?_ ?_
                ·
                  refine wo (i := 1) rfl ?_
                  refine st (ld_blk1 (h := 8) ty23 rfl rfl rfl rfl) rfl rfl rfl ?_
                  refine op_nil ?_
                  refine ax_then ?_
                  refine mxp_one (i := 8) (by decide +kernel) (fun w sw => CF.cons (lies_blk (sw.blk_eq (h := 23) rfl)) (CF.cons (lies_blk (sw.blk_eq (h := 12) rfl)) (sw.cf (.cons rfl (.nil _))))) ?_
                  refine wo (i := 8) rfl ?_
                  refine st_bs1 (h := 75) Try.underlying23 ty44 rfl rfl hmc64 (by decide) (by decide) rfl rfl (fun b75 => ?_)
                  refine op_nil ?_
                  refine ax_then ?_
                  refine mxp_one (i := 9) (by decide +kernel) (fun w sw => CF.cons (lies_blk (sw.blk_eq (h := 23) rfl)) (CF.cons (lies_blk (sw.blk_eq (h := 12) rfl)) (sw.cf (.cons rfl (.nil _))))) ?_
                  refine wo (i := 9) rfl ?_
                  refine st_append (n := ((ms ++ [m42])).length) (m := 1) (h := 100) Try.underlying23 Try.underlying23 ty44 rfl rfl rfl rfl (fun w1 sw => sw.own_rd (h := 75) rfl) (by decide) hmf2 hmc64 (by first | omega | (simp only [List.length_append, List.length_cons, List.length_nil]; omega)) (by decide) hmo64 rfl rfl (fun v76 => ?_)
                  refine at_heq (i := 100) (v' := .own (v76) 44 35 (Qm.mflat ((ms ++ [m42]) ++ [m64]))) rfl (by rw [Qm.mflat_snoc]) ?_
                  refine at_own_shape (h := 100) rfl (fun hs76 => ?_)
                  refine op_nil ?_
                  refine ax_then ?_
                  refine mxp (i := 10) rfl (by decide +kernel) (by decide +kernel) (by decide +kernel) rfl (fun w0 => ev_fieldAddr (b := _) Try.underlying25 (f := _) rfl ty23 (by decide) rfl) rfl rfl (fun w sw => CF.cons (lies_blk (sw.blk_eq (h := 23) rfl)) (CF.cons (lies_blk (sw.blk_eq (h := 12) rfl)) (sw.cf (.cons rfl (.nil _))))) ?_
                  refine mxp_one (i := 11) (by decide +kernel) (fun w sw => CF.cons (lies_blk (sw.blk_eq (h := 23) rfl)) (CF.cons (lies_blk (sw.blk_eq (h := 12) rfl)) (sw.cf (.cons rfl (.nil _))))) ?_
                  refine wo (i := 11) rfl ?_
                  refine st_store1 8 ty23 rfl rfl rfl hs76.2 (show 1 < 2 from by decide) rfl ?_
                  refine at_heq (i := 8) (v' := .blk (b8) (.cells ([pb, v76]).toArray 25)) rfl rfl ?_
                  refine at_rows_add (h := 152) (i := 200) (H' := [(6, _), (7, _), (8, _), (9, _), (12, _), (23, _), (24, _), (100, _), (101, _), (153, _)]) rfl rfl (.cons rfl (.cons rfl (.cons rfl (.cons rfl (.cons rfl (.cons rfl (.cons rfl (.cons rfl (.cons rfl (.cons rfl (.nil _))))))))))) rfl (fun hf3 => ?_)
                  refine at_rows_add (h := 153) (i := 200) (H' := [(6, _), (7, _), (8, _), (9, _), (12, _), (23, _), (24, _), (100, _), (101, _)]) rfl rfl (.cons rfl (.cons rfl (.cons rfl (.cons rfl (.cons rfl (.cons rfl (.cons rfl (.cons rfl (.cons rfl (.nil _)))))))))) rfl (fun hf4 => ?_)
                  refine op_nil ?_
                  refine ax_then ?_
                  refine mxp_done (by decide +kernel) (fun w sw => CF.cons (lies_blk (sw.blk_eq (h := 23) rfl)) (CF.cons (lies_blk (sw.blk_eq (h := 12) rfl)) (sw.cf (.cons rfl (.nil _))))) ?_
                  refine ax_block ?_
                  first | exact at_met ((v76, v31, ms ++ [m42] ++ [m64], ((vb64, 32, flat (path (Ky.leaves (Qm.sd i) 16) ((1 : Nat) : Int))) :: (va64, 32, flat (sign (Qm.sd i) (1 : Nat) body 36)) :: ((vb42, 32, flat (path (Ky.leaves (Qm.sd i) 16) ((0 : Nat) : Int))) :: (va42, 32, flat (sign (Qm.sd i) (0 : Nat) body 36)) :: R)))) (⟨by rw [Qm.expd, Qm.step, if_pos (show Qm.bit which i from hc38), if_pos ⟨hg57, by omega⟩]; simp [hms, hme42, hme64], by have := (hcov.snoc m42).snoc m64; rw [hm42, hm64] at this; rw [hm42, hm64]; exact this, (((hfr.cons hf1).cons hf2).cons hf3).cons hf4⟩) (.cons rfl (.cons rfl (.cons rfl (.cons rfl (.cons rfl (.cons rfl (.cons rfl (.cons rfl (.nil _))))))))) (.cons rfl (.cons rfl (.cons rfl (.cons rfl (.cons rfl (.cons rfl (.nil _))))))) (.cons rfl (.cons rfl (.nil _))) | exact at_met ((v54, v31, ms ++ [m42], ((vb42, 32, flat (path (Ky.leaves (Qm.sd i) 16) ((0 : Nat) : Int))) :: (va42, 32, flat (sign (Qm.sd i) (0 : Nat) body 36)) :: R))) (⟨by rw [Qm.expd, Qm.step, if_pos (show Qm.bit which i from hc38), if_neg (fun hh => by first | (rw [hg57] at hh; cases hh.1; done) | exact hc60 (by omega))]; simp [hms, hme42], by have := hcov.snoc m42; rw [hm42] at this; rw [hm42]; exact this, (hfr.cons hf1).cons hf2⟩) (.cons rfl (.cons rfl (.cons rfl (.cons rfl (.cons rfl (.cons rfl (.cons rfl (.cons rfl (.nil _))))))))) (.cons rfl (.cons rfl (.cons rfl (.cons rfl (.cons rfl (.cons rfl (.nil _))))))) (.cons rfl (.cons rfl (.nil _))) | exact at_met ((mv, v31, ms, R)) (⟨by rw [Qm.expd, Qm.step, if_neg (show ¬ Qm.bit which i from hc38), List.append_nil]; exact hms, hcov, hfr⟩) (.cons rfl (.cons rfl (.cons rfl (.cons rfl (.cons rfl (.cons rfl (.cons rfl (.cons rfl (.nil _))))))))) (.cons rfl (.cons rfl (.cons rfl (.cons rfl (.cons rfl (.cons rfl (.nil _))))))) (.cons rfl (.cons rfl (.nil _)))
                ·
                  refine wo (i := 8) rfl ?_
                  refine st_bs1 (h := 75) Try.underlying23 ty44 rfl rfl hmc64 (by decide) (by decide) rfl rfl (fun b75 => ?_)
                  refine op_nil ?_
                  refine ax_then ?_
                  refine mxp_one (i := 1) (by decide +kernel) (fun w sw => CF.cons (lies_blk (sw.blk_eq (h := 23) rfl)) (CF.cons (lies_blk (sw.blk_eq (h := 12) rfl)) (sw.cf (.cons rfl (.nil _))))) ?_
                  refine wo (i := 1) rfl ?_
                  refine st (ld_blk1 (h := 8) ty23 rfl rfl rfl rfl) rfl rfl rfl ?_
                  refine op_nil ?_
                  refine ax_then ?_
                  refine mxp_one (i := 9) (by decide +kernel) (fun w sw => CF.cons (lies_blk (sw.blk_eq (h := 23) rfl)) (CF.cons (lies_blk (sw.blk_eq (h := 12) rfl)) (sw.cf (.cons rfl (.nil _))))) ?_
                  refine wo (i := 9) rfl ?_
                  refine st_append (n := ((ms ++ [m42])).length) (m := 1) (h := 100) Try.underlying23 Try.underlying23 ty44 rfl rfl rfl rfl (fun w1 sw => sw.own_rd (h := 75) rfl) (by decide) hmf2 hmc64 (by first | omega | (simp only [List.length_append, List.length_cons, List.length_nil]; omega)) (by decide) hmo64 rfl rfl (fun v76 => ?_)
                  refine at_heq (i := 100) (v' := .own (v76) 44 35 (Qm.mflat ((ms ++ [m42]) ++ [m64]))) rfl (by rw [Qm.mflat_snoc]) ?_
                  refine at_own_shape (h := 100) rfl (fun hs76 => ?_)
                  refine op_nil ?_
                  refine ax_then ?_
                  refine mxp (i := 10) rfl (by decide +kernel) (by decide +kernel) (by decide +kernel) rfl (fun w0 => ev_fieldAddr (b := _) Try.underlying25 (f := _) rfl ty23 (by decide) rfl) rfl rfl (fun w sw => CF.cons (lies_blk (sw.blk_eq (h := 23) rfl)) (CF.cons (lies_blk (sw.blk_eq (h := 12) rfl)) (sw.cf (.cons rfl (.nil _))))) ?_
                  refine mxp_one (i := 11) (by decide +kernel) (fun w sw => CF.cons (lies_blk (sw.blk_eq (h := 23) rfl)) (CF.cons (lies_blk (sw.blk_eq (h := 12) rfl)) (sw.cf (.cons rfl (.nil _))))) ?_
                  refine wo (i := 11) rfl ?_
                  refine st_store1 8 ty23 rfl rfl rfl hs76.2 (show 1 < 2 from by decide) rfl ?_
                  refine at_heq (i := 8) (v' := .blk (b8) (.cells ([pb, v76]).toArray 25)) rfl rfl ?_
                  refine at_rows_add (h := 152) (i := 200) (H' := [(6, _), (7, _), (8, _), (9, _), (12, _), (23, _), (24, _), (100, _), (101, _), (153, _)]) rfl rfl (.cons rfl (.cons rfl (.cons rfl (.cons rfl (.cons rfl (.cons rfl (.cons rfl (.cons rfl (.cons rfl (.cons rfl (.nil _))))))))))) rfl (fun hf3 => ?_)
                  refine at_rows_add (h := 153) (i := 200) (H' := [(6, _), (7, _), (8, _), (9, _), (12, _), (23, _), (24, _), (100, _), (101, _)]) rfl rfl (.cons rfl (.cons rfl (.cons rfl (.cons rfl (.cons rfl (.cons rfl (.cons rfl (.cons rfl (.cons rfl (.nil _)))))))))) rfl (fun hf4 => ?_)
                  refine op_nil ?_
                  refine ax_then ?_
                  refine mxp_done (by decide +kernel) (fun w sw => CF.cons (lies_blk (sw.blk_eq (h := 23) rfl)) (CF.cons (lies_blk (sw.blk_eq (h := 12) rfl)) (sw.cf (.cons rfl (.nil _))))) ?_
                  refine ax_block ?_
                  first | exact at_met ((v76, v31, ms ++ [m42] ++ [m64], ((vb64, 32, flat (path (Ky.leaves (Qm.sd i) 16) ((1 : Nat) : Int))) :: (va64, 32, flat (sign (Qm.sd i) (1 : Nat) body 36)) :: ((vb42, 32, flat (path (Ky.leaves (Qm.sd i) 16) ((0 : Nat) : Int))) :: (va42, 32, flat (sign (Qm.sd i) (0 : Nat) body 36)) :: R)))) (⟨by rw [Qm.expd, Qm.step, if_pos (show Qm.bit which i from hc38), if_pos ⟨hg57, by omega⟩]; simp [hms, hme42, hme64], by have := (hcov.snoc m42).snoc m64; rw [hm42, hm64] at this; rw [hm42, hm64]; exact this, (((hfr.cons hf1).cons hf2).cons hf3).cons hf4⟩) (.cons rfl (.cons rfl (.cons rfl (.cons rfl (.cons rfl (.cons rfl (.cons rfl (.cons rfl (.nil _))))))))) (.cons rfl (.cons rfl (.cons rfl (.cons rfl (.cons rfl (.cons rfl (.nil _))))))) (.cons rfl (.cons rfl (.nil _))) | exact at_met ((v54, v31, ms ++ [m42], ((vb42, 32, flat (path (Ky.leaves (Qm.sd i) 16) ((0 : Nat) : Int))) :: (va42, 32, flat (sign (Qm.sd i) (0 : Nat) body 36)) :: R))) (⟨by rw [Qm.expd, Qm.step, if_pos (show Qm.bit which i from hc38), if_neg (fun hh => by first | (rw [hg57] at hh; cases hh.1; done) | exact hc60 (by omega))]; simp [hms, hme42], by have := hcov.snoc m42; rw [hm42] at this; rw [hm42]; exact this, (hfr.cons hf1).cons hf2⟩) (.cons rfl (.cons rfl (.cons rfl (.cons rfl (.cons rfl (.cons rfl (.cons rfl (.cons rfl (.nil _))))))))) (.cons rfl (.cons rfl (.cons rfl (.cons rfl (.cons rfl (.cons rfl (.nil _))))))) (.cons rfl (.cons rfl (.nil _))) | exact at_met ((mv, v31, ms, R)) (⟨by rw [Qm.expd, Qm.step, if_neg (show ¬ Qm.bit which i from hc38), List.append_nil]; exact hms, hcov, hfr⟩) (.cons rfl (.cons rfl (.cons rfl (.cons rfl (.cons rfl (.cons rfl (.cons rfl (.cons rfl (.nil _))))))))) (.cons rfl (.cons rfl (.cons rfl (.cons rfl (.cons rfl (.cons rfl (.nil _))))))) (.cons rfl (.cons rfl (.nil _)))
              ·
                refine cd_skip ?_
                refine ax_block ?_
                first | exact at_met ((v76, v31, ms ++ [m42] ++ [m64], ((vb64, 32, flat (path (Ky.leaves (Qm.sd i) 16) ((1 : Nat) : Int))) :: (va64, 32, flat (sign (Qm.sd i) (1 : Nat) body 36)) :: ((vb42, 32, flat (path (Ky.leaves (Qm.sd i) 16) ((0 : Nat) : Int))) :: (va42, 32, flat (sign (Qm.sd i) (0 : Nat) body 36)) :: R)))) (⟨by rw [Qm.expd, Qm.step, if_pos (show Qm.bit which i from hc38), if_pos ⟨hg57, by omega⟩]; simp [hms, hme42, hme64], by have := (hcov.snoc m42).snoc m64; rw [hm42, hm64] at this; rw [hm42, hm64]; exact this, (((hfr.cons hf1).cons hf2).cons hf3).cons hf4⟩) (.cons rfl (.cons rfl (.cons rfl (.cons rfl (.cons rfl (.cons rfl (.cons rfl (.cons rfl (.nil _))))))))) (.cons rfl (.cons rfl (.cons rfl (.cons rfl (.cons rfl (.cons rfl (.nil _))))))) (.cons rfl (.cons rfl (.nil _))) | exact at_met ((v54, v31, ms ++ [m42], ((vb42, 32, flat (path (Ky.leaves (Qm.sd i) 16) ((0 : Nat) : Int))) :: (va42, 32, flat (sign (Qm.sd i) (0 : Nat) body 36)) :: R))) (⟨by rw [Qm.expd, Qm.step, if_pos (show Qm.bit which i from hc38), if_neg (fun hh => by first | (rw [hg57] at hh; cases hh.1; done) | exact hc60 (by omega))]; simp [hms, hme42], by have := hcov.snoc m42; rw [hm42] at this; rw [hm42]; exact this, (hfr.cons hf1).cons hf2⟩) (.cons rfl (.cons rfl (.cons rfl (.cons rfl (.cons rfl (.cons rfl (.cons rfl (.cons rfl (.nil _))))))))) (.cons rfl (.cons rfl (.cons rfl (.cons rfl (.cons rfl (.cons rfl (.nil _))))))) (.cons rfl (.cons rfl (.nil _))) | exact at_met ((mv, v31, ms, R)) (⟨by rw [Qm.expd, Qm.step, if_neg (show ¬ Qm.bit which i from hc38), List.append_nil]; exact hms, hcov, hfr⟩) (.cons rfl (.cons rfl (.cons rfl (.cons rfl (.cons rfl (.cons rfl (.cons rfl (.cons rfl (.nil _))))))))) (.cons rfl (.cons rfl (.cons rfl (.cons rfl (.cons rfl (.cons rfl (.nil _))))))) (.cons rfl (.cons rfl (.nil _)))
            ·
              refine st_skip rfl rfl rfl ?_
              refine st_skip rfl rfl rfl ?_
              refine st (ev_pick_f rfl rfl) rfl rfl rfl ?_
              refine op_nil ?_
              refine ax_then ?_
              refine At.regs (L' := [(0, _), (1, _), (2, _), (6, _), (7, _), (8, _), (9, _), (10, _), (11, _), (12, _), (16, _), (17, _), (20, _), (21, _), (22, _), (23, _), (24, _), (25, _), (26, _), (27, _), (28, _), (29, _), (30, _), (31, _), (32, _), (33, _), (34, _), (35, _), (36, _), (37, _), (38, _), (39, _), (40, _), (41, _), (42, _), (43, _), (44, _), (45, _), (46, _), (47, _), (48, _), (49, _), (50, _), (51, _), (52, _), (53, _), (54, _), (55, _), (56, _), (57, _), (58, _), (59, _), (60, _)]) (.cons rfl (.cons rfl (.cons rfl (.cons rfl (.cons rfl (.cons rfl (.cons rfl (.cons rfl (.cons rfl (.cons rfl (.cons rfl (.cons rfl (.cons rfl (.cons rfl (.cons rfl (.cons rfl (.cons rfl (.cons rfl (.cons rfl (.cons rfl (.cons rfl (.cons rfl (.cons rfl (.cons rfl (.cons rfl (.cons rfl (.cons rfl (.cons rfl (.cons rfl (.cons rfl (.cons rfl (.cons rfl (.cons rfl (.cons rfl (.cons rfl (.cons rfl (.cons rfl (.cons rfl (.cons rfl (.cons rfl (.cons rfl (.cons rfl (.cons rfl (.cons rfl (.cons rfl (.cons rfl (.cons rfl (.cons rfl (.cons rfl (.cons rfl (.cons rfl (.cons rfl (.cons rfl (.nil _)))))))))))))))))))))))))))))))))))))))))))))))))))))) ?_
              refine cd_false rfl ?_
              refine cd_skip ?_
              refine ax_block ?_
              first | exact at_met ((v76, v31, ms ++ [m42] ++ [m64], ((vb64, 32, flat (path (Ky.leaves (Qm.sd i) 16) ((1 : Nat) : Int))) :: (va64, 32, flat (sign (Qm.sd i) (1 : Nat) body 36)) :: ((vb42, 32, flat (path (Ky.leaves (Qm.sd i) 16) ((0 : Nat) : Int))) :: (va42, 32, flat (sign (Qm.sd i) (0 : Nat) body 36)) :: R)))) (⟨by rw [Qm.expd, Qm.step, if_pos (show Qm.bit which i from hc38), if_pos ⟨hg57, by omega⟩]; simp [hms, hme42, hme64], by have := (hcov.snoc m42).snoc m64; rw [hm42, hm64] at this; rw [hm42, hm64]; exact this, (((hfr.cons hf1).cons hf2).cons hf3).cons hf4⟩) (.cons rfl (.cons rfl (.cons rfl (.cons rfl (.cons rfl (.cons rfl (.cons rfl (.cons rfl (.nil _))))))))) (.cons rfl (.cons rfl (.cons rfl (.cons rfl (.cons rfl (.cons rfl (.nil _))))))) (.cons rfl (.cons rfl (.nil _))) | exact at_met ((v54, v31, ms ++ [m42], ((vb42, 32, flat (path (Ky.leaves (Qm.sd i) 16) ((0 : Nat) : Int))) :: (va42, 32, flat (sign (Qm.sd i) (0 : Nat) body 36)) :: R))) (⟨by rw [Qm.expd, Qm.step, if_pos (show Qm.bit which i from hc38), if_neg (fun hh => by first | (rw [hg57] at hh; cases hh.1; done) | exact hc60 (by omega))]; simp [hms, hme42], by have := hcov.snoc m42; rw [hm42] at this; rw [hm42]; exact this, (hfr.cons hf1).cons hf2⟩) (.cons rfl (.cons rfl (.cons rfl (.cons rfl (.cons rfl (.cons rfl (.cons rfl (.cons rfl (.nil _))))))))) (.cons rfl (.cons rfl (.cons rfl (.cons rfl (.cons rfl (.cons rfl (.nil _))))))) (.cons rfl (.cons rfl (.nil _))) | exact at_met ((mv, v31, ms, R)) (⟨by rw [Qm.expd, Qm.step, if_neg (show ¬ Qm.bit which i from hc38), List.append_nil]; exact hms, hcov, hfr⟩) (.cons rfl (.cons rfl (.cons rfl (.cons rfl (.cons rfl (.cons rfl (.cons rfl (.cons rfl (.nil _))))))))) (.cons rfl (.cons rfl (.cons rfl (.cons rfl (.cons rfl (.cons rfl (.nil _))))))) (.cons rfl (.cons rfl (.nil _)))
          ·
            refine wo (i := 8) rfl ?_
            refine st_bs1 (h := 53) Try.underlying23 ty44 rfl rfl hmc42 (by decide) (by decide) rfl rfl (fun b53 => ?_)
            refine op_nil ?_
            refine ax_then ?_
            refine mxp_one (i := 1) (by decide +kernel) (fun w sw => CF.cons (lies_blk (sw.blk_eq (h := 23) rfl)) (CF.cons (lies_blk (sw.blk_eq (h := 12) rfl)) (sw.cf (.cons rfl (.nil _))))) ?_
            refine wo (i := 1) rfl ?_
            refine st (ld_blk1 (h := 8) ty23 rfl rfl rfl rfl) rfl rfl rfl ?_
            refine op_nil ?_
            refine ax_then ?_
            refine mxp_one (i := 9) (by decide +kernel) (fun w sw => CF.cons (lies_blk (sw.blk_eq (h := 23) rfl)) (CF.cons (lies_blk (sw.blk_eq (h := 12) rfl)) (sw.cf (.cons rfl (.nil _))))) ?_
            refine wo (i := 9) rfl ?_
            refine st_append (n := (ms).length) (m := 1) (h := 100) Try.underlying23 Try.underlying23 ty44 rfl rfl rfl rfl (fun w1 sw => sw.own_rd (h := 53) rfl) (by decide) hmf hmc42 (by first | omega | (simp only [List.length_append, List.length_cons, List.length_nil]; omega)) (by decide) hmo42 rfl rfl (fun v54 => ?_)
            refine at_heq (i := 100) (v' := .own (v54) 44 35 (Qm.mflat (ms ++ [m42]))) rfl (by rw [Qm.mflat_snoc]) ?_
            refine at_own_shape (h := 100) rfl (fun hs54 => ?_)
            refine op_nil ?_
            refine ax_then ?_
            refine mxp (i := 10) rfl (by decide +kernel) (by decide +kernel) (by decide +kernel) rfl (fun w0 => ev_fieldAddr (b := _) Try.underlying25 (f := _) rfl ty23 (by decide) rfl) rfl rfl (fun w sw => CF.cons (lies_blk (sw.blk_eq (h := 23) rfl)) (CF.cons (lies_blk (sw.blk_eq (h := 12) rfl)) (sw.cf (.cons rfl (.nil _))))) ?_
            refine mxp_one (i := 11) (by decide +kernel) (fun w sw => CF.cons (lies_blk (sw.blk_eq (h := 23) rfl)) (CF.cons (lies_blk (sw.blk_eq (h := 12) rfl)) (sw.cf (.cons rfl (.nil _))))) ?_
            refine wo (i := 11) rfl ?_
            refine st_store1 8 ty23 rfl rfl rfl hs54.2 (show 1 < 2 from by decide) rfl ?_
            refine at_heq (i := 8) (v' := .blk (b8) (.cells ([pb, v54]).toArray 25)) rfl rfl ?_
            refine op_nil ?_
            refine ax_then ?_
            refine mxp_done (by decide +kernel) (fun w sw => CF.cons (lies_blk (sw.blk_eq (h := 23) rfl)) (CF.cons (lies_blk (sw.blk_eq (h := 12) rfl)) (sw.cf (.cons rfl (.nil _))))) ?_
            refine ax_then ?_
            refine At.regs (L' := [(0, _), (1, _), (2, _), (6, _), (7, _), (8, _), (9, _), (10, _), (11, _), (12, _), (16, _), (17, _), (20, _), (21, _), (22, _), (23, _), (24, _), (25, _), (26, _), (27, _), (28, _), (29, _), (30, _), (31, _), (32, _), (33, _), (34, _), (35, _), (36, _), (37, _), (38, _), (39, _), (40, _), (41, _), (42, _), (43, _), (44, _), (45, _), (46, _), (47, _), (48, _), (49, _), (50, _), (51, _), (52, _), (53, _), (54, _), (55, _)]) (.cons rfl (.cons rfl (.cons rfl (.cons rfl (.cons rfl (.cons rfl (.cons rfl (.cons rfl (.cons rfl (.cons rfl (.cons rfl (.cons rfl (.cons rfl (.cons rfl (.cons rfl (.cons rfl (.cons rfl (.cons rfl (.cons rfl (.cons rfl (.cons rfl (.cons rfl (.cons rfl (.cons rfl (.cons rfl (.cons rfl (.cons rfl (.cons rfl (.cons rfl (.cons rfl (.cons rfl (.cons rfl (.cons rfl (.cons rfl (.cons rfl (.cons rfl (.cons rfl (.cons rfl (.cons rfl (.cons rfl (.cons rfl (.cons rfl (.cons rfl (.cons rfl (.cons rfl (.cons rfl (.cons rfl (.cons rfl (.nil _))))))))))))))))))))))))))))))))))))))))))))))))) ?_
            refine cd_seq ?_
            refine at_rows_add (h := 150) (i := 200) (H' := [(6, _), (7, _), (8, _), (9, _), (12, _), (23, _), (24, _), (100, _), (101, _), (151, _)]) rfl rfl (.cons rfl (.cons rfl (.cons rfl (.cons rfl (.cons rfl (.cons rfl (.cons rfl (.cons rfl (.cons rfl (.cons rfl (.nil _))))))))))) rfl (fun hf1 => ?_)
            refine at_rows_add (h := 151) (i := 200) (H' := [(6, _), (7, _), (8, _), (9, _), (12, _), (23, _), (24, _), (100, _), (101, _)]) rfl rfl (.cons rfl (.cons rfl (.cons rfl (.cons rfl (.cons rfl (.cons rfl (.cons rfl (.cons rfl (.cons rfl (.nil _)))))))))) rfl (fun hf2 => ?_)
            refine cd_region ?_
            refine st (ev_move rfl) rfl rfl rfl ?_
            refine st (ev_move rfl) rfl rfl rfl ?_
            refine at_split (i := 57) rfl (fun hg57 => ?_) (fun hg57 => ?_)
            ·
              refine st (ev_move rfl) rfl rfl rfl ?_
              refine st (ev_eql rfl rfl) rfl rfl rfl ?_
              refine st (ev_pick_t rfl rfl) rfl rfl rfl ?_
              refine op_nil ?_
              refine ax_then ?_
              refine At.regs (L' := [(0, _), (1, _), (2, _), (6, _), (7, _), (8, _), (9, _), (10, _), (11, _), (12, _), (16, _), (17, _), (20, _), (21, _), (22, _), (23, _), (24, _), (25, _), (26, _), (27, _), (28, _), (29, _), (30, _), (31, _), (32, _), (33, _), (34, _), (35, _), (36, _), (37, _), (38, _), (39, _), (40, _), (41, _), (42, _), (43, _), (44, _), (45, _), (46, _), (47, _), (48, _), (49, _), (50, _), (51, _), (52, _), (53, _), (54, _), (55, _), (56, _), (57, _), (58, _), (59, _), (60, _)]) (.cons rfl (.cons rfl (.cons rfl (.cons rfl (.cons rfl (.cons rfl (.cons rfl (.cons rfl (.cons rfl (.cons rfl (.cons rfl (.cons rfl (.cons rfl (.cons rfl (.cons rfl (.cons rfl (.cons rfl (.cons rfl (.cons rfl (.cons rfl (.cons rfl (.cons rfl (.cons rfl (.cons rfl (.cons rfl (.cons rfl (.cons rfl (.cons rfl (.cons rfl (.cons rfl (.cons rfl (.cons rfl (.cons rfl (.cons rfl (.cons rfl (.cons rfl (.cons rfl (.cons rfl (.cons rfl (.cons rfl (.cons rfl (.cons rfl (.cons rfl (.cons rfl (.cons rfl (.cons rfl (.cons rfl (.cons rfl (.cons rfl (.cons rfl (.cons rfl (.cons rfl (.cons rfl (.nil _)))))))))))))))))))))))))))))))))))))))))))))))))))))) ?_
              refine cd_if rfl (fun hc60 => ?_) (fun hc60 => ?_)
              ·
                refine cd_seq ?_
                refine cd_region ?_
                have hmf2 : (Qm.mflat (ms ++ [m42])).length = (ms ++ [m42]).length * 35 := by rw [← Qm.mflat_snoc, List.length_append, hmf, hmc42, List.length_append]; simp; omega
                refine st (ev_move rfl) rfl rfl rfl ?_
                refine st (ev_move rfl) rfl rfl rfl ?_
                refine st_call has30 rfl (fun w1 sw => rn3 23 152 153 (rsignk_any b23 lv23 pb (Qm.sd i) body 1 w1 (Qm.sd_len i) (by decide) hbl (sw.blk_eq (h := 23) rfl) (sw.own_rd (h := 24) rfl) (sw.own_off (h := 23) (h' := 24) rfl rfl (by decide)) (sw.sl_rd (h := 0) rfl) (sw.off 0 _ 23 _ rfl rfl _ (by simp [Ent.ids])))) (mod_blk3 rfl) rfl rfl (fun x64 _ => ?_)
                obtain ⟨va64, vb64⟩ := x64
                dsimp only
                refine at_own_shape (h := 152) rfl (fun hsa64 => ?_)
                refine at_own_shape (h := 153) rfl (fun hsb64 => ?_)
                obtain ⟨m64, hm64⟩ : ∃ m : Qm.Mark, m = ⟨Ky.keyPub (Qm.sd i), ((1 : Nat) : Int), va64, vb64, sign (Qm.sd i) (1 : Nat) body 36, path (Ky.leaves (Qm.sd i) 16) ((1 : Nat) : Int)⟩ := ⟨_, rfl⟩
                have hme64 : Qm.strip m64 = Qm.exp1 body i 1 := by rw [hm64]; rfl
                have hmc64 : (Qm.mcells m64).length = 35 := by rw [hm64]; simp [Qm.mcells, ints_length, Ky.keyPub_len]
                have hmo64 := Qm.mone (m := m64) (by rw [hm64]; exact hsa64.2) (by rw [hm64]; exact hsb64.2)
                refine st (ev_move rfl) rfl rfl rfl ?_
                refine st (ev_extract rfl rfl) rfl rfl rfl ?_
                refine st (ev_extract rfl rfl) rfl rfl rfl ?_
                refine st_store_all 12 ty42 rfl rfl rfl rfl rfl (by intro u hu; simp at hu; rcases hu with rfl | rfl | rfl; rfl; exact hsa64.2; exact hsb64.2) rfl rfl ?_
                refine op_nil ?_
                refine ax_then ?_
                refine At.regs (L' := [(0, _), (1, _), (2, _), (6, _), (7, _), (8, _), (9, _), (10, _), (11, _), (12, _), (16, _), (17, _), (20, _), (21, _), (22, _), (23, _), (24, _), (25, _), (26, _), (27, _), (28, _), (29, _), (30, _), (31, _), (32, _), (33, _), (34, _), (35, _), (36, _), (37, _), (38, _), (39, _), (40, _), (41, _), (42, _), (43, _), (44, _), (45, _), (46, _), (47, _), (48, _), (49, _), (50, _), (51, _), (52, _), (53, _), (54, _), (55, _), (56, _), (57, _), (58, _), (59, _), (60, _), (61, _), (62, _), (63, _), (64, _), (65, _)]) (.cons rfl (.cons rfl (.cons rfl (.cons rfl (.cons rfl (.cons rfl (.cons rfl (.cons rfl (.cons rfl (.cons rfl (.cons rfl (.cons rfl (.cons rfl (.cons rfl (.cons rfl (.cons rfl (.cons rfl (.cons rfl (.cons rfl (.cons rfl (.cons rfl (.cons rfl (.cons rfl (.cons rfl (.cons rfl (.cons rfl (.cons rfl (.cons rfl (.cons rfl (.cons rfl (.cons rfl (.cons rfl (.cons rfl (.cons rfl (.cons rfl (.cons rfl (.cons rfl (.cons rfl (.cons rfl (.cons rfl (.cons rfl (.cons rfl (.cons rfl (.cons rfl (.cons rfl (.cons rfl (.cons rfl (.cons rfl (.cons rfl (.cons rfl (.cons rfl (.cons rfl (.cons rfl (.cons rfl (.cons rfl (.cons rfl (.cons rfl (.cons rfl (.nil _))))))))))))))))))))))))))))))))))))))))))))))))))))))))))) ?_
                refine cd_mixp [(300, .mem b23 0 (Ky.rcells (Qm.sd i) lv23 (Ky.keyPub (Qm.sd i)) (((2 : Nat) : Int)))), (301, .mem b12 0 [.int .i64 ((1 : Nat) : Int), va64, vb64]), (0, .sl (pb) 1 (ints .u8 (body)))] hmix ?_
                refine mxp (i := 0) rfl (by decide +kernel) (by decide +kernel) (by decide +kernel) rfl (fun w0 => ev_fieldAddr (b := _) Try.underlying25 (f := _) rfl ty23 (by decide) rfl) rfl rfl (fun w sw => CF.cons (lies_blk (sw.blk_eq (h := 23) rfl)) (CF.cons (lies_blk (sw.blk_eq (h := 12) rfl)) (sw.cf (.cons rfl (.nil _))))) ?_
                refine mxp (i := 2) rfl (by decide +kernel) (by decide +kernel) (by decide +kernel) rfl (fun w0 => ev_move rfl) rfl rfl (fun w sw => CF.cons (lies_blk (sw.blk_eq (h := 23) rfl)) (CF.cons (lies_blk (sw.blk_eq (h := 12) rfl)) (sw.cf (.cons rfl (.nil _))))) ?_
                refine mxp (i := 3) rfl (by decide +kernel) (by decide +kernel) (by decide +kernel) rfl (fun w0 => ev_nilCheck rfl) rfl rfl (fun w sw => CF.cons (lies_blk (sw.blk_eq (h := 23) rfl)) (CF.cons (lies_blk (sw.blk_eq (h := 12) rfl)) (sw.cf (.cons rfl (.nil _))))) ?_
                refine mxp (i := 4) rfl (by decide +kernel) (by decide +kernel) (by decide +kernel) rfl (fun w0 => ev_fieldAddr (b := _) Try.underlying55 (f := _) rfl ty39 (by decide) rfl) rfl rfl (fun w sw => CF.cons (lies_blk (sw.blk_eq (h := 23) rfl)) (CF.cons (lies_blk (sw.blk_eq (h := 12) rfl)) (sw.cf (.cons rfl (.nil _))))) ?_
                refine mxp (i := 5) rfl (by decide +kernel) (by decide +kernel) (by decide +kernel) rfl (fun w0 => ld_mem (h := 300) (k := 33) ty39 rfl rfl rfl rfl (by rw [Ky.rcells_len (Qm.sd_len i) (Ky.keyPub_len _)]; decide)) rfl rfl (fun w sw => CF.cons (lies_blk (sw.blk_eq (h := 23) rfl)) (CF.cons (lies_blk (sw.blk_eq (h := 12) rfl)) (sw.cf (.cons rfl (.nil _))))) ?_
                refine at_eq (i := 72) (v' := .agg (ints .u8 (Ky.keyPub (Qm.sd i))).toArray) rfl (congrArg (fun x => Value.agg (List.toArray x)) (Ky.rcells_pub (Qm.sd_len i) (Ky.keyPub_len _) _ _)) ?_
                refine mxp (i := 6) rfl (by decide +kernel) (by decide +kernel) (by decide +kernel) rfl (fun w0 => ld_mem_all (h := 301) ty42 rfl rfl rfl (by first | omega | (simp only [List.length_append, List.length_cons, List.length_nil, List.length_set, List.length_replicate, List.length_take, List.length_drop, ints_length, wr_length, sha_len, node_len, recov_len, Ky.named_len, Ky.keyPub_len] <;> omega) | rfl)) rfl rfl (fun w sw => CF.cons (lies_blk (sw.blk_eq (h := 23) rfl)) (CF.cons (lies_blk (sw.blk_eq (h := 12) rfl)) (sw.cf (.cons rfl (.nil _))))) ?_
                refine mxp (i := 7) rfl (by decide +kernel) (by decide +kernel) (by decide +kernel) rfl (fun w0 => ev_build_struct ty44 rfl pl44 rfl ((fill_put (i := 0) (off := 0) (n := 32) (vs := ints .u8 (Ky.keyPub (Qm.sd i))) rfl rfl (by rw [ints_length, Ky.keyPub_len]) (Nat.le_of_ble_eq_true rfl)).trans ((fill_put (i := 1) (off := 32) (n := 3) (vs := [.int .i64 ((1 : Nat) : Int), va64, vb64]) rfl rfl rfl (by rw [wr_length (by rw [ints_length, Ky.keyPub_len]; exact Nat.le_of_ble_eq_true rfl)]; exact Nat.le_of_ble_eq_true rfl)).trans fill_nil))) rfl rfl (fun w sw => CF.cons (lies_blk (sw.blk_eq (h := 23) rfl)) (CF.cons (lies_blk (sw.blk_eq (h := 12) rfl)) (sw.cf (.cons rfl (.nil _))))) ?_
                refine at_eq (i := 74) (v' := .agg (Qm.mcells m64).toArray) rfl (congrArg (fun x => Value.agg (List.toArray x)) ((Qm.mark_new (Ky.keyPub_len _) _ _ _).trans (by rw [hm64]; rfl))) ?_
                refine mxp_two (i := 1) (j := 8) (by decide +kernel) (fun w sw => CF.cons (lies_blk (sw.blk_eq (h := 23) rfl)) (CF.cons (lies_blk (sw.blk_eq (h := 12) rfl)) (sw.cf (.cons rfl (.nil _))))) ?_ ?_
                ·
                  refine wo (i := 1) rfl ?_
                  refine st (ld_blk1 (h := 8) ty23 rfl rfl rfl rfl) rfl rfl rfl ?_
                  refine op_nil ?_
                  refine ax_then ?_
                  refine mxp_one (i := 8) (by decide +kernel) (fun w sw => CF.cons (lies_blk (sw.blk_eq (h := 23) rfl)) (CF.cons (lies_blk (sw.blk_eq (h := 12) rfl)) (sw.cf (.cons rfl (.nil _))))) ?_
                  refine wo (i := 8) rfl ?_
                  refine st_bs1 (h := 75) Try.underlying23 ty44 rfl rfl hmc64 (by decide) (by decide) rfl rfl (fun b75 => ?_)
                  refine op_nil ?_
                  refine ax_then ?_
                  refine mxp_one (i := 9) (by decide +kernel) (fun w sw => CF.cons (lies_blk (sw.blk_eq (h := 23) rfl)) (CF.cons (lies_blk (sw.blk_eq (h := 12) rfl)) (sw.cf (.cons rfl (.nil _))))) ?_
                  refine wo (i := 9) rfl ?_
                  refine st_append (n := ((ms ++ [m42])).length) (m := 1) (h := 100) Try.underlying23 Try.underlying23 ty44 rfl rfl rfl rfl (fun w1 sw => sw.own_rd (h := 75) rfl) (by decide) hmf2 hmc64 (by first | omega | (simp only [List.length_append, List.length_cons, List.length_nil]; omega)) (by decide) hmo64 rfl rfl (fun v76 => ?_)
                  refine at_heq (i := 100) (v' := .own (v76) 44 35 (Qm.mflat ((ms ++ [m42]) ++ [m64]))) rfl (by rw [Qm.mflat_snoc]) ?_
                  refine at_own_shape (h := 100) rfl (fun hs76 => ?_)
                  refine op_nil ?_
                  refine ax_then ?_
                  refine mxp (i := 10) rfl (by decide +kernel) (by decide +kernel) (by decide +kernel) rfl (fun w0 => ev_fieldAddr (b := _) Try.underlying25 (f := _) rfl ty23 (by decide) rfl) rfl rfl (fun w sw => CF.cons (lies_blk (sw.blk_eq (h := 23) rfl)) (CF.cons (lies_blk (sw.blk_eq (h := 12) rfl)) (sw.cf (.cons rfl (.nil _))))) ?_
                  refine mxp_one (i := 11) (by decide +kernel) (fun w sw => CF.cons (lies_blk (sw.blk_eq (h := 23) rfl)) (CF.cons (lies_blk (sw.blk_eq (h := 12) rfl)) (sw.cf (.cons rfl (.nil _))))) ?_
                  refine wo (i := 11) rfl ?_
                  refine st_store1 8 ty23 rfl rfl rfl hs76.2 (show 1 < 2 from by decide) rfl ?_
                  refine at_heq (i := 8) (v' := .blk (b8) (.cells ([pb, v76]).toArray 25)) rfl rfl ?_
                  refine at_rows_add (h := 152) (i := 200) (H' := [(6, _), (7, _), (8, _), (9, _), (12, _), (23, _), (24, _), (100, _), (101, _), (153, _)]) rfl rfl (.cons rfl (.cons rfl (.cons rfl (.cons rfl (.cons rfl (.cons rfl (.cons rfl (.cons rfl (.cons rfl (.cons rfl (.nil _))))))))))) rfl (fun hf3 => ?_)
                  refine at_rows_add (h := 153) (i := 200) (H' := [(6, _), (7, _), (8, _), (9, _), (12, _), (23, _), (24, _), (100, _), (101, _)]) rfl rfl (.cons rfl (.cons rfl (.cons rfl (.cons rfl (.cons rfl (.cons rfl (.cons rfl (.cons rfl (.cons rfl (.nil _)))))))))) rfl (fun hf4 => ?_)
                  refine op_nil ?_
                  refine ax_then ?_
                  refine mxp_done (by decide +kernel) (fun w sw => CF.cons (lies_blk (sw.blk_eq (h := 23) rfl)) (CF.cons (lies_blk (sw.blk_eq (h := 12) rfl)) (sw.cf (.cons rfl (.nil _))))) ?_
                  refine ax_block ?_
                  first | exact at_met ((v76, v31, ms ++ [m42] ++ [m64], ((vb64, 32, flat (path (Ky.leaves (Qm.sd i) 16) ((1 : Nat) : Int))) :: (va64, 32, flat (sign (Qm.sd i) (1 : Nat) body 36)) :: ((vb42, 32, flat (path (Ky.leaves (Qm.sd i) 16) ((0 : Nat) : Int))) :: (va42, 32, flat (sign (Qm.sd i) (0 : Nat) body 36)) :: R)))) (⟨by rw [Qm.expd, Qm.step, if_pos (show Qm.bit which i from hc38), if_pos ⟨hg57, by omega⟩]; simp [hms, hme42, hme64], by have := (hcov.snoc m42).snoc m64; rw [hm42, hm64] at this; rw [hm42, hm64]; exact this, (((hfr.cons hf1).cons hf2).cons hf3).cons hf4⟩) (.cons rfl (.cons rfl (.cons rfl (.cons rfl (.cons rfl (.cons rfl (.cons rfl (.cons rfl (.nil _))))))))) (.cons rfl (.cons rfl (.cons rfl (.cons rfl (.cons rfl (.cons rfl (.nil _))))))) (.cons rfl (.cons rfl (.nil _))) | exact at_met ((v54, v31, ms ++ [m42], ((vb42, 32, flat (path (Ky.leaves (Qm.sd i) 16) ((0 : Nat) : Int))) :: (va42, 32, flat (sign (Qm.sd i) (0 : Nat) body 36)) :: R))) (⟨by rw [Qm.expd, Qm.step, if_pos (show Qm.bit which i from hc38), if_neg (fun hh => by first | (rw [hg57] at hh; cases hh.1; done) | exact hc60 (by omega))]; simp [hms, hme42], by have := hcov.snoc m42; rw [hm42] at this; rw [hm42]; exact this, (hfr.cons hf1).cons hf2⟩) (.cons rfl (.cons rfl (.cons rfl (.cons rfl (.cons rfl (.cons rfl (.cons rfl (.cons rfl (.nil _))))))))) (.cons rfl (.cons rfl (.cons rfl (.cons rfl (.cons rfl (.cons rfl (.nil _))))))) (.cons rfl (.cons rfl (.nil _))) | exact at_met ((mv, v31, ms, R)) (⟨by rw [Qm.expd, Qm.step, if_neg (show ¬ Qm.bit which i from hc38), List.append_nil]; exact hms, hcov, hfr⟩) (.cons rfl (.cons rfl (.cons rfl (.cons rfl (.cons rfl (.cons rfl (.cons rfl (.cons rfl (.nil _))))))))) (.cons rfl (.cons rfl (.cons rfl (.cons rfl (.cons rfl (.cons rfl (.nil _))))))) (.cons rfl (.cons rfl (.nil _)))
                ·
                  refine wo (i := 8) rfl ?_
                  refine st_bs1 (h := 75) Try.underlying23 ty44 rfl rfl hmc64 (by decide) (by decide) rfl rfl (fun b75 => ?_)
                  refine op_nil ?_
                  refine ax_then ?_
                  refine mxp_one (i := 1) (by decide +kernel) (fun w sw => CF.cons (lies_blk (sw.blk_eq (h := 23) rfl)) (CF.cons (lies_blk (sw.blk_eq (h := 12) rfl)) (sw.cf (.cons rfl (.nil _))))) ?_
                  refine wo (i := 1) rfl ?_
                  refine st (ld_blk1 (h := 8) ty23 rfl rfl rfl rfl) rfl rfl rfl ?_
                  refine op_nil ?_
                  refine ax_then ?_
                  refine mxp_one (i := 9) (by decide +kernel) (fun w sw => CF.cons (lies_blk (sw.blk_eq (h := 23) rfl)) (CF.cons (lies_blk (sw.blk_eq (h := 12) rfl)) (sw.cf (.cons rfl (.nil _))))) ?_
                  refine wo (i := 9) rfl ?_
                  refine st_append (n := ((ms ++ [m42])).length) (m := 1) (h := 100) Try.underlying23 Try.underlying23 ty44 rfl rfl rfl rfl (fun w1 sw => sw.own_rd (h := 75) rfl) (by decide) hmf2 hmc64 (by first | omega | (simp only [List.length_append, List.length_cons, List.length_nil]; omega)) (by decide) hmo64 rfl rfl (fun v76 => ?_)
                  refine at_heq (i := 100) (v' := .own (v76) 44 35 (Qm.mflat ((ms ++ [m42]) ++ [m64]))) rfl (by rw [Qm.mflat_snoc]) ?_
                  refine at_own_shape (h := 100) rfl (fun hs76 => ?_)
                  refine op_nil ?_
                  refine ax_then ?_
                  refine mxp (i := 10) rfl (by decide +kernel) (by decide +kernel) (by decide +kernel) rfl (fun w0 => ev_fieldAddr (b := _) Try.underlying25 (f := _) rfl ty23 (by decide) rfl) rfl rfl (fun w sw => CF.cons (lies_blk (sw.blk_eq (h := 23) rfl)) (CF.cons (lies_blk (sw.blk_eq (h := 12) rfl)) (sw.cf (.cons rfl (.nil _))))) ?_
                  refine mxp_one (i := 11) (by decide +kernel) (fun w sw => CF.cons (lies_blk (sw.blk_eq (h := 23) rfl)) (CF.cons (lies_blk (sw.blk_eq (h := 12) rfl)) (sw.cf (.cons rfl (.nil _))))) ?_
                  refine wo (i := 11) rfl ?_
                  refine st_store1 8 ty23 rfl rfl rfl hs76.2 (show 1 < 2 from by decide) rfl ?_
                  refine at_heq (i := 8) (v' := .blk (b8) (.cells ([pb, v76]).toArray 25)) rfl rfl ?_
                  refine at_rows_add (h := 152) (i := 200) (H' := [(6, _), (7, _), (8, _), (9, _), (12, _), (23, _), (24, _), (100, _), (101, _), (153, _)]) rfl rfl (.cons rfl (.cons rfl (.cons rfl (.cons rfl (.cons rfl (.cons rfl (.cons rfl (.cons rfl (.cons rfl (.cons rfl (.nil _))))))))))) rfl (fun hf3 => ?_)
                  refine at_rows_add (h := 153) (i := 200) (H' := [(6, _), (7, _), (8, _), (9, _), (12, _), (23, _), (24, _), (100, _), (101, _)]) rfl rfl (.cons rfl (.cons rfl (.cons rfl (.cons rfl (.cons rfl (.cons rfl (.cons rfl (.cons rfl (.cons rfl (.nil _)))))))))) rfl (fun hf4 => ?_)
                  refine op_nil ?_
                  refine ax_then ?_
                  refine mxp_done (by decide +kernel) (fun w sw => CF.cons (lies_blk (sw.blk_eq (h := 23) rfl)) (CF.cons (lies_blk (sw.blk_eq (h := 12) rfl)) (sw.cf (.cons rfl (.nil _))))) ?_
                  refine ax_block ?_
                  first | exact at_met ((v76, v31, ms ++ [m42] ++ [m64], ((vb64, 32, flat (path (Ky.leaves (Qm.sd i) 16) ((1 : Nat) : Int))) :: (va64, 32, flat (sign (Qm.sd i) (1 : Nat) body 36)) :: ((vb42, 32, flat (path (Ky.leaves (Qm.sd i) 16) ((0 : Nat) : Int))) :: (va42, 32, flat (sign (Qm.sd i) (0 : Nat) body 36)) :: R)))) (⟨by rw [Qm.expd, Qm.step, if_pos (show Qm.bit which i from hc38), if_pos ⟨hg57, by omega⟩]; simp [hms, hme42, hme64], by have := (hcov.snoc m42).snoc m64; rw [hm42, hm64] at this; rw [hm42, hm64]; exact this, (((hfr.cons hf1).cons hf2).cons hf3).cons hf4⟩) (.cons rfl (.cons rfl (.cons rfl (.cons rfl (.cons rfl (.cons rfl (.cons rfl (.cons rfl (.nil _))))))))) (.cons rfl (.cons rfl (.cons rfl (.cons rfl (.cons rfl (.cons rfl (.nil _))))))) (.cons rfl (.cons rfl (.nil _))) | exact at_met ((v54, v31, ms ++ [m42], ((vb42, 32, flat (path (Ky.leaves (Qm.sd i) 16) ((0 : Nat) : Int))) :: (va42, 32, flat (sign (Qm.sd i) (0 : Nat) body 36)) :: R))) (⟨by rw [Qm.expd, Qm.step, if_pos (show Qm.bit which i from hc38), if_neg (fun hh => by first | (rw [hg57] at hh; cases hh.1; done) | exact hc60 (by omega))]; simp [hms, hme42], by have := hcov.snoc m42; rw [hm42] at this; rw [hm42]; exact this, (hfr.cons hf1).cons hf2⟩) (.cons rfl (.cons rfl (.cons rfl (.cons rfl (.cons rfl (.cons rfl (.cons rfl (.cons rfl (.nil _))))))))) (.cons rfl (.cons rfl (.cons rfl (.cons rfl (.cons rfl (.cons rfl (.nil _))))))) (.cons rfl (.cons rfl (.nil _))) | exact at_met ((mv, v31, ms, R)) (⟨by rw [Qm.expd, Qm.step, if_neg (show ¬ Qm.bit which i from hc38), List.append_nil]; exact hms, hcov, hfr⟩) (.cons rfl (.cons rfl (.cons rfl (.cons rfl (.cons rfl (.cons rfl (.cons rfl (.cons rfl (.nil _))))))))) (.cons rfl (.cons rfl (.cons rfl (.cons rfl (.cons rfl (.cons rfl (.nil _))))))) (.cons rfl (.cons rfl (.nil _)))
              ·
                refine cd_skip ?_
                refine ax_block ?_
                first | exact at_met ((v76, v31, ms ++ [m42] ++ [m64], ((vb64, 32, flat (path (Ky.leaves (Qm.sd i) 16) ((1 : Nat) : Int))) :: (va64, 32, flat (sign (Qm.sd i) (1 : Nat) body 36)) :: ((vb42, 32, flat (path (Ky.leaves (Qm.sd i) 16) ((0 : Nat) : Int))) :: (va42, 32, flat (sign (Qm.sd i) (0 : Nat) body 36)) :: R)))) (⟨by rw [Qm.expd, Qm.step, if_pos (show Qm.bit which i from hc38), if_pos ⟨hg57, by omega⟩]; simp [hms, hme42, hme64], by have := (hcov.snoc m42).snoc m64; rw [hm42, hm64] at this; rw [hm42, hm64]; exact this, (((hfr.cons hf1).cons hf2).cons hf3).cons hf4⟩) (.cons rfl (.cons rfl (.cons rfl (.cons rfl (.cons rfl (.cons rfl (.cons rfl (.cons rfl (.nil _))))))))) (.cons rfl (.cons rfl (.cons rfl (.cons rfl (.cons rfl (.cons rfl (.nil _))))))) (.cons rfl (.cons rfl (.nil _))) | exact at_met ((v54, v31, ms ++ [m42], ((vb42, 32, flat (path (Ky.leaves (Qm.sd i) 16) ((0 : Nat) : Int))) :: (va42, 32, flat (sign (Qm.sd i) (0 : Nat) body 36)) :: R))) (⟨by rw [Qm.expd, Qm.step, if_pos (show Qm.bit which i from hc38), if_neg (fun hh => by first | (rw [hg57] at hh; cases hh.1; done) | exact hc60 (by omega))]; simp [hms, hme42], by have := hcov.snoc m42; rw [hm42] at this; rw [hm42]; exact this, (hfr.cons hf1).cons hf2⟩) (.cons rfl (.cons rfl (.cons rfl (.cons rfl (.cons rfl (.cons rfl (.cons rfl (.cons rfl (.nil _))))))))) (.cons rfl (.cons rfl (.cons rfl (.cons rfl (.cons rfl (.cons rfl (.nil _))))))) (.cons rfl (.cons rfl (.nil _))) | exact at_met ((mv, v31, ms, R)) (⟨by rw [Qm.expd, Qm.step, if_neg (show ¬ Qm.bit which i from hc38), List.append_nil]; exact hms, hcov, hfr⟩) (.cons rfl (.cons rfl (.cons rfl (.cons rfl (.cons rfl (.cons rfl (.cons rfl (.cons rfl (.nil _))))))))) (.cons rfl (.cons rfl (.cons rfl (.cons rfl (.cons rfl (.cons rfl (.nil _))))))) (.cons rfl (.cons rfl (.nil _)))
            ·
              refine st_skip rfl rfl rfl ?_
              refine st_skip rfl rfl rfl ?_
              refine st (ev_pick_f rfl rfl) rfl rfl rfl ?_
              refine op_nil ?_
              refine ax_then ?_
              refine At.regs (L' := [(0, _), (1, _), (2, _), (6, _), (7, _), (8, _), (9, _), (10, _), (11, _), (12, _), (16, _), (17, _), (20, _), (21, _), (22, _), (23, _), (24, _), (25, _), (26, _), (27, _), (28, _), (29, _), (30, _), (31, _), (32, _), (33, _), (34, _), (35, _), (36, _), (37, _), (38, _), (39, _), (40, _), (41, _), (42, _), (43, _), (44, _), (45, _), (46, _), (47, _), (48, _), (49, _), (50, _), (51, _), (52, _), (53, _), (54, _), (55, _), (56, _), (57, _), (58, _), (59, _), (60, _)]) (.cons rfl (.cons rfl (.cons rfl (.cons rfl (.cons rfl (.cons rfl (.cons rfl (.cons rfl (.cons rfl (.cons rfl (.cons rfl (.cons rfl (.cons rfl (.cons rfl (.cons rfl (.cons rfl (.cons rfl (.cons rfl (.cons rfl (.cons rfl (.cons rfl (.cons rfl (.cons rfl (.cons rfl (.cons rfl (.cons rfl (.cons rfl (.cons rfl (.cons rfl (.cons rfl (.cons rfl (.cons rfl (.cons rfl (.cons rfl (.cons rfl (.cons rfl (.cons rfl (.cons rfl (.cons rfl (.cons rfl (.cons rfl (.cons rfl (.cons rfl (.cons rfl (.cons rfl (.cons rfl (.cons rfl (.cons rfl (.cons rfl (.cons rfl (.cons rfl (.cons rfl (.cons rfl (.nil _)))))))))))))))))))))))))))))))))))))))))))))))))))))) ?_
              refine cd_false rfl ?_
              refine cd_skip ?_
              refine ax_block ?_
              first | exact at_met ((v76, v31, ms ++ [m42] ++ [m64], ((vb64, 32, flat (path (Ky.leaves (Qm.sd i) 16) ((1 : Nat) : Int))) :: (va64, 32, flat (sign (Qm.sd i) (1 : Nat) body 36)) :: ((vb42, 32, flat (path (Ky.leaves (Qm.sd i) 16) ((0 : Nat) : Int))) :: (va42, 32, flat (sign (Qm.sd i) (0 : Nat) body 36)) :: R)))) (⟨by rw [Qm.expd, Qm.step, if_pos (show Qm.bit which i from hc38), if_pos ⟨hg57, by omega⟩]; simp [hms, hme42, hme64], by have := (hcov.snoc m42).snoc m64; rw [hm42, hm64] at this; rw [hm42, hm64]; exact this, (((hfr.cons hf1).cons hf2).cons hf3).cons hf4⟩) (.cons rfl (.cons rfl (.cons rfl (.cons rfl (.cons rfl (.cons rfl (.cons rfl (.cons rfl (.nil _))))))))) (.cons rfl (.cons rfl (.cons rfl (.cons rfl (.cons rfl (.cons rfl (.nil _))))))) (.cons rfl (.cons rfl (.nil _))) | exact at_met ((v54, v31, ms ++ [m42], ((vb42, 32, flat (path (Ky.leaves (Qm.sd i) 16) ((0 : Nat) : Int))) :: (va42, 32, flat (sign (Qm.sd i) (0 : Nat) body 36)) :: R))) (⟨by rw [Qm.expd, Qm.step, if_pos (show Qm.bit which i from hc38), if_neg (fun hh => by first | (rw [hg57] at hh; cases hh.1; done) | exact hc60 (by omega))]; simp [hms, hme42], by have := hcov.snoc m42; rw [hm42] at this; rw [hm42]; exact this, (hfr.cons hf1).cons hf2⟩) (.cons rfl (.cons rfl (.cons rfl (.cons rfl (.cons rfl (.cons rfl (.cons rfl (.cons rfl (.nil _))))))))) (.cons rfl (.cons rfl (.cons rfl (.cons rfl (.cons rfl (.cons rfl (.nil _))))))) (.cons rfl (.cons rfl (.nil _))) | exact at_met ((mv, v31, ms, R)) (⟨by rw [Qm.expd, Qm.step, if_neg (show ¬ Qm.bit which i from hc38), List.append_nil]; exact hms, hcov, hfr⟩) (.cons rfl (.cons rfl (.cons rfl (.cons rfl (.cons rfl (.cons rfl (.cons rfl (.cons rfl (.nil _))))))))) (.cons rfl (.cons rfl (.cons rfl (.cons rfl (.cons rfl (.cons rfl (.nil _))))))) (.cons rfl (.cons rfl (.nil _)))
        ·
          refine cd_skip ?_
          refine ax_block ?_
          first | exact at_met ((v76, v31, ms ++ [m42] ++ [m64], ((vb64, 32, flat (path (Ky.leaves (Qm.sd i) 16) ((1 : Nat) : Int))) :: (va64, 32, flat (sign (Qm.sd i) (1 : Nat) body 36)) :: ((vb42, 32, flat (path (Ky.leaves (Qm.sd i) 16) ((0 : Nat) : Int))) :: (va42, 32, flat (sign (Qm.sd i) (0 : Nat) body 36)) :: R)))) (⟨by rw [Qm.expd, Qm.step, if_pos (show Qm.bit which i from hc38), if_pos ⟨hg57, by omega⟩]; simp [hms, hme42, hme64], by have := (hcov.snoc m42).snoc m64; rw [hm42, hm64] at this; rw [hm42, hm64]; exact this, (((hfr.cons hf1).cons hf2).cons hf3).cons hf4⟩) (.cons rfl (.cons rfl (.cons rfl (.cons rfl (.cons rfl (.cons rfl (.cons rfl (.cons rfl (.nil _))))))))) (.cons rfl (.cons rfl (.cons rfl (.cons rfl (.cons rfl (.cons rfl (.nil _))))))) (.cons rfl (.cons rfl (.nil _))) | exact at_met ((v54, v31, ms ++ [m42], ((vb42, 32, flat (path (Ky.leaves (Qm.sd i) 16) ((0 : Nat) : Int))) :: (va42, 32, flat (sign (Qm.sd i) (0 : Nat) body 36)) :: R))) (⟨by rw [Qm.expd, Qm.step, if_pos (show Qm.bit which i from hc38), if_neg (fun hh => by first | (rw [hg57] at hh; cases hh.1; done) | exact hc60 (by omega))]; simp [hms, hme42], by have := hcov.snoc m42; rw [hm42] at this; rw [hm42]; exact this, (hfr.cons hf1).cons hf2⟩) (.cons rfl (.cons rfl (.cons rfl (.cons rfl (.cons rfl (.cons rfl (.cons rfl (.cons rfl (.nil _))))))))) (.cons rfl (.cons rfl (.cons rfl (.cons rfl (.cons rfl (.cons rfl (.nil _))))))) (.cons rfl (.cons rfl (.nil _))) | exact at_met ((mv, v31, ms, R)) (⟨by rw [Qm.expd, Qm.step, if_neg (show ¬ Qm.bit which i from hc38), List.append_nil]; exact hms, hcov, hfr⟩) (.cons rfl (.cons rfl (.cons rfl (.cons rfl (.cons rfl (.cons rfl (.cons rfl (.cons rfl (.nil _))))))))) (.cons rfl (.cons rfl (.cons rfl (.cons rfl (.cons rfl (.cons rfl (.nil _))))))) (.cons rfl (.cons rfl (.nil _)))
    ·
      refine cd_region ?_
      refine st (ev_move rfl) rfl rfl rfl ?_
      refine st (ev_add64 rfl rfl (by omega) (by omega)) rfl rfl rfl ?_
      refine st (ev_assign rfl) rfl rfl rfl ?_
      refine op_nil ?_
      exact at_again ((i + 1, y.1, y.2.1, y.2.2.1, y.2.2.2)) (⟨by show i + 1 ≤ 3; omega, hj⟩) (by omega) (.cons rfl (.cons rfl (.cons rfl (.cons rfl (.cons rfl (.cons rfl (.cons rfl (.cons rfl (.nil _))))))))) (.cons rfl (.cons rfl (.cons rfl (.cons rfl (.cons rfl (.cons rfl (.nil _))))))) (.cons rfl (.cons rfl (.nil _)))
  ·
    obtain rfl : i = 3 := by omega
    refine cd_exit ?_
    refine ax_then_exit ?_
    refine ax_then_exit ?_
    refine ax_block_hit ?_
    refine ax_then ?_
    refine At.regs (L' := [(6, _), (7, _), (8, _), (9, _)]) (.cons rfl (.cons rfl (.cons rfl (.cons rfl (.nil _))))) ?_
    refine cd_seq ?_
    refine at_own_shape (h := 100) rfl (fun hsm => ?_)
    refine at_own_shape (h := 101) rfl (fun hsk => ?_)
    refine at_freeze_blk (h := 8) (H' := [(6, _), (7, _), (9, _), (100, _), (101, _)]) 8 rfl (.cons rfl (.cons rfl (.cons rfl (.cons rfl (.cons rfl (.nil _)))))) rfl ?_
    refine at_freeze_blk (h := 9) (H' := [(6, _), (7, _), (100, _), (101, _)]) 9 rfl (.cons rfl (.cons rfl (.cons rfl (.cons rfl (.nil _))))) rfl ?_
    refine cd_mix hmix ?_
    refine mx (i := 0) rfl (by decide +kernel) (by decide +kernel) (by decide +kernel) rfl (fun w0 => ld_mem_all (h := 8) ty25 rfl rfl rfl (by first | omega | (simp only [List.length_append, List.length_cons, List.length_nil, List.length_set, List.length_replicate, List.length_take, List.length_drop, ints_length, wr_length, sha_len, node_len, recov_len, Ky.named_len, Ky.keyPub_len] <;> omega) | rfl)) rfl rfl (Sub.refl _) ?_
    refine mx (i := 1) rfl (by decide +kernel) (by decide +kernel) (by decide +kernel) rfl (fun w0 => ld_mem_all (h := 9) ty28 rfl rfl rfl (by first | omega | (simp only [List.length_append, List.length_cons, List.length_nil, List.length_set, List.length_replicate, List.length_take, List.length_drop, ints_length, wr_length, sha_len, node_len, recov_len, Ky.named_len, Ky.keyPub_len] <;> omega) | rfl)) rfl rfl (Sub.refl _) ?_
    refine mx_one (i := 2) (by decide +kernel) (Sub.refl _) ?_
    refine wo (i := 2) rfl ?_
    refine st_store_all 6 ty25 rfl rfl rfl rfl rfl (by intro u hu; simp at hu; rcases hu with rfl | rfl; exact hsb.2; exact hsm.2) rfl rfl ?_
    refine op_nil ?_
    refine ax_then ?_
    refine mx_one (i := 3) (by decide +kernel) (Sub.refl _) ?_
    refine wo (i := 3) rfl ?_
    refine st_store_all 7 ty28 rfl rfl rfl rfl rfl (by intro u hu; simp at hu; rcases hu with rfl | rfl; exact hsk.2; rfl) rfl rfl ?_
    refine op_nil ?_
    refine ax_then ?_
    refine mx_done (by decide +kernel) (Sub.refl _) ?_
    refine ax_then ?_
    refine At.regs (L' := [(6, _), (7, _)]) (.cons rfl (.cons rfl (.nil _))) ?_
    refine cd_ret ?_
    refine rt_cell2 (h0 := 6) (h1 := 7) (.inl rfl) Try.results24 ty25 rfl ty28 rfl rfl rfl rfl rfl rfl rfl ?_
    exact fun w1 sw => ⟨(mv, kv, ms, R), ⟨hms, hcov⟩, rfl, (sw.gives (N := [(100, _), (101, _)]) (.cons rfl (.cons rfl (.nil _)))).rn2 (by decide) 0 1, fun y hy => ⟨sw.rd 200 _ rfl y hy, hfr y hy⟩, fun h e hh b hb => by
      rcases lk_two hh with ⟨rfl, rfl⟩ | ⟨rfl, _, rfl⟩
      · exact sw.off 200 _ 100 _ rfl rfl b hb
      · exact sw.off 200 _ 101 _ rfl rfl b hb⟩

end Go.Proofs.Yteedclmcgifmpaa

/- Walks: the laws of chapter 5. -/
import Derived.Test.YteedclmcgifmpaaO3
import Derived.Test.YteedclmcgifmpaaK3
namespace Go.Proofs.Yteedclmcgifmpaa
open Go Go.RowKit Fw
open Sha
open Ots
open Mk
set_option linter.unusedVariables false
set_option linter.unusedSimpArgs false

theorem enc_head {l : Int} {cs ps : List (List Int)} {x t : List Int} {c : Int} (h : [] ++ Ky.enc l cs ps ++ x = c :: t) : c = l := by
  simp only [Ky.enc, List.nil_append, List.cons_append] at h
  exact (List.cons.inj h).1.symm
theorem enc_take {l : Int} {cs ps : List (List Int)} {k : Nat} {t : List Int} {c : Int} (h : (Ky.enc l cs ps).take k = c :: t) : c = l := by
  cases k with
  | zero => simp at h
  | succ k =>
    simp only [Ky.enc, List.cons_append, List.nil_append, List.take_succ_cons] at h
    exact (List.cons.inj h).1.symm
theorem enc_hd {l : Int} {cs ps : List (List Int)} {t : List Int} {c : Int} (h : Ky.enc l cs ps = c :: t) : c = l := by
  simp only [Ky.enc, List.cons_append, List.nil_append] at h
  exact (List.cons.inj h).1.symm
theorem enc_back {l : Int} {cs ps : List (List Int)} (hu : H32 cs) (hu' : H32 ps) (h1 : cs.length = 36) (h2 : ps.length = 4) : Ky.numN (Ky.enc l cs ps) = l ∧ Ky.hashS (Ky.enc l cs ps).tail 36 = cs ∧ Ky.hashS (Ky.restS (Ky.enc l cs ps).tail 36) 4 = ps := by
  have e : (Ky.enc l cs ps).tail = cs.flatten ++ ps.flatten := by simp [Ky.enc]
  have k1 := Ky.hashS_cat cs hu ps.flatten
  have k2 := Ky.hashS_cat ps hu' []
  rw [h1] at k1
  rw [h2, List.append_nil] at k2
  rw [e, k1.1, k1.2, k2.2]
  exact ⟨by simp [Ky.enc, Ky.numN], rfl, rfl⟩
theorem xor_one : ∀ x : Nat, x < 256 → ixor .u8 (x : Int) 1 ≠ (x : Int) := by decide +kernel
theorem other_ne (s : List Int) : (Ky.keyPub s).set 0 (ixor .u8 ((Ky.keyPub s).getD 0 0) 1) ≠ Ky.keyPub s := by
  intro h
  have hb := (sha_byt ([4] ++ root (Ky.leaves s 16))).get (i := 0)
  have hl := Ky.keyPub_len s
  have h1 := congrArg (fun x => x.getD 0 0) h
  simp only [List.getD_eq_getElem?_getD] at h1
  rw [List.getElem?_set_self (by omega)] at h1
  have hb2 : 0 ≤ (Ky.keyPub s).getD 0 0 ∧ (Ky.keyPub s).getD 0 0 ≤ 255 := hb
  rw [List.getD_eq_getElem?_getD] at hb2
  obtain ⟨x, hx⟩ := Int.eq_ofNat_of_zero_le hb2.1
  have := xor_one x (by omega)
  rw [← hx] at this
  exact this (by simpa [List.getD_eq_getElem?_getD] using h1)
theorem not_other (s m : List Int) (n : Nat) (hn : n < 16) : ¬ Ky.verP ((Ky.keyPub s).set 0 (ixor .u8 ((Ky.keyPub s).getD 0 0) 1)) m n (sign s n m 36) (path (Ky.leaves s 16) n) := by
  intro h
  have h1 := (Ky.ver_sign s m hn).2
  rw [h.2] at h1
  exact other_ne s h1

set_option maxRecDepth 20000 in
set_option maxHeartbeats 4000000 in
theorem keyCut_any (s : List Int) (q p : Value) (m mm : List Int) (cut : Int) (w : World) (hl : s.length = 32) (hm0 : m.length ≤ 140737488351232) (hm1 : mm.length ≤ 140737488351232) (h : Rd w q 1 (ints .u8 m)) (h' : Rd w p 1 (ints .u8 mm)) : Calls Try.prog 13 #[.agg (ints .u8 (s)).toArray, q, .int .i64 cut, p] w (PostV w (.bool true)) := by
  refine calls_at (vs := [.agg (ints .u8 (s)).toArray, q, .int .i64 cut, p]) (X := []) (H := []) (F := [(3, .sl (p) 1 (ints .u8 (mm))), (1, .sl (q) 1 (ints .u8 (m)))]) 82 Try.func13 rfl rfl rfl ((Sat.rd0 1 h).more 3 h') ?_
  refine cd_seq ?_
  refine cd_region ?_
  refine st_box (h := 4) rfl rfl rfl rfl (fun b4 => ?_)
  refine st (ev_assign rfl) rfl rfl rfl ?_
  refine op_nil ?_
  refine ax_then ?_
  refine At.regs (L' := [(1, _), (2, _), (3, _), (4, _), (8, _)]) (.cons rfl (.cons rfl (.cons rfl (.cons rfl (.cons rfl (.nil _)))))) ?_
  refine cd_seq ?_
  refine cd_seq ?_
  refine cd_region ?_
  refine st (ev_move rfl) rfl rfl rfl ?_
  refine st (ev_len_rdi (h := 1) Try.underlying22 rfl rfl) rfl rfl rfl ?_
  refine st (ev_gtr rfl rfl) rfl rfl rfl ?_
  refine st (ev_move rfl) rfl rfl rfl ?_
  refine at_split_if (i := 21) rfl (fun hg21 => ?_) (fun hg21 => ?_)
  ·
    refine st_skip rfl rfl rfl ?_
    refine st_skip rfl rfl rfl ?_
    refine st_skip rfl rfl rfl ?_
    refine st (ev_pick_t rfl rfl) rfl rfl rfl ?_
    refine st (ev_move rfl) rfl rfl rfl ?_
    refine st_skip rfl rfl rfl ?_
    refine st_skip rfl rfl rfl ?_
    refine st_skip rfl rfl rfl ?_
    refine st (ev_pick_t rfl rfl) rfl rfl rfl ?_
    refine op_nil ?_
    refine ax_then ?_
    refine At.regs (L' := [(1, _), (2, _), (3, _), (4, _), (8, _), (30, _)]) (.cons rfl (.cons rfl (.cons rfl (.cons rfl (.cons rfl (.cons rfl (.nil _))))))) ?_
    refine cd_true rfl ?_
    refine cd_seq ?_
    refine cd_region ?_
    refine st (ev_assign rfl) rfl rfl rfl ?_
    refine op_nil ?_
    refine ax_then ?_
    refine At.regs (L' := [(1, _), (2, _), (3, _), (4, _), (8, _)]) (.cons rfl (.cons rfl (.cons rfl (.cons rfl (.cons rfl (.nil _)))))) ?_
    refine cd_ret ?_
    refine ax_then_ret ?_
    refine rt_tmp (.inl rfl) Try.results13 rfl ?_
    exact fun w1 sw => ⟨rfl, sw.gives (.nil _)⟩
  ·
    refine st (ev_move rfl) rfl rfl rfl ?_
    refine st (ev_len_rdi (h := 3) Try.underlying22 rfl rfl) rfl rfl rfl ?_
    refine st (ev_lss rfl rfl) rfl rfl rfl ?_
    refine st (ev_pick_f rfl rfl) rfl rfl rfl ?_
    refine st (ev_move rfl) rfl rfl rfl ?_
    refine at_split_if (i := 26) rfl (fun hg26 => ?_) (fun hg26 => ?_)
    ·
      refine st_skip rfl rfl rfl ?_
      refine st_skip rfl rfl rfl ?_
      refine st_skip rfl rfl rfl ?_
      refine st (ev_pick_t rfl rfl) rfl rfl rfl ?_
      refine op_nil ?_
      refine ax_then ?_
      refine At.regs (L' := [(1, _), (2, _), (3, _), (4, _), (8, _), (30, _)]) (.cons rfl (.cons rfl (.cons rfl (.cons rfl (.cons rfl (.cons rfl (.nil _))))))) ?_
      refine cd_true rfl ?_
      refine cd_seq ?_
      refine cd_region ?_
      refine st (ev_assign rfl) rfl rfl rfl ?_
      refine op_nil ?_
      refine ax_then ?_
      refine At.regs (L' := [(1, _), (2, _), (3, _), (4, _), (8, _)]) (.cons rfl (.cons rfl (.cons rfl (.cons rfl (.cons rfl (.nil _)))))) ?_
      refine cd_ret ?_
      refine ax_then_ret ?_
      refine rt_tmp (.inl rfl) Try.results13 rfl ?_
      exact fun w1 sw => ⟨rfl, sw.gives (.nil _)⟩
    ·
      refine st (ev_move rfl) rfl rfl rfl ?_
      refine st (ev_len_rdi (h := 3) Try.underlying22 rfl rfl) rfl rfl rfl ?_
      refine st (ev_gtr rfl rfl) rfl rfl rfl ?_
      refine st (ev_pick_f rfl rfl) rfl rfl rfl ?_
      refine op_nil ?_
      refine ax_then ?_
      refine At.regs (L' := [(1, _), (2, _), (3, _), (4, _), (8, _), (30, _)]) (.cons rfl (.cons rfl (.cons rfl (.cons rfl (.cons rfl (.cons rfl (.nil _))))))) ?_
      refine cd_if rfl (fun hc30 => ?_) (fun hc30 => ?_)
      ·
        refine cd_seq ?_
        refine cd_region ?_
        refine st (ev_assign rfl) rfl rfl rfl ?_
        refine op_nil ?_
        refine ax_then ?_
        refine At.regs (L' := [(1, _), (2, _), (3, _), (4, _), (8, _)]) (.cons rfl (.cons rfl (.cons rfl (.cons rfl (.cons rfl (.nil _)))))) ?_
        refine cd_ret ?_
        refine ax_then_ret ?_
        refine rt_tmp (.inl rfl) Try.results13 rfl ?_
        exact fun w1 sw => ⟨rfl, sw.gives (.nil _)⟩
      ·
        refine cd_skip ?_
        refine ax_then ?_
        refine At.regs (L' := [(1, _), (2, _), (3, _), (4, _), (8, _)]) (.cons rfl (.cons rfl (.cons rfl (.cons rfl (.cons rfl (.nil _)))))) ?_
        refine cd_seq ?_
        refine cd_region ?_
        refine st (ld_blk_all (h := 4) ty39 rfl rfl rfl (by first | omega | (simp only [List.length_append, List.length_cons, List.length_nil, List.length_set, List.length_replicate, List.length_take, List.length_drop, ints_length, wr_length, sha_len, node_len, recov_len, Ky.named_len, Ky.keyPub_len] <;> omega) | rfl)) rfl rfl rfl ?_
        refine st_call has26 rfl (fun w1 sw => rn2 32 33 (new_any s 3 w1 hl)) nil_all rfl rfl (fun x32 _ => ?_)
        obtain ⟨b32, lv32⟩ := x32
        dsimp only
        refine at_heq (i := 32) (v' := .blk (b32) (.cells (Ky.cells s lv32 (((3 : Nat) : Int))).toArray 81)) rfl (by rw [show Ky.clamp 3 = (((3 : Nat) : Int)) from rfl]) ?_
        refine st (ev_assign rfl) rfl rfl rfl ?_
        refine op_nil ?_
        refine ax_then ?_
        refine At.regs (L' := [(1, _), (2, _), (3, _), (8, _), (9, _)]) (.cons rfl (.cons rfl (.cons rfl (.cons rfl (.cons rfl (.nil _)))))) ?_
        refine cd_seq ?_
        refine cd_seq ?_
        refine cd_region ?_
        refine st (ev_move rfl) rfl rfl rfl ?_
        refine st (ev_eql_ptr_nil Try.underlying49 rfl rfl) rfl rfl rfl ?_
        refine op_nil ?_
        refine ax_then ?_
        refine At.regs (L' := [(1, _), (2, _), (3, _), (8, _), (9, _), (34, _)]) (.cons rfl (.cons rfl (.cons rfl (.cons rfl (.cons rfl (.cons rfl (.nil _))))))) ?_
        refine cd_false rfl ?_
        refine cd_skip ?_
        refine ax_then ?_
        refine At.regs (L' := [(1, _), (2, _), (3, _), (8, _), (9, _)]) (.cons rfl (.cons rfl (.cons rfl (.cons rfl (.cons rfl (.nil _)))))) ?_
        refine cd_seq ?_
        refine cd_region ?_
        refine st (ev_move rfl) rfl rfl rfl ?_
        refine st (ev_move rfl) rfl rfl rfl ?_
        refine st_call has29 rfl (fun w1 sw => rn3 32 150 151 (signk_any b32 lv32 q s m (3) w1 hl (by decide) (by omega) (sw.blk_eq (h := 32) rfl) (sw.own_rd (h := 33) rfl) (sw.own_off (h := 32) (h' := 33) rfl rfl (by decide)) (sw.sl_rd (h := 1) rfl) (sw.off 1 _ 32 _ rfl rfl _ (by simp [Ent.ids])))) (mod_blk3 rfl) rfl rfl (fun x38 _ => ?_)
        obtain ⟨va38, vb38⟩ := x38
        dsimp only
        refine at_own_shape (h := 150) rfl (fun hsa38 => ?_)
        refine at_own_shape (h := 151) rfl (fun hsb38 => ?_)
        have hsu38 := sign_h32 s ((3 : Nat)) m 36
        have hsn38 := sign_len s ((3 : Nat)) m 36
        have hpu38 := path_h32 _ (Ky.leaves s 16) ((3 : Nat)) (Nat.le_refl _) (Ky.leaves_h32 s 16)
        have hpn38 := (Ky.way_up s (n := 3) (by decide)).1
        refine st (ev_move rfl) rfl rfl rfl ?_
        refine st (ev_extract rfl rfl) rfl rfl rfl ?_
        refine st (ev_extract rfl rfl) rfl rfl rfl ?_
        refine st_alloc (h := 10) ty42 rfl rfl rfl (fun b10 => ?_)
        refine st_store_all 10 ty42 rfl rfl rfl rfl rfl (by intro u hu; simp at hu; rcases hu with rfl | rfl | rfl; rfl; exact hsa38.2; exact hsb38.2) rfl rfl ?_
        refine st (ev_assign rfl) rfl rfl rfl ?_
        refine op_nil ?_
        refine ax_then ?_
        refine At.regs (L' := [(2, _), (3, _), (8, _), (10, _)]) (.cons rfl (.cons rfl (.cons rfl (.cons rfl (.nil _))))) ?_
        refine cd_seq ?_
        have his : Ky.isSig ((3 : Nat) : Int) (sign s ((3 : Nat) : Int) m 36) (path (Ky.leaves s 16) ((3 : Nat) : Int)) := (Ky.ver_sign s m (n := 3) (by decide)).1
        have hel := Ky.enc_len (leaf := ((3 : Nat) : Int)) hsu38 hpu38
        refine cd_region ?_
        refine st (ld_blk_all (h := 10) ty42 rfl rfl rfl (by first | omega | (simp only [List.length_append, List.length_cons, List.length_nil, List.length_set, List.length_replicate, List.length_take, List.length_drop, ints_length, wr_length, sha_len, node_len, recov_len, Ky.named_len, Ky.keyPub_len] <;> omega) | rfl)) rfl rfl rfl ?_
        refine st_call has39 rfl (fun w1 sw => rn 43 (encode_any ((3 : Nat) : Int) va38 vb38 (sign s ((3 : Nat) : Int) m 36) (path (Ky.leaves s 16) ((3 : Nat) : Int)) w1 his hsu38 hpu38 (sw.own_rd (h := 150) rfl) (sw.own_rd (h := 151) rfl))) nil_all rfl rfl (fun v43 _ => ?_)
        refine st (ev_move rfl) rfl rfl rfl ?_
        refine st (ev_extract rfl rfl) rfl rfl rfl ?_
        refine st (ev_extract rfl rfl) rfl rfl rfl ?_
        refine st (ev_assign rfl) rfl rfl rfl ?_
        refine st (ev_assign rfl) rfl rfl rfl ?_
        refine op_nil ?_
        refine ax_then ?_
        refine At.regs (L' := [(2, _), (3, _), (8, _), (12, _), (13, _)]) (.cons rfl (.cons rfl (.cons rfl (.cons rfl (.cons rfl (.nil _)))))) ?_
        refine cd_seq ?_
        refine cd_seq ?_
        refine cd_region ?_
        refine st (ev_move rfl) rfl rfl rfl ?_
        refine st (ev_neq rfl rfl) rfl rfl rfl ?_
        refine st (ev_move rfl) rfl rfl rfl ?_
        refine at_eq (i := 48) (v' := .bool false) rfl (by rfl) ?_
        refine st (ev_move rfl) rfl rfl rfl ?_
        refine st (ev_len_owni (h := 43) Try.underlying22 rfl rfl) rfl rfl rfl ?_
        refine st (ev_eql rfl rfl) rfl rfl rfl ?_
        refine st (ev_pick_f rfl rfl) rfl rfl rfl ?_
        refine op_nil ?_
        refine ax_then ?_
        refine At.regs (L' := [(2, _), (3, _), (8, _), (12, _), (52, _)]) (.cons rfl (.cons rfl (.cons rfl (.cons rfl (.cons rfl (.nil _)))))) ?_
        refine cd_if_f rfl (by omega) ?_
        refine cd_skip ?_
        refine ax_then ?_
        refine At.regs (L' := [(2, _), (3, _), (8, _), (12, _)]) (.cons rfl (.cons rfl (.cons rfl (.cons rfl (.nil _))))) ?_
        refine cd_seq ?_
        refine cd_region ?_
        refine st_bsi (h := 54) (xs := []) Try.underlying22 ty5 (by decide) rfl rfl (by decide) rfl rfl (fun b54 => ?_)
        refine st (ev_move rfl) rfl rfl rfl ?_
        refine st_appendi (h := 54) Try.underlying22 Try.underlying22 ty5 rfl rfl rfl rfl (fun w1 sw => sw.own_rd (h := 43) rfl) (by first | omega | (simp only [List.length_append, List.length_cons, List.length_nil, List.length_set, List.length_replicate, List.length_take, List.length_drop, ints_length, wr_length, sha_len, node_len, recov_len, Ky.named_len, Ky.keyPub_len] <;> omega)) (by decide) rfl rfl (fun v56 => ?_)
        refine st (ev_move rfl) rfl rfl rfl ?_
        refine st_appendi (h := 54) Try.underlying22 Try.underlying22 ty5 rfl rfl rfl rfl (fun w1 sw => sw.sl_rd (h := 3) rfl) (by first | omega | (simp only [List.length_append, List.length_cons, List.length_nil, List.length_set, List.length_replicate, List.length_take, List.length_drop, ints_length, wr_length, sha_len, node_len, recov_len, Ky.named_len, Ky.keyPub_len] <;> omega)) (by decide) rfl rfl (fun v58 => ?_)
        refine st_callv has41 rfl (fun w1 sw => decode_bad v58 ([] ++ Ky.enc ((3 : Nat) : Int) (sign s ((3 : Nat) : Int) m 36) (path (Ky.leaves s 16) ((3 : Nat) : Int)) ++ mm) w1 (by simp only [List.length_append, List.length_nil]; omega) (fun c t hct => by rw [enc_head hct]; decide) (sw.own_rd (h := 54) rfl) (by simp only [List.length_append, List.length_nil]; omega)) rfl rfl ?_
        refine st (ev_move rfl) rfl rfl rfl ?_
        refine st (ev_extract rfl rfl) rfl rfl rfl ?_
        refine st (ev_extract rfl rfl) rfl rfl rfl ?_
        refine st_alloc (h := 14) ty42 rfl rfl rfl (fun b14 => ?_)
        refine st_store_all 14 ty42 rfl rfl rfl rfl (by first | omega | (simp only [List.length_append, List.length_cons, List.length_nil, List.length_set, List.length_replicate, List.length_take, List.length_drop, ints_length, wr_length, sha_len, node_len, recov_len, Ky.named_len, Ky.keyPub_len] <;> omega) | rfl) (by first | (intro u hu; simp at hu; rcases hu with rfl | rfl <;> rfl) | (simp [Value.oneCell'])) (by first | omega | (simp only [List.length_append, List.length_cons, List.length_nil, List.length_set, List.length_replicate, List.length_take, List.length_drop, ints_length, wr_length, sha_len, node_len, recov_len, Ky.named_len, Ky.keyPub_len] <;> omega) | rfl) rfl ?_
        refine st (ev_assign rfl) rfl rfl rfl ?_
        refine op_nil ?_
        refine ax_then ?_
        refine At.regs (L' := [(2, _), (8, _), (12, _), (15, _)]) (.cons rfl (.cons rfl (.cons rfl (.cons rfl (.nil _))))) ?_
        refine cd_seq ?_
        refine cd_region ?_
        refine st (ev_move rfl) rfl rfl rfl ?_
        refine st (ev_move rfl) rfl rfl rfl ?_
        refine st (ev_and rfl rfl) rfl rfl rfl ?_
        have hmk := mask_range cut (m := 65535) (by decide) (by decide)
        refine st (ev_move rfl) rfl rfl rfl ?_
        refine st (ev_len_owni (h := 43) Try.underlying22 rfl rfl) rfl rfl rfl ?_
        refine st (ev_rem64 rfl rfl (by omega) (by omega)) rfl rfl rfl ?_
        obtain ⟨k, hk⟩ : ∃ k : Nat, iand .i64 cut 65535 % ((Ky.enc ((3 : Nat) : Int) (sign s ((3 : Nat) : Int) m 36) (path (Ky.leaves s 16) ((3 : Nat) : Int))).length : Int) = (k : Int) := ⟨_, (Int.toNat_of_nonneg (Int.emod_nonneg _ (by omega))).symm⟩
        have hk2 : k < (Ky.enc ((3 : Nat) : Int) (sign s ((3 : Nat) : Int) m 36) (path (Ky.leaves s 16) ((3 : Nat) : Int))).length := by have := Int.emod_lt_of_pos (iand .i64 cut 65535) (b := ((Ky.enc ((3 : Nat) : Int) (sign s ((3 : Nat) : Int) m 36) (path (Ky.leaves s 16) ((3 : Nat) : Int))).length : Int)) (by omega); omega
        refine at_eq (i := 68) (v' := .int .i64 (k : Int)) rfl (by rw [hk]) ?_
        refine st (ev_slicei_hi Try.underlying22 ty5 rfl rfl (fun w1 sw => sw.own_rd (h := 43) rfl) (by omega) (by first | omega | (simp only [List.length_append, List.length_cons, List.length_nil, List.length_set, List.length_replicate, List.length_take, List.length_drop, ints_length, wr_length, sha_len, node_len, recov_len, Ky.named_len, Ky.keyPub_len] <;> omega))) rfl rfl rfl ?_
        refine at_eq (i := 69) (v' := cutAt 1 v43 0 k) rfl (by rw [Int.toNat_natCast]; rfl) ?_
        refine st_callv has41 rfl (fun w1 sw => decode_bad (cutAt 1 v43 0 k) ((Ky.enc ((3 : Nat) : Int) (sign s ((3 : Nat) : Int) m 36) (path (Ky.leaves s 16) ((3 : Nat) : Int))).take k) w1 (by rw [List.length_take]; omega) (fun c t hct => by rw [enc_take hct]; decide) (by have := (sw.own_rd (h := 43) rfl).cuti (lo := 0) (hi := k) (by omega) (by omega); simpa using this) (by rw [List.length_take]; omega)) rfl rfl ?_
        refine st (ev_move rfl) rfl rfl rfl ?_
        refine st (ev_extract rfl rfl) rfl rfl rfl ?_
        refine st (ev_extract rfl rfl) rfl rfl rfl ?_
        refine st_alloc (h := 16) ty42 rfl rfl rfl (fun b16 => ?_)
        refine st_store_all 16 ty42 rfl rfl rfl rfl (by first | omega | (simp only [List.length_append, List.length_cons, List.length_nil, List.length_set, List.length_replicate, List.length_take, List.length_drop, ints_length, wr_length, sha_len, node_len, recov_len, Ky.named_len, Ky.keyPub_len] <;> omega) | rfl) (by first | (intro u hu; simp at hu; rcases hu with rfl | rfl <;> rfl) | (simp [Value.oneCell'])) (by first | omega | (simp only [List.length_append, List.length_cons, List.length_nil, List.length_set, List.length_replicate, List.length_take, List.length_drop, ints_length, wr_length, sha_len, node_len, recov_len, Ky.named_len, Ky.keyPub_len] <;> omega) | rfl) rfl ?_
        refine st (ev_assign rfl) rfl rfl rfl ?_
        refine op_nil ?_
        refine ax_then ?_
        refine At.regs (L' := [(8, _), (15, _), (17, _)]) (.cons rfl (.cons rfl (.cons rfl (.nil _)))) ?_
        refine cd_seq ?_
        refine cd_region ?_
        refine st (ev_move rfl) rfl rfl rfl ?_
        refine st (ev_eql rfl rfl) rfl rfl rfl ?_
        refine st (ev_move rfl) rfl rfl rfl ?_
        refine at_eq (i := 75) (v' := .bool true) rfl (by rfl) ?_
        refine st (ev_move rfl) rfl rfl rfl ?_
        refine st (ev_eql rfl rfl) rfl rfl rfl ?_
        refine st (ev_pick_t rfl rfl) rfl rfl rfl ?_
        refine st (ev_move rfl) rfl rfl rfl ?_
        refine at_eq (i := 79) (v' := .bool true) rfl (by rfl) ?_
        refine st_callv has33 rfl (fun w1 sw => known5_any w1) rfl rfl ?_
        refine st (ev_pick_t rfl rfl) rfl rfl rfl ?_
        refine st (ev_assign rfl) rfl rfl rfl ?_
        refine op_nil ?_
        refine ax_then ?_
        refine At.regs (L' := [(8, _)]) (.cons rfl (.nil _)) ?_
        refine cd_ret ?_
        refine rt_tmp (.inl rfl) Try.results13 rfl ?_
        exact fun w1 sw => ⟨rfl, sw.gives (.nil _)⟩

set_option maxRecDepth 20000 in
set_option maxHeartbeats 4000000 in
theorem keyBack_any (s : List Int) (us : Int) (q p : Value) (m n : List Int) (w : World) (hl : s.length = 32) (hm0 : m.length ≤ 140737488351232) (hm1 : n.length ≤ 140737488351232) (h : Rd w q 1 (ints .u8 m)) (h' : Rd w p 1 (ints .u8 n)) : Calls Try.prog 14 #[.agg (ints .u8 (s)).toArray, .int .i64 us, q, p] w (PostV w (.bool true)) := by
  refine calls_at (vs := [.agg (ints .u8 (s)).toArray, .int .i64 us, q, p]) (X := []) (H := []) (F := [(3, .sl (p) 1 (ints .u8 (n))), (2, .sl (q) 1 (ints .u8 (m)))]) 122 Try.func14 rfl rfl rfl ((Sat.rd0 2 h).more 3 h') ?_
  refine cd_seq ?_
  refine cd_region ?_
  refine st_box (h := 4) rfl rfl rfl rfl (fun b4 => ?_)
  refine st (ev_assign rfl) rfl rfl rfl ?_
  refine op_nil ?_
  refine ax_then ?_
  refine At.regs (L' := [(1, _), (2, _), (3, _), (4, _), (8, _)]) (.cons rfl (.cons rfl (.cons rfl (.cons rfl (.cons rfl (.nil _)))))) ?_
  refine cd_seq ?_
  refine cd_seq ?_
  refine cd_region ?_
  refine st (ev_move rfl) rfl rfl rfl ?_
  refine st (ev_len_rdi (h := 2) Try.underlying22 rfl rfl) rfl rfl rfl ?_
  refine st (ev_move rfl) rfl rfl rfl ?_
  refine st (ev_len_rdi (h := 3) Try.underlying22 rfl rfl) rfl rfl rfl ?_
  refine st (ev_add64 rfl rfl (by omega) (by omega)) rfl rfl rfl ?_
  refine st (ev_gtr rfl rfl) rfl rfl rfl ?_
  refine st (ev_move rfl) rfl rfl rfl ?_
  refine at_split_if (i := 26) rfl (fun hg26 => ?_) (fun hg26 => ?_)
  ·
    refine st_skip rfl rfl rfl ?_
    refine st_skip rfl rfl rfl ?_
    refine st (ev_pick_t rfl rfl) rfl rfl rfl ?_
    refine st (ev_move rfl) rfl rfl rfl ?_
    refine st_skip rfl rfl rfl ?_
    refine st_skip rfl rfl rfl ?_
    refine st (ev_pick_t rfl rfl) rfl rfl rfl ?_
    refine op_nil ?_
    refine ax_then ?_
    refine At.regs (L' := [(1, _), (2, _), (3, _), (4, _), (8, _), (33, _)]) (.cons rfl (.cons rfl (.cons rfl (.cons rfl (.cons rfl (.cons rfl (.nil _))))))) ?_
    refine cd_true rfl ?_
    refine cd_seq ?_
    refine cd_region ?_
    refine st (ev_assign rfl) rfl rfl rfl ?_
    refine op_nil ?_
    refine ax_then ?_
    refine At.regs (L' := [(1, _), (2, _), (3, _), (4, _), (8, _)]) (.cons rfl (.cons rfl (.cons rfl (.cons rfl (.cons rfl (.nil _)))))) ?_
    refine cd_ret ?_
    refine ax_then_ret ?_
    refine rt_tmp (.inl rfl) Try.results14 rfl ?_
    exact fun w1 sw => ⟨rfl, sw.gives (.nil _)⟩
  ·
    refine st (ev_move rfl) rfl rfl rfl ?_
    refine st (ev_lss rfl rfl) rfl rfl rfl ?_
    refine st (ev_pick_f rfl rfl) rfl rfl rfl ?_
    refine st (ev_move rfl) rfl rfl rfl ?_
    refine at_split_if (i := 30) rfl (fun hg30 => ?_) (fun hg30 => ?_)
    ·
      refine st_skip rfl rfl rfl ?_
      refine st_skip rfl rfl rfl ?_
      refine st (ev_pick_t rfl rfl) rfl rfl rfl ?_
      refine op_nil ?_
      refine ax_then ?_
      refine At.regs (L' := [(1, _), (2, _), (3, _), (4, _), (8, _), (33, _)]) (.cons rfl (.cons rfl (.cons rfl (.cons rfl (.cons rfl (.cons rfl (.nil _))))))) ?_
      refine cd_true rfl ?_
      refine cd_seq ?_
      refine cd_region ?_
      refine st (ev_assign rfl) rfl rfl rfl ?_
      refine op_nil ?_
      refine ax_then ?_
      refine At.regs (L' := [(1, _), (2, _), (3, _), (4, _), (8, _)]) (.cons rfl (.cons rfl (.cons rfl (.cons rfl (.cons rfl (.nil _)))))) ?_
      refine cd_ret ?_
      refine ax_then_ret ?_
      refine rt_tmp (.inl rfl) Try.results14 rfl ?_
      exact fun w1 sw => ⟨rfl, sw.gives (.nil _)⟩
    ·
      refine st (ev_move rfl) rfl rfl rfl ?_
      refine st (ev_gtr rfl rfl) rfl rfl rfl ?_
      refine st (ev_pick_f rfl rfl) rfl rfl rfl ?_
      refine op_nil ?_
      refine ax_then ?_
      refine At.regs (L' := [(1, _), (2, _), (3, _), (4, _), (8, _), (33, _)]) (.cons rfl (.cons rfl (.cons rfl (.cons rfl (.cons rfl (.cons rfl (.nil _))))))) ?_
      refine cd_if rfl (fun hc33 => ?_) (fun hc33 => ?_)
      ·
        refine cd_seq ?_
        refine cd_region ?_
        refine st (ev_assign rfl) rfl rfl rfl ?_
        refine op_nil ?_
        refine ax_then ?_
        refine At.regs (L' := [(1, _), (2, _), (3, _), (4, _), (8, _)]) (.cons rfl (.cons rfl (.cons rfl (.cons rfl (.cons rfl (.nil _)))))) ?_
        refine cd_ret ?_
        refine ax_then_ret ?_
        refine rt_tmp (.inl rfl) Try.results14 rfl ?_
        exact fun w1 sw => ⟨rfl, sw.gives (.nil _)⟩
      ·
        refine cd_skip ?_
        refine ax_then ?_
        refine At.regs (L' := [(1, _), (2, _), (3, _), (4, _), (8, _)]) (.cons rfl (.cons rfl (.cons rfl (.cons rfl (.cons rfl (.nil _)))))) ?_
        refine cd_seq ?_
        refine cd_region ?_
        refine st (ld_blk_all (h := 4) ty39 rfl rfl rfl (by first | omega | (simp only [List.length_append, List.length_cons, List.length_nil, List.length_set, List.length_replicate, List.length_take, List.length_drop, ints_length, wr_length, sha_len, node_len, recov_len, Ky.named_len, Ky.keyPub_len] <;> omega) | rfl)) rfl rfl rfl ?_
        refine st (ev_move rfl) rfl rfl rfl ?_
        refine st_call has26 rfl (fun w1 sw => rn2 36 37 (new_any s us w1 hl)) nil_all rfl rfl (fun x36 _ => ?_)
        obtain ⟨b36, lv36⟩ := x36
        dsimp only
        obtain ⟨u, rfl⟩ := Int.eq_ofNat_of_zero_le (show 0 ≤ us by omega)
        refine at_heq (i := 36) (v' := .blk (b36) (.cells (Ky.cells s lv36 ((u : Int))).toArray 81)) rfl (by rw [show Ky.clamp (u : Int) = ((u : Int)) from (by unfold Ky.clamp; omega)]) ?_
        refine st (ev_assign rfl) rfl rfl rfl ?_
        refine op_nil ?_
        refine ax_then ?_
        refine At.regs (L' := [(2, _), (3, _), (8, _), (9, _)]) (.cons rfl (.cons rfl (.cons rfl (.cons rfl (.nil _))))) ?_
        refine cd_seq ?_
        refine cd_seq ?_
        refine cd_region ?_
        refine st (ev_move rfl) rfl rfl rfl ?_
        refine st (ev_eql_ptr_nil Try.underlying49 rfl rfl) rfl rfl rfl ?_
        refine op_nil ?_
        refine ax_then ?_
        refine At.regs (L' := [(2, _), (3, _), (8, _), (9, _), (38, _)]) (.cons rfl (.cons rfl (.cons rfl (.cons rfl (.cons rfl (.nil _)))))) ?_
        refine cd_false rfl ?_
        refine cd_skip ?_
        refine ax_then ?_
        refine At.regs (L' := [(2, _), (3, _), (8, _), (9, _)]) (.cons rfl (.cons rfl (.cons rfl (.cons rfl (.nil _))))) ?_
        refine cd_seq ?_
        refine cd_region ?_
        refine st (ev_move rfl) rfl rfl rfl ?_
        refine st (ev_move rfl) rfl rfl rfl ?_
        refine st_call has29 rfl (fun w1 sw => rn3 36 150 151 (signk_any b36 lv36 q s m (u) w1 hl (by omega) (by omega) (sw.blk_eq (h := 36) rfl) (sw.own_rd (h := 37) rfl) (sw.own_off (h := 36) (h' := 37) rfl rfl (by decide)) (sw.sl_rd (h := 2) rfl) (sw.off 2 _ 36 _ rfl rfl _ (by simp [Ent.ids])))) (mod_blk3 rfl) rfl rfl (fun x42 _ => ?_)
        obtain ⟨va42, vb42⟩ := x42
        dsimp only
        refine at_own_shape (h := 150) rfl (fun hsa42 => ?_)
        refine at_own_shape (h := 151) rfl (fun hsb42 => ?_)
        have hsu42 := sign_h32 s ((u : Nat)) m 36
        have hsn42 := sign_len s ((u : Nat)) m 36
        have hpu42 := path_h32 _ (Ky.leaves s 16) ((u : Nat)) (Nat.le_refl _) (Ky.leaves_h32 s 16)
        have hpn42 := (Ky.way_up s (n := u) (by omega)).1
        refine st (ev_move rfl) rfl rfl rfl ?_
        refine st (ev_extract rfl rfl) rfl rfl rfl ?_
        refine st (ev_extract rfl rfl) rfl rfl rfl ?_
        refine st_alloc (h := 10) ty42 rfl rfl rfl (fun b10 => ?_)
        refine st_store_all 10 ty42 rfl rfl rfl rfl rfl (by intro u hu; simp at hu; rcases hu with rfl | rfl | rfl; rfl; exact hsa42.2; exact hsb42.2) rfl rfl ?_
        refine st (ev_assign rfl) rfl rfl rfl ?_
        refine op_nil ?_
        refine ax_then ?_
        refine At.regs (L' := [(2, _), (3, _), (8, _), (9, _), (10, _), (11, _)]) (.cons rfl (.cons rfl (.cons rfl (.cons rfl (.cons rfl (.cons rfl (.nil _))))))) ?_
        refine cd_seq ?_
        refine cd_region ?_
        refine st (ev_move rfl) rfl rfl rfl ?_
        refine st (ev_move rfl) rfl rfl rfl ?_
        refine st_call has29 rfl (fun w1 sw => rn3 36 152 153 (signk_any b36 lv36 p s n (u + 1) w1 hl (by omega) (by omega) (sw.blk_eq (h := 36) rfl) (sw.own_rd (h := 37) rfl) (sw.own_off (h := 36) (h' := 37) rfl rfl (by decide)) (sw.sl_rd (h := 3) rfl) (sw.off 3 _ 36 _ rfl rfl _ (by simp [Ent.ids])))) (mod_blk3 rfl) rfl rfl (fun x48 _ => ?_)
        obtain ⟨va48, vb48⟩ := x48
        dsimp only
        refine at_own_shape (h := 152) rfl (fun hsa48 => ?_)
        refine at_own_shape (h := 153) rfl (fun hsb48 => ?_)
        have hsu48 := sign_h32 s ((u + 1 : Nat)) n 36
        have hsn48 := sign_len s ((u + 1 : Nat)) n 36
        have hpu48 := path_h32 _ (Ky.leaves s 16) ((u + 1 : Nat)) (Nat.le_refl _) (Ky.leaves_h32 s 16)
        have hpn48 := (Ky.way_up s (n := u + 1) (by omega)).1
        refine st (ev_move rfl) rfl rfl rfl ?_
        refine st (ev_extract rfl rfl) rfl rfl rfl ?_
        refine st (ev_extract rfl rfl) rfl rfl rfl ?_
        refine st_alloc (h := 12) ty42 rfl rfl rfl (fun b12 => ?_)
        refine st_store_all 12 ty42 rfl rfl rfl rfl rfl (by intro u hu; simp at hu; rcases hu with rfl | rfl | rfl; rfl; exact hsa48.2; exact hsb48.2) rfl rfl ?_
        refine st (ev_assign rfl) rfl rfl rfl ?_
        refine op_nil ?_
        refine ax_then ?_
        refine At.regs (L' := [(2, _), (3, _), (8, _), (9, _), (10, _), (11, _), (12, _), (13, _)]) (.cons rfl (.cons rfl (.cons rfl (.cons rfl (.cons rfl (.cons rfl (.cons rfl (.cons rfl (.nil _))))))))) ?_
        refine cd_seq ?_
        have his : Ky.isSig (u : Int) (sign s (u : Int) m 36) (path (Ky.leaves s 16) (u : Int)) := (Ky.ver_sign s m (n := u) (by omega)).1
        have hel := Ky.enc_len (leaf := (u : Int)) hsu42 hpu42
        have heb := enc_back (l := (u : Int)) hsu42 hpu42 hsn42 hpn42
        refine cd_region ?_
        refine st (ld_blk_all (h := 10) ty42 rfl rfl rfl (by first | omega | (simp only [List.length_append, List.length_cons, List.length_nil, List.length_set, List.length_replicate, List.length_take, List.length_drop, ints_length, wr_length, sha_len, node_len, recov_len, Ky.named_len, Ky.keyPub_len] <;> omega) | rfl)) rfl rfl rfl ?_
        refine st_call has39 rfl (fun w1 sw => rn 53 (encode_any (u : Int) va42 vb42 (sign s (u : Int) m 36) (path (Ky.leaves s 16) (u : Int)) w1 his hsu42 hpu42 (sw.own_rd (h := 150) rfl) (sw.own_rd (h := 151) rfl))) nil_all rfl rfl (fun v53 _ => ?_)
        refine st (ev_move rfl) rfl rfl rfl ?_
        refine st (ev_extract rfl rfl) rfl rfl rfl ?_
        refine st (ev_extract rfl rfl) rfl rfl rfl ?_
        refine st (ev_assign rfl) rfl rfl rfl ?_
        refine st (ev_assign rfl) rfl rfl rfl ?_
        refine op_nil ?_
        refine ax_then ?_
        refine At.regs (L' := [(2, _), (3, _), (8, _), (9, _), (10, _), (11, _), (12, _), (13, _), (14, _)]) (.cons rfl (.cons rfl (.cons rfl (.cons rfl (.cons rfl (.cons rfl (.cons rfl (.cons rfl (.cons rfl (.nil _)))))))))) ?_
        refine cd_seq ?_
        refine cd_region ?_
        refine st (ev_move rfl) rfl rfl rfl ?_
        refine st_call has41 rfl (fun w1 sw => rn2 154 155 (decode_ok v53 (Ky.enc (u : Int) (sign s (u : Int) m 36) (path (Ky.leaves s 16) (u : Int))) w1 (by omega) (fun c t hct => by rw [enc_hd hct]; omega) (sw.own_rd (h := 53) rfl) (by omega) (by rw [heb.1, heb.2.1, heb.2.2]; exact his))) nil_all rfl rfl (fun x58 _ => ?_)
        obtain ⟨va58, vb58⟩ := x58
        dsimp only
        refine at_own_shape (h := 154) rfl (fun hsa58 => ?_)
        refine at_own_shape (h := 155) rfl (fun hsb58 => ?_)
        refine at_heq (i := 154) (v' := .own (va58) 39 32 (flat (sign s (u : Int) m 36))) rfl (by rw [heb.2.1]) ?_
        refine at_heq (i := 155) (v' := .own (vb58) 39 32 (flat (path (Ky.leaves s 16) (u : Int)))) rfl (by rw [heb.2.2]) ?_
        refine at_eq (i := 58) (v' := .tuple #[.agg (List.toArray [.int .i64 (u : Int), va58, vb58]), .int .i64 0]) rfl (by rw [heb.1]) ?_
        refine st (ev_move rfl) rfl rfl rfl ?_
        refine st (ev_extract rfl rfl) rfl rfl rfl ?_
        refine st (ev_extract rfl rfl) rfl rfl rfl ?_
        refine st_alloc (h := 16) ty42 rfl rfl rfl (fun b16 => ?_)
        refine st_store_all 16 ty42 rfl rfl rfl rfl rfl (by intro u hu; simp at hu; rcases hu with rfl | rfl | rfl; rfl; exact hsa58.2; exact hsb58.2) rfl rfl ?_
        refine st (ev_assign rfl) rfl rfl rfl ?_
        refine op_nil ?_
        refine ax_then ?_
        refine At.regs (L' := [(2, _), (3, _), (8, _), (9, _), (10, _), (11, _), (12, _), (13, _), (16, _), (17, _)]) (.cons rfl (.cons rfl (.cons rfl (.cons rfl (.cons rfl (.cons rfl (.cons rfl (.cons rfl (.cons rfl (.cons rfl (.nil _))))))))))) ?_
        refine cd_seq ?_
        refine cd_seq ?_
        refine cd_region ?_
        refine st (ev_move rfl) rfl rfl rfl ?_
        refine st (ev_neq rfl rfl) rfl rfl rfl ?_
        refine st (ev_move rfl) rfl rfl rfl ?_
        refine at_eq (i := 63) (v' := .bool false) rfl (by rfl) ?_
        refine st (ev_move rfl) rfl rfl rfl ?_
        refine st (ev_neq rfl rfl) rfl rfl rfl ?_
        refine st (ev_pick_f rfl rfl) rfl rfl rfl ?_
        refine st (ev_move rfl) rfl rfl rfl ?_
        refine at_eq (i := 67) (v' := .bool false) rfl (by rfl) ?_
        refine st (ev_move rfl) rfl rfl rfl ?_
        refine st (ev_neq rfl rfl) rfl rfl rfl ?_
        refine st (ev_pick_f rfl rfl) rfl rfl rfl ?_
        refine st (ev_move rfl) rfl rfl rfl ?_
        refine at_eq (i := 71) (v' := .bool false) rfl (by rfl) ?_
        refine st (ev_fieldAddr (b := _) Try.underlying42 (f := _) rfl ty3 (by decide) rfl) rfl rfl rfl ?_
        refine st (ld_blk1 (h := 10) ty3 rfl rfl rfl rfl) rfl rfl rfl ?_
        refine st (ev_fieldAddr (b := _) Try.underlying42 (f := _) rfl ty3 (by decide) rfl) rfl rfl rfl ?_
        refine st (ld_blk1 (h := 12) ty3 rfl rfl rfl rfl) rfl rfl rfl ?_
        refine st (ev_eql rfl rfl) rfl rfl rfl ?_
        refine st (ev_pick_f rfl rfl) rfl rfl rfl ?_
        refine st (ev_move rfl) rfl rfl rfl ?_
        refine at_eq (i := 78) (v' := .bool false) rfl (by simp only [Value.bool.injEq, decide_eq_true_eq, decide_eq_false_iff_not]; omega) ?_
        refine st (ld_blk_all (h := 10) ty42 rfl rfl rfl (by first | omega | (simp only [List.length_append, List.length_cons, List.length_nil, List.length_set, List.length_replicate, List.length_take, List.length_drop, ints_length, wr_length, sha_len, node_len, recov_len, Ky.named_len, Ky.keyPub_len] <;> omega) | rfl)) rfl rfl rfl ?_
        refine st (ld_blk_all (h := 16) ty42 rfl rfl rfl (by first | omega | (simp only [List.length_append, List.length_cons, List.length_nil, List.length_set, List.length_replicate, List.length_take, List.length_drop, ints_length, wr_length, sha_len, node_len, recov_len, Ky.named_len, Ky.keyPub_len] <;> omega) | rfl)) rfl rfl rfl ?_
        refine st_callv has31 rfl (fun w1 sw => rsame5_any (u : Int) (u : Int) va42 vb42 va58 vb58 (sign s (u : Int) m 36) (path (Ky.leaves s 16) (u : Int)) (sign s (u : Int) m 36) (path (Ky.leaves s 16) (u : Int)) w1 hsu42 hpu42 hsu42 hpu42 (by rw [hsn42]; decide) (by omega) (by rw [hsn42]; decide) (by omega) (sw.own_rd (h := 150) rfl) (sw.own_rd (h := 151) rfl) (sw.own_rd (h := 154) rfl) (sw.own_rd (h := 155) rfl)) rfl rfl ?_
        refine st (ev_not_if rfl) rfl rfl rfl ?_
        refine st (ev_pick_f rfl rfl) rfl rfl rfl ?_
        refine op_nil ?_
        refine ax_then ?_
        refine At.regs (L' := [(2, _), (3, _), (8, _), (9, _), (10, _), (12, _), (83, _)]) (.cons rfl (.cons rfl (.cons rfl (.cons rfl (.cons rfl (.cons rfl (.cons rfl (.nil _)))))))) ?_
        refine cd_if_f rfl (fun h => h ⟨rfl, rfl, rfl⟩) ?_
        refine cd_skip ?_
        refine ax_then ?_
        refine At.regs (L' := [(2, _), (3, _), (8, _), (9, _), (10, _), (12, _)]) (.cons rfl (.cons rfl (.cons rfl (.cons rfl (.cons rfl (.cons rfl (.nil _))))))) ?_
        refine cd_seq ?_
        refine cd_region ?_
        refine st (ev_move rfl) rfl rfl rfl ?_
        refine st_callv has28 rfl (fun w1 sw => pubkey_any b36 lv36 s (u + 1 + 1) w1 hl (lies_blk (sw.blk_eq (h := 36) rfl)) (sw.own_rd (h := 37) rfl)) rfl rfl ?_
        refine st_alloc (h := 18) ty39 rfl rfl rfl (fun b18 => ?_)
        refine st_store_all 18 ty39 rfl rfl rfl rfl (by first | omega | (simp only [List.length_append, List.length_cons, List.length_nil, List.length_set, List.length_replicate, List.length_take, List.length_drop, ints_length, wr_length, sha_len, node_len, recov_len, Ky.named_len, Ky.keyPub_len] <;> omega) | rfl) (ints_one _ _) (by first | omega | (simp only [List.length_append, List.length_cons, List.length_nil, List.length_set, List.length_replicate, List.length_take, List.length_drop, ints_length, wr_length, sha_len, node_len, recov_len, Ky.named_len, Ky.keyPub_len] <;> omega) | rfl) rfl ?_
        refine op_nil ?_
        refine ax_then ?_
        refine At.regs (L' := [(2, _), (3, _), (8, _), (10, _), (12, _), (18, _)]) (.cons rfl (.cons rfl (.cons rfl (.cons rfl (.cons rfl (.cons rfl (.nil _))))))) ?_
        refine cd_seq ?_
        refine cd_region ?_
        refine st (ld_blk_all (h := 18) ty39 rfl rfl rfl (by first | omega | (simp only [List.length_append, List.length_cons, List.length_nil, List.length_set, List.length_replicate, List.length_take, List.length_drop, ints_length, wr_length, sha_len, node_len, recov_len, Ky.named_len, Ky.keyPub_len] <;> omega) | rfl)) rfl rfl rfl ?_
        refine st_alloc (h := 19) ty39 rfl rfl rfl (fun b19 => ?_)
        refine st_store_all 19 ty39 rfl rfl rfl rfl (by first | omega | (simp only [List.length_append, List.length_cons, List.length_nil, List.length_set, List.length_replicate, List.length_take, List.length_drop, ints_length, wr_length, sha_len, node_len, recov_len, Ky.named_len, Ky.keyPub_len] <;> omega) | rfl) (ints_one _ _) (by first | omega | (simp only [List.length_append, List.length_cons, List.length_nil, List.length_set, List.length_replicate, List.length_take, List.length_drop, ints_length, wr_length, sha_len, node_len, recov_len, Ky.named_len, Ky.keyPub_len] <;> omega) | rfl) rfl ?_
        refine op_nil ?_
        refine ax_then ?_
        refine At.regs (L' := [(2, _), (3, _), (8, _), (10, _), (12, _), (18, _), (19, _)]) (.cons rfl (.cons rfl (.cons rfl (.cons rfl (.cons rfl (.cons rfl (.cons rfl (.nil _)))))))) ?_
        refine cd_seq ?_
        have hkl := Ky.keyPub_len s
        refine cd_region ?_
        refine st (ev_indexAddr_arrm 0 rfl Try.underlying39 ty5 rfl rfl (by decide) (by decide)) rfl rfl rfl ?_
        refine st (ld_blk1 (h := 19) ty5 rfl rfl rfl (ints_get _ _ _ (by first | omega | (simp only [List.length_append, List.length_cons, List.length_nil, List.length_set, List.length_replicate, List.length_take, List.length_drop, ints_length, wr_length, sha_len, node_len, recov_len, Ky.named_len, Ky.keyPub_len] <;> omega) | rfl))) rfl rfl rfl ?_
        refine st (ev_xor rfl rfl) rfl rfl rfl ?_
        refine st (ev_indexAddr_arrm 0 rfl Try.underlying39 ty5 rfl rfl (by decide) (by decide)) rfl rfl rfl ?_
        refine st_store1 19 ty5 rfl rfl rfl rfl (by first | omega | (simp only [List.length_append, List.length_cons, List.length_nil, List.length_set, List.length_replicate, List.length_take, List.length_drop, ints_length, wr_length, sha_len, node_len, recov_len, Ky.named_len, Ky.keyPub_len] <;> omega) | rfl) rfl ?_
        refine at_heq (i := 19) rfl (by rw [ints_set]) ?_
        obtain ⟨ot, hot⟩ : ∃ ot, ot = (Ky.keyPub s).set 0 (ixor .u8 ((Ky.keyPub s).getD 0 0) 1) := ⟨_, rfl⟩
        refine at_heq (i := 19) (v' := .blk b19 (.cells (ints .u8 (ot)).toArray 39)) rfl (by rw [hot]) ?_
        have hotl : ot.length = 32 := by rw [hot, List.length_set, hkl]
        have hoth : ¬ Ky.verP ot m (u : Int) (sign s (u : Int) m 36) (path (Ky.leaves s 16) (u : Int)) := by rw [hot]; exact not_other s m u (by omega)
        refine op_nil ?_
        refine ax_then ?_
        refine At.regs (L' := [(2, _), (3, _), (8, _), (10, _), (12, _), (18, _), (19, _)]) (.cons rfl (.cons rfl (.cons rfl (.cons rfl (.cons rfl (.cons rfl (.cons rfl (.nil _)))))))) ?_
        refine cd_seq ?_
        refine cd_open hmix (by decide +kernel) ?_
        refine qt (ld_blk_all (h := 18) ty39 rfl rfl rfl (by first | omega | (simp only [List.length_append, List.length_cons, List.length_nil, List.length_set, List.length_replicate, List.length_take, List.length_drop, ints_length, wr_length, sha_len, node_len, recov_len, Ky.named_len, Ky.keyPub_len] <;> omega) | rfl)) rfl rfl rfl ?_
        refine qt (ev_move rfl) rfl rfl rfl ?_
        refine qt (ld_blk_all (h := 10) ty42 rfl rfl rfl (by first | omega | (simp only [List.length_append, List.length_cons, List.length_nil, List.length_set, List.length_replicate, List.length_take, List.length_drop, ints_length, wr_length, sha_len, node_len, recov_len, Ky.named_len, Ky.keyPub_len] <;> omega) | rfl)) rfl rfl rfl ?_
        refine qt_callv has35 rfl (fun w1 sw => verify_any (Ky.keyPub s) q m (u : Int) va42 vb42 (sign s (u : Int) m 36) (path (Ky.leaves s 16) (u : Int)) w1 (Ky.keyPub_len s) (by omega) hsu42 hpu42 (by rw [hsn42]; decide) (by omega) (sw.sl_rd (h := 2) rfl) (sw.own_rd (h := 150) rfl) (sw.own_rd (h := 151) rfl)) rfl rfl ?_
        refine qt (ev_move rfl) rfl rfl rfl ?_
        refine qt_eq (i := 95) (v' := .bool true) rfl (by rw [decide_eq_true (Ky.ver_sign s m (n := u) (by omega))]) ?_
        refine qt (ld_blk_all (h := 18) ty39 rfl rfl rfl (by first | omega | (simp only [List.length_append, List.length_cons, List.length_nil, List.length_set, List.length_replicate, List.length_take, List.length_drop, ints_length, wr_length, sha_len, node_len, recov_len, Ky.named_len, Ky.keyPub_len] <;> omega) | rfl)) rfl rfl rfl ?_
        refine qt (ev_move rfl) rfl rfl rfl ?_
        refine qt (ld_blk_all (h := 12) ty42 rfl rfl rfl (by first | omega | (simp only [List.length_append, List.length_cons, List.length_nil, List.length_set, List.length_replicate, List.length_take, List.length_drop, ints_length, wr_length, sha_len, node_len, recov_len, Ky.named_len, Ky.keyPub_len] <;> omega) | rfl)) rfl rfl rfl ?_
        refine qt_callv has35 rfl (fun w1 sw => verify_any (Ky.keyPub s) p n ((u + 1 : Nat) : Int) va48 vb48 (sign s ((u + 1 : Nat) : Int) n 36) (path (Ky.leaves s 16) ((u + 1 : Nat) : Int)) w1 (Ky.keyPub_len s) (by omega) hsu48 hpu48 (by rw [hsn48]; decide) (by omega) (sw.sl_rd (h := 3) rfl) (sw.own_rd (h := 152) rfl) (sw.own_rd (h := 153) rfl)) rfl rfl ?_
        refine qt (ev_pick_t rfl rfl) rfl rfl rfl ?_
        refine qt (ev_move rfl) rfl rfl rfl ?_
        refine qt_eq (i := 101) (v' := .bool true) rfl (by rw [decide_eq_true (Ky.ver_sign s n (n := u + 1) (by omega))]) ?_
        refine qt (ld_blk_all (h := 18) ty39 rfl rfl rfl (by first | omega | (simp only [List.length_append, List.length_cons, List.length_nil, List.length_set, List.length_replicate, List.length_take, List.length_drop, ints_length, wr_length, sha_len, node_len, recov_len, Ky.named_len, Ky.keyPub_len] <;> omega) | rfl)) rfl rfl rfl ?_
        refine qt (ev_move rfl) rfl rfl rfl ?_
        refine qt (ld_blk_all (h := 10) ty42 rfl rfl rfl (by first | omega | (simp only [List.length_append, List.length_cons, List.length_nil, List.length_set, List.length_replicate, List.length_take, List.length_drop, ints_length, wr_length, sha_len, node_len, recov_len, Ky.named_len, Ky.keyPub_len] <;> omega) | rfl)) rfl rfl rfl ?_
        refine qt_callv has35 rfl (fun w1 sw => verify_any (Ky.keyPub s) p n (u : Int) va42 vb42 (sign s (u : Int) m 36) (path (Ky.leaves s 16) (u : Int)) w1 (Ky.keyPub_len s) (by omega) hsu42 hpu42 (by rw [hsn42]; decide) (by omega) (sw.sl_rd (h := 3) rfl) (sw.own_rd (h := 150) rfl) (sw.own_rd (h := 151) rfl)) rfl rfl ?_
        refine qt (ld_blk_all (h := 18) ty39 rfl rfl rfl (by first | omega | (simp only [List.length_append, List.length_cons, List.length_nil, List.length_set, List.length_replicate, List.length_take, List.length_drop, ints_length, wr_length, sha_len, node_len, recov_len, Ky.named_len, Ky.keyPub_len] <;> omega) | rfl)) rfl rfl rfl ?_
        refine qt (ev_move rfl) rfl rfl rfl ?_
        refine qt (ld_blk_all (h := 10) ty42 rfl rfl rfl (by first | omega | (simp only [List.length_append, List.length_cons, List.length_nil, List.length_set, List.length_replicate, List.length_take, List.length_drop, ints_length, wr_length, sha_len, node_len, recov_len, Ky.named_len, Ky.keyPub_len] <;> omega) | rfl)) rfl rfl rfl ?_
        refine qt_callv has36 rfl (fun w1 sw => rverify_any (Ky.keyPub s) p n (u : Int) va42 vb42 (sign s (u : Int) m 36) (path (Ky.leaves s 16) (u : Int)) w1 (Ky.keyPub_len s) (by omega) hsu42 hpu42 (by rw [hsn42]; decide) (by omega) (sw.sl_rd (h := 3) rfl) (sw.own_rd (h := 150) rfl) (sw.own_rd (h := 151) rfl)) rfl rfl ?_
        refine qt (ev_eql_bool Try.underlying4 rfl rfl) rfl rfl rfl ?_
        refine qt (ev_pick_t rfl rfl) rfl rfl rfl ?_
        refine qt (ev_move rfl) rfl rfl rfl ?_
        refine qt_eq (i := 112) (v' := .bool true) rfl (by simp) ?_
        refine qt (ld_blk_all (h := 19) ty39 rfl rfl rfl (by first | omega | (simp only [List.length_append, List.length_cons, List.length_nil, List.length_set, List.length_replicate, List.length_take, List.length_drop, ints_length, wr_length, sha_len, node_len, recov_len, Ky.named_len, Ky.keyPub_len] <;> omega) | rfl)) rfl rfl rfl ?_
        refine qt (ev_move rfl) rfl rfl rfl ?_
        refine qt (ld_blk_all (h := 10) ty42 rfl rfl rfl (by first | omega | (simp only [List.length_append, List.length_cons, List.length_nil, List.length_set, List.length_replicate, List.length_take, List.length_drop, ints_length, wr_length, sha_len, node_len, recov_len, Ky.named_len, Ky.keyPub_len] <;> omega) | rfl)) rfl rfl rfl ?_
        refine qt_callv has35 rfl (fun w1 sw => verify_any (ot) q m (u : Int) va42 vb42 (sign s (u : Int) m 36) (path (Ky.leaves s 16) (u : Int)) w1 hotl (by omega) hsu42 hpu42 (by rw [hsn42]; decide) (by omega) (sw.sl_rd (h := 2) rfl) (sw.own_rd (h := 150) rfl) (sw.own_rd (h := 151) rfl)) rfl rfl ?_
        refine qt (ev_not_if rfl) rfl rfl rfl ?_
        refine qt (ev_pick_t rfl rfl) rfl rfl rfl ?_
        refine qt (ev_move rfl) rfl rfl rfl ?_
        refine qt_eq (i := 119) (v' := .bool true) rfl (by rw [decide_eq_true hoth]) ?_
        refine qt_callv has33 rfl (fun w1 sw => known5_any w1) rfl rfl ?_
        refine qt (ev_pick_t rfl rfl) rfl rfl rfl ?_
        refine qt (ev_assign rfl) rfl rfl rfl ?_
        refine qt_end ?_
        refine op_nil ?_
        refine ax_then ?_
        refine At.regs (L' := [(8, _)]) (.cons rfl (.nil _)) ?_
        refine cd_ret ?_
        refine rt_tmp (.inl rfl) Try.results14 rfl ?_
        exact fun w1 sw => ⟨rfl, sw.gives (.nil _)⟩

end Go.Proofs.Yteedclmcgifmpaa

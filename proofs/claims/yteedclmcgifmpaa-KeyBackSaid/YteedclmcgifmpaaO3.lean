/- Walks: Encode, Decode. -/
import Derived.Test.YteedclmcgifmpaaO2
namespace Go.Proofs.Yteedclmcgifmpaa
open Go Go.RowKit Fw
open Sha
open Ots
open Mk
set_option linter.unusedVariables false
set_option linter.unusedSimpArgs false

theorem whole_bad {l : List Int} (h : l.length ≠ 1281) : (!(false || decide (l = [])) && decide (l.tail.length = 1280)) = false := by
  match l, h with
  | [], _ => simp
  | c :: t, h =>
    have : ¬ t.length = 1280 := by simp only [List.length_cons] at h; omega
    simp [this]
theorem whole_good {l : List Int} (h : l.length = 1281) : (!(false || decide (l = [])) && decide (l.tail.length = 1280)) = true := by
  match l, h with
  | [], h => simp at h
  | c :: t, h =>
    have : t.length = 1280 := by simp only [List.length_cons] at h; omega
    simp [this]
def encP (l : Int) (hs : List (List Int)) (i : Nat) : List Int := [l] ++ (hs.take i).flatten
theorem encP_step (l : Int) {hs : List (List Int)} {i : Nat} (hi : i < hs.length) : encP l hs (i + 1) = encP l hs i ++ hs.getD i [] := by
  rw [encP, encP, List.take_succ_eq_append_getElem hi, List.flatten_append, List.getD_eq_getElem?_getD, List.getElem?_eq_getElem hi]
  simp
theorem encP_len (l : Int) {hs : List (List Int)} (hu : H32 hs) (i : Nat) (hi : i ≤ hs.length) : (encP l hs i).length = 1 + 32 * i := by
  induction i with
  | zero => simp [encP]
  | succ i ih => rw [encP_step l (by omega), List.length_append, ih (by omega), hu.get (by omega)]; omega

set_option maxRecDepth 20000 in
set_option maxHeartbeats 4000000 in
theorem encode_any (l : Int) (vc vp : Value) (cs ps : List (List Int)) (w : World) (his : Ky.isSig l cs ps) (hu : H32 cs) (hu' : H32 ps) (h : Rd w vc 32 (flat cs)) (h' : Rd w vp 32 (flat ps)) : Calls Try.prog 39 #[.agg (List.toArray [.int .i64 l, vc, vp])] w (Post (ι := Value) w [] (fun _ => True) (fun x => .tuple #[x, .int .i64 0]) (fun x => [(0, .own (x) 5 1 (ints .u8 (Ky.enc l cs ps)))])) := by
  obtain ⟨i1, i2, i3, i4⟩ := id his
  have hcat := hu.append hu'
  have hcl : (cs ++ ps).length = 40 := by rw [List.length_append]; omega
  have hsc := rd_shape h
  have hsp := rd_shape h'
  refine calls_at (vs := [.agg (List.toArray [.int .i64 l, vc, vp])]) (X := []) (H := []) (F := [(21, .sl (vp) 32 (flat (ps))), (20, .sl (vc) 32 (flat (cs)))]) 29 Try.func39 rfl rfl rfl ((Sat.rd0 20 h).more 21 h') ?_
  refine cd_seq ?_
  refine cd_region ?_
  refine st_box (h := 1) rfl rfl rfl rfl (fun b1 => ?_)
  refine st (ev_assign rfl) rfl rfl rfl ?_
  refine at_own_nil 2 5 1 ?_
  refine at_heq (i := 2) (v' := .own (.slice none 0 0) 5 1 (ints .u8 [])) rfl rfl ?_
  refine st (ev_assign rfl) rfl rfl rfl ?_
  refine op_nil ?_
  refine ax_then ?_
  refine At.regs (L' := [(1, _), (2, _), (3, _)]) (.cons rfl (.cons rfl (.cons rfl (.nil _)))) ?_
  refine cd_seq ?_
  refine cd_seq ?_
  refine cd_region ?_
  refine st (ld_blk_all (h := 1) ty42 rfl rfl rfl (by first | omega | (simp only [List.length_append, List.length_cons, List.length_nil, List.length_set, List.length_replicate, List.length_take, List.length_drop, ints_length, wr_length, sha_len, node_len, recov_len, Ky.named_len, Ky.keyPub_len, Ky.hashOf_len] <;> omega) | rfl)) rfl rfl rfl ?_
  refine st_callv has37 rfl (fun w1 sw => isSig_any l vc vp cs ps w1 hu hu' (sw.sl_rd (h := 20) rfl) (sw.sl_rd (h := 21) rfl)) rfl rfl ?_
  refine st (ev_not_if rfl) rfl rfl rfl ?_
  refine op_nil ?_
  refine ax_then ?_
  refine At.regs (L' := [(1, _), (2, _), (3, _), (9, _)]) (.cons rfl (.cons rfl (.cons rfl (.cons rfl (.nil _))))) ?_
  refine cd_if_f rfl (fun h => h his) ?_
  refine cd_skip ?_
  refine ax_then ?_
  refine At.regs (L' := [(1, _), (2, _), (3, _)]) (.cons rfl (.cons rfl (.cons rfl (.nil _)))) ?_
  refine cd_seq ?_
  refine cd_region ?_
  refine st_alloc (h := 4) ty91 rfl rfl rfl (fun b4 => ?_)
  refine at_own_nil 100 5 1 ?_
  refine at_heq (i := 100) (v' := .own (.slice none 0 0) 5 1 (ints .u8 ([]))) rfl rfl ?_
  refine op_nil ?_
  refine ax_then ?_
  refine At.regs (L' := [(1, _), (2, _), (3, _), (4, _)]) (.cons rfl (.cons rfl (.cons rfl (.cons rfl (.nil _))))) ?_
  refine cd_seq ?_
  refine cd_region ?_
  refine st (ev_fieldAddr (b := _) Try.underlying42 (f := _) rfl ty3 (by decide) rfl) rfl rfl rfl ?_
  refine st (ld_blk1 (h := 1) ty3 rfl rfl rfl rfl) rfl rfl rfl ?_
  refine st_bsi (h := 12) (xs := [_]) Try.underlying120 ty3 (by decide) rfl rfl (by decide) rfl rfl (fun b12 => ?_)
  refine st_call has61 rfl (fun w1 sw => rn2 4 100 (wnum_any b4 (.slice none 0 0) (.slice (some ⟨b12, 0, none⟩) 1 1) [] l w1 (sw.blk_eq (h := 4) rfl) (sw.hold 100 _ rfl) (sw.own_notin (h := 4) (h' := 100) rfl rfl (by decide)) (sw.own_rd (h := 12) rfl) (sw.own_off (h := 4) (h' := 12) rfl rfl (by decide)) (sw.own_own (h := 100) (h' := 12) rfl rfl (by decide)) (by decide) ⟨by omega, by omega⟩)) (mod_two (k := 4) (j := 100) rfl rfl) rfl rfl (fun v13 _ => ?_)
  refine op_nil ?_
  refine ax_then ?_
  refine At.regs (L' := [(1, _), (2, _), (3, _), (4, _)]) (.cons rfl (.cons rfl (.cons rfl (.cons rfl (.nil _))))) ?_
  refine cd_seq ?_
  refine cd_seq ?_
  refine cd_region ?_
  refine st (ev_fieldAddr (b := _) Try.underlying42 (f := _) rfl ty26 (by decide) rfl) rfl rfl rfl ?_
  refine st (ld_blk1 (h := 1) ty26 rfl rfl rfl rfl) rfl rfl rfl ?_
  refine st (ev_fieldAddr (b := _) Try.underlying42 (f := _) rfl ty26 (by decide) rfl) rfl rfl rfl ?_
  refine st (ld_blk1 (h := 1) ty26 rfl rfl rfl rfl) rfl rfl rfl ?_
  refine st_buildSlice (h := 18) (cells := [vc, vp]) Try.underlying122 ty26 rfl (by decide) (Eq.trans (congrArg (fun z => Instr.fill _ z _) (show _ = List.toArray [Value.slice none 0 0, Value.slice none 0 0] from by kernel_rfl)) ((fill_put (i := 0) (off := 0) (n := 1) (vs := [vc]) rfl hsc.1 rfl (Nat.le_of_ble_eq_true rfl)).trans ((fill_put (i := 1) (off := 1) (n := 1) (vs := [vp]) rfl hsp.1 rfl (Nat.le_of_ble_eq_true rfl)).trans fill_nil))) rfl rfl rfl (fun b18 => ?_)
  refine st_call has62 rfl (fun w1 sw => rn 19 (concat_any (.slice (some ⟨b18, 0, none⟩) 2 2) vc vp cs ps w1 hu hu' (by omega) (by omega) (by omega) (sw.own_rd (h := 18) rfl) (sw.sl_rd (h := 20) rfl) (sw.sl_rd (h := 21) rfl))) nil_all rfl rfl (fun v19 _ => ?_)
  refine st (ev_len_ownh (h := 19) Try.underlying26 rfl rfl (by assumption)) rfl rfl rfl ?_
  refine st (ev_move rfl) rfl rfl rfl ?_
  refine op_nil ?_
  refine ax_then ?_
  refine At.regs (L' := [(2, _), (3, _), (4, _), (19, _), (20, _), (21, _)]) (.cons rfl (.cons rfl (.cons rfl (.cons rfl (.cons rfl (.cons rfl (.nil _))))))) ?_
  refine cd_block ?_
  refine at_heq (i := 100) (v' := .own (v13) 5 1 (ints .u8 (encP l (cs ++ ps) 0))) rfl (by simp [encP]) ?_
  refine cd_loop (ι := Nat × Value) (fun x => x.1 ≤ 40) (fun x => 40 - x.1)
      (fun x => [(4, .pointer (some ⟨b4, 0, none⟩)), (19, v19), (20, .int .i64 ((cs ++ ps).length : Nat)), (21, .int .i64 (x.1 : Int))])
      (fun x => [(4, .blk (b4) (.cells ([x.2]).toArray 91)), (19, .own (v19) 39 32 (flat (cs ++ ps))), (100, .own (x.2) 5 1 (ints .u8 (encP l (cs ++ ps) x.1)))])
      (fun x => [])
      (0, v13) (by omega) (.cons rfl (.cons rfl (.cons rfl (.cons rfl (.nil _))))) (.cons rfl (.cons rfl (.cons rfl (.nil _)))) (.nil _) (fun x hi => ?_)
  have hepl := encP_len l hcat x.1 (by omega)
  have hlen2 : x.1 < 40 → ((cs ++ ps).getD (x.1 : Int).toNat []).length = 32 := fun hh => hcat.get (by omega)
  have e0 : (x.1 : Int).toNat = x.1 := by omega
  refine cd_seq ?_
  refine cd_region ?_
  refine st (ev_lss rfl rfl) rfl rfl rfl ?_
  refine op_nil ?_
  refine ax_then ?_
  refine At.regs (L' := [(4, _), (19, _), (20, _), (21, _), (22, _)]) (.cons rfl (.cons rfl (.cons rfl (.cons rfl (.cons rfl (.nil _)))))) ?_
  refine cd_seq ?_
  refine cd_if rfl (fun hc22 => ?_) (fun hc22 => ?_)
  ·
    have hg := hcat.get (i := (x.1 : Int).toNat) (by omega)
    refine cd_skip ?_
    refine ax_then ?_
    refine At.regs (L' := [(4, _), (19, _), (20, _), (21, _), (22, _)]) (.cons rfl (.cons rfl (.cons rfl (.cons rfl (.cons rfl (.nil _)))))) ?_
    refine cd_seq ?_
    refine cd_block ?_
    refine cd_seq ?_
    refine cd_region ?_
    refine st (ev_indexAddr_ownh (h := 19) Try.underlying26 ty39 rfl rfl rfl (by assumption) (by omega) (by omega)) rfl rfl rfl ?_
    refine st (ld_ownh (h := 19) ty39 rfl rfl rfl (by assumption) (by omega)) rfl rfl rfl ?_
    refine st_alloc (h := 6) ty39 rfl rfl rfl (fun b6 => ?_)
    refine st_store_all 6 ty39 rfl rfl rfl rfl (by first | omega | (simp only [List.length_append, List.length_cons, List.length_nil, List.length_set, List.length_replicate, List.length_take, List.length_drop, ints_length, wr_length, sha_len, node_len, recov_len, Ky.named_len, Ky.keyPub_len, Ky.hashOf_len] <;> omega) | rfl) (ints_one _ _) (by first | omega | (simp only [List.length_append, List.length_cons, List.length_nil, List.length_set, List.length_replicate, List.length_take, List.length_drop, ints_length, wr_length, sha_len, node_len, recov_len, Ky.named_len, Ky.keyPub_len, Ky.hashOf_len] <;> omega) | rfl) rfl ?_
    refine op_nil ?_
    refine ax_then ?_
    refine At.regs (L' := [(4, _), (6, _), (19, _), (20, _), (21, _), (22, _), (23, _), (24, _)]) (.cons rfl (.cons rfl (.cons rfl (.cons rfl (.cons rfl (.cons rfl (.cons rfl (.cons rfl (.nil _))))))))) ?_
    refine cd_region ?_
    refine st (ev_slice_arr_all Try.underlying39 ty5 rfl) rfl rfl rfl ?_
    refine st_call has63 rfl (fun w1 sw => rn2 4 100 (wraw_any b4 x.2 (.slice (some ⟨b6, 0, none⟩) 32 32) (encP l (cs ++ ps) x.1) ((cs ++ ps).getD (x.1 : Int).toNat []) w1 (sw.blk_eq (h := 4) rfl) (sw.hold 100 _ rfl) (sw.own_notin (h := 4) (h' := 100) rfl rfl (by decide)) (rd_blk_all sw (h := 6) rfl (by rw [ints_length, hg])) (sw.blk_off (h := 4) (h' := 6) rfl rfl (by decide)) (sw.ownblk_off (h := 100) (h' := 6) rfl rfl (by decide)) (by omega))) (mod_two (k := 4) (j := 100) rfl rfl) rfl rfl (fun v26 _ => ?_)
    refine op_nil ?_
    refine ax_block ?_
    refine ax_then ?_
    refine At.regs (L' := [(4, _), (6, _), (19, _), (20, _), (21, _), (22, _), (23, _), (24, _), (25, _)]) (.cons rfl (.cons rfl (.cons rfl (.cons rfl (.cons rfl (.cons rfl (.cons rfl (.cons rfl (.cons rfl (.nil _)))))))))) ?_
    refine cd_region ?_
    refine st (ev_add64 rfl rfl (by omega) (by omega)) rfl rfl rfl ?_
    refine st (ev_move rfl) rfl rfl rfl ?_
    refine op_nil ?_
    refine ax_heq (i := 100) (v' := .own (v26) 5 1 (ints .u8 (encP l (cs ++ ps) (x.1 + 1)))) rfl (by rw [encP_step l (by omega), e0]) ?_
    exact at_again ((x.1 + 1, v26)) (by show x.1 + 1 ≤ 40; omega) (by omega) (.cons rfl (.cons rfl (.cons rfl (.cons rfl (.nil _))))) (.cons rfl (.cons rfl (.cons rfl (.nil _)))) (.nil _)
  ·
    obtain ⟨j, u⟩ := x
    dsimp only at hi hc22 ⊢
    obtain rfl : j = 40 := by omega
    refine at_heq (i := 100) (v' := .own (u) 5 1 (ints .u8 (Ky.enc l cs ps))) rfl (by rw [encP, List.take_of_length_le (by omega)]; rfl) ?_
    have hel := Ky.enc_len (leaf := l) hu hu'
    refine cd_exit ?_
    refine ax_then_exit ?_
    refine ax_then_exit ?_
    refine ax_block_hit ?_
    refine ax_then ?_
    refine At.regs (L' := [(4, _)]) (.cons rfl (.nil _)) ?_
    refine cd_seq ?_
    refine cd_region ?_
    refine st_call has64 rfl (fun w1 sw => rn 28 (wout_any b4 u (Ky.enc l cs ps) w1 (by omega) (lies_blk (sw.blk_eq (h := 4) rfl)) (sw.own_rd (h := 100) rfl))) nil_all rfl rfl (fun v28 _ => ?_)
    refine st (ev_assign rfl) rfl rfl rfl ?_
    refine st (ev_assign rfl) rfl rfl rfl ?_
    refine op_nil ?_
    refine ax_then ?_
    refine At.regs (L' := [(2, _), (3, _)]) (.cons rfl (.cons rfl (.nil _))) ?_
    refine cd_ret ?_
    refine rt_tmp2 (.inl rfl) Try.results39 rfl rfl ?_
    exact fun w1 sw => ⟨v28, trivial, rfl, (sw.gives (N := [(28, _)]) (.cons rfl (.nil _))).rn 0⟩

set_option maxRecDepth 20000 in
set_option maxHeartbeats 1000000 in
theorem newreader_any (p : Value) (l : List Int) (w : World) (hl : l.length ≤ 1000000000) (h : Rd w p 1 (ints .u8 l)) : Calls Try.prog 66 #[p] w (Post (ι := Nat × Value) w [] (fun _ => True) (fun x => .pointer (some ⟨x.1, 0, none⟩)) (fun x => [(0, .blk (x.1) (.cells ([x.2, .bool false]).toArray 125)), (1, .own (x.2) 5 1 (ints .u8 (l)))])) := by
  refine calls_at (vs := [p]) (X := []) (H := []) (F := [(0, .sl (p) 1 (ints .u8 (l)))]) 7 Try.func66 rfl rfl rfl (Sat.rd0 0 h) ?_
  refine cd_seq ?_
  refine cd_region ?_
  refine st (ev_assign rfl) rfl rfl rfl ?_
  refine op_nil ?_
  refine ax_then ?_
  refine At.regs (L' := [(0, _), (2, _)]) (.cons rfl (.cons rfl (.nil _))) ?_
  refine cd_seq ?_
  refine cd_region ?_
  refine st (ev_move rfl) rfl rfl rfl ?_
  refine st_call has92 rfl (fun w1 sw => rn 4 (clone_any p l w1 hl (sw.sl_rd (h := 0) rfl))) nil_all rfl rfl (fun v4 _ => ?_)
  refine at_own_shape (h := 4) rfl (fun hs4 => ?_)
  refine st (ev_build_struct ty125 rfl pl125 rfl ((fill_put (i := 0) (off := 0) (n := 1) (vs := [v4]) rfl hs4.1 rfl (Nat.le_of_ble_eq_true rfl)).trans fill_nil)) rfl rfl rfl ?_
  refine at_eq (i := 5) (v' := .agg (List.toArray [v4, .bool false])) rfl rfl ?_
  refine st_box (h := 6) rfl rfl rfl rfl (fun b6 => ?_)
  refine st (ev_assign rfl) rfl rfl rfl ?_
  refine op_nil ?_
  refine ax_then ?_
  refine At.regs (L' := [(2, _)]) (.cons rfl (.nil _)) ?_
  refine cd_ret ?_
  refine rt_tmp (.inl rfl) Try.results66 rfl ?_
  exact fun w1 sw => ⟨(b6, v4), trivial, rfl, (sw.gives (N := [(6, _), (4, _)]) (.cons rfl (.cons rfl (.nil _)))).rn2 (by decide) 0 1⟩

set_option maxRecDepth 20000 in
set_option maxHeartbeats 4000000 in
theorem decode_bad (p : Value) (l : List Int) (w : World) (hl : l.length ≤ 100000) (hn : ∀ c t, l = c :: t → 0 ≤ c ∧ c < 128) (h : Rd w p 1 (ints .u8 l)) (hlen : l.length ≠ 1281) : Calls Try.prog 41 #[p] w (PostV w (.tuple #[.agg (List.toArray [.int .i64 0, .slice none 0 0, .slice none 0 0]), .int .i64 2])) := by
  have htl : l.tail.length = l.length - 1 := List.length_tail
  have hr2 := Ky.restS_le l.tail 36
  have hu11 := Ky.hashS_h32 l.tail 36
  have hu13 := Ky.hashS_h32 (Ky.restS l.tail 36) 4
  refine calls_at (vs := [p]) (X := []) (H := []) (F := [(0, .sl (p) 1 (ints .u8 (l)))]) 25 Try.func41 rfl rfl rfl (Sat.rd0 0 h) ?_
  refine cd_seq ?_
  refine cd_region ?_
  refine st_alloc (h := 2) ty42 rfl rfl rfl (fun b2 => ?_)
  refine st (ev_assign rfl) rfl rfl rfl ?_
  refine op_nil ?_
  refine ax_then ?_
  refine At.regs (L' := [(0, _), (2, _), (3, _)]) (.cons rfl (.cons rfl (.cons rfl (.nil _)))) ?_
  refine cd_seq ?_
  refine cd_region ?_
  refine st (ev_move rfl) rfl rfl rfl ?_
  refine st_call has66 rfl (fun w1 sw => rn2 7 107 (newreader_any p l w1 (by omega) (sw.sl_rd (h := 0) rfl))) nil_all rfl rfl (fun x7 _ => ?_)
  obtain ⟨b7, lv7⟩ := x7
  dsimp only
  refine at_freeze (h := 107) (H' := [(7, _), (2, _)]) 21 rfl (.cons rfl (.cons rfl (.nil _))) rfl ?_
  refine st (ev_assign rfl) rfl rfl rfl ?_
  refine op_nil ?_
  refine ax_then ?_
  refine At.regs (L' := [(2, _), (3, _), (4, _)]) (.cons rfl (.cons rfl (.cons rfl (.nil _)))) ?_
  refine cd_seq ?_
  refine cd_region ?_
  refine st (ev_move rfl) rfl rfl rfl ?_
  refine st_call has67 rfl (fun w1 sw => rn 7 (rnum_any b7 lv7 false l w1 (sw.blk_eq (h := 7) rfl) (sw.sl_rd (h := 21) rfl) (sw.off 21 _ 7 _ rfl rfl _ (by simp [Ent.ids])) (by omega) hn)) (mod_blk rfl) rfl rfl (fun _ _ => ?_)
  refine at_fmap (h := 21) 22 rfl (fun w1 hh => Ky.numV_rd hh) (Ky.numV_blk _ _) Ky.num_nil ?_
  refine st (ev_move rfl) rfl rfl rfl ?_
  refine st_call has68 rfl (fun w1 sw => rn2 7 11 (khashes_any b7 (Ky.numV lv7 l) (false || decide (l = [])) l.tail 36 w1 (sw.blk_eq (h := 7) rfl) (sw.sl_rd (h := 22) rfl) (sw.off 22 _ 7 _ rfl rfl _ (by simp [Ent.ids])) (by omega) (by decide))) (mod_blk2 rfl) rfl rfl (fun v11 _ => ?_)
  refine at_fmap (h := 22) 23 rfl (fun w1 hh => Ky.valS_rd hh 36) (fun b => Ky.valS_blk _ _ 36 b) (fun hh => Ky.restS_nil hh 36) ?_
  refine at_own_shape (h := 11) rfl (fun hs11 => ?_)
  refine st (ev_move rfl) rfl rfl rfl ?_
  refine st_call has68 rfl (fun w1 sw => rn2 7 13 (khashes_any b7 (Ky.valS (Ky.numV lv7 l) l.tail 36) (Ky.badS (false || decide (l = [])) l.tail 36) (Ky.restS l.tail 36) 4 w1 (sw.blk_eq (h := 7) rfl) (sw.sl_rd (h := 23) rfl) (sw.off 23 _ 7 _ rfl rfl _ (by simp [Ent.ids])) (by omega) (by decide))) (mod_blk2 rfl) rfl rfl (fun v13 _ => ?_)
  refine at_fmap (h := 23) 24 rfl (fun w1 hh => Ky.valS_rd hh 4) (fun b => Ky.valS_blk _ _ 4 b) (fun hh => Ky.restS_nil hh 4) ?_
  refine at_own_shape (h := 13) rfl (fun hs13 => ?_)
  refine st (ev_build_struct ty42 rfl pl42 rfl ((fill_put (i := 0) (off := 0) (n := 1) (vs := [.int .i64 (Ky.numN l)]) rfl rfl rfl (Nat.le_of_ble_eq_true rfl)).trans ((fill_put (i := 1) (off := 1) (n := 1) (vs := [v11]) rfl hs11.1 rfl (Nat.le_of_ble_eq_true rfl)).trans ((fill_put (i := 2) (off := 2) (n := 1) (vs := [v13]) rfl hs13.1 rfl (Nat.le_of_ble_eq_true rfl)).trans fill_nil)))) rfl rfl rfl ?_
  refine at_eq (i := 14) (v' := .agg (List.toArray [.int .i64 (Ky.numN l), v11, v13])) rfl rfl ?_
  refine st_alloc (h := 5) ty42 rfl rfl rfl (fun b5 => ?_)
  refine st_store_all 5 ty42 rfl rfl rfl rfl rfl (by intro u hu; simp at hu; rcases hu with rfl | rfl | rfl; rfl; exact hs11.2; exact hs13.2) rfl rfl ?_
  refine op_nil ?_
  refine ax_then ?_
  refine At.regs (L' := [(2, _), (3, _), (4, _), (5, _)]) (.cons rfl (.cons rfl (.cons rfl (.cons rfl (.nil _))))) ?_
  refine cd_seq ?_
  refine cd_seq ?_
  refine cd_region ?_
  refine st (ev_move rfl) rfl rfl rfl ?_
  refine st_callv has69 rfl (fun w1 sw => rwhole_any b7 (Ky.valS (Ky.valS (Ky.numV lv7 l) l.tail 36) (Ky.restS l.tail 36) 4) (Ky.badS (Ky.badS (false || decide (l = [])) l.tail 36) (Ky.restS l.tail 36) 4) (Ky.restS (Ky.restS l.tail 36) 4) w1 (lies_blk (sw.blk_eq (h := 7) rfl)) (sw.sl_rd (h := 24) rfl)) rfl rfl ?_
  refine at_eq (i := 16) (v' := .bool false) rfl (by rw [Ky.badS_add, Ky.restS_add, Ky.whole_iff]; rw [whole_bad hlen]) ?_
  refine st (ev_not rfl) rfl rfl rfl ?_
  refine st (ev_move rfl) rfl rfl rfl ?_
  refine st_skip rfl rfl rfl ?_
  refine st_skip rfl rfl rfl ?_
  refine st_skip rfl rfl rfl ?_
  refine st (ev_pick_t rfl rfl) rfl rfl rfl ?_
  refine op_nil ?_
  refine ax_then ?_
  refine At.regs (L' := [(2, _), (3, _), (5, _), (22, _)]) (.cons rfl (.cons rfl (.cons rfl (.cons rfl (.nil _))))) ?_
  refine cd_true rfl ?_
  refine cd_seq ?_
  refine cd_region ?_
  refine st (ev_build_struct ty42 rfl pl42 rfl rfl) rfl rfl rfl ?_
  refine st_store_all 2 ty42 rfl rfl rfl rfl (by first | omega | (simp only [List.length_append, List.length_cons, List.length_nil, List.length_set, List.length_replicate, List.length_take, List.length_drop, ints_length, wr_length, sha_len, node_len, recov_len, Ky.named_len, Ky.keyPub_len, Ky.hashOf_len] <;> omega) | rfl) (by first | (intro u hu; simp at hu; rcases hu with rfl | rfl <;> rfl) | (simp [Value.oneCell'])) (by first | omega | (simp only [List.length_append, List.length_cons, List.length_nil, List.length_set, List.length_replicate, List.length_take, List.length_drop, ints_length, wr_length, sha_len, node_len, recov_len, Ky.named_len, Ky.keyPub_len, Ky.hashOf_len] <;> omega) | rfl) rfl ?_
  refine st (ev_assign rfl) rfl rfl rfl ?_
  refine op_nil ?_
  refine ax_then ?_
  refine At.regs (L' := [(2, _), (3, _), (5, _)]) (.cons rfl (.cons rfl (.cons rfl (.nil _)))) ?_
  refine cd_ret ?_
  refine ax_then_ret ?_
  refine rt_cell_tmp (h0 := 2) (.inl rfl) Try.results41 ty42 rfl rfl rfl (by first | omega | (simp only [List.length_append, List.length_cons, List.length_nil, List.length_set, List.length_replicate, List.length_take, List.length_drop, ints_length, wr_length, sha_len, node_len, recov_len, Ky.named_len, Ky.keyPub_len, Ky.hashOf_len] <;> omega) | rfl) rfl ?_
  exact fun w1 sw => ⟨rfl, sw.gives (.nil _)⟩

set_option maxRecDepth 20000 in
set_option maxHeartbeats 4000000 in
theorem decode_ok (p : Value) (l : List Int) (w : World) (hl : l.length ≤ 100000) (hn : ∀ c t, l = c :: t → 0 ≤ c ∧ c < 128) (h : Rd w p 1 (ints .u8 l)) (hlen : l.length = 1281) (his : Ky.isSig (Ky.numN l) (Ky.hashS l.tail 36) (Ky.hashS (Ky.restS l.tail 36) 4)) : Calls Try.prog 41 #[p] w (Post (ι := Value × Value) w [] (fun _ => True) (fun x => .tuple #[.agg (List.toArray [.int .i64 (Ky.numN l), x.1, x.2]), .int .i64 0]) (fun x => [(0, .own (x.1) 39 32 (flat (Ky.hashS l.tail 36))), (1, .own (x.2) 39 32 (flat (Ky.hashS (Ky.restS l.tail 36) 4)))])) := by
  have htl : l.tail.length = l.length - 1 := List.length_tail
  have hr2 := Ky.restS_le l.tail 36
  have hu11 := Ky.hashS_h32 l.tail 36
  have hu13 := Ky.hashS_h32 (Ky.restS l.tail 36) 4
  refine calls_at (vs := [p]) (X := []) (H := []) (F := [(0, .sl (p) 1 (ints .u8 (l)))]) 25 Try.func41 rfl rfl rfl (Sat.rd0 0 h) ?_
  refine cd_seq ?_
  refine cd_region ?_
  refine st_alloc (h := 2) ty42 rfl rfl rfl (fun b2 => ?_)
  refine st (ev_assign rfl) rfl rfl rfl ?_
  refine op_nil ?_
  refine ax_then ?_
  refine At.regs (L' := [(0, _), (2, _), (3, _)]) (.cons rfl (.cons rfl (.cons rfl (.nil _)))) ?_
  refine cd_seq ?_
  refine cd_region ?_
  refine st (ev_move rfl) rfl rfl rfl ?_
  refine st_call has66 rfl (fun w1 sw => rn2 7 107 (newreader_any p l w1 (by omega) (sw.sl_rd (h := 0) rfl))) nil_all rfl rfl (fun x7 _ => ?_)
  obtain ⟨b7, lv7⟩ := x7
  dsimp only
  refine at_freeze (h := 107) (H' := [(7, _), (2, _)]) 21 rfl (.cons rfl (.cons rfl (.nil _))) rfl ?_
  refine st (ev_assign rfl) rfl rfl rfl ?_
  refine op_nil ?_
  refine ax_then ?_
  refine At.regs (L' := [(2, _), (3, _), (4, _)]) (.cons rfl (.cons rfl (.cons rfl (.nil _)))) ?_
  refine cd_seq ?_
  refine cd_region ?_
  refine st (ev_move rfl) rfl rfl rfl ?_
  refine st_call has67 rfl (fun w1 sw => rn 7 (rnum_any b7 lv7 false l w1 (sw.blk_eq (h := 7) rfl) (sw.sl_rd (h := 21) rfl) (sw.off 21 _ 7 _ rfl rfl _ (by simp [Ent.ids])) (by omega) hn)) (mod_blk rfl) rfl rfl (fun _ _ => ?_)
  refine at_fmap (h := 21) 22 rfl (fun w1 hh => Ky.numV_rd hh) (Ky.numV_blk _ _) Ky.num_nil ?_
  refine st (ev_move rfl) rfl rfl rfl ?_
  refine st_call has68 rfl (fun w1 sw => rn2 7 11 (khashes_any b7 (Ky.numV lv7 l) (false || decide (l = [])) l.tail 36 w1 (sw.blk_eq (h := 7) rfl) (sw.sl_rd (h := 22) rfl) (sw.off 22 _ 7 _ rfl rfl _ (by simp [Ent.ids])) (by omega) (by decide))) (mod_blk2 rfl) rfl rfl (fun v11 _ => ?_)
  refine at_fmap (h := 22) 23 rfl (fun w1 hh => Ky.valS_rd hh 36) (fun b => Ky.valS_blk _ _ 36 b) (fun hh => Ky.restS_nil hh 36) ?_
  refine at_own_shape (h := 11) rfl (fun hs11 => ?_)
  refine st (ev_move rfl) rfl rfl rfl ?_
  refine st_call has68 rfl (fun w1 sw => rn2 7 13 (khashes_any b7 (Ky.valS (Ky.numV lv7 l) l.tail 36) (Ky.badS (false || decide (l = [])) l.tail 36) (Ky.restS l.tail 36) 4 w1 (sw.blk_eq (h := 7) rfl) (sw.sl_rd (h := 23) rfl) (sw.off 23 _ 7 _ rfl rfl _ (by simp [Ent.ids])) (by omega) (by decide))) (mod_blk2 rfl) rfl rfl (fun v13 _ => ?_)
  refine at_fmap (h := 23) 24 rfl (fun w1 hh => Ky.valS_rd hh 4) (fun b => Ky.valS_blk _ _ 4 b) (fun hh => Ky.restS_nil hh 4) ?_
  refine at_own_shape (h := 13) rfl (fun hs13 => ?_)
  refine st (ev_build_struct ty42 rfl pl42 rfl ((fill_put (i := 0) (off := 0) (n := 1) (vs := [.int .i64 (Ky.numN l)]) rfl rfl rfl (Nat.le_of_ble_eq_true rfl)).trans ((fill_put (i := 1) (off := 1) (n := 1) (vs := [v11]) rfl hs11.1 rfl (Nat.le_of_ble_eq_true rfl)).trans ((fill_put (i := 2) (off := 2) (n := 1) (vs := [v13]) rfl hs13.1 rfl (Nat.le_of_ble_eq_true rfl)).trans fill_nil)))) rfl rfl rfl ?_
  refine at_eq (i := 14) (v' := .agg (List.toArray [.int .i64 (Ky.numN l), v11, v13])) rfl rfl ?_
  refine st_alloc (h := 5) ty42 rfl rfl rfl (fun b5 => ?_)
  refine st_store_all 5 ty42 rfl rfl rfl rfl rfl (by intro u hu; simp at hu; rcases hu with rfl | rfl | rfl; rfl; exact hs11.2; exact hs13.2) rfl rfl ?_
  refine op_nil ?_
  refine ax_then ?_
  refine At.regs (L' := [(2, _), (3, _), (4, _), (5, _)]) (.cons rfl (.cons rfl (.cons rfl (.cons rfl (.nil _))))) ?_
  refine cd_seq ?_
  refine cd_seq ?_
  refine cd_region ?_
  refine st (ev_move rfl) rfl rfl rfl ?_
  refine st_callv has69 rfl (fun w1 sw => rwhole_any b7 (Ky.valS (Ky.valS (Ky.numV lv7 l) l.tail 36) (Ky.restS l.tail 36) 4) (Ky.badS (Ky.badS (false || decide (l = [])) l.tail 36) (Ky.restS l.tail 36) 4) (Ky.restS (Ky.restS l.tail 36) 4) w1 (lies_blk (sw.blk_eq (h := 7) rfl)) (sw.sl_rd (h := 24) rfl)) rfl rfl ?_
  refine at_eq (i := 16) (v' := .bool true) rfl (by rw [Ky.badS_add, Ky.restS_add, Ky.whole_iff]; rw [whole_good hlen]) ?_
  refine st (ev_not rfl) rfl rfl rfl ?_
  refine st (ev_move rfl) rfl rfl rfl ?_
  refine st (ld_blk_all (h := 5) ty42 rfl rfl rfl (by first | omega | (simp only [List.length_append, List.length_cons, List.length_nil, List.length_set, List.length_replicate, List.length_take, List.length_drop, ints_length, wr_length, sha_len, node_len, recov_len, Ky.named_len, Ky.keyPub_len, Ky.hashOf_len] <;> omega) | rfl)) rfl rfl rfl ?_
  refine st_callv has37 rfl (fun w1 sw => isSig_any (Ky.numN l) v11 v13 (Ky.hashS l.tail 36) (Ky.hashS (Ky.restS l.tail 36) 4) w1 hu11 hu13 (sw.own_rd (h := 11) rfl) (sw.own_rd (h := 13) rfl)) rfl rfl ?_
  refine st (ev_not_if rfl) rfl rfl rfl ?_
  refine st (ev_pick_f rfl rfl) rfl rfl rfl ?_
  refine op_nil ?_
  refine ax_then ?_
  refine At.regs (L' := [(2, _), (3, _), (5, _), (22, _)]) (.cons rfl (.cons rfl (.cons rfl (.cons rfl (.nil _))))) ?_
  refine cd_if_f rfl (fun h => h his) ?_
  refine cd_skip ?_
  refine ax_then ?_
  refine At.regs (L' := [(2, _), (3, _), (5, _)]) (.cons rfl (.cons rfl (.cons rfl (.nil _)))) ?_
  refine cd_seq ?_
  refine cd_region ?_
  refine st (ld_blk_all (h := 5) ty42 rfl rfl rfl (by first | omega | (simp only [List.length_append, List.length_cons, List.length_nil, List.length_set, List.length_replicate, List.length_take, List.length_drop, ints_length, wr_length, sha_len, node_len, recov_len, Ky.named_len, Ky.keyPub_len, Ky.hashOf_len] <;> omega) | rfl)) rfl rfl rfl ?_
  refine st_store_all 2 ty42 rfl rfl rfl rfl rfl (by intro u hu; simp at hu; rcases hu with rfl | rfl | rfl; rfl; exact hs11.2; exact hs13.2) rfl rfl ?_
  refine st (ev_assign rfl) rfl rfl rfl ?_
  refine op_nil ?_
  refine ax_then ?_
  refine At.regs (L' := [(2, _), (3, _)]) (.cons rfl (.cons rfl (.nil _))) ?_
  refine cd_ret ?_
  refine rt_cell_tmp (h0 := 2) (.inl rfl) Try.results41 ty42 rfl rfl rfl (by first | omega | (simp only [List.length_append, List.length_cons, List.length_nil, List.length_set, List.length_replicate, List.length_take, List.length_drop, ints_length, wr_length, sha_len, node_len, recov_len, Ky.named_len, Ky.keyPub_len, Ky.hashOf_len] <;> omega) | rfl) rfl ?_
  exact fun w1 sw => ⟨(v11, v13), trivial, rfl, (sw.gives (N := [(11, _), (13, _)]) (.cons rfl (.cons rfl (.nil _)))).rn2 (by decide) 0 1⟩

end Go.Proofs.Yteedclmcgifmpaa

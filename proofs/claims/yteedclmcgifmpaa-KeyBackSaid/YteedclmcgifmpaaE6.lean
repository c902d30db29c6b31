/- Walks: chapter 3. -/
import Derived.Test.YteedclmcgifmpaaE5
namespace Go.Proofs.Yteedclmcgifmpaa
open Go Go.RowKit Fw
open Sha
open Ots
set_option linter.unusedVariables false
set_option linter.unusedSimpArgs false

set_option maxRecDepth 20000 in
set_option maxHeartbeats 1000000 in
theorem sigEnd_any (d : List Int) (v : Value) (cs : List (List Int)) (c : Nat) (w : World) (hd : d.length = 36) (hd3 : ∀ i, d.getD i 0 ≤ 3) (hu : H32 cs) (hn : cs.length = 36) (hc : c < 36) (h : Rd w v 32 (flat cs)) : Calls Try.prog 90 #[.agg (ints .i64 (d) ++ [v]).toArray, .int .i64 (c : Int)] w (PostV w (.agg (ints .u8 (walk (cs.getD c []) c (d.getD c 0) 3)).toArray)) := by
  have hwl := walk_len (h := cs.getD c []) c (d.getD c 0) 3 (hu.get (by omega))
  refine calls_at (vs := [.agg (ints .i64 (d) ++ [v]).toArray, .int .i64 (c : Int)]) (X := []) (H := []) (F := [(20, .sl v 32 (flat (cs)))]) 16 Try.func90 rfl rfl rfl (Sat.rd0 20 h) ?_
  refine cd_seq ?_
  refine cd_region ?_
  refine st_box (h := 2) rfl rfl rfl rfl (fun b2 => ?_)
  refine st_alloc (h := 4) ty39 rfl rfl rfl (fun b4 => ?_)
  refine op_nil ?_
  refine ax_then ?_
  refine At.regs (L' := [(1, _), (2, _), (4, _)]) (.cons rfl (.cons rfl (.cons rfl (.nil _)))) ?_
  refine cd_seq ?_
  refine cd_open_tail 11 hmix (by decide +kernel) ?_
  refine qt (ev_fieldAddr (b := _) Try.underlying118 (f := _) rfl ty26 (by decide) rfl) rfl rfl rfl ?_
  refine qt (ld_blk1 (h := 2) ty26 rfl rfl rfl (at36 d v hd)) rfl rfl rfl ?_
  refine qt (ev_move rfl) rfl rfl rfl ?_
  refine qt (ev_indexAddr_rdh (h := 20) Try.underlying26 ty39 rfl rfl rfl (by assumption) (by omega) (by omega)) rfl rfl rfl ?_
  refine qt (ld_rdh (h := 20) ty39 rfl rfl rfl (by assumption) (by omega)) rfl rfl rfl ?_
  refine qt_eq (i := 9) (v' := .agg (ints .u8 (cs.getD c [])).toArray) rfl (by rw [Int.toNat_natCast]) ?_
  refine qt (ev_move rfl) rfl rfl rfl ?_
  refine qt (ev_move rfl) rfl rfl rfl ?_
  refine qt (ev_fieldAddr (b := _) Try.underlying118 (f := _) rfl ty115 (by decide) rfl) rfl rfl rfl ?_
  refine qt (ev_indexAddr_arr Try.underlying115 ty3 rfl rfl (by omega) (by omega)) rfl rfl rfl ?_
  refine qt (ld_blk1 (h := 2) ty3 rfl rfl rfl (lt36 d v hd _ (by show 0 + 0 + (c : Int).toNat * 1 < 36; omega))) rfl rfl rfl ?_
  have e0 : 0 + 0 + (c : Int).toNat * 1 = c := by omega
  refine qt_eq (i := 14) (v' := .int .i64 (d.getD c 0)) rfl (by show Value.int .i64 (d.getD (0 + 0 + (c : Int).toNat * 1) 0) = _; rw [e0]) ?_
  have hgc := hu.get (i := c) (by omega)
  refine qt_callv has87 rfl (fun w1 sw => walk_any (cs.getD c []) c (d.getD c 0) 3 w1 hgc (by have := hd3 c; omega)) rfl rfl ?_
  refine qt_end ?_
  refine st_store_all 4 ty39 rfl rfl rfl rfl (by first | omega | (simp only [List.length_append, List.length_cons, List.length_nil, List.length_set, List.length_replicate, List.length_take, List.length_drop, ints_length, wr_length, sha_len, way_len _ (by assumption), secret_len, digits_len, recov_len] <;> omega) | rfl) (ints_one _ _) (by first | omega | (simp only [List.length_append, List.length_cons, List.length_nil, List.length_set, List.length_replicate, List.length_take, List.length_drop, ints_length, wr_length, sha_len, way_len _ (by assumption), secret_len, digits_len, recov_len] <;> omega) | rfl) rfl ?_
  refine op_nil ?_
  refine ax_then ?_
  refine At.regs (L' := [(4, _)]) (.cons rfl (.nil _)) ?_
  refine cd_ret ?_
  refine rt_cell (h0 := 4) (.inl rfl) Try.results90 ty39 rfl rfl rfl (by first | omega | (simp only [List.length_append, List.length_cons, List.length_nil, List.length_set, List.length_replicate, List.length_take, List.length_drop, ints_length, wr_length, sha_len, way_len _ (by assumption), secret_len, digits_len, recov_len] <;> omega) | rfl) ?_
  exact fun w1 sw => ⟨rfl, sw.gives (.nil _)⟩

def gS (m : List Int) (cs : List (List Int)) (c : Nat) : List Int := if c < 36 then walk (cs.getD c []) c ((Ots.digits m).getD c 0) 3 else List.replicate 32 0
theorem gS_len (m : List Int) {cs : List (List Int)} (hu : H32 cs) (hn : cs.length = 36) (i : Nat) : (gS m cs i).length = 32 := by
  rw [gS]
  split
  · exact walk_len _ _ _ (hu.get (by omega))
  · simp
theorem gS_ends (m : List Int) {cs : List (List Int)} (hn : cs.length = 36) : ends (gS m cs) = recov m cs := by
  rw [recov, if_pos hn]
  exact ends_congr fun i hi => by rw [gS, if_pos hi]

set_option maxRecDepth 20000 in
set_option maxHeartbeats 2000000 in
theorem recover_any (p q : Value) (m : List Int) (cs : List (List Int)) (w : World) (hm : m.length ≤ 1000000000) (hu : H32 cs) (hcl : cs.length ≤ 1000000000) (h : Rd w p 1 (ints .u8 m)) (h' : Rd w q 32 (flat cs)) : Calls Try.prog 56 #[p, q] w (PostV w (.tuple #[.agg (ints .u8 (recov m cs)).toArray, .bool (decide (cs.length = 36))])) := by
  refine calls_at (vs := [p, q]) (X := []) (H := []) (F := [(1, .sl q 32 (flat (cs))), (0, .sl p 1 (ints .u8 (m)))]) 16 Try.func56 rfl rfl rfl ((Sat.rd0 0 h).more 1 h') ?_
  refine cd_seq ?_
  refine cd_region ?_
  refine st_alloc (h := 4) ty39 rfl rfl rfl (fun b4 => ?_)
  refine st (ev_assign rfl) rfl rfl rfl ?_
  refine op_nil ?_
  refine ax_then ?_
  refine At.regs (L' := [(0, _), (1, _), (4, _), (5, _)]) (.cons rfl (.cons rfl (.cons rfl (.cons rfl (.nil _))))) ?_
  refine cd_seq ?_
  refine cd_seq ?_
  refine cd_region ?_
  refine st (ev_move rfl) rfl rfl rfl ?_
  refine st (ev_len_rdh (h := 1) Try.underlying26 rfl rfl (by assumption)) rfl rfl rfl ?_
  refine st (ev_neq rfl rfl) rfl rfl rfl ?_
  refine op_nil ?_
  refine ax_then ?_
  refine At.regs (L' := [(0, _), (1, _), (4, _), (5, _), (8, _)]) (.cons rfl (.cons rfl (.cons rfl (.cons rfl (.cons rfl (.nil _)))))) ?_
  refine cd_if rfl (fun hc8 => ?_) (fun hc8 => ?_)
  ·
    refine cd_seq ?_
    refine cd_region ?_
    refine st (ev_build_array ty39 rfl ty5 rfl rfl) rfl rfl rfl ?_
    refine st_store_all 4 ty39 rfl rfl rfl rfl (by first | omega | (simp only [List.length_append, List.length_cons, List.length_nil, List.length_set, List.length_replicate, List.length_take, List.length_drop, ints_length, wr_length, sha_len, way_len _ (by assumption), secret_len, digits_len, recov_len] <;> omega) | rfl) (ints_one _ _) (by first | omega | (simp only [List.length_append, List.length_cons, List.length_nil, List.length_set, List.length_replicate, List.length_take, List.length_drop, ints_length, wr_length, sha_len, way_len _ (by assumption), secret_len, digits_len, recov_len] <;> omega) | rfl) rfl ?_
    refine st (ev_assign rfl) rfl rfl rfl ?_
    refine op_nil ?_
    refine ax_then ?_
    refine At.regs (L' := [(0, _), (1, _), (4, _), (5, _)]) (.cons rfl (.cons rfl (.cons rfl (.cons rfl (.nil _))))) ?_
    refine cd_ret ?_
    refine ax_then_ret ?_
    refine rt_cell_tmp (h0 := 4) (.inl rfl) Try.results56 ty39 rfl rfl rfl (by first | omega | (simp only [List.length_append, List.length_cons, List.length_nil, List.length_set, List.length_replicate, List.length_take, List.length_drop, ints_length, wr_length, sha_len, way_len _ (by assumption), secret_len, digits_len, recov_len] <;> omega) | rfl) rfl ?_
    exact fun w1 sw => ⟨by rw [recov, if_neg (by omega), decide_eq_false (by omega)], sw.gives (.nil _)⟩
  ·
    have hn : cs.length = 36 := by omega
    refine cd_skip ?_
    refine ax_then ?_
    refine At.regs (L' := [(0, _), (1, _), (4, _), (5, _)]) (.cons rfl (.cons rfl (.cons rfl (.cons rfl (.nil _))))) ?_
    refine cd_seq ?_
    refine cd_region ?_
    refine st (ev_move rfl) rfl rfl rfl ?_
    refine st_callv has86 rfl (fun w1 sw => digits_any p m w1 hm (sw.sl_rd (h := 0) rfl)) rfl rfl ?_
    refine st (ev_move rfl) rfl rfl rfl ?_
    refine st (ev_build_struct ty118 rfl pl118 rfl ((fill_put (i := 0) (off := 0) (n := 36) (vs := ints .i64 (Ots.digits m)) rfl rfl (by rw [ints_length, digits_len]) (Nat.le_of_ble_eq_true rfl)).trans ((fill_put (i := 1) (off := 36) (n := 1) (vs := [q]) rfl (by obtain ⟨_, _, _, rfl, _⟩ := h'; rfl) rfl (by rw [wr_length (by rw [ints_length, digits_len]; exact Nat.le_of_ble_eq_true rfl)]; exact Nat.le_of_ble_eq_true rfl)).trans fill_nil))) rfl rfl rfl ?_
    refine at_eq (i := 13) (v' := .agg (ints .i64 (Ots.digits m) ++ [q]).toArray) rfl (congrArg (fun x => Value.agg (List.toArray x)) (put_last (by rw [ints_length, digits_len]) rfl)) ?_
    refine st (ev_func rfl rfl) rfl rfl rfl ?_
    refine st_callv has75 rfl (fun w1 sw => ends_any 90 has90 [.agg (ints .i64 (Ots.digits m) ++ [q]).toArray] [] q cs (gS m cs) (gS_len m hu hn) w1 (sw.sl_rd (h := 1) rfl) (fun w2 i hi hr => by rw [gS, if_pos hi]; exact sigEnd_any (Ots.digits m) q cs i w2 (digits_len m) (fun i => (digits_range m i).2) hu hn hi hr)) rfl rfl ?_
    refine at_eq (i := 15) (v' := .agg (ints .u8 (recov m cs)).toArray) rfl (by rw [gS_ends m (by omega)]) ?_
    have hrl := recov_len m cs
    refine st_store_all 4 ty39 rfl rfl rfl rfl (by first | omega | (simp only [List.length_append, List.length_cons, List.length_nil, List.length_set, List.length_replicate, List.length_take, List.length_drop, ints_length, wr_length, sha_len, way_len _ (by assumption), secret_len, digits_len, recov_len] <;> omega) | rfl) (ints_one _ _) (by first | omega | (simp only [List.length_append, List.length_cons, List.length_nil, List.length_set, List.length_replicate, List.length_take, List.length_drop, ints_length, wr_length, sha_len, way_len _ (by assumption), secret_len, digits_len, recov_len] <;> omega) | rfl) rfl ?_
    refine st (ev_assign rfl) rfl rfl rfl ?_
    refine op_nil ?_
    refine ax_then ?_
    refine At.regs (L' := [(4, _), (5, _)]) (.cons rfl (.cons rfl (.nil _))) ?_
    refine cd_ret ?_
    refine rt_cell_tmp (h0 := 4) (.inl rfl) Try.results56 ty39 rfl rfl rfl (by first | omega | (simp only [List.length_append, List.length_cons, List.length_nil, List.length_set, List.length_replicate, List.length_take, List.length_drop, ints_length, wr_length, sha_len, way_len _ (by assumption), secret_len, digits_len, recov_len] <;> omega) | rfl) rfl ?_
    exact fun w1 sw => ⟨by rw [decide_eq_true (by omega)], sw.gives (.nil _)⟩

set_option maxRecDepth 20000 in
set_option maxHeartbeats 2000000 in
theorem rrecover_any (p q : Value) (m : List Int) (cs : List (List Int)) (w : World) (hm : m.length ≤ 1000000000) (hu : H32 cs) (hcl : cs.length ≤ 1000000000) (h : Rd w p 1 (ints .u8 m)) (h' : Rd w q 32 (flat cs)) : Calls Try.prog 58 #[p, q] w (PostV w (.tuple #[.agg (ints .u8 (recov m cs)).toArray, .bool (decide (cs.length = 36))])) := by
  refine calls_at (vs := [p, q]) (X := []) (H := []) (F := [(1, .sl q 32 (flat (cs))), (0, .sl p 1 (ints .u8 (m)))]) 33 Try.func58 rfl rfl rfl ((Sat.rd0 0 h).more 1 h') ?_
  refine cd_seq ?_
  refine cd_region ?_
  refine st_alloc (h := 4) ty39 rfl rfl rfl (fun b4 => ?_)
  refine st (ev_assign rfl) rfl rfl rfl ?_
  refine op_nil ?_
  refine ax_then ?_
  refine At.regs (L' := [(0, _), (1, _), (4, _), (5, _)]) (.cons rfl (.cons rfl (.cons rfl (.cons rfl (.nil _))))) ?_
  refine cd_seq ?_
  refine cd_seq ?_
  refine cd_region ?_
  refine st (ev_move rfl) rfl rfl rfl ?_
  refine st (ev_len_rdh (h := 1) Try.underlying26 rfl rfl (by assumption)) rfl rfl rfl ?_
  refine st (ev_neq rfl rfl) rfl rfl rfl ?_
  refine op_nil ?_
  refine ax_then ?_
  refine At.regs (L' := [(0, _), (1, _), (4, _), (5, _), (11, _)]) (.cons rfl (.cons rfl (.cons rfl (.cons rfl (.cons rfl (.nil _)))))) ?_
  refine cd_if rfl (fun hc11 => ?_) (fun hc11 => ?_)
  ·
    refine cd_seq ?_
    refine cd_region ?_
    refine st (ev_build_array ty39 rfl ty5 rfl rfl) rfl rfl rfl ?_
    refine st_store_all 4 ty39 rfl rfl rfl rfl (by first | omega | (simp only [List.length_append, List.length_cons, List.length_nil, List.length_set, List.length_replicate, List.length_take, List.length_drop, ints_length, wr_length, sha_len, way_len _ (by assumption), secret_len, digits_len, recov_len] <;> omega) | rfl) (ints_one _ _) (by first | omega | (simp only [List.length_append, List.length_cons, List.length_nil, List.length_set, List.length_replicate, List.length_take, List.length_drop, ints_length, wr_length, sha_len, way_len _ (by assumption), secret_len, digits_len, recov_len] <;> omega) | rfl) rfl ?_
    refine st (ev_assign rfl) rfl rfl rfl ?_
    refine op_nil ?_
    refine ax_then ?_
    refine At.regs (L' := [(0, _), (1, _), (4, _), (5, _)]) (.cons rfl (.cons rfl (.cons rfl (.cons rfl (.nil _))))) ?_
    refine cd_ret ?_
    refine ax_then_ret ?_
    refine rt_cell_tmp (h0 := 4) (.inl rfl) Try.results58 ty39 rfl rfl rfl (by first | omega | (simp only [List.length_append, List.length_cons, List.length_nil, List.length_set, List.length_replicate, List.length_take, List.length_drop, ints_length, wr_length, sha_len, way_len _ (by assumption), secret_len, digits_len, recov_len] <;> omega) | rfl) rfl ?_
    exact fun w1 sw => ⟨by rw [recov, if_neg (by omega), decide_eq_false (by omega)], sw.gives (.nil _)⟩
  ·
    have hn : cs.length = 36 := by omega
    refine cd_skip ?_
    refine ax_then ?_
    refine At.regs (L' := [(0, _), (1, _), (4, _), (5, _)]) (.cons rfl (.cons rfl (.cons rfl (.cons rfl (.nil _))))) ?_
    refine cd_seq ?_
    refine cd_region ?_
    refine st (ev_move rfl) rfl rfl rfl ?_
    refine st_callv has89 rfl (fun w1 sw => rdigits_any p m w1 hm (sw.sl_rd (h := 0) rfl)) rfl rfl ?_
    have hdl0 := digits_len m
    refine st_alloc (h := 6) ty115 rfl rfl rfl (fun b6 => ?_)
    refine st_store_all 6 ty115 rfl rfl rfl rfl (by first | omega | (simp only [List.length_append, List.length_cons, List.length_nil, List.length_set, List.length_replicate, List.length_take, List.length_drop, ints_length, wr_length, sha_len, way_len _ (by assumption), secret_len, digits_len, recov_len] <;> omega) | rfl) (ints_one _ _) (by first | omega | (simp only [List.length_append, List.length_cons, List.length_nil, List.length_set, List.length_replicate, List.length_take, List.length_drop, ints_length, wr_length, sha_len, way_len _ (by assumption), secret_len, digits_len, recov_len] <;> omega) | rfl) rfl ?_
    refine op_nil ?_
    refine ax_then ?_
    refine At.regs (L' := [(1, _), (4, _), (5, _), (6, _)]) (.cons rfl (.cons rfl (.cons rfl (.cons rfl (.nil _))))) ?_
    refine cd_seq ?_
    refine at_freeze_blk (h := 6) (H' := [(4, _)]) 6 rfl (.cons rfl (.nil _)) rfl ?_
    refine cd_region ?_
    refine st (ev_assign rfl) rfl rfl rfl ?_
    refine at_own_nil 7 39 32 ?_
    refine at_heq (i := 7) (v' := .own (.slice none 0 0) 39 32 (flat [])) rfl rfl ?_
    have hu7 := H32.nil
    refine op_nil ?_
    refine ax_then ?_
    refine At.regs (L' := [(1, _), (4, _), (5, _), (6, _), (7, _)]) (.cons rfl (.cons rfl (.cons rfl (.cons rfl (.cons rfl (.nil _)))))) ?_
    refine cd_seq ?_
    refine cd_seq ?_
    refine cd_region ?_
    refine st (ev_assign rfl) rfl rfl rfl ?_
    refine op_nil ?_
    refine ax_then ?_
    refine At.regs (L' := [(1, _), (4, _), (5, _), (6, _), (7, _), (8, _)]) (.cons rfl (.cons rfl (.cons rfl (.cons rfl (.cons rfl (.cons rfl (.nil _))))))) ?_
    refine cd_block ?_
    refine cd_loop (ι := Nat × Value) (fun x => x.1 ≤ 36) (fun x => 36 - x.1)
        (fun x => [(1, q), (4, .pointer (some ⟨b4, 0, none⟩)), (6, .pointer (some ⟨b6, 0, none⟩)), (7, x.2), (8, .int .i64 (x.1 : Int))])
        (fun x => [(4, .blk b4 (.cells (ints .u8 (List.replicate 32 0)).toArray 39)), (7, .own (x.2) 39 32 (flat (recs m cs x.1)))])
        (fun x => [(1, .sl q 32 (flat (cs))), (6, .mem b6 0 (ints .i64 (Ots.digits m)))])
        (0, .slice none 0 0) (by omega) (.cons rfl (.cons rfl (.cons rfl (.cons rfl (.cons rfl (.nil _)))))) (.cons rfl (.cons rfl (.nil _))) (.cons rfl (.cons rfl (.nil _))) (fun x hi => ?_)
    have hsu := recs_h32 m hu x.1 (by omega)
    have hsn := recs_len m cs x.1
    have e0 : 0 + (x.1 : Int).toNat * 1 = x.1 := by omega
    have e1 : (x.1 : Int).toNat = x.1 := by omega
    have hdl := digits_len m
    have hgx : x.1 < 36 → (cs.getD (x.1 : Int).toNat []).length = 32 := fun hx => hu.get (by omega)
    have hdr := digits_range m (0 + (x.1 : Int).toNat * 1)
    refine cd_seq ?_
    refine cd_seq ?_
    refine cd_region ?_
    refine st (ev_move rfl) rfl rfl rfl ?_
    refine st (ev_lss rfl rfl) rfl rfl rfl ?_
    refine op_nil ?_
    refine ax_then ?_
    refine At.regs (L' := [(1, _), (4, _), (6, _), (7, _), (8, _), (15, _), (16, _)]) (.cons rfl (.cons rfl (.cons rfl (.cons rfl (.cons rfl (.cons rfl (.cons rfl (.nil _)))))))) ?_
    refine cd_if rfl (fun hc16 => ?_) (fun hc16 => ?_)
    ·
      have hgx2 := hgx (by omega)
      refine cd_skip ?_
      refine ax_then ?_
      refine At.regs (L' := [(1, _), (4, _), (6, _), (7, _), (8, _), (15, _), (16, _)]) (.cons rfl (.cons rfl (.cons rfl (.cons rfl (.cons rfl (.cons rfl (.cons rfl (.nil _)))))))) ?_
      refine cd_seq ?_
      refine cd_block ?_
      refine cd_mix hmix ?_
      refine mx (i := 0) rfl (by decide +kernel) (by decide +kernel) (by decide +kernel) rfl (fun w0 => ev_move rfl) rfl rfl (Sub.refl _) ?_
      refine mx (i := 1) rfl (by decide +kernel) (by decide +kernel) (by decide +kernel) rfl (fun w0 => ev_move rfl) rfl rfl (Sub.refl _) ?_
      refine mx (i := 2) rfl (by decide +kernel) (by decide +kernel) (by decide +kernel) rfl (fun w0 => ev_move rfl) rfl rfl (Sub.refl _) ?_
      refine mx (i := 3) rfl (by decide +kernel) (by decide +kernel) (by decide +kernel) rfl (fun w0 => ev_indexAddr_rdh (h := 1) Try.underlying26 ty39 rfl rfl rfl (by assumption) (by omega) (by omega)) rfl rfl (Sub.refl _) ?_
      refine mx (i := 4) rfl (by decide +kernel) (by decide +kernel) (by decide +kernel) rfl (fun w0 => ld_rdh (h := 1) ty39 rfl rfl rfl (by assumption) (by omega)) rfl rfl (Sub.refl _) ?_
      refine mx (i := 5) rfl (by decide +kernel) (by decide +kernel) (by decide +kernel) rfl (fun w0 => ev_move rfl) rfl rfl (Sub.refl _) ?_
      refine mx (i := 6) rfl (by decide +kernel) (by decide +kernel) (by decide +kernel) rfl (fun w0 => ev_move rfl) rfl rfl (Sub.refl _) ?_
      refine mx (i := 7) rfl (by decide +kernel) (by decide +kernel) (by decide +kernel) rfl (fun w0 => ev_indexAddr_arr Try.underlying115 ty3 rfl rfl (by omega) (by omega)) rfl rfl (Sub.refl _) ?_
      refine mx (i := 8) rfl (by decide +kernel) (by decide +kernel) (by decide +kernel) rfl (fun w0 => ld_mem1 (h := 6) ty3 rfl rfl rfl (Nat.zero_add _).symm (ints_get _ _ _ (by first | omega | (simp only [List.length_append, List.length_cons, List.length_nil, List.length_set, List.length_replicate, List.length_take, List.length_drop, ints_length, wr_length, sha_len, way_len _ (by assumption), secret_len, digits_len, recov_len] <;> omega) | rfl))) rfl rfl (Sub.refl _) ?_
      refine mx_one (i := 9) (by decide +kernel) (Sub.refl _) ?_
      refine wo (i := 9) rfl ?_
      refine st_callv has77 rfl (fun w1 sw => rwalk_any (cs.getD (x.1 : Int).toNat []) x.1 ((Ots.digits m).getD (0 + (x.1 : Int).toNat * 1) 0) 3 w1 hgx2 (by omega)) rfl rfl ?_
      have hwl := walk_len (h := cs.getD (x.1 : Int).toNat []) x.1 ((Ots.digits m).getD (0 + (x.1 : Int).toNat * 1) 0) 3 hgx2
      refine op_nil ?_
      refine ax_then ?_
      refine mx_one (i := 10) (by decide +kernel) (Sub.refl _) ?_
      refine wo (i := 10) rfl ?_
      refine st_bsh1 (h := 29) Try.underlying26 ty39 rfl (by first | assumption | omega) rfl rfl (fun b29 hu29 => ?_)
      refine op_nil ?_
      refine ax_then ?_
      refine mx_one (i := 11) (by decide +kernel) (Sub.refl _) ?_
      refine wo (i := 11) rfl ?_
      refine st_appendh (h := 7) Try.underlying26 Try.underlying26 ty39 rfl rfl rfl rfl (fun w1 sw => sw.own_rd (h := 29) rfl) (by assumption) (by assumption) (by first | omega | (simp only [List.length_append, List.length_cons, List.length_nil, List.length_set, List.length_replicate, List.length_take, List.length_drop, ints_length, wr_length, sha_len, way_len _ (by assumption), secret_len, digits_len, recov_len] <;> omega)) (by decide) rfl rfl (fun v30 hu30 => ?_)
      refine op_nil ?_
      refine ax_then ?_
      refine mx (i := 12) rfl (by decide +kernel) (by decide +kernel) (by decide +kernel) rfl (fun w0 => ev_assign rfl) rfl rfl (Sub.refl _) ?_
      refine mx_done (by decide +kernel) (Sub.refl _) ?_
      refine ax_block ?_
      refine ax_then ?_
      refine At.regs (L' := [(1, _), (4, _), (6, _), (7, _), (8, _), (15, _), (16, _), (19, _), (20, _), (21, _), (22, _), (23, _), (24, _), (25, _), (26, _), (27, _), (28, _), (29, _), (30, _)]) (.cons rfl (.cons rfl (.cons rfl (.cons rfl (.cons rfl (.cons rfl (.cons rfl (.cons rfl (.cons rfl (.cons rfl (.cons rfl (.cons rfl (.cons rfl (.cons rfl (.cons rfl (.cons rfl (.cons rfl (.cons rfl (.cons rfl (.nil _)))))))))))))))))))) ?_
      refine cd_region ?_
      refine st (ev_move rfl) rfl rfl rfl ?_
      refine st (ev_add64 rfl rfl (by omega) (by omega)) rfl rfl rfl ?_
      refine st (ev_assign rfl) rfl rfl rfl ?_
      refine op_nil ?_
      refine ax_heq (i := 7) (v' := .own (v30) 39 32 (flat (recs m cs (x.1 + 1)))) rfl (by rw [recs_snoc, e0, e1]) ?_
      exact at_again ((x.1 + 1, v30)) (by show x.1 + 1 ≤ 36; omega) (by omega) (.cons rfl (.cons rfl (.cons rfl (.cons rfl (.cons rfl (.nil _)))))) (.cons rfl (.cons rfl (.nil _))) (.cons rfl (.cons rfl (.nil _)))
    ·
      obtain ⟨j, u⟩ := x
      dsimp only at hi hc16 ⊢
      obtain rfl : j = 36 := by omega
      refine cd_exit ?_
      refine ax_then_exit ?_
      refine ax_then_exit ?_
      refine ax_block_hit ?_
      refine ax_then ?_
      refine At.regs (L' := [(4, _), (7, _)]) (.cons rfl (.cons rfl (.nil _))) ?_
      refine cd_seq ?_
      refine cd_region ?_
      refine st (ev_move rfl) rfl rfl rfl ?_
      refine st_callv has79 rfl (fun w1 sw => rends_any u (recs m cs 36) w1 (recs_h32 m hu 36 (by omega)) (recs_len m cs 36) (sw.own_rd (h := 7) rfl)) rfl rfl ?_
      refine at_eq (i := 32) (v' := .agg (ints .u8 (recov m cs)).toArray) rfl (by rw [recs_ends m cs hn]) ?_
      have hrl := recov_len m cs
      refine st_store_all 4 ty39 rfl rfl rfl rfl (by first | omega | (simp only [List.length_append, List.length_cons, List.length_nil, List.length_set, List.length_replicate, List.length_take, List.length_drop, ints_length, wr_length, sha_len, way_len _ (by assumption), secret_len, digits_len, recov_len] <;> omega) | rfl) (ints_one _ _) (by first | omega | (simp only [List.length_append, List.length_cons, List.length_nil, List.length_set, List.length_replicate, List.length_take, List.length_drop, ints_length, wr_length, sha_len, way_len _ (by assumption), secret_len, digits_len, recov_len] <;> omega) | rfl) rfl ?_
      refine st (ev_assign rfl) rfl rfl rfl ?_
      refine op_nil ?_
      refine ax_then ?_
      refine At.regs (L' := [(4, _), (5, _)]) (.cons rfl (.cons rfl (.nil _))) ?_
      refine cd_ret ?_
      refine rt_cell_tmp (h0 := 4) (.inl rfl) Try.results58 ty39 rfl rfl rfl (by first | omega | (simp only [List.length_append, List.length_cons, List.length_nil, List.length_set, List.length_replicate, List.length_take, List.length_drop, ints_length, wr_length, sha_len, way_len _ (by assumption), secret_len, digits_len, recov_len] <;> omega) | rfl) rfl ?_
      exact fun w1 sw => ⟨by rw [decide_eq_true (by omega)], sw.gives (.nil _)⟩

theorem hashes_ext {a b : List (List Int)} (hl : a.length = b.length) (h : ∀ i, i < a.length → a.getD i [] = b.getD i []) : a = b := by
  apply List.ext_getElem hl
  intro i h1 h2
  have := h i h1
  simpa [List.getD_eq_getElem?_getD, h1, h2] using this

set_option maxRecDepth 20000 in
set_option maxHeartbeats 2000000 in
theorem hashes_any (p q : Value) (a b : List (List Int)) (w : World) (ha : H32 a) (hb : H32 b) (hal : a.length ≤ 1000000000) (hbl : b.length ≤ 1000000000) (h : Rd w p 32 (flat a)) (h' : Rd w q 32 (flat b)) : Calls Try.prog 16 #[p, q] w (PostV w (.bool (decide (a = b)))) := by
  refine calls_at (vs := [p, q]) (X := []) (H := []) (F := [(1, .sl q 32 (flat (b))), (0, .sl p 32 (flat (a)))]) 26 Try.func16 rfl rfl rfl ((Sat.rd0 0 h).more 1 h') ?_
  refine cd_seq ?_
  refine cd_region ?_
  refine st (ev_assign rfl) rfl rfl rfl ?_
  refine op_nil ?_
  refine ax_then ?_
  refine At.regs (L' := [(0, _), (1, _), (4, _)]) (.cons rfl (.cons rfl (.cons rfl (.nil _)))) ?_
  refine cd_seq ?_
  refine cd_seq ?_
  refine cd_region ?_
  refine st (ev_move rfl) rfl rfl rfl ?_
  refine st (ev_len_rdh (h := 0) Try.underlying26 rfl rfl (by assumption)) rfl rfl rfl ?_
  refine st (ev_move rfl) rfl rfl rfl ?_
  refine st (ev_len_rdh (h := 1) Try.underlying26 rfl rfl (by assumption)) rfl rfl rfl ?_
  refine st (ev_neq rfl rfl) rfl rfl rfl ?_
  refine op_nil ?_
  refine ax_then ?_
  refine At.regs (L' := [(0, _), (1, _), (4, _), (10, _)]) (.cons rfl (.cons rfl (.cons rfl (.cons rfl (.nil _))))) ?_
  refine cd_if rfl (fun hc10 => ?_) (fun hc10 => ?_)
  ·
    refine cd_seq ?_
    refine cd_region ?_
    refine st (ev_assign rfl) rfl rfl rfl ?_
    refine op_nil ?_
    refine ax_then ?_
    refine At.regs (L' := [(0, _), (1, _), (4, _)]) (.cons rfl (.cons rfl (.cons rfl (.nil _)))) ?_
    refine cd_ret ?_
    refine ax_then_ret ?_
    refine rt_tmp (.inl rfl) Try.results16 rfl ?_
    exact fun w1 sw => ⟨by rw [decide_eq_false (by intro e; subst e; omega)], sw.gives (.nil _)⟩
  ·
    have hab : a.length = b.length := by omega
    refine cd_skip ?_
    refine ax_then ?_
    refine At.regs (L' := [(0, _), (1, _), (4, _)]) (.cons rfl (.cons rfl (.cons rfl (.nil _)))) ?_
    refine cd_seq ?_
    refine cd_seq ?_
    refine cd_region ?_
    refine st (ev_assign rfl) rfl rfl rfl ?_
    refine op_nil ?_
    refine ax_then ?_
    refine At.regs (L' := [(0, _), (1, _), (4, _), (5, _)]) (.cons rfl (.cons rfl (.cons rfl (.cons rfl (.nil _))))) ?_
    refine cd_block ?_
    refine cd_loop (ι := Nat) (fun i => i ≤ a.length ∧ ∀ j, j < i → a.getD j [] = b.getD j []) (fun i => a.length - i)
        (fun i => [(0, p), (1, q), (5, .int .i64 (i : Int))])
        (fun i => [])
        (fun i => [(0, .sl p 32 (flat (a))), (1, .sl q 32 (flat (b)))])
        0 (⟨by omega, fun j hj => by omega⟩) (.cons rfl (.cons rfl (.cons rfl (.nil _)))) (.nil _) (.cons rfl (.cons rfl (.nil _))) (fun i hi => ?_)
    have hi1 := hi.1
    have e0 : (i : Int).toNat = i := by omega
    have ga : i < a.length → (a.getD (i : Int).toNat []).length = 32 := fun hx => ha.get (by omega)
    have gb : i < a.length → (b.getD (i : Int).toNat []).length = 32 := fun hx => hb.get (by omega)
    refine cd_seq ?_
    refine cd_seq ?_
    refine cd_region ?_
    refine st (ev_move rfl) rfl rfl rfl ?_
    refine st (ev_move rfl) rfl rfl rfl ?_
    refine st (ev_len_rdh (h := 0) Try.underlying26 rfl rfl (by assumption)) rfl rfl rfl ?_
    refine st (ev_lss rfl rfl) rfl rfl rfl ?_
    refine op_nil ?_
    refine ax_then ?_
    refine At.regs (L' := [(0, _), (1, _), (5, _), (11, _), (12, _), (13, _), (14, _)]) (.cons rfl (.cons rfl (.cons rfl (.cons rfl (.cons rfl (.cons rfl (.cons rfl (.nil _)))))))) ?_
    refine cd_if rfl (fun hc14 => ?_) (fun hc14 => ?_)
    ·
      have ga2 := ga (by omega)
      have gb2 := gb (by omega)
      refine cd_skip ?_
      refine ax_then ?_
      refine At.regs (L' := [(0, _), (1, _), (5, _), (11, _), (12, _), (13, _), (14, _)]) (.cons rfl (.cons rfl (.cons rfl (.cons rfl (.cons rfl (.cons rfl (.cons rfl (.nil _)))))))) ?_
      refine cd_seq ?_
      refine cd_block ?_
      refine cd_seq ?_
      refine cd_open hmix (by decide +kernel) ?_
      refine qt (ev_move rfl) rfl rfl rfl ?_
      refine qt (ev_move rfl) rfl rfl rfl ?_
      refine qt (ev_indexAddr_rdh (h := 0) Try.underlying26 ty39 rfl rfl rfl (by assumption) (by omega) (by omega)) rfl rfl rfl ?_
      refine qt (ld_rdh (h := 0) ty39 rfl rfl rfl (by assumption) (by omega)) rfl rfl rfl ?_
      refine qt (ev_move rfl) rfl rfl rfl ?_
      refine qt (ev_move rfl) rfl rfl rfl ?_
      refine qt (ev_indexAddr_rdh (h := 1) Try.underlying26 ty39 rfl rfl rfl (by assumption) (by omega) (by omega)) rfl rfl rfl ?_
      refine qt (ld_rdh (h := 1) ty39 rfl rfl rfl (by assumption) (by omega)) rfl rfl rfl ?_
      refine qt (ev_neq_arr Try.underlying39 ty5 eqg39 rfl rfl (by first | omega | (simp only [List.length_append, List.length_cons, List.length_nil, List.length_set, List.length_replicate, List.length_take, List.length_drop, ints_length, wr_length, sha_len, way_len _ (by assumption), secret_len, digits_len, recov_len] <;> omega) | rfl) (by first | omega | (simp only [List.length_append, List.length_cons, List.length_nil, List.length_set, List.length_replicate, List.length_take, List.length_drop, ints_length, wr_length, sha_len, way_len _ (by assumption), secret_len, digits_len, recov_len] <;> omega) | rfl)) rfl rfl rfl ?_
      refine qt_end ?_
      refine op_nil ?_
      refine ax_then ?_
      refine At.regs (L' := [(0, _), (1, _), (5, _), (11, _), (12, _), (13, _), (14, _), (17, _), (18, _), (19, _), (20, _), (21, _), (22, _), (23, _), (24, _), (25, _)]) (.cons rfl (.cons rfl (.cons rfl (.cons rfl (.cons rfl (.cons rfl (.cons rfl (.cons rfl (.cons rfl (.cons rfl (.cons rfl (.cons rfl (.cons rfl (.cons rfl (.cons rfl (.cons rfl (.nil _))))))))))))))))) ?_
      refine cd_if rfl (fun hc25 => ?_) (fun hc25 => ?_)
      ·
        have hne : a ≠ b := by intro e; subst e; exact hc25 rfl
        refine cd_seq ?_
        refine cd_region ?_
        refine st (ev_assign rfl) rfl rfl rfl ?_
        refine op_nil ?_
        refine ax_then ?_
        refine At.regs (L' := [(0, _), (1, _), (4, _), (5, _), (11, _), (12, _), (13, _), (14, _), (17, _), (18, _), (19, _), (20, _), (21, _), (22, _), (23, _), (24, _), (25, _)]) (.cons rfl (.cons rfl (.cons rfl (.cons rfl (.cons rfl (.cons rfl (.cons rfl (.cons rfl (.cons rfl (.cons rfl (.cons rfl (.cons rfl (.cons rfl (.cons rfl (.cons rfl (.cons rfl (.cons rfl (.nil _)))))))))))))))))) ?_
        refine cd_ret ?_
        refine ax_block_ret ?_
        refine ax_then_ret ?_
        refine ax_then_ret ?_
        refine ax_block_ret ?_
        refine ax_then_ret ?_
        refine rt_tmp (.inl rfl) Try.results16 rfl ?_
        exact fun w1 sw => ⟨by rw [decide_eq_false hne], sw.gives (.nil _)⟩
      ·
        refine cd_skip ?_
        refine ax_block ?_
        refine ax_then ?_
        refine At.regs (L' := [(0, _), (1, _), (5, _), (11, _), (12, _), (13, _), (14, _), (17, _), (18, _), (19, _), (20, _), (21, _), (22, _), (23, _), (24, _), (25, _)]) (.cons rfl (.cons rfl (.cons rfl (.cons rfl (.cons rfl (.cons rfl (.cons rfl (.cons rfl (.cons rfl (.cons rfl (.cons rfl (.cons rfl (.cons rfl (.cons rfl (.cons rfl (.cons rfl (.nil _))))))))))))))))) ?_
        refine cd_region ?_
        refine st (ev_move rfl) rfl rfl rfl ?_
        refine st (ev_add64 rfl rfl (by omega) (by omega)) rfl rfl rfl ?_
        refine st (ev_assign rfl) rfl rfl rfl ?_
        refine op_nil ?_
        exact at_again (i + 1) (⟨by omega, fun j hj => (Nat.lt_succ_iff_lt_or_eq.1 hj).elim (hi.2 j) (fun e => by subst e; simpa using hc25)⟩) (by omega) (.cons rfl (.cons rfl (.cons rfl (.nil _)))) (.nil _) (.cons rfl (.cons rfl (.nil _)))
    ·
      obtain rfl : i = a.length := by omega
      refine cd_exit ?_
      refine ax_then_exit ?_
      refine ax_then_exit ?_
      refine ax_block_hit ?_
      refine ax_then ?_
      refine At.regs (L' := []) (.nil _) ?_
      refine cd_seq ?_
      refine cd_region ?_
      refine st (ev_assign rfl) rfl rfl rfl ?_
      refine op_nil ?_
      refine ax_then ?_
      refine At.regs (L' := [(4, _)]) (.cons rfl (.nil _)) ?_
      refine cd_ret ?_
      refine rt_tmp (.inl rfl) Try.results16 rfl ?_
      exact fun w1 sw => ⟨by rw [decide_eq_true (hashes_ext hab hi.2)], sw.gives (.nil _)⟩

end Go.Proofs.Yteedclmcgifmpaa

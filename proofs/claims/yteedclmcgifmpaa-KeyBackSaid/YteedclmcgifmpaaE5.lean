/- Walks: chapter 3. -/
import Derived.Test.YteedclmcgifmpaaE4
namespace Go.Proofs.Yteedclmcgifmpaa
open Go Go.RowKit Fw
open Sha
open Ots
set_option linter.unusedVariables false
set_option linter.unusedSimpArgs false

theorem digits_range (m : List Int) (i : Nat) : 0 ≤ (digits m).getD i 0 ∧ (digits m).getD i 0 ≤ 3 := by
  have h : ∀ x, x ∈ digits m → 0 ≤ x ∧ x ≤ 3 := by
    intro x hx
    simp only [Ots.digits, d2, List.mem_append, List.mem_map, List.mem_replicate] at hx
    rcases hx with (⟨c, _, rfl⟩ | ⟨c, _, rfl⟩) | ⟨_, rfl⟩
    · exact dg_range _ _
    · omega
    · omega
  rw [List.getD_eq_getElem?_getD]
  cases e : (digits m)[i]? with
  | none => decide
  | some x => exact h x (List.mem_of_getElem? e)
/-- what chains are recovered to -/
def recs (m : List Int) (cs : List (List Int)) (n : Nat) : List (List Int) := (List.range n).map fun (c : Nat) => walk (cs.getD c []) c ((digits m).getD c 0) 3
theorem recs_snoc (m : List Int) (cs : List (List Int)) (n : Nat) : recs m cs (n + 1) = recs m cs n ++ [walk (cs.getD n []) n ((digits m).getD n 0) 3] := by simp [recs, List.range_succ]
theorem recs_h32 (m : List Int) {cs : List (List Int)} (hu : H32 cs) (n : Nat) (hn : n ≤ cs.length) : H32 (recs m cs n) := fun h hh => by
  simp only [recs, List.mem_map, List.mem_range] at hh
  obtain ⟨c, hc, rfl⟩ := hh
  exact walk_len _ _ _ (hu.get (by omega))
theorem recs_len (m : List Int) (cs : List (List Int)) (n : Nat) : (recs m cs n).length = n := by simp [recs]
def recov (m : List Int) (cs : List (List Int)) : List Int := if cs.length = 36 then ends (fun c => walk (cs.getD c []) c ((digits m).getD c 0) 3) else List.replicate 32 0
theorem recs_ends (m : List Int) (cs : List (List Int)) (h : cs.length = 36) : ends (fun i => (recs m cs 36).getD i []) = recov m cs := by
  rw [recov, if_pos h]
  exact ends_congr fun i hi => by
    rw [recs, List.getD_eq_getElem?_getD, List.getElem?_map, List.getElem?_range hi]
    rfl
theorem recov_len (m : List Int) (cs : List (List Int)) : (recov m cs).length = 32 := by
  rw [recov]
  split
  · exact sha_len _
  · simp
theorem at36 (d : List Int) (x : Value) (hl : d.length = 36) : (ints .i64 d ++ [x])[36]? = some x := by
  rw [List.getElem?_append_right (by rw [ints_length, hl]; decide), ints_length, hl]
  rfl
theorem lt36 (d : List Int) (x : Value) (hl : d.length = 36) (i : Nat) (hi : i < 36) : (ints .i64 d ++ [x])[i]? = some (.int .i64 (d.getD i 0)) := by
  rw [List.getElem?_append_left (by rw [ints_length, hl]; exact hi)]
  exact ints_get _ _ _ (by omega)

set_option maxRecDepth 20000 in
set_option maxHeartbeats 2000000 in
theorem rsign_any (s : List Int) (l : Int) (p : Value) (m : List Int) (w : World) (hl : s.length = 32) (hm : m.length ≤ 1000000000) (h : Rd w p 1 (ints .u8 m)) : Calls Try.prog 54 #[.agg (ints .u8 (s)).toArray, .int .i64 l, p] w (Post (ι := Value) w [] (fun _ => True) (fun v => v) (fun v => [(0, .own (v) 39 32 (flat (sign s l m 36)))])) := by
  refine calls_at (vs := [.agg (ints .u8 (s)).toArray, .int .i64 l, p]) (X := []) (H := []) (F := [(2, .sl p 1 (ints .u8 (m)))]) 29 Try.func54 rfl rfl rfl (Sat.rd0 2 h) ?_
  refine cd_seq ?_
  refine cd_region ?_
  refine st_box (h := 3) rfl rfl rfl rfl (fun b3 => ?_)
  refine st (ev_assign rfl) rfl rfl rfl ?_
  refine at_own_nil 6 39 32 ?_
  refine at_heq (i := 6) (v' := .own (.slice none 0 0) 39 32 (flat [])) rfl rfl ?_
  have hu6 := H32.nil
  refine op_nil ?_
  refine ax_then ?_
  refine At.regs (L' := [(1, _), (2, _), (3, _), (6, _)]) (.cons rfl (.cons rfl (.cons rfl (.cons rfl (.nil _))))) ?_
  refine cd_seq ?_
  refine cd_region ?_
  refine st (ev_move rfl) rfl rfl rfl ?_
  refine st_callv has89 rfl (fun w1 sw => rdigits_any p m w1 hm (sw.sl_rd (h := 2) rfl)) rfl rfl ?_
  have hdl0 := digits_len m
  refine st_alloc (h := 7) ty115 rfl rfl rfl (fun b7 => ?_)
  refine st_store_all 7 ty115 rfl rfl rfl rfl (by first | omega | (simp only [List.length_append, List.length_cons, List.length_nil, List.length_set, List.length_replicate, List.length_take, List.length_drop, ints_length, wr_length, sha_len, way_len _ (by assumption), secret_len, digits_len] <;> omega) | rfl) (ints_one _ _) (by first | omega | (simp only [List.length_append, List.length_cons, List.length_nil, List.length_set, List.length_replicate, List.length_take, List.length_drop, ints_length, wr_length, sha_len, way_len _ (by assumption), secret_len, digits_len] <;> omega) | rfl) rfl ?_
  refine op_nil ?_
  refine ax_then ?_
  refine At.regs (L' := [(1, _), (3, _), (6, _), (7, _)]) (.cons rfl (.cons rfl (.cons rfl (.cons rfl (.nil _))))) ?_
  refine cd_seq ?_
  refine at_freeze_blk (h := 3) (H' := [(7, _)]) 3 rfl (.cons rfl (.nil _)) rfl ?_
  refine at_freeze_blk (h := 7) (H' := []) 7 rfl (.nil _) rfl ?_
  refine cd_region ?_
  refine st (ev_assign rfl) rfl rfl rfl ?_
  refine at_own_nil 8 39 32 ?_
  refine at_heq (i := 8) (v' := .own (.slice none 0 0) 39 32 (flat [])) rfl rfl ?_
  have hu8 := H32.nil
  refine op_nil ?_
  refine ax_then ?_
  refine At.regs (L' := [(1, _), (3, _), (6, _), (7, _), (8, _)]) (.cons rfl (.cons rfl (.cons rfl (.cons rfl (.cons rfl (.nil _)))))) ?_
  refine cd_seq ?_
  refine cd_seq ?_
  refine cd_region ?_
  refine st (ev_assign rfl) rfl rfl rfl ?_
  refine op_nil ?_
  refine ax_then ?_
  refine At.regs (L' := [(1, _), (3, _), (6, _), (7, _), (8, _), (9, _)]) (.cons rfl (.cons rfl (.cons rfl (.cons rfl (.cons rfl (.cons rfl (.nil _))))))) ?_
  refine cd_block ?_
  have hdl := digits_len m
  refine cd_loop (ι := Nat × Value) (fun x => x.1 ≤ 36) (fun x => 36 - x.1)
      (fun x => [(1, .int .i64 l), (3, .pointer (some ⟨b3, 0, none⟩)), (7, .pointer (some ⟨b7, 0, none⟩)), (8, x.2), (9, .int .i64 (x.1 : Int))])
      (fun x => [(8, .own (x.2) 39 32 (flat (sign s l m x.1)))])
      (fun x => [(3, .mem b3 0 (ints .u8 s)), (7, .mem b7 0 (ints .i64 (digits m)))])
      (0, .slice none 0 0) (by omega) (.cons rfl (.cons rfl (.cons rfl (.cons rfl (.cons rfl (.nil _)))))) (.cons rfl (.nil _)) (.cons rfl (.cons rfl (.nil _))) (fun x hi => ?_)
  have hsu := sign_h32 s l m x.1
  have hsn := sign_len s l m x.1
  have e0 : 0 + (x.1 : Int).toNat * 1 = x.1 := by omega
  have hdl := digits_len m
  refine cd_seq ?_
  refine cd_seq ?_
  refine cd_region ?_
  refine st (ev_move rfl) rfl rfl rfl ?_
  refine st (ev_lss rfl rfl) rfl rfl rfl ?_
  refine op_nil ?_
  refine ax_then ?_
  refine At.regs (L' := [(1, _), (3, _), (7, _), (8, _), (9, _), (12, _), (13, _)]) (.cons rfl (.cons rfl (.cons rfl (.cons rfl (.cons rfl (.cons rfl (.cons rfl (.nil _)))))))) ?_
  refine cd_if rfl (fun hc13 => ?_) (fun hc13 => ?_)
  ·
    refine cd_skip ?_
    refine ax_then ?_
    refine At.regs (L' := [(1, _), (3, _), (7, _), (8, _), (9, _), (12, _), (13, _)]) (.cons rfl (.cons rfl (.cons rfl (.cons rfl (.cons rfl (.cons rfl (.cons rfl (.nil _)))))))) ?_
    refine cd_seq ?_
    refine cd_block ?_
    refine cd_mix hmix ?_
    refine mx (i := 0) rfl (by decide +kernel) (by decide +kernel) (by decide +kernel) rfl (fun w0 => ev_move rfl) rfl rfl (Sub.refl _) ?_
    refine mx (i := 1) rfl (by decide +kernel) (by decide +kernel) (by decide +kernel) rfl (fun w0 => ld_mem_all (h := 3) ty39 rfl rfl rfl (by first | omega | (simp only [List.length_append, List.length_cons, List.length_nil, List.length_set, List.length_replicate, List.length_take, List.length_drop, ints_length, wr_length, sha_len, way_len _ (by assumption), secret_len, digits_len] <;> omega) | rfl)) rfl rfl (Sub.refl _) ?_
    refine mx (i := 2) rfl (by decide +kernel) (by decide +kernel) (by decide +kernel) rfl (fun w0 => ev_move rfl) rfl rfl (Sub.refl _) ?_
    refine mx (i := 3) rfl (by decide +kernel) (by decide +kernel) (by decide +kernel) rfl (fun w0 => ev_move rfl) rfl rfl (Sub.refl _) ?_
    refine mx (i := 5) rfl (by decide +kernel) (by decide +kernel) (by decide +kernel) rfl (fun w0 => ev_move rfl) rfl rfl (Sub.refl _) ?_
    refine mx (i := 6) rfl (by decide +kernel) (by decide +kernel) (by decide +kernel) rfl (fun w0 => ev_move rfl) rfl rfl (Sub.refl _) ?_
    refine mx (i := 7) rfl (by decide +kernel) (by decide +kernel) (by decide +kernel) rfl (fun w0 => ev_indexAddr_arr Try.underlying115 ty3 rfl rfl (by omega) (by omega)) rfl rfl (Sub.refl _) ?_
    refine mx (i := 8) rfl (by decide +kernel) (by decide +kernel) (by decide +kernel) rfl (fun w0 => ld_mem1 (h := 7) ty3 rfl rfl rfl (Nat.zero_add _).symm (ints_get _ _ _ (by first | omega | (simp only [List.length_append, List.length_cons, List.length_nil, List.length_set, List.length_replicate, List.length_take, List.length_drop, ints_length, wr_length, sha_len, way_len _ (by assumption), secret_len, digits_len] <;> omega) | rfl))) rfl rfl (Sub.refl _) ?_
    refine mx_one (i := 4) (by decide +kernel) (Sub.refl _) ?_
    refine wo (i := 4) rfl ?_
    refine st_callv has78 rfl (fun w1 sw => rsecret_any s l x.1 w1 hl) rfl rfl ?_
    refine op_nil ?_
    refine ax_then ?_
    refine mx_one (i := 9) (by decide +kernel) (Sub.refl _) ?_
    refine wo (i := 9) rfl ?_
    refine st_callv has77 rfl (fun w1 sw => rwalk_any (secret s l x.1) x.1 0 ((digits m).getD (0 + (x.1 : Int).toNat * 1) 0) w1 (secret_len s l x.1) (by decide)) rfl rfl ?_
    have hwl := walk_len (h := secret s l x.1) x.1 0 ((digits m).getD (0 + (x.1 : Int).toNat * 1) 0) (secret_len s l x.1)
    refine op_nil ?_
    refine ax_then ?_
    refine mx_one (i := 10) (by decide +kernel) (Sub.refl _) ?_
    refine wo (i := 10) rfl ?_
    refine st_bsh1 (h := 26) Try.underlying26 ty39 rfl (by first | assumption | omega) rfl rfl (fun b26 hu26 => ?_)
    refine op_nil ?_
    refine ax_then ?_
    refine mx_one (i := 11) (by decide +kernel) (Sub.refl _) ?_
    refine wo (i := 11) rfl ?_
    refine st_appendh (h := 8) Try.underlying26 Try.underlying26 ty39 rfl rfl rfl rfl (fun w1 sw => sw.own_rd (h := 26) rfl) (by assumption) (by assumption) (by first | omega | (simp only [List.length_append, List.length_cons, List.length_nil, List.length_set, List.length_replicate, List.length_take, List.length_drop, ints_length, wr_length, sha_len, way_len _ (by assumption), secret_len, digits_len] <;> omega)) (by decide) rfl rfl (fun v27 hu27 => ?_)
    refine op_nil ?_
    refine ax_then ?_
    refine mx (i := 12) rfl (by decide +kernel) (by decide +kernel) (by decide +kernel) rfl (fun w0 => ev_assign rfl) rfl rfl (Sub.refl _) ?_
    refine mx_done (by decide +kernel) (Sub.refl _) ?_
    refine ax_block ?_
    refine ax_then ?_
    refine At.regs (L' := [(1, _), (3, _), (7, _), (8, _), (9, _), (12, _), (13, _), (16, _), (17, _), (18, _), (19, _), (20, _), (21, _), (22, _), (23, _), (24, _), (25, _), (26, _), (27, _)]) (.cons rfl (.cons rfl (.cons rfl (.cons rfl (.cons rfl (.cons rfl (.cons rfl (.cons rfl (.cons rfl (.cons rfl (.cons rfl (.cons rfl (.cons rfl (.cons rfl (.cons rfl (.cons rfl (.cons rfl (.cons rfl (.cons rfl (.nil _)))))))))))))))))))) ?_
    refine cd_region ?_
    refine st (ev_move rfl) rfl rfl rfl ?_
    refine st (ev_add64 rfl rfl (by omega) (by omega)) rfl rfl rfl ?_
    refine st (ev_assign rfl) rfl rfl rfl ?_
    refine op_nil ?_
    refine ax_heq (i := 8) (v' := .own (v27) 39 32 (flat (sign s l m (x.1 + 1)))) rfl (by rw [sign_snoc, e0]) ?_
    exact at_again ((x.1 + 1, v27)) (by show x.1 + 1 ≤ 36; omega) (by omega) (.cons rfl (.cons rfl (.cons rfl (.cons rfl (.cons rfl (.nil _)))))) (.cons rfl (.nil _)) (.cons rfl (.cons rfl (.nil _)))
  ·
    obtain ⟨j, u⟩ := x
    dsimp only at hi hc13 ⊢
    obtain rfl : j = 36 := by omega
    refine cd_exit ?_
    refine ax_then_exit ?_
    refine ax_then_exit ?_
    refine ax_block_hit ?_
    refine ax_then ?_
    refine At.regs (L' := [(8, _)]) (.cons rfl (.nil _)) ?_
    refine cd_seq ?_
    refine cd_region ?_
    refine st (ev_move rfl) rfl rfl rfl ?_
    refine st (ev_assign rfl) rfl rfl rfl ?_
    refine op_nil ?_
    refine ax_then ?_
    refine At.regs (L' := [(6, _)]) (.cons rfl (.nil _)) ?_
    refine cd_ret ?_
    refine rt_tmp (.inl rfl) Try.results54 rfl ?_
    exact fun w1 sw => ⟨_, trivial, rfl, (sw.gives (N := [(8, _)]) (.cons rfl (.nil _))).rn 0⟩

end Go.Proofs.Yteedclmcgifmpaa

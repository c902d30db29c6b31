/- Walks: chapter 4. -/
import Derived.Test.YteedclmcgifmpaaM1
namespace Go.Proofs.Yteedclmcgifmpaa
open Go Go.RowKit Fw
open Sha
open Mk
set_option linter.unusedVariables false
set_option linter.unusedSimpArgs false

set_option maxRecDepth 20000 in
set_option maxHeartbeats 4000000 in
theorem path_step (N : Nat) (ih : ∀ (p : Value) (cs : List (List Int)) (i : Int) (w : World), cs.length < N → H32 cs → cs.length ≤ 256 → (-9223372036854775808 ≤ i ∧ i ≤ 9223372036854775807) → Rd w p 32 (flat cs) → Calls Try.prog 53 #[p, .int .i64 i] w (Post (ι := Value) w [] (fun _ => True) (fun v => v) (fun v => [(0, .own (v) 39 32 (flat (path cs i)))]))) (p : Value) (cs : List (List Int)) (i : Int) (w : World) (hN : cs.length = N) (hu : H32 cs) (hcl : cs.length ≤ 256) (hi : -9223372036854775808 ≤ i ∧ i ≤ 9223372036854775807) (h : Rd w p 32 (flat cs)) : Calls Try.prog 53 #[p, .int .i64 i] w (Post (ι := Value) w [] (fun _ => True) (fun v => v) (fun v => [(0, .own (v) 39 32 (flat (path cs i)))])) := by
  refine calls_at (vs := [p, .int .i64 i]) (X := []) (H := []) (F := [(0, .sl p 32 (flat (cs)))]) 49 Try.func53 rfl rfl rfl (Sat.rd0 0 h) ?_
  refine cd_seq ?_
  refine cd_region ?_
  refine st (ev_assign rfl) rfl rfl rfl ?_
  refine at_own_nil 4 39 32 ?_
  refine at_heq (i := 4) (v' := .own (.slice none 0 0) 39 32 (flat [])) rfl rfl ?_
  have hu4 := H32.nil
  refine op_nil ?_
  refine ax_then ?_
  refine At.regs (L' := [(0, _), (1, _), (4, _)]) (.cons rfl (.cons rfl (.cons rfl (.nil _)))) ?_
  refine cd_seq ?_
  refine cd_seq ?_
  refine cd_region ?_
  refine st (ev_move rfl) rfl rfl rfl ?_
  refine st (ev_lss rfl rfl) rfl rfl rfl ?_
  refine st (ev_move rfl) rfl rfl rfl ?_
  refine at_split_if (i := 8) rfl (fun hg8 => ?_) (fun hg8 => ?_)
  ·
    have hno : path cs i = [] := path_no (by omega)
    refine st_skip rfl rfl rfl ?_
    refine st_skip rfl rfl rfl ?_
    refine st_skip rfl rfl rfl ?_
    refine st_skip rfl rfl rfl ?_
    refine st (ev_pick_t rfl rfl) rfl rfl rfl ?_
    refine st (ev_move rfl) rfl rfl rfl ?_
    refine st_skip rfl rfl rfl ?_
    refine st_skip rfl rfl rfl ?_
    refine st_skip rfl rfl rfl ?_
    refine st (ev_pick_t rfl rfl) rfl rfl rfl ?_
    refine op_nil ?_
    refine ax_then ?_
    refine At.regs (L' := [(0, _), (1, _), (4, _), (18, _)]) (.cons rfl (.cons rfl (.cons rfl (.cons rfl (.nil _))))) ?_
    refine cd_true rfl ?_
    refine cd_seq ?_
    refine cd_region ?_
    refine st (ev_assign rfl) rfl rfl rfl ?_
    refine at_own_nil 4 39 32 ?_
    refine at_heq (i := 4) (v' := .own (.slice none 0 0) 39 32 (flat [])) rfl rfl ?_
    have hu4 := H32.nil
    refine op_nil ?_
    refine ax_then ?_
    refine At.regs (L' := [(0, _), (1, _), (4, _)]) (.cons rfl (.cons rfl (.cons rfl (.nil _)))) ?_
    refine cd_ret ?_
    refine ax_then_ret ?_
    refine rt_tmp (.inl rfl) Try.results53 rfl ?_
    exact fun w1 sw => ⟨_, trivial, rfl, by rw [hno]; exact (sw.gives (N := [(4, _)]) (.cons rfl (.nil _))).rn 0⟩
  ·
    refine st (ev_move rfl) rfl rfl rfl ?_
    refine st (ev_move rfl) rfl rfl rfl ?_
    refine st (ev_len_rdh (h := 0) Try.underlying26 rfl rfl (by assumption)) rfl rfl rfl ?_
    refine st (ev_geq rfl rfl) rfl rfl rfl ?_
    refine st (ev_pick_f rfl rfl) rfl rfl rfl ?_
    refine st (ev_move rfl) rfl rfl rfl ?_
    refine at_split_if (i := 14) rfl (fun hg14 => ?_) (fun hg14 => ?_)
    ·
      have hno : path cs i = [] := path_no (by omega)
      refine st_skip rfl rfl rfl ?_
      refine st_skip rfl rfl rfl ?_
      refine st_skip rfl rfl rfl ?_
      refine st (ev_pick_t rfl rfl) rfl rfl rfl ?_
      refine op_nil ?_
      refine ax_then ?_
      refine At.regs (L' := [(0, _), (1, _), (4, _), (18, _)]) (.cons rfl (.cons rfl (.cons rfl (.cons rfl (.nil _))))) ?_
      refine cd_true rfl ?_
      refine cd_seq ?_
      refine cd_region ?_
      refine st (ev_assign rfl) rfl rfl rfl ?_
      refine at_own_nil 4 39 32 ?_
      refine at_heq (i := 4) (v' := .own (.slice none 0 0) 39 32 (flat [])) rfl rfl ?_
      have hu4 := H32.nil
      refine op_nil ?_
      refine ax_then ?_
      refine At.regs (L' := [(0, _), (1, _), (4, _)]) (.cons rfl (.cons rfl (.cons rfl (.nil _)))) ?_
      refine cd_ret ?_
      refine ax_then_ret ?_
      refine rt_tmp (.inl rfl) Try.results53 rfl ?_
      exact fun w1 sw => ⟨_, trivial, rfl, by rw [hno]; exact (sw.gives (N := [(4, _)]) (.cons rfl (.nil _))).rn 0⟩
    ·
      refine st (ev_move rfl) rfl rfl rfl ?_
      refine st (ev_len_rdh (h := 0) Try.underlying26 rfl rfl (by assumption)) rfl rfl rfl ?_
      refine st (ev_eql rfl rfl) rfl rfl rfl ?_
      refine st (ev_pick_f rfl rfl) rfl rfl rfl ?_
      refine op_nil ?_
      refine ax_then ?_
      refine At.regs (L' := [(0, _), (1, _), (4, _), (18, _)]) (.cons rfl (.cons rfl (.cons rfl (.cons rfl (.nil _))))) ?_
      refine cd_if rfl (fun hc18 => ?_) (fun hc18 => ?_)
      ·
        have hno : path cs i = [] := path_no (by omega)
        refine cd_seq ?_
        refine cd_region ?_
        refine st (ev_assign rfl) rfl rfl rfl ?_
        refine at_own_nil 4 39 32 ?_
        refine at_heq (i := 4) (v' := .own (.slice none 0 0) 39 32 (flat [])) rfl rfl ?_
        have hu4 := H32.nil
        refine op_nil ?_
        refine ax_then ?_
        refine At.regs (L' := [(0, _), (1, _), (4, _)]) (.cons rfl (.cons rfl (.cons rfl (.nil _)))) ?_
        refine cd_ret ?_
        refine ax_then_ret ?_
        refine rt_tmp (.inl rfl) Try.results53 rfl ?_
        exact fun w1 sw => ⟨_, trivial, rfl, by rw [hno]; exact (sw.gives (N := [(4, _)]) (.cons rfl (.nil _))).rn 0⟩
      ·
        have hge : 2 ≤ cs.length := by omega
        have hlt := half_lt hge
        have hps := half_pos cs.length
        refine cd_skip ?_
        refine ax_then ?_
        refine At.regs (L' := [(0, _), (1, _), (4, _)]) (.cons rfl (.cons rfl (.cons rfl (.nil _)))) ?_
        refine cd_seq ?_
        refine cd_region ?_
        refine st (ev_move rfl) rfl rfl rfl ?_
        refine st (ev_len_rdh (h := 0) Try.underlying26 rfl rfl (by assumption)) rfl rfl rfl ?_
        refine at_eq (i := 20) (v' := .int .i64 (cs.length : Int)) rfl rfl ?_
        refine st_callv has84 rfl (fun w1 sw => half_any cs.length w1 hge (by omega)) rfl rfl ?_
        refine st (ev_assign rfl) rfl rfl rfl ?_
        refine op_nil ?_
        refine ax_then ?_
        refine At.regs (L' := [(0, _), (1, _), (4, _), (5, _)]) (.cons rfl (.cons rfl (.cons rfl (.cons rfl (.nil _))))) ?_
        refine cd_seq ?_
        refine cd_seq ?_
        refine cd_region ?_
        refine st (ev_move rfl) rfl rfl rfl ?_
        refine st (ev_move rfl) rfl rfl rfl ?_
        refine st (ev_lss rfl rfl) rfl rfl rfl ?_
        refine op_nil ?_
        refine ax_then ?_
        refine At.regs (L' := [(0, _), (1, _), (4, _), (5, _), (24, _)]) (.cons rfl (.cons rfl (.cons rfl (.cons rfl (.cons rfl (.nil _)))))) ?_
        refine cd_if rfl (fun hc24 => ?_) (fun hc24 => ?_)
        ·
          have hyes := path_lo (by omega) hge hc24
          have hrl := root_len (hu.drop (half cs.length))
          refine cd_seq ?_
          refine cd_mix hmix ?_
          refine mx (i := 0) rfl (by decide +kernel) (by decide +kernel) (by decide +kernel) rfl (fun w0 => ev_move rfl) rfl rfl (Sub.refl _) ?_
          refine mx (i := 1) rfl (by decide +kernel) (by decide +kernel) (by decide +kernel) rfl (fun w0 => ev_move rfl) rfl rfl (Sub.refl _) ?_
          refine mx (i := 2) rfl (by decide +kernel) (by decide +kernel) (by decide +kernel) rfl (fun w0 => ev_sliceh_hi Try.underlying26 ty39 rfl rfl (fun w1 sw => sw.sl_rd (h := 0) rfl) (by assumption) (by omega) (by first | omega | (simp only [List.length_append, List.length_cons, List.length_nil, List.length_set, List.length_replicate, List.length_take, List.length_drop, ints_length, wr_length, node_len] <;> omega))) rfl rfl (Sub.refl _) ?_
          refine at_eq (i := 27) (v' := cutAt 32 p 0 (half cs.length)) rfl (by rw [Int.toNat_natCast]) ?_
          refine mx (i := 3) rfl (by decide +kernel) (by decide +kernel) (by decide +kernel) rfl (fun w0 => ev_move rfl) rfl rfl (Sub.refl _) ?_
          refine mx (i := 5) rfl (by decide +kernel) (by decide +kernel) (by decide +kernel) rfl (fun w0 => ev_move rfl) rfl rfl (Sub.refl _) ?_
          refine mx (i := 6) rfl (by decide +kernel) (by decide +kernel) (by decide +kernel) rfl (fun w0 => ev_move rfl) rfl rfl (Sub.refl _) ?_
          refine mx (i := 7) rfl (by decide +kernel) (by decide +kernel) (by decide +kernel) rfl (fun w0 => ev_sliceh_lo Try.underlying26 ty39 rfl rfl (fun w1 sw => sw.sl_rd (h := 0) rfl) (by assumption) (by omega) (by first | omega | (simp only [List.length_append, List.length_cons, List.length_nil, List.length_set, List.length_replicate, List.length_take, List.length_drop, ints_length, wr_length, node_len] <;> omega))) rfl rfl (Sub.refl _) ?_
          refine at_eq (i := 32) (v' := cutAt 32 p (half cs.length) cs.length) rfl (by rw [Int.toNat_natCast]) ?_
          refine mx_one (i := 4) (by decide +kernel) (Sub.refl _) ?_
          refine wo (i := 4) rfl ?_
          refine st_call has53 rfl (fun w1 sw => rn 29 (ih (cutAt 32 p 0 (half cs.length)) (cs.take (half cs.length)) (i) w1 (by rw [List.length_take]; omega) (hu.take _) (by rw [List.length_take]; omega) (by omega) (takeh (sw.sl_rd (h := 0) rfl) hu (by omega)))) nil_all rfl rfl (fun v29 _ => ?_)
          have hu29 := path_h32 _ (cs.take (half cs.length)) (i) (Nat.le_refl _) (hu.take _)
          have hpm := path_max _ (cs.take (half cs.length)) (i) (Nat.le_refl _)
          have hlt2 : ((cs.take (half cs.length))).length ≤ 256 := (by rw [List.length_take]; omega)
          refine op_nil ?_
          refine ax_then ?_
          refine mx_one (i := 8) (by decide +kernel) (Sub.refl _) ?_
          refine wo (i := 8) rfl ?_
          refine st_callv has51 rfl (fun w1 sw => root_any (cutAt 32 p (half cs.length) cs.length) (cs.drop (half cs.length)) w1 (hu.drop _) (by rw [List.length_drop]; omega) (droph (sw.sl_rd (h := 0) rfl) hu (by omega))) rfl rfl ?_
          refine op_nil ?_
          refine ax_then ?_
          refine mx_one (i := 9) (by decide +kernel) (Sub.refl _) ?_
          refine wo (i := 9) rfl ?_
          refine st_bsh1 (h := 34) Try.underlying26 ty39 rfl (by first | assumption | omega) rfl rfl (fun b34 hu34 => ?_)
          refine op_nil ?_
          refine ax_then ?_
          refine mx_one (i := 10) (by decide +kernel) (Sub.refl _) ?_
          refine wo (i := 10) rfl ?_
          refine st_appendh (h := 29) Try.underlying26 Try.underlying26 ty39 rfl rfl rfl rfl (fun w1 sw => sw.own_rd (h := 34) rfl) (by assumption) (by assumption) (by first | omega | (simp only [List.length_append, List.length_cons, List.length_nil, List.length_set, List.length_replicate, List.length_take, List.length_drop, ints_length, wr_length, node_len] <;> omega)) (by decide) rfl rfl (fun v35 hu35 => ?_)
          refine op_nil ?_
          refine ax_then ?_
          refine mx (i := 11) rfl (by decide +kernel) (by decide +kernel) (by decide +kernel) rfl (fun w0 => ev_assign rfl) rfl rfl (Sub.refl _) ?_
          refine mx_done (by decide +kernel) (Sub.refl _) ?_
          refine ax_then ?_
          refine At.regs (L' := [(0, _), (1, _), (4, _), (5, _)]) (.cons rfl (.cons rfl (.cons rfl (.cons rfl (.nil _))))) ?_
          refine cd_ret ?_
          refine ax_then_ret ?_
          refine rt_tmp (.inl rfl) Try.results53 rfl ?_
          first | exact fun w1 sw => ⟨_, trivial, rfl, by rw [hyes]; exact (sw.gives (N := [(29, _)]) (.cons rfl (.nil _))).rn 0⟩ | exact fun w1 sw => ⟨_, trivial, rfl, by rw [hyes]; exact (sw.gives (N := [(42, _)]) (.cons rfl (.nil _))).rn 0⟩
        ·
          have hyes := path_hi (by omega) hge hc24
          have hrl := root_len (hu.take (half cs.length))
          refine cd_skip ?_
          refine ax_then ?_
          refine At.regs (L' := [(0, _), (1, _), (4, _), (5, _)]) (.cons rfl (.cons rfl (.cons rfl (.cons rfl (.nil _))))) ?_
          refine cd_seq ?_
          refine cd_mix hmix ?_
          refine mx (i := 0) rfl (by decide +kernel) (by decide +kernel) (by decide +kernel) rfl (fun w0 => ev_move rfl) rfl rfl (Sub.refl _) ?_
          refine mx (i := 1) rfl (by decide +kernel) (by decide +kernel) (by decide +kernel) rfl (fun w0 => ev_move rfl) rfl rfl (Sub.refl _) ?_
          refine mx (i := 2) rfl (by decide +kernel) (by decide +kernel) (by decide +kernel) rfl (fun w0 => ev_sliceh_lo Try.underlying26 ty39 rfl rfl (fun w1 sw => sw.sl_rd (h := 0) rfl) (by assumption) (by omega) (by first | omega | (simp only [List.length_append, List.length_cons, List.length_nil, List.length_set, List.length_replicate, List.length_take, List.length_drop, ints_length, wr_length, node_len] <;> omega))) rfl rfl (Sub.refl _) ?_
          refine at_eq (i := 38) (v' := cutAt 32 p (half cs.length) cs.length) rfl (by rw [Int.toNat_natCast]) ?_
          refine mx (i := 3) rfl (by decide +kernel) (by decide +kernel) (by decide +kernel) rfl (fun w0 => ev_move rfl) rfl rfl (Sub.refl _) ?_
          refine mx (i := 4) rfl (by decide +kernel) (by decide +kernel) (by decide +kernel) rfl (fun w0 => ev_move rfl) rfl rfl (Sub.refl _) ?_
          refine mx (i := 5) rfl (by decide +kernel) (by decide +kernel) (by decide +kernel) rfl (fun w0 => ev_sub64 rfl rfl (by omega) (by omega)) rfl rfl (Sub.refl _) ?_
          refine mx (i := 7) rfl (by decide +kernel) (by decide +kernel) (by decide +kernel) rfl (fun w0 => ev_move rfl) rfl rfl (Sub.refl _) ?_
          refine mx (i := 8) rfl (by decide +kernel) (by decide +kernel) (by decide +kernel) rfl (fun w0 => ev_move rfl) rfl rfl (Sub.refl _) ?_
          refine mx (i := 9) rfl (by decide +kernel) (by decide +kernel) (by decide +kernel) rfl (fun w0 => ev_sliceh_hi Try.underlying26 ty39 rfl rfl (fun w1 sw => sw.sl_rd (h := 0) rfl) (by assumption) (by omega) (by first | omega | (simp only [List.length_append, List.length_cons, List.length_nil, List.length_set, List.length_replicate, List.length_take, List.length_drop, ints_length, wr_length, node_len] <;> omega))) rfl rfl (Sub.refl _) ?_
          refine at_eq (i := 45) (v' := cutAt 32 p 0 (half cs.length)) rfl (by rw [Int.toNat_natCast]) ?_
          refine mx_one (i := 6) (by decide +kernel) (Sub.refl _) ?_
          refine wo (i := 6) rfl ?_
          refine st_call has53 rfl (fun w1 sw => rn 42 (ih (cutAt 32 p (half cs.length) cs.length) (cs.drop (half cs.length)) (i - (half cs.length : Int)) w1 (by rw [List.length_drop]; omega) (hu.drop _) (by rw [List.length_drop]; omega) (by omega) (droph (sw.sl_rd (h := 0) rfl) hu (by omega)))) nil_all rfl rfl (fun v42 _ => ?_)
          have hu42 := path_h32 _ (cs.drop (half cs.length)) (i - (half cs.length : Int)) (Nat.le_refl _) (hu.drop _)
          have hpm := path_max _ (cs.drop (half cs.length)) (i - (half cs.length : Int)) (Nat.le_refl _)
          have hlt2 : ((cs.drop (half cs.length))).length ≤ 256 := (by rw [List.length_drop]; omega)
          refine op_nil ?_
          refine ax_then ?_
          refine mx_one (i := 10) (by decide +kernel) (Sub.refl _) ?_
          refine wo (i := 10) rfl ?_
          refine st_callv has51 rfl (fun w1 sw => root_any (cutAt 32 p 0 (half cs.length)) (cs.take (half cs.length)) w1 (hu.take _) (by rw [List.length_take]; omega) (takeh (sw.sl_rd (h := 0) rfl) hu (by omega))) rfl rfl ?_
          refine op_nil ?_
          refine ax_then ?_
          refine mx_one (i := 11) (by decide +kernel) (Sub.refl _) ?_
          refine wo (i := 11) rfl ?_
          refine st_bsh1 (h := 47) Try.underlying26 ty39 rfl (by first | assumption | omega) rfl rfl (fun b47 hu47 => ?_)
          refine op_nil ?_
          refine ax_then ?_
          refine mx_one (i := 12) (by decide +kernel) (Sub.refl _) ?_
          refine wo (i := 12) rfl ?_
          refine st_appendh (h := 42) Try.underlying26 Try.underlying26 ty39 rfl rfl rfl rfl (fun w1 sw => sw.own_rd (h := 47) rfl) (by assumption) (by assumption) (by first | omega | (simp only [List.length_append, List.length_cons, List.length_nil, List.length_set, List.length_replicate, List.length_take, List.length_drop, ints_length, wr_length, node_len] <;> omega)) (by decide) rfl rfl (fun v48 hu48 => ?_)
          refine op_nil ?_
          refine ax_then ?_
          refine mx (i := 13) rfl (by decide +kernel) (by decide +kernel) (by decide +kernel) rfl (fun w0 => ev_assign rfl) rfl rfl (Sub.refl _) ?_
          refine mx_done (by decide +kernel) (Sub.refl _) ?_
          refine ax_then ?_
          refine At.regs (L' := [(4, _)]) (.cons rfl (.nil _)) ?_
          refine cd_ret ?_
          refine rt_tmp (.inl rfl) Try.results53 rfl ?_
          first | exact fun w1 sw => ⟨_, trivial, rfl, by rw [hyes]; exact (sw.gives (N := [(29, _)]) (.cons rfl (.nil _))).rn 0⟩ | exact fun w1 sw => ⟨_, trivial, rfl, by rw [hyes]; exact (sw.gives (N := [(42, _)]) (.cons rfl (.nil _))).rn 0⟩

theorem path_all : ∀ (N : Nat) (p : Value) (cs : List (List Int)) (i : Int) (w : World), cs.length < N → H32 cs → cs.length ≤ 256 → (-9223372036854775808 ≤ i ∧ i ≤ 9223372036854775807) → Rd w p 32 (flat cs) → Calls Try.prog 53 #[p, .int .i64 i] w (Post (ι := Value) w [] (fun _ => True) (fun v => v) (fun v => [(0, .own (v) 39 32 (flat (path cs i)))]))
  | 0, _, _, _, _, hN, _, _, _, _ => absurd hN (Nat.not_lt_zero _)
  | N + 1, p, cs, i, w, hN, hu, hcl, hi, h => path_step cs.length (fun p' cs' i' w' h1 => path_all N p' cs' i' w' (by omega)) p cs i w rfl hu hcl hi h
theorem path_any (p : Value) (cs : List (List Int)) (i : Int) (w : World) (hu : H32 cs) (hcl : cs.length ≤ 256) (hi : -9223372036854775808 ≤ i ∧ i ≤ 9223372036854775807) (h : Rd w p 32 (flat cs)) : Calls Try.prog 53 #[p, .int .i64 i] w (Post (ι := Value) w [] (fun _ => True) (fun v => v) (fun v => [(0, .own (v) 39 32 (flat (path cs i)))])) := path_all (cs.length + 1) p cs i w (by omega) hu hcl hi h

set_option maxRecDepth 20000 in
set_option maxHeartbeats 4000000 in
theorem rpath_step (N : Nat) (ih : ∀ (p : Value) (cs : List (List Int)) (i : Int) (w : World), cs.length < N → H32 cs → cs.length ≤ 256 → (-9223372036854775808 ≤ i ∧ i ≤ 9223372036854775807) → Rd w p 32 (flat cs) → Calls Try.prog 55 #[p, .int .i64 i] w (Post (ι := Value) w [] (fun _ => True) (fun v => v) (fun v => [(0, .own (v) 39 32 (flat (path cs i)))]))) (p : Value) (cs : List (List Int)) (i : Int) (w : World) (hN : cs.length = N) (hu : H32 cs) (hcl : cs.length ≤ 256) (hi : -9223372036854775808 ≤ i ∧ i ≤ 9223372036854775807) (h : Rd w p 32 (flat cs)) : Calls Try.prog 55 #[p, .int .i64 i] w (Post (ι := Value) w [] (fun _ => True) (fun v => v) (fun v => [(0, .own (v) 39 32 (flat (path cs i)))])) := by
  refine calls_at (vs := [p, .int .i64 i]) (X := []) (H := []) (F := [(0, .sl p 32 (flat (cs)))]) 49 Try.func55 rfl rfl rfl (Sat.rd0 0 h) ?_
  refine cd_seq ?_
  refine cd_region ?_
  refine st (ev_assign rfl) rfl rfl rfl ?_
  refine at_own_nil 4 39 32 ?_
  refine at_heq (i := 4) (v' := .own (.slice none 0 0) 39 32 (flat [])) rfl rfl ?_
  have hu4 := H32.nil
  refine op_nil ?_
  refine ax_then ?_
  refine At.regs (L' := [(0, _), (1, _), (4, _)]) (.cons rfl (.cons rfl (.cons rfl (.nil _)))) ?_
  refine cd_seq ?_
  refine cd_seq ?_
  refine cd_region ?_
  refine st (ev_move rfl) rfl rfl rfl ?_
  refine st (ev_lss rfl rfl) rfl rfl rfl ?_
  refine st (ev_move rfl) rfl rfl rfl ?_
  refine at_split_if (i := 8) rfl (fun hg8 => ?_) (fun hg8 => ?_)
  ·
    have hno : path cs i = [] := path_no (by omega)
    refine st_skip rfl rfl rfl ?_
    refine st_skip rfl rfl rfl ?_
    refine st_skip rfl rfl rfl ?_
    refine st_skip rfl rfl rfl ?_
    refine st (ev_pick_t rfl rfl) rfl rfl rfl ?_
    refine st (ev_move rfl) rfl rfl rfl ?_
    refine st_skip rfl rfl rfl ?_
    refine st_skip rfl rfl rfl ?_
    refine st_skip rfl rfl rfl ?_
    refine st (ev_pick_t rfl rfl) rfl rfl rfl ?_
    refine op_nil ?_
    refine ax_then ?_
    refine At.regs (L' := [(0, _), (1, _), (4, _), (18, _)]) (.cons rfl (.cons rfl (.cons rfl (.cons rfl (.nil _))))) ?_
    refine cd_true rfl ?_
    refine cd_seq ?_
    refine cd_region ?_
    refine st (ev_assign rfl) rfl rfl rfl ?_
    refine at_own_nil 4 39 32 ?_
    refine at_heq (i := 4) (v' := .own (.slice none 0 0) 39 32 (flat [])) rfl rfl ?_
    have hu4 := H32.nil
    refine op_nil ?_
    refine ax_then ?_
    refine At.regs (L' := [(0, _), (1, _), (4, _)]) (.cons rfl (.cons rfl (.cons rfl (.nil _)))) ?_
    refine cd_ret ?_
    refine ax_then_ret ?_
    refine rt_tmp (.inl rfl) Try.results55 rfl ?_
    exact fun w1 sw => ⟨_, trivial, rfl, by rw [hno]; exact (sw.gives (N := [(4, _)]) (.cons rfl (.nil _))).rn 0⟩
  ·
    refine st (ev_move rfl) rfl rfl rfl ?_
    refine st (ev_move rfl) rfl rfl rfl ?_
    refine st (ev_len_rdh (h := 0) Try.underlying26 rfl rfl (by assumption)) rfl rfl rfl ?_
    refine st (ev_geq rfl rfl) rfl rfl rfl ?_
    refine st (ev_pick_f rfl rfl) rfl rfl rfl ?_
    refine st (ev_move rfl) rfl rfl rfl ?_
    refine at_split_if (i := 14) rfl (fun hg14 => ?_) (fun hg14 => ?_)
    ·
      have hno : path cs i = [] := path_no (by omega)
      refine st_skip rfl rfl rfl ?_
      refine st_skip rfl rfl rfl ?_
      refine st_skip rfl rfl rfl ?_
      refine st (ev_pick_t rfl rfl) rfl rfl rfl ?_
      refine op_nil ?_
      refine ax_then ?_
      refine At.regs (L' := [(0, _), (1, _), (4, _), (18, _)]) (.cons rfl (.cons rfl (.cons rfl (.cons rfl (.nil _))))) ?_
      refine cd_true rfl ?_
      refine cd_seq ?_
      refine cd_region ?_
      refine st (ev_assign rfl) rfl rfl rfl ?_
      refine at_own_nil 4 39 32 ?_
      refine at_heq (i := 4) (v' := .own (.slice none 0 0) 39 32 (flat [])) rfl rfl ?_
      have hu4 := H32.nil
      refine op_nil ?_
      refine ax_then ?_
      refine At.regs (L' := [(0, _), (1, _), (4, _)]) (.cons rfl (.cons rfl (.cons rfl (.nil _)))) ?_
      refine cd_ret ?_
      refine ax_then_ret ?_
      refine rt_tmp (.inl rfl) Try.results55 rfl ?_
      exact fun w1 sw => ⟨_, trivial, rfl, by rw [hno]; exact (sw.gives (N := [(4, _)]) (.cons rfl (.nil _))).rn 0⟩
    ·
      refine st (ev_move rfl) rfl rfl rfl ?_
      refine st (ev_len_rdh (h := 0) Try.underlying26 rfl rfl (by assumption)) rfl rfl rfl ?_
      refine st (ev_lss rfl rfl) rfl rfl rfl ?_
      refine st (ev_pick_f rfl rfl) rfl rfl rfl ?_
      refine op_nil ?_
      refine ax_then ?_
      refine At.regs (L' := [(0, _), (1, _), (4, _), (18, _)]) (.cons rfl (.cons rfl (.cons rfl (.cons rfl (.nil _))))) ?_
      refine cd_if rfl (fun hc18 => ?_) (fun hc18 => ?_)
      ·
        have hno : path cs i = [] := path_no (by omega)
        refine cd_seq ?_
        refine cd_region ?_
        refine st (ev_assign rfl) rfl rfl rfl ?_
        refine at_own_nil 4 39 32 ?_
        refine at_heq (i := 4) (v' := .own (.slice none 0 0) 39 32 (flat [])) rfl rfl ?_
        have hu4 := H32.nil
        refine op_nil ?_
        refine ax_then ?_
        refine At.regs (L' := [(0, _), (1, _), (4, _)]) (.cons rfl (.cons rfl (.cons rfl (.nil _)))) ?_
        refine cd_ret ?_
        refine ax_then_ret ?_
        refine rt_tmp (.inl rfl) Try.results55 rfl ?_
        exact fun w1 sw => ⟨_, trivial, rfl, by rw [hno]; exact (sw.gives (N := [(4, _)]) (.cons rfl (.nil _))).rn 0⟩
      ·
        have hge : 2 ≤ cs.length := by omega
        have hlt := half_lt hge
        have hps := half_pos cs.length
        refine cd_skip ?_
        refine ax_then ?_
        refine At.regs (L' := [(0, _), (1, _), (4, _)]) (.cons rfl (.cons rfl (.cons rfl (.nil _)))) ?_
        refine cd_seq ?_
        refine cd_region ?_
        refine st (ev_move rfl) rfl rfl rfl ?_
        refine st (ev_len_rdh (h := 0) Try.underlying26 rfl rfl (by assumption)) rfl rfl rfl ?_
        refine at_eq (i := 20) (v' := .int .i64 (cs.length : Int)) rfl rfl ?_
        refine st_callv has81 rfl (fun w1 sw => rhalf_any cs.length w1 hge (by omega)) rfl rfl ?_
        refine st (ev_assign rfl) rfl rfl rfl ?_
        refine op_nil ?_
        refine ax_then ?_
        refine At.regs (L' := [(0, _), (1, _), (4, _), (5, _)]) (.cons rfl (.cons rfl (.cons rfl (.cons rfl (.nil _))))) ?_
        refine cd_seq ?_
        refine cd_seq ?_
        refine cd_region ?_
        refine st (ev_move rfl) rfl rfl rfl ?_
        refine st (ev_move rfl) rfl rfl rfl ?_
        refine st (ev_lss rfl rfl) rfl rfl rfl ?_
        refine op_nil ?_
        refine ax_then ?_
        refine At.regs (L' := [(0, _), (1, _), (4, _), (5, _), (24, _)]) (.cons rfl (.cons rfl (.cons rfl (.cons rfl (.cons rfl (.nil _)))))) ?_
        refine cd_if rfl (fun hc24 => ?_) (fun hc24 => ?_)
        ·
          have hyes := path_lo (by omega) hge hc24
          have hrl := root_len (hu.drop (half cs.length))
          refine cd_seq ?_
          refine cd_mix hmix ?_
          refine mx (i := 0) rfl (by decide +kernel) (by decide +kernel) (by decide +kernel) rfl (fun w0 => ev_move rfl) rfl rfl (Sub.refl _) ?_
          refine mx (i := 1) rfl (by decide +kernel) (by decide +kernel) (by decide +kernel) rfl (fun w0 => ev_move rfl) rfl rfl (Sub.refl _) ?_
          refine mx (i := 2) rfl (by decide +kernel) (by decide +kernel) (by decide +kernel) rfl (fun w0 => ev_sliceh_hi Try.underlying26 ty39 rfl rfl (fun w1 sw => sw.sl_rd (h := 0) rfl) (by assumption) (by omega) (by first | omega | (simp only [List.length_append, List.length_cons, List.length_nil, List.length_set, List.length_replicate, List.length_take, List.length_drop, ints_length, wr_length, node_len] <;> omega))) rfl rfl (Sub.refl _) ?_
          refine at_eq (i := 27) (v' := cutAt 32 p 0 (half cs.length)) rfl (by rw [Int.toNat_natCast]) ?_
          refine mx (i := 3) rfl (by decide +kernel) (by decide +kernel) (by decide +kernel) rfl (fun w0 => ev_move rfl) rfl rfl (Sub.refl _) ?_
          refine mx (i := 5) rfl (by decide +kernel) (by decide +kernel) (by decide +kernel) rfl (fun w0 => ev_move rfl) rfl rfl (Sub.refl _) ?_
          refine mx (i := 6) rfl (by decide +kernel) (by decide +kernel) (by decide +kernel) rfl (fun w0 => ev_move rfl) rfl rfl (Sub.refl _) ?_
          refine mx (i := 7) rfl (by decide +kernel) (by decide +kernel) (by decide +kernel) rfl (fun w0 => ev_sliceh_lo Try.underlying26 ty39 rfl rfl (fun w1 sw => sw.sl_rd (h := 0) rfl) (by assumption) (by omega) (by first | omega | (simp only [List.length_append, List.length_cons, List.length_nil, List.length_set, List.length_replicate, List.length_take, List.length_drop, ints_length, wr_length, node_len] <;> omega))) rfl rfl (Sub.refl _) ?_
          refine at_eq (i := 32) (v' := cutAt 32 p (half cs.length) cs.length) rfl (by rw [Int.toNat_natCast]) ?_
          refine mx_one (i := 4) (by decide +kernel) (Sub.refl _) ?_
          refine wo (i := 4) rfl ?_
          refine st_call has55 rfl (fun w1 sw => rn 29 (ih (cutAt 32 p 0 (half cs.length)) (cs.take (half cs.length)) (i) w1 (by rw [List.length_take]; omega) (hu.take _) (by rw [List.length_take]; omega) (by omega) (takeh (sw.sl_rd (h := 0) rfl) hu (by omega)))) nil_all rfl rfl (fun v29 _ => ?_)
          have hu29 := path_h32 _ (cs.take (half cs.length)) (i) (Nat.le_refl _) (hu.take _)
          have hpm := path_max _ (cs.take (half cs.length)) (i) (Nat.le_refl _)
          have hlt2 : ((cs.take (half cs.length))).length ≤ 256 := (by rw [List.length_take]; omega)
          refine op_nil ?_
          refine ax_then ?_
          refine mx_one (i := 8) (by decide +kernel) (Sub.refl _) ?_
          refine wo (i := 8) rfl ?_
          refine st_callv has49 rfl (fun w1 sw => rroot_any (cutAt 32 p (half cs.length) cs.length) (cs.drop (half cs.length)) w1 (hu.drop _) (by rw [List.length_drop]; omega) (droph (sw.sl_rd (h := 0) rfl) hu (by omega))) rfl rfl ?_
          refine op_nil ?_
          refine ax_then ?_
          refine mx_one (i := 9) (by decide +kernel) (Sub.refl _) ?_
          refine wo (i := 9) rfl ?_
          refine st_bsh1 (h := 34) Try.underlying26 ty39 rfl (by first | assumption | omega) rfl rfl (fun b34 hu34 => ?_)
          refine op_nil ?_
          refine ax_then ?_
          refine mx_one (i := 10) (by decide +kernel) (Sub.refl _) ?_
          refine wo (i := 10) rfl ?_
          refine st_appendh (h := 29) Try.underlying26 Try.underlying26 ty39 rfl rfl rfl rfl (fun w1 sw => sw.own_rd (h := 34) rfl) (by assumption) (by assumption) (by first | omega | (simp only [List.length_append, List.length_cons, List.length_nil, List.length_set, List.length_replicate, List.length_take, List.length_drop, ints_length, wr_length, node_len] <;> omega)) (by decide) rfl rfl (fun v35 hu35 => ?_)
          refine op_nil ?_
          refine ax_then ?_
          refine mx (i := 11) rfl (by decide +kernel) (by decide +kernel) (by decide +kernel) rfl (fun w0 => ev_assign rfl) rfl rfl (Sub.refl _) ?_
          refine mx_done (by decide +kernel) (Sub.refl _) ?_
          refine ax_then ?_
          refine At.regs (L' := [(0, _), (1, _), (4, _), (5, _)]) (.cons rfl (.cons rfl (.cons rfl (.cons rfl (.nil _))))) ?_
          refine cd_ret ?_
          refine ax_then_ret ?_
          refine rt_tmp (.inl rfl) Try.results55 rfl ?_
          first | exact fun w1 sw => ⟨_, trivial, rfl, by rw [hyes]; exact (sw.gives (N := [(29, _)]) (.cons rfl (.nil _))).rn 0⟩ | exact fun w1 sw => ⟨_, trivial, rfl, by rw [hyes]; exact (sw.gives (N := [(42, _)]) (.cons rfl (.nil _))).rn 0⟩
        ·
          have hyes := path_hi (by omega) hge hc24
          have hrl := root_len (hu.take (half cs.length))
          refine cd_skip ?_
          refine ax_then ?_
          refine At.regs (L' := [(0, _), (1, _), (4, _), (5, _)]) (.cons rfl (.cons rfl (.cons rfl (.cons rfl (.nil _))))) ?_
          refine cd_seq ?_
          refine cd_mix hmix ?_
          refine mx (i := 0) rfl (by decide +kernel) (by decide +kernel) (by decide +kernel) rfl (fun w0 => ev_move rfl) rfl rfl (Sub.refl _) ?_
          refine mx (i := 1) rfl (by decide +kernel) (by decide +kernel) (by decide +kernel) rfl (fun w0 => ev_move rfl) rfl rfl (Sub.refl _) ?_
          refine mx (i := 2) rfl (by decide +kernel) (by decide +kernel) (by decide +kernel) rfl (fun w0 => ev_sliceh_lo Try.underlying26 ty39 rfl rfl (fun w1 sw => sw.sl_rd (h := 0) rfl) (by assumption) (by omega) (by first | omega | (simp only [List.length_append, List.length_cons, List.length_nil, List.length_set, List.length_replicate, List.length_take, List.length_drop, ints_length, wr_length, node_len] <;> omega))) rfl rfl (Sub.refl _) ?_
          refine at_eq (i := 38) (v' := cutAt 32 p (half cs.length) cs.length) rfl (by rw [Int.toNat_natCast]) ?_
          refine mx (i := 3) rfl (by decide +kernel) (by decide +kernel) (by decide +kernel) rfl (fun w0 => ev_move rfl) rfl rfl (Sub.refl _) ?_
          refine mx (i := 4) rfl (by decide +kernel) (by decide +kernel) (by decide +kernel) rfl (fun w0 => ev_move rfl) rfl rfl (Sub.refl _) ?_
          refine mx (i := 5) rfl (by decide +kernel) (by decide +kernel) (by decide +kernel) rfl (fun w0 => ev_sub64 rfl rfl (by omega) (by omega)) rfl rfl (Sub.refl _) ?_
          refine mx (i := 7) rfl (by decide +kernel) (by decide +kernel) (by decide +kernel) rfl (fun w0 => ev_move rfl) rfl rfl (Sub.refl _) ?_
          refine mx (i := 8) rfl (by decide +kernel) (by decide +kernel) (by decide +kernel) rfl (fun w0 => ev_move rfl) rfl rfl (Sub.refl _) ?_
          refine mx (i := 9) rfl (by decide +kernel) (by decide +kernel) (by decide +kernel) rfl (fun w0 => ev_sliceh_hi Try.underlying26 ty39 rfl rfl (fun w1 sw => sw.sl_rd (h := 0) rfl) (by assumption) (by omega) (by first | omega | (simp only [List.length_append, List.length_cons, List.length_nil, List.length_set, List.length_replicate, List.length_take, List.length_drop, ints_length, wr_length, node_len] <;> omega))) rfl rfl (Sub.refl _) ?_
          refine at_eq (i := 45) (v' := cutAt 32 p 0 (half cs.length)) rfl (by rw [Int.toNat_natCast]) ?_
          refine mx_one (i := 6) (by decide +kernel) (Sub.refl _) ?_
          refine wo (i := 6) rfl ?_
          refine st_call has55 rfl (fun w1 sw => rn 42 (ih (cutAt 32 p (half cs.length) cs.length) (cs.drop (half cs.length)) (i - (half cs.length : Int)) w1 (by rw [List.length_drop]; omega) (hu.drop _) (by rw [List.length_drop]; omega) (by omega) (droph (sw.sl_rd (h := 0) rfl) hu (by omega)))) nil_all rfl rfl (fun v42 _ => ?_)
          have hu42 := path_h32 _ (cs.drop (half cs.length)) (i - (half cs.length : Int)) (Nat.le_refl _) (hu.drop _)
          have hpm := path_max _ (cs.drop (half cs.length)) (i - (half cs.length : Int)) (Nat.le_refl _)
          have hlt2 : ((cs.drop (half cs.length))).length ≤ 256 := (by rw [List.length_drop]; omega)
          refine op_nil ?_
          refine ax_then ?_
          refine mx_one (i := 10) (by decide +kernel) (Sub.refl _) ?_
          refine wo (i := 10) rfl ?_
          refine st_callv has49 rfl (fun w1 sw => rroot_any (cutAt 32 p 0 (half cs.length)) (cs.take (half cs.length)) w1 (hu.take _) (by rw [List.length_take]; omega) (takeh (sw.sl_rd (h := 0) rfl) hu (by omega))) rfl rfl ?_
          refine op_nil ?_
          refine ax_then ?_
          refine mx_one (i := 11) (by decide +kernel) (Sub.refl _) ?_
          refine wo (i := 11) rfl ?_
          refine st_bsh1 (h := 47) Try.underlying26 ty39 rfl (by first | assumption | omega) rfl rfl (fun b47 hu47 => ?_)
          refine op_nil ?_
          refine ax_then ?_
          refine mx_one (i := 12) (by decide +kernel) (Sub.refl _) ?_
          refine wo (i := 12) rfl ?_
          refine st_appendh (h := 42) Try.underlying26 Try.underlying26 ty39 rfl rfl rfl rfl (fun w1 sw => sw.own_rd (h := 47) rfl) (by assumption) (by assumption) (by first | omega | (simp only [List.length_append, List.length_cons, List.length_nil, List.length_set, List.length_replicate, List.length_take, List.length_drop, ints_length, wr_length, node_len] <;> omega)) (by decide) rfl rfl (fun v48 hu48 => ?_)
          refine op_nil ?_
          refine ax_then ?_
          refine mx (i := 13) rfl (by decide +kernel) (by decide +kernel) (by decide +kernel) rfl (fun w0 => ev_assign rfl) rfl rfl (Sub.refl _) ?_
          refine mx_done (by decide +kernel) (Sub.refl _) ?_
          refine ax_then ?_
          refine At.regs (L' := [(4, _)]) (.cons rfl (.nil _)) ?_
          refine cd_ret ?_
          refine rt_tmp (.inl rfl) Try.results55 rfl ?_
          first | exact fun w1 sw => ⟨_, trivial, rfl, by rw [hyes]; exact (sw.gives (N := [(29, _)]) (.cons rfl (.nil _))).rn 0⟩ | exact fun w1 sw => ⟨_, trivial, rfl, by rw [hyes]; exact (sw.gives (N := [(42, _)]) (.cons rfl (.nil _))).rn 0⟩

theorem rpath_all : ∀ (N : Nat) (p : Value) (cs : List (List Int)) (i : Int) (w : World), cs.length < N → H32 cs → cs.length ≤ 256 → (-9223372036854775808 ≤ i ∧ i ≤ 9223372036854775807) → Rd w p 32 (flat cs) → Calls Try.prog 55 #[p, .int .i64 i] w (Post (ι := Value) w [] (fun _ => True) (fun v => v) (fun v => [(0, .own (v) 39 32 (flat (path cs i)))]))
  | 0, _, _, _, _, hN, _, _, _, _ => absurd hN (Nat.not_lt_zero _)
  | N + 1, p, cs, i, w, hN, hu, hcl, hi, h => rpath_step cs.length (fun p' cs' i' w' h1 => rpath_all N p' cs' i' w' (by omega)) p cs i w rfl hu hcl hi h
theorem rpath_any (p : Value) (cs : List (List Int)) (i : Int) (w : World) (hu : H32 cs) (hcl : cs.length ≤ 256) (hi : -9223372036854775808 ≤ i ∧ i ≤ 9223372036854775807) (h : Rd w p 32 (flat cs)) : Calls Try.prog 55 #[p, .int .i64 i] w (Post (ι := Value) w [] (fun _ => True) (fun v => v) (fun v => [(0, .own (v) 39 32 (flat (path cs i)))])) := rpath_all (cs.length + 1) p cs i w (by omega) hu hcl hi h

set_option maxRecDepth 20000 in
set_option maxHeartbeats 2000000 in
theorem up_any (leaf : List Int) (i : Int) (q : Value) (p : List (List Int)) (w : World) (hl : leaf.length = 32) (h0 : 0 ≤ i) (h1 : i ≤ 9223372036854775807) (hu : H32 p) (hpl : p.length ≤ 1000000000) (h : Rd w q 32 (flat p)) : Calls Try.prog 57 #[.agg (ints .u8 (leaf)).toArray, .int .i64 i, q] w (PostV w (.agg (ints .u8 (up leaf i p)).toArray)) := by
  refine calls_at (vs := [.agg (ints .u8 (leaf)).toArray, .int .i64 i, q]) (X := []) (H := []) (F := [(2, .sl q 32 (flat (p)))]) 28 Try.func57 rfl rfl rfl (Sat.rd0 2 h) ?_
  refine cd_seq ?_
  refine cd_region ?_
  refine st_box (h := 3) rfl rfl rfl rfl (fun b3 => ?_)
  refine st_alloc (h := 6) ty39 rfl rfl rfl (fun b6 => ?_)
  refine op_nil ?_
  refine ax_then ?_
  refine At.regs (L' := [(1, _), (2, _), (3, _), (6, _)]) (.cons rfl (.cons rfl (.cons rfl (.cons rfl (.nil _))))) ?_
  refine cd_seq ?_
  refine cd_seq ?_
  refine cd_region ?_
  refine st (ev_move rfl) rfl rfl rfl ?_
  refine st (ev_len_rdh (h := 2) Try.underlying26 rfl rfl (by assumption)) rfl rfl rfl ?_
  refine st (ev_move rfl) rfl rfl rfl ?_
  refine op_nil ?_
  refine ax_then ?_
  refine At.regs (L' := [(1, _), (3, _), (6, _), (9, _), (10, _), (11, _)]) (.cons rfl (.cons rfl (.cons rfl (.cons rfl (.cons rfl (.cons rfl (.nil _))))))) ?_
  refine cd_block ?_
  refine at_eq (i := 1) (v' := .int .i64 (i / 2 ^ 0)) rfl (by rw [Int.pow_zero, Int.ediv_one]) ?_
  refine cd_loop (ι := Nat) (fun k => k ≤ p.length) (fun k => p.length - k)
      (fun k => [(1, .int .i64 (i / 2 ^ k)), (3, .pointer (some ⟨b3, 0, none⟩)), (6, .pointer (some ⟨b6, 0, none⟩)), (9, q), (10, .int .i64 (p.length : Nat)), (11, .int .i64 (k : Int))])
      (fun k => [(3, .blk b3 (.cells (ints .u8 (up leaf i (p.take (k)))).toArray 39)), (6, .blk b6 (.cells (ints .u8 (List.replicate 32 0)).toArray 39))])
      (fun k => [(2, .sl q 32 (flat (p)))])
      0 (by omega) (.cons rfl (.cons rfl (.cons rfl (.cons rfl (.cons rfl (.cons rfl (.nil _))))))) (.cons rfl (.cons rfl (.nil _))) (.cons rfl (.nil _)) (fun k hi => ?_)
  have hul := up_len hl i (p.take k)
  have hdr := div_range h0 k
  have hg : k < p.length → (p.getD k []).length = 32 := fun hk => hu.get hk
  have e0 : (k : Int).toNat = k := by omega
  refine cd_seq ?_
  refine cd_region ?_
  refine st (ev_lss rfl rfl) rfl rfl rfl ?_
  refine op_nil ?_
  refine ax_then ?_
  refine At.regs (L' := [(1, _), (3, _), (6, _), (9, _), (10, _), (11, _), (12, _)]) (.cons rfl (.cons rfl (.cons rfl (.cons rfl (.cons rfl (.cons rfl (.cons rfl (.nil _)))))))) ?_
  refine cd_seq ?_
  refine cd_if rfl (fun hc12 => ?_) (fun hc12 => ?_)
  ·
    have hg2 := hg (by omega)
    refine cd_skip ?_
    refine ax_then ?_
    refine At.regs (L' := [(1, _), (3, _), (6, _), (9, _), (10, _), (11, _), (12, _)]) (.cons rfl (.cons rfl (.cons rfl (.cons rfl (.cons rfl (.cons rfl (.cons rfl (.nil _)))))))) ?_
    refine cd_seq ?_
    refine cd_block ?_
    refine cd_seq ?_
    refine cd_region ?_
    refine st (ev_indexAddr_rdh (h := 2) Try.underlying26 ty39 rfl rfl rfl (by assumption) (by omega) (by omega)) rfl rfl rfl ?_
    refine st (ld_rdh (h := 2) ty39 rfl rfl rfl (by assumption) (by omega)) rfl rfl rfl ?_
    refine at_eq (i := 14) (v' := .agg (ints .u8 (p.getD k [])).toArray) rfl (by rw [e0]) ?_
    refine st_alloc (h := 8) ty39 rfl rfl rfl (fun b8 => ?_)
    refine st_store_all 8 ty39 rfl rfl rfl rfl (by first | omega | (simp only [List.length_append, List.length_cons, List.length_nil, List.length_set, List.length_replicate, List.length_take, List.length_drop, ints_length, wr_length, node_len] <;> omega) | rfl) (ints_one _ _) (by first | omega | (simp only [List.length_append, List.length_cons, List.length_nil, List.length_set, List.length_replicate, List.length_take, List.length_drop, ints_length, wr_length, node_len] <;> omega) | rfl) rfl ?_
    refine op_nil ?_
    refine ax_then ?_
    refine At.regs (L' := [(1, _), (3, _), (6, _), (8, _), (9, _), (10, _), (11, _), (12, _), (13, _), (14, _)]) (.cons rfl (.cons rfl (.cons rfl (.cons rfl (.cons rfl (.cons rfl (.cons rfl (.cons rfl (.cons rfl (.cons rfl (.nil _))))))))))) ?_
    refine cd_seq ?_
    refine cd_seq ?_
    refine cd_region ?_
    refine st (ev_move rfl) rfl rfl rfl ?_
    refine st (ev_and rfl rfl) rfl rfl rfl ?_
    refine at_eq (i := 16) (v' := .int .i64 (i / 2 ^ k % 2)) rfl (by rw [iand1 hdr.1 (by omega)]) ?_
    refine st (ev_eql rfl rfl) rfl rfl rfl ?_
    refine op_nil ?_
    refine ax_then ?_
    refine At.regs (L' := [(1, _), (3, _), (6, _), (8, _), (9, _), (10, _), (11, _), (12, _), (13, _), (14, _), (15, _), (16, _), (17, _)]) (.cons rfl (.cons rfl (.cons rfl (.cons rfl (.cons rfl (.cons rfl (.cons rfl (.cons rfl (.cons rfl (.cons rfl (.cons rfl (.cons rfl (.cons rfl (.nil _)))))))))))))) ?_
    refine cd_if rfl (fun hc17 => ?_) (fun hc17 => ?_)
    ·
      refine cd_region ?_
      refine st (ld_blk_all (h := 3) ty39 rfl rfl rfl (by first | omega | (simp only [List.length_append, List.length_cons, List.length_nil, List.length_set, List.length_replicate, List.length_take, List.length_drop, ints_length, wr_length, node_len] <;> omega) | rfl)) rfl rfl rfl ?_
      refine st (ld_blk_all (h := 8) ty39 rfl rfl rfl (by first | omega | (simp only [List.length_append, List.length_cons, List.length_nil, List.length_set, List.length_replicate, List.length_take, List.length_drop, ints_length, wr_length, node_len] <;> omega) | rfl)) rfl rfl rfl ?_
      refine st_callv has85 rfl (fun w1 sw => node_any (up leaf i (p.take (k))) (p.getD k []) w1 hul hg2) rfl rfl ?_
      refine st_store_all 3 ty39 rfl rfl rfl rfl (by first | omega | (simp only [List.length_append, List.length_cons, List.length_nil, List.length_set, List.length_replicate, List.length_take, List.length_drop, ints_length, wr_length, node_len] <;> omega) | rfl) (ints_one _ _) (by first | omega | (simp only [List.length_append, List.length_cons, List.length_nil, List.length_set, List.length_replicate, List.length_take, List.length_drop, ints_length, wr_length, node_len] <;> omega) | rfl) rfl ?_
      refine op_nil ?_
      refine ax_then ?_
      refine At.regs (L' := [(1, _), (3, _), (6, _), (8, _), (9, _), (10, _), (11, _), (12, _), (13, _), (14, _), (15, _), (16, _), (17, _), (18, _), (19, _), (20, _)]) (.cons rfl (.cons rfl (.cons rfl (.cons rfl (.cons rfl (.cons rfl (.cons rfl (.cons rfl (.cons rfl (.cons rfl (.cons rfl (.cons rfl (.cons rfl (.cons rfl (.cons rfl (.cons rfl (.nil _))))))))))))))))) ?_
      refine cd_region ?_
      refine st (ev_move rfl) rfl rfl rfl ?_
      refine st (ev_shr rfl rfl (by omega)) rfl rfl rfl ?_
      refine at_eq (i := 25) (v' := .int .i64 (i / 2 ^ (k + 1))) rfl (by rw [ishr1 hdr.1, div_step]) ?_
      refine st (ev_assign rfl) rfl rfl rfl ?_
      refine op_nil ?_
      refine ax_block ?_
      refine ax_then ?_
      refine At.regs (L' := [(1, _), (3, _), (6, _), (8, _), (9, _), (10, _), (11, _), (12, _), (13, _), (14, _), (15, _), (16, _), (17, _), (18, _), (19, _), (20, _), (24, _), (25, _)]) (.cons rfl (.cons rfl (.cons rfl (.cons rfl (.cons rfl (.cons rfl (.cons rfl (.cons rfl (.cons rfl (.cons rfl (.cons rfl (.cons rfl (.cons rfl (.cons rfl (.cons rfl (.cons rfl (.cons rfl (.cons rfl (.nil _))))))))))))))))))) ?_
      refine cd_region ?_
      refine st (ev_add64 rfl rfl (by omega) (by omega)) rfl rfl rfl ?_
      refine st (ev_move rfl) rfl rfl rfl ?_
      refine op_nil ?_
      refine ax_heq (i := 3) (v' := .blk b3 (.cells (ints .u8 (up leaf i (p.take (k + 1)))).toArray 39)) rfl (by rw [up_take leaf i (by omega)]; first | rw [if_pos hc17] | rw [if_neg hc17]) ?_
      exact at_again (k + 1) (by omega) (by omega) (.cons rfl (.cons rfl (.cons rfl (.cons rfl (.cons rfl (.cons rfl (.nil _))))))) (.cons rfl (.cons rfl (.nil _))) (.cons rfl (.nil _))
    ·
      refine cd_region ?_
      refine st (ld_blk_all (h := 8) ty39 rfl rfl rfl (by first | omega | (simp only [List.length_append, List.length_cons, List.length_nil, List.length_set, List.length_replicate, List.length_take, List.length_drop, ints_length, wr_length, node_len] <;> omega) | rfl)) rfl rfl rfl ?_
      refine st (ld_blk_all (h := 3) ty39 rfl rfl rfl (by first | omega | (simp only [List.length_append, List.length_cons, List.length_nil, List.length_set, List.length_replicate, List.length_take, List.length_drop, ints_length, wr_length, node_len] <;> omega) | rfl)) rfl rfl rfl ?_
      refine st_callv has85 rfl (fun w1 sw => node_any (p.getD k []) (up leaf i (p.take (k))) w1 hg2 hul) rfl rfl ?_
      refine st_store_all 3 ty39 rfl rfl rfl rfl (by first | omega | (simp only [List.length_append, List.length_cons, List.length_nil, List.length_set, List.length_replicate, List.length_take, List.length_drop, ints_length, wr_length, node_len] <;> omega) | rfl) (ints_one _ _) (by first | omega | (simp only [List.length_append, List.length_cons, List.length_nil, List.length_set, List.length_replicate, List.length_take, List.length_drop, ints_length, wr_length, node_len] <;> omega) | rfl) rfl ?_
      refine op_nil ?_
      refine ax_then ?_
      refine At.regs (L' := [(1, _), (3, _), (6, _), (8, _), (9, _), (10, _), (11, _), (12, _), (13, _), (14, _), (15, _), (16, _), (17, _), (21, _), (22, _), (23, _)]) (.cons rfl (.cons rfl (.cons rfl (.cons rfl (.cons rfl (.cons rfl (.cons rfl (.cons rfl (.cons rfl (.cons rfl (.cons rfl (.cons rfl (.cons rfl (.cons rfl (.cons rfl (.cons rfl (.nil _))))))))))))))))) ?_
      refine cd_region ?_
      refine st (ev_move rfl) rfl rfl rfl ?_
      refine st (ev_shr rfl rfl (by omega)) rfl rfl rfl ?_
      refine at_eq (i := 25) (v' := .int .i64 (i / 2 ^ (k + 1))) rfl (by rw [ishr1 hdr.1, div_step]) ?_
      refine st (ev_assign rfl) rfl rfl rfl ?_
      refine op_nil ?_
      refine ax_block ?_
      refine ax_then ?_
      refine At.regs (L' := [(1, _), (3, _), (6, _), (8, _), (9, _), (10, _), (11, _), (12, _), (13, _), (14, _), (15, _), (16, _), (17, _), (21, _), (22, _), (23, _), (24, _), (25, _)]) (.cons rfl (.cons rfl (.cons rfl (.cons rfl (.cons rfl (.cons rfl (.cons rfl (.cons rfl (.cons rfl (.cons rfl (.cons rfl (.cons rfl (.cons rfl (.cons rfl (.cons rfl (.cons rfl (.cons rfl (.cons rfl (.nil _))))))))))))))))))) ?_
      refine cd_region ?_
      refine st (ev_add64 rfl rfl (by omega) (by omega)) rfl rfl rfl ?_
      refine st (ev_move rfl) rfl rfl rfl ?_
      refine op_nil ?_
      refine ax_heq (i := 3) (v' := .blk b3 (.cells (ints .u8 (up leaf i (p.take (k + 1)))).toArray 39)) rfl (by rw [up_take leaf i (by omega)]; first | rw [if_pos hc17] | rw [if_neg hc17]) ?_
      exact at_again (k + 1) (by omega) (by omega) (.cons rfl (.cons rfl (.cons rfl (.cons rfl (.cons rfl (.cons rfl (.nil _))))))) (.cons rfl (.cons rfl (.nil _))) (.cons rfl (.nil _))
  ·
    obtain rfl : k = p.length := by omega
    refine at_heq (i := 3) (v' := .blk b3 (.cells (ints .u8 (up leaf i p)).toArray 39)) rfl (by rw [List.take_length]) ?_
    have hul2 := up_len hl i p
    refine cd_exit ?_
    refine ax_then_exit ?_
    refine ax_then_exit ?_
    refine ax_block_hit ?_
    refine ax_then ?_
    refine At.regs (L' := [(3, _), (6, _)]) (.cons rfl (.cons rfl (.nil _))) ?_
    refine cd_seq ?_
    refine cd_region ?_
    refine st (ld_blk_all (h := 3) ty39 rfl rfl rfl (by first | omega | (simp only [List.length_append, List.length_cons, List.length_nil, List.length_set, List.length_replicate, List.length_take, List.length_drop, ints_length, wr_length, node_len] <;> omega) | rfl)) rfl rfl rfl ?_
    refine st_store_all 6 ty39 rfl rfl rfl rfl (by first | omega | (simp only [List.length_append, List.length_cons, List.length_nil, List.length_set, List.length_replicate, List.length_take, List.length_drop, ints_length, wr_length, node_len] <;> omega) | rfl) (ints_one _ _) (by first | omega | (simp only [List.length_append, List.length_cons, List.length_nil, List.length_set, List.length_replicate, List.length_take, List.length_drop, ints_length, wr_length, node_len] <;> omega) | rfl) rfl ?_
    refine op_nil ?_
    refine ax_then ?_
    refine At.regs (L' := [(6, _)]) (.cons rfl (.nil _)) ?_
    refine cd_ret ?_
    refine rt_cell (h0 := 6) (.inl rfl) Try.results57 ty39 rfl rfl rfl (by first | omega | (simp only [List.length_append, List.length_cons, List.length_nil, List.length_set, List.length_replicate, List.length_take, List.length_drop, ints_length, wr_length, node_len] <;> omega) | rfl) ?_
    exact fun w1 sw => ⟨rfl, sw.gives (.nil _)⟩

set_option maxRecDepth 20000 in
set_option maxHeartbeats 2000000 in
theorem rup_any (leaf : List Int) (i : Int) (q : Value) (p : List (List Int)) (w : World) (hl : leaf.length = 32) (h0 : 0 ≤ i) (h1 : i ≤ 9223372036854775807) (hu : H32 p) (hpl : p.length ≤ 1000000000) (h : Rd w q 32 (flat p)) : Calls Try.prog 59 #[.agg (ints .u8 (leaf)).toArray, .int .i64 i, q] w (PostV w (.agg (ints .u8 (up leaf i p)).toArray)) := by
  refine calls_at (vs := [.agg (ints .u8 (leaf)).toArray, .int .i64 i, q]) (X := []) (H := []) (F := [(2, .sl q 32 (flat (p)))]) 32 Try.func59 rfl rfl rfl (Sat.rd0 2 h) ?_
  refine cd_seq ?_
  refine cd_region ?_
  refine st_box (h := 3) rfl rfl rfl rfl (fun b3 => ?_)
  refine st_alloc (h := 6) ty39 rfl rfl rfl (fun b6 => ?_)
  refine op_nil ?_
  refine ax_then ?_
  refine At.regs (L' := [(1, _), (2, _), (3, _), (6, _)]) (.cons rfl (.cons rfl (.cons rfl (.cons rfl (.nil _))))) ?_
  refine cd_seq ?_
  refine cd_seq ?_
  refine cd_region ?_
  refine st (ev_assign rfl) rfl rfl rfl ?_
  refine op_nil ?_
  refine ax_then ?_
  refine At.regs (L' := [(1, _), (2, _), (3, _), (6, _), (7, _)]) (.cons rfl (.cons rfl (.cons rfl (.cons rfl (.cons rfl (.nil _)))))) ?_
  refine cd_block ?_
  refine at_eq (i := 1) (v' := .int .i64 (i / 2 ^ 0)) rfl (by rw [Int.pow_zero, Int.ediv_one]) ?_
  refine cd_loop (ι := Nat) (fun k => k ≤ p.length) (fun k => p.length - k)
      (fun k => [(1, .int .i64 (i / 2 ^ k)), (2, q), (3, .pointer (some ⟨b3, 0, none⟩)), (6, .pointer (some ⟨b6, 0, none⟩)), (7, .int .i64 (k : Int))])
      (fun k => [(3, .blk b3 (.cells (ints .u8 (up leaf i (p.take (k)))).toArray 39)), (6, .blk b6 (.cells (ints .u8 (List.replicate 32 0)).toArray 39))])
      (fun k => [(2, .sl q 32 (flat (p)))])
      0 (by omega) (.cons rfl (.cons rfl (.cons rfl (.cons rfl (.cons rfl (.nil _)))))) (.cons rfl (.cons rfl (.nil _))) (.cons rfl (.nil _)) (fun k hi => ?_)
  have hul := up_len hl i (p.take k)
  have hdr := div_range h0 k
  have hg : k < p.length → (p.getD k []).length = 32 := fun hk => hu.get hk
  have e0 : (k : Int).toNat = k := by omega
  refine cd_seq ?_
  refine cd_seq ?_
  refine cd_region ?_
  refine st (ev_move rfl) rfl rfl rfl ?_
  refine st (ev_move rfl) rfl rfl rfl ?_
  refine st (ev_len_rdh (h := 2) Try.underlying26 rfl rfl (by assumption)) rfl rfl rfl ?_
  refine st (ev_lss rfl rfl) rfl rfl rfl ?_
  refine op_nil ?_
  refine ax_then ?_
  refine At.regs (L' := [(1, _), (2, _), (3, _), (6, _), (7, _), (8, _), (9, _), (10, _), (11, _)]) (.cons rfl (.cons rfl (.cons rfl (.cons rfl (.cons rfl (.cons rfl (.cons rfl (.cons rfl (.cons rfl (.nil _)))))))))) ?_
  refine cd_if rfl (fun hc11 => ?_) (fun hc11 => ?_)
  ·
    have hg2 := hg (by omega)
    refine cd_skip ?_
    refine ax_then ?_
    refine At.regs (L' := [(1, _), (2, _), (3, _), (6, _), (7, _), (8, _), (9, _), (10, _), (11, _)]) (.cons rfl (.cons rfl (.cons rfl (.cons rfl (.cons rfl (.cons rfl (.cons rfl (.cons rfl (.cons rfl (.nil _)))))))))) ?_
    refine cd_seq ?_
    refine cd_block ?_
    refine cd_seq ?_
    refine cd_seq ?_
    refine cd_region ?_
    refine st (ev_move rfl) rfl rfl rfl ?_
    refine st (ev_and rfl rfl) rfl rfl rfl ?_
    refine at_eq (i := 15) (v' := .int .i64 (i / 2 ^ k % 2)) rfl (by rw [iand1 hdr.1 (by omega)]) ?_
    refine st (ev_eql rfl rfl) rfl rfl rfl ?_
    refine op_nil ?_
    refine ax_then ?_
    refine At.regs (L' := [(1, _), (2, _), (3, _), (6, _), (7, _), (8, _), (9, _), (10, _), (11, _), (14, _), (15, _), (16, _)]) (.cons rfl (.cons rfl (.cons rfl (.cons rfl (.cons rfl (.cons rfl (.cons rfl (.cons rfl (.cons rfl (.cons rfl (.cons rfl (.cons rfl (.nil _))))))))))))) ?_
    refine cd_if rfl (fun hc16 => ?_) (fun hc16 => ?_)
    ·
      refine cd_open_tail 6 hmix (by decide +kernel) ?_
      refine qt (ld_blk_all (h := 3) ty39 rfl rfl rfl (by first | omega | (simp only [List.length_append, List.length_cons, List.length_nil, List.length_set, List.length_replicate, List.length_take, List.length_drop, ints_length, wr_length, node_len] <;> omega) | rfl)) rfl rfl rfl ?_
      refine qt (ev_move rfl) rfl rfl rfl ?_
      refine qt (ev_move rfl) rfl rfl rfl ?_
      refine qt (ev_indexAddr_rdh (h := 2) Try.underlying26 ty39 rfl rfl rfl (by assumption) (by omega) (by omega)) rfl rfl rfl ?_
      refine qt (ld_rdh (h := 2) ty39 rfl rfl rfl (by assumption) (by omega)) rfl rfl rfl ?_
      refine qt_eq (i := 21) (v' := .agg (ints .u8 (p.getD k [])).toArray) rfl (by rw [e0]) ?_
      refine qt_callv has82 rfl (fun w1 sw => rnode_any (up leaf i (p.take (k))) (p.getD k []) w1 hul hg2) rfl rfl ?_
      refine qt_end ?_
      refine st_store_all 3 ty39 rfl rfl rfl rfl (by first | omega | (simp only [List.length_append, List.length_cons, List.length_nil, List.length_set, List.length_replicate, List.length_take, List.length_drop, ints_length, wr_length, node_len] <;> omega) | rfl) (ints_one _ _) (by first | omega | (simp only [List.length_append, List.length_cons, List.length_nil, List.length_set, List.length_replicate, List.length_take, List.length_drop, ints_length, wr_length, node_len] <;> omega) | rfl) rfl ?_
      refine op_nil ?_
      refine ax_then ?_
      refine At.regs (L' := [(1, _), (2, _), (3, _), (6, _), (7, _), (8, _), (9, _), (10, _), (11, _), (14, _), (15, _), (16, _), (17, _), (18, _), (19, _), (20, _), (21, _), (22, _)]) (.cons rfl (.cons rfl (.cons rfl (.cons rfl (.cons rfl (.cons rfl (.cons rfl (.cons rfl (.cons rfl (.cons rfl (.cons rfl (.cons rfl (.cons rfl (.cons rfl (.cons rfl (.cons rfl (.cons rfl (.cons rfl (.nil _))))))))))))))))))) ?_
      refine cd_region ?_
      refine st (ev_move rfl) rfl rfl rfl ?_
      refine st (ev_shr rfl rfl (by omega)) rfl rfl rfl ?_
      refine at_eq (i := 30) (v' := .int .i64 (i / 2 ^ (k + 1))) rfl (by rw [ishr1 hdr.1, div_step]) ?_
      refine st (ev_assign rfl) rfl rfl rfl ?_
      refine op_nil ?_
      refine ax_block ?_
      refine ax_then ?_
      refine At.regs (L' := [(1, _), (2, _), (3, _), (6, _), (7, _), (8, _), (9, _), (10, _), (11, _), (14, _), (15, _), (16, _), (17, _), (18, _), (19, _), (20, _), (21, _), (22, _), (29, _), (30, _)]) (.cons rfl (.cons rfl (.cons rfl (.cons rfl (.cons rfl (.cons rfl (.cons rfl (.cons rfl (.cons rfl (.cons rfl (.cons rfl (.cons rfl (.cons rfl (.cons rfl (.cons rfl (.cons rfl (.cons rfl (.cons rfl (.cons rfl (.cons rfl (.nil _))))))))))))))))))))) ?_
      refine cd_region ?_
      refine st (ev_move rfl) rfl rfl rfl ?_
      refine st (ev_add64 rfl rfl (by omega) (by omega)) rfl rfl rfl ?_
      refine st (ev_assign rfl) rfl rfl rfl ?_
      refine op_nil ?_
      refine ax_heq (i := 3) (v' := .blk b3 (.cells (ints .u8 (up leaf i (p.take (k + 1)))).toArray 39)) rfl (by rw [up_take leaf i (by omega)]; first | rw [if_pos hc16] | rw [if_neg hc16]) ?_
      exact at_again (k + 1) (by omega) (by omega) (.cons rfl (.cons rfl (.cons rfl (.cons rfl (.cons rfl (.nil _)))))) (.cons rfl (.cons rfl (.nil _))) (.cons rfl (.nil _))
    ·
      refine cd_open_tail 6 hmix (by decide +kernel) ?_
      refine qt (ev_move rfl) rfl rfl rfl ?_
      refine qt (ev_move rfl) rfl rfl rfl ?_
      refine qt (ev_indexAddr_rdh (h := 2) Try.underlying26 ty39 rfl rfl rfl (by assumption) (by omega) (by omega)) rfl rfl rfl ?_
      refine qt (ld_rdh (h := 2) ty39 rfl rfl rfl (by assumption) (by omega)) rfl rfl rfl ?_
      refine qt_eq (i := 26) (v' := .agg (ints .u8 (p.getD k [])).toArray) rfl (by rw [e0]) ?_
      refine qt (ld_blk_all (h := 3) ty39 rfl rfl rfl (by first | omega | (simp only [List.length_append, List.length_cons, List.length_nil, List.length_set, List.length_replicate, List.length_take, List.length_drop, ints_length, wr_length, node_len] <;> omega) | rfl)) rfl rfl rfl ?_
      refine qt_callv has82 rfl (fun w1 sw => rnode_any (p.getD k []) (up leaf i (p.take (k))) w1 hg2 hul) rfl rfl ?_
      refine qt_end ?_
      refine st_store_all 3 ty39 rfl rfl rfl rfl (by first | omega | (simp only [List.length_append, List.length_cons, List.length_nil, List.length_set, List.length_replicate, List.length_take, List.length_drop, ints_length, wr_length, node_len] <;> omega) | rfl) (ints_one _ _) (by first | omega | (simp only [List.length_append, List.length_cons, List.length_nil, List.length_set, List.length_replicate, List.length_take, List.length_drop, ints_length, wr_length, node_len] <;> omega) | rfl) rfl ?_
      refine op_nil ?_
      refine ax_then ?_
      refine At.regs (L' := [(1, _), (2, _), (3, _), (6, _), (7, _), (8, _), (9, _), (10, _), (11, _), (14, _), (15, _), (16, _), (23, _), (24, _), (25, _), (26, _), (27, _), (28, _)]) (.cons rfl (.cons rfl (.cons rfl (.cons rfl (.cons rfl (.cons rfl (.cons rfl (.cons rfl (.cons rfl (.cons rfl (.cons rfl (.cons rfl (.cons rfl (.cons rfl (.cons rfl (.cons rfl (.cons rfl (.cons rfl (.nil _))))))))))))))))))) ?_
      refine cd_region ?_
      refine st (ev_move rfl) rfl rfl rfl ?_
      refine st (ev_shr rfl rfl (by omega)) rfl rfl rfl ?_
      refine at_eq (i := 30) (v' := .int .i64 (i / 2 ^ (k + 1))) rfl (by rw [ishr1 hdr.1, div_step]) ?_
      refine st (ev_assign rfl) rfl rfl rfl ?_
      refine op_nil ?_
      refine ax_block ?_
      refine ax_then ?_
      refine At.regs (L' := [(1, _), (2, _), (3, _), (6, _), (7, _), (8, _), (9, _), (10, _), (11, _), (14, _), (15, _), (16, _), (23, _), (24, _), (25, _), (26, _), (27, _), (28, _), (29, _), (30, _)]) (.cons rfl (.cons rfl (.cons rfl (.cons rfl (.cons rfl (.cons rfl (.cons rfl (.cons rfl (.cons rfl (.cons rfl (.cons rfl (.cons rfl (.cons rfl (.cons rfl (.cons rfl (.cons rfl (.cons rfl (.cons rfl (.cons rfl (.cons rfl (.nil _))))))))))))))))))))) ?_
      refine cd_region ?_
      refine st (ev_move rfl) rfl rfl rfl ?_
      refine st (ev_add64 rfl rfl (by omega) (by omega)) rfl rfl rfl ?_
      refine st (ev_assign rfl) rfl rfl rfl ?_
      refine op_nil ?_
      refine ax_heq (i := 3) (v' := .blk b3 (.cells (ints .u8 (up leaf i (p.take (k + 1)))).toArray 39)) rfl (by rw [up_take leaf i (by omega)]; first | rw [if_pos hc16] | rw [if_neg hc16]) ?_
      exact at_again (k + 1) (by omega) (by omega) (.cons rfl (.cons rfl (.cons rfl (.cons rfl (.cons rfl (.nil _)))))) (.cons rfl (.cons rfl (.nil _))) (.cons rfl (.nil _))
  ·
    obtain rfl : k = p.length := by omega
    refine at_heq (i := 3) (v' := .blk b3 (.cells (ints .u8 (up leaf i p)).toArray 39)) rfl (by rw [List.take_length]) ?_
    have hul2 := up_len hl i p
    refine cd_exit ?_
    refine ax_then_exit ?_
    refine ax_then_exit ?_
    refine ax_block_hit ?_
    refine ax_then ?_
    refine At.regs (L' := [(3, _), (6, _)]) (.cons rfl (.cons rfl (.nil _))) ?_
    refine cd_seq ?_
    refine cd_region ?_
    refine st (ld_blk_all (h := 3) ty39 rfl rfl rfl (by first | omega | (simp only [List.length_append, List.length_cons, List.length_nil, List.length_set, List.length_replicate, List.length_take, List.length_drop, ints_length, wr_length, node_len] <;> omega) | rfl)) rfl rfl rfl ?_
    refine st_store_all 6 ty39 rfl rfl rfl rfl (by first | omega | (simp only [List.length_append, List.length_cons, List.length_nil, List.length_set, List.length_replicate, List.length_take, List.length_drop, ints_length, wr_length, node_len] <;> omega) | rfl) (ints_one _ _) (by first | omega | (simp only [List.length_append, List.length_cons, List.length_nil, List.length_set, List.length_replicate, List.length_take, List.length_drop, ints_length, wr_length, node_len] <;> omega) | rfl) rfl ?_
    refine op_nil ?_
    refine ax_then ?_
    refine At.regs (L' := [(6, _)]) (.cons rfl (.nil _)) ?_
    refine cd_ret ?_
    refine rt_cell (h0 := 6) (.inl rfl) Try.results59 ty39 rfl rfl rfl (by first | omega | (simp only [List.length_append, List.length_cons, List.length_nil, List.length_set, List.length_replicate, List.length_take, List.length_drop, ints_length, wr_length, node_len] <;> omega) | rfl) ?_
    exact fun w1 sw => ⟨rfl, sw.gives (.nil _)⟩

def lf (n : Nat) : List Int := (n : Int) :: List.replicate 31 0
theorem lf_len (n : Nat) : (lf n).length = 32 := by simp [lf]
theorem lf3 : H32 [lf 1, lf 2, lf 3] := .cons (lf_len _) (.cons (lf_len _) (.one (lf_len _)))
set_option maxRecDepth 100000 in
theorem known4a : ((node (node (lf 1) (lf 2)) (lf 3) == lf 3) || (node (node (lf 1) (lf 2)) (lf 3) == List.replicate 32 0)) = false := by decide +kernel
theorem known4b : node (node (lf 1) (lf 2)) (lf 3) ≠ lf 3 ∧ node (node (lf 1) (lf 2)) (lf 3) ≠ List.replicate 32 0 := by
  have h := known4a
  simp only [Bool.or_eq_false_iff, beq_eq_false_iff_ne] at h
  exact h

end Go.Proofs.Yteedclmcgifmpaa

/- The statement's proof, part 4: what its walks and its plain laws need. -/
import Derived.Test.YtgfnmolbagilmaaRows
import Derived.Tactics
import Derived.Deep.Quiet
import Derived.StillTail
import Derived.Laws.World
import Derived.Laws.Sem
import Derived.Laws.Entries
import Derived.Below
import Derived.Deep.LoopGhost
import Derived.Laws.BytesString
import Derived.Laws.IdiomStrings
import Derived.KernelRfl
import Derived.Carry
import Derived.OpenShut
import Derived.ProofKit
import Derived.ChangeSame
import Derived.HandedShaped
import Derived.SizedLaws
import Derived.Test.YtgfnmolbagilmaaProg
import Derived.Laws.Strings
import Derived.Test.YtgfnmolbagilmaaXc3
namespace Go.Proofs.Ytgfnmolbagilmaa
open Go Go.RowKit Fw
open Sha
open Mk
set_option linter.unusedVariables false
set_option linter.unusedSimpArgs false
set_option maxRecDepth 20000 in
set_option maxHeartbeats 4000000 in
theorem path_step (N : Nat) (ih : ∀ (p : Value) (cs : List (List Int)) (i : Int) (w : World), cs.length < N → H32 cs → cs.length ≤ 256 → (-9223372036854775808 ≤ i ∧ i ≤ 9223372036854775807) → Rd w p 32 (flat cs) → Calls Try.prog 79 #[p, .int .i64 i] w (Post (ι := Value) w [] (fun _ => True) (fun v => v) (fun v => [(0, .own (v) 55 32 (flat (path cs i)))]))) (p : Value) (cs : List (List Int)) (i : Int) (w : World) (hN : cs.length = N) (hu : H32 cs) (hcl : cs.length ≤ 256) (hi : -9223372036854775808 ≤ i ∧ i ≤ 9223372036854775807) (h : Rd w p 32 (flat cs)) : Calls Try.prog 79 #[p, .int .i64 i] w (Post (ι := Value) w [] (fun _ => True) (fun v => v) (fun v => [(0, .own (v) 55 32 (flat (path cs i)))])) := by
  refine calls_at (vs := [p, .int .i64 i]) (X := []) (H := []) (F := [(0, .sl p 32 (flat (cs)))]) 49 Try.func79 rfl rfl rfl (Sat.rd0 0 h) ?_
  refine cd_seq ?_
  refine cd_region ?_
  refine st (ev_assign rfl) rfl rfl rfl ?_
  refine at_own_nil 4 55 32 ?_
  refine at_heq (i := 4) (v' := .own (.slice none 0 0) 55 32 (flat [])) rfl rfl ?_
  have hu4 := H32.nil
  refine op_nil ?_
  refine ax_then ?_
  refine At.regs (L' := [(0, _), (1, _), (4, _)]) (.cons rfl (.cons rfl (.cons rfl (.nil _)))) ?_
  refine cd_seq ?_
  refine cd_seq ?_
  refine cd_region ?_
  refine st (ev_move rfl) rfl rfl rfl ?_
  refine st (ev_lss rfl rfl) rfl rfl rfl ?_
  refine st (ev_move rfl) rfl rfl rfl ?_
  refine at_split_if (i := 8) rfl (fun hg8 => ?_) (fun hg8 => ?_)
  ·
    have hno : path cs i = [] := path_no (by omega)
    refine st_skip rfl rfl rfl ?_
    refine st_skip rfl rfl rfl ?_
    refine st_skip rfl rfl rfl ?_
    refine st_skip rfl rfl rfl ?_
    refine st (ev_pick_t rfl rfl) rfl rfl rfl ?_
    refine st (ev_move rfl) rfl rfl rfl ?_
    refine st_skip rfl rfl rfl ?_
    refine st_skip rfl rfl rfl ?_
    refine st_skip rfl rfl rfl ?_
    refine st (ev_pick_t rfl rfl) rfl rfl rfl ?_
    refine op_nil ?_
    refine ax_then ?_
    refine At.regs (L' := [(0, _), (1, _), (4, _), (18, _)]) (.cons rfl (.cons rfl (.cons rfl (.cons rfl (.nil _))))) ?_
    refine cd_true rfl ?_
    refine cd_seq ?_
    refine cd_region ?_
    refine st (ev_assign rfl) rfl rfl rfl ?_
    refine at_own_nil 4 55 32 ?_
    refine at_heq (i := 4) (v' := .own (.slice none 0 0) 55 32 (flat [])) rfl rfl ?_
    have hu4 := H32.nil
    refine op_nil ?_
    refine ax_then ?_
    refine At.regs (L' := [(0, _), (1, _), (4, _)]) (.cons rfl (.cons rfl (.cons rfl (.nil _)))) ?_
    refine cd_ret ?_
    refine ax_then_ret ?_
    refine rt_tmp (.inl rfl) Try.results79 rfl ?_
    exact fun w1 sw => ⟨_, trivial, rfl, by rw [hno]; exact (sw.gives (N := [(4, _)]) (.cons rfl (.nil _))).rn 0⟩
  ·
    refine st (ev_move rfl) rfl rfl rfl ?_
    refine st (ev_move rfl) rfl rfl rfl ?_
    refine st (ev_len_rdh (h := 0) Try.underlying22 rfl rfl (by assumption)) rfl rfl rfl ?_
    refine st (ev_geq rfl rfl) rfl rfl rfl ?_
    refine st (ev_pick_f rfl rfl) rfl rfl rfl ?_
    refine st (ev_move rfl) rfl rfl rfl ?_
    refine at_split_if (i := 14) rfl (fun hg14 => ?_) (fun hg14 => ?_)
    ·
      have hno : path cs i = [] := path_no (by omega)
      refine st_skip rfl rfl rfl ?_
      refine st_skip rfl rfl rfl ?_
      refine st_skip rfl rfl rfl ?_
      refine st (ev_pick_t rfl rfl) rfl rfl rfl ?_
      refine op_nil ?_
      refine ax_then ?_
      refine At.regs (L' := [(0, _), (1, _), (4, _), (18, _)]) (.cons rfl (.cons rfl (.cons rfl (.cons rfl (.nil _))))) ?_
      refine cd_true rfl ?_
      refine cd_seq ?_
      refine cd_region ?_
      refine st (ev_assign rfl) rfl rfl rfl ?_
      refine at_own_nil 4 55 32 ?_
      refine at_heq (i := 4) (v' := .own (.slice none 0 0) 55 32 (flat [])) rfl rfl ?_
      have hu4 := H32.nil
      refine op_nil ?_
      refine ax_then ?_
      refine At.regs (L' := [(0, _), (1, _), (4, _)]) (.cons rfl (.cons rfl (.cons rfl (.nil _)))) ?_
      refine cd_ret ?_
      refine ax_then_ret ?_
      refine rt_tmp (.inl rfl) Try.results79 rfl ?_
      exact fun w1 sw => ⟨_, trivial, rfl, by rw [hno]; exact (sw.gives (N := [(4, _)]) (.cons rfl (.nil _))).rn 0⟩
    ·
      refine st (ev_move rfl) rfl rfl rfl ?_
      refine st (ev_len_rdh (h := 0) Try.underlying22 rfl rfl (by assumption)) rfl rfl rfl ?_
      refine st (ev_eql rfl rfl) rfl rfl rfl ?_
      refine st (ev_pick_f rfl rfl) rfl rfl rfl ?_
      refine op_nil ?_
      refine ax_then ?_
      refine At.regs (L' := [(0, _), (1, _), (4, _), (18, _)]) (.cons rfl (.cons rfl (.cons rfl (.cons rfl (.nil _))))) ?_
      refine cd_if rfl (fun hc18 => ?_) (fun hc18 => ?_)
      ·
        have hno : path cs i = [] := path_no (by omega)
        refine cd_seq ?_
        refine cd_region ?_
        refine st (ev_assign rfl) rfl rfl rfl ?_
        refine at_own_nil 4 55 32 ?_
        refine at_heq (i := 4) (v' := .own (.slice none 0 0) 55 32 (flat [])) rfl rfl ?_
        have hu4 := H32.nil
        refine op_nil ?_
        refine ax_then ?_
        refine At.regs (L' := [(0, _), (1, _), (4, _)]) (.cons rfl (.cons rfl (.cons rfl (.nil _)))) ?_
        refine cd_ret ?_
        refine ax_then_ret ?_
        refine rt_tmp (.inl rfl) Try.results79 rfl ?_
        exact fun w1 sw => ⟨_, trivial, rfl, by rw [hno]; exact (sw.gives (N := [(4, _)]) (.cons rfl (.nil _))).rn 0⟩
      ·
        have hge : 2 ≤ cs.length := by omega
        have hlt := half_lt hge
        have hps := half_pos cs.length
        refine cd_skip ?_
        refine ax_then ?_
        refine At.regs (L' := [(0, _), (1, _), (4, _)]) (.cons rfl (.cons rfl (.cons rfl (.nil _)))) ?_
        refine cd_seq ?_
        refine cd_region ?_
        refine st (ev_move rfl) rfl rfl rfl ?_
        refine st (ev_len_rdh (h := 0) Try.underlying22 rfl rfl (by assumption)) rfl rfl rfl ?_
        refine at_eq (i := 20) (v' := .int .i64 (cs.length : Int)) rfl rfl ?_
        refine st_callv has108 rfl (fun w1 sw => half_any cs.length w1 hge (by omega)) rfl rfl ?_
        refine st (ev_assign rfl) rfl rfl rfl ?_
        refine op_nil ?_
        refine ax_then ?_
        refine At.regs (L' := [(0, _), (1, _), (4, _), (5, _)]) (.cons rfl (.cons rfl (.cons rfl (.cons rfl (.nil _))))) ?_
        refine cd_seq ?_
        refine cd_seq ?_
        refine cd_region ?_
        refine st (ev_move rfl) rfl rfl rfl ?_
        refine st (ev_move rfl) rfl rfl rfl ?_
        refine st (ev_lss rfl rfl) rfl rfl rfl ?_
        refine op_nil ?_
        refine ax_then ?_
        refine At.regs (L' := [(0, _), (1, _), (4, _), (5, _), (24, _)]) (.cons rfl (.cons rfl (.cons rfl (.cons rfl (.cons rfl (.nil _)))))) ?_
        refine cd_if rfl (fun hc24 => ?_) (fun hc24 => ?_)
        ·
          have hyes := path_lo (by omega) hge hc24
          have hrl := root_len (hu.drop (half cs.length))
          refine cd_seq ?_
          refine cd_mix hmix ?_
          refine mx (i := 0) rfl (by decide +kernel) (by decide +kernel) (by decide +kernel) rfl (fun w0 => ev_move rfl) rfl rfl (Sub.refl _) ?_
          refine mx (i := 1) rfl (by decide +kernel) (by decide +kernel) (by decide +kernel) rfl (fun w0 => ev_move rfl) rfl rfl (Sub.refl _) ?_
          refine mx (i := 2) rfl (by decide +kernel) (by decide +kernel) (by decide +kernel) rfl (fun w0 => ev_sliceh_hi Try.underlying22 ty55 rfl rfl (fun w1 sw => sw.sl_rd (h := 0) rfl) (by assumption) (by omega) (by first | omega | (simp only [List.length_append, List.length_cons, List.length_nil, List.length_set, List.length_replicate, List.length_take, List.length_drop, ints_length, wr_length, node_len] <;> omega))) rfl rfl (Sub.refl _) ?_
          refine at_eq (i := 27) (v' := cutAt 32 p 0 (half cs.length)) rfl (by rw [Int.toNat_natCast]) ?_
          refine mx (i := 3) rfl (by decide +kernel) (by decide +kernel) (by decide +kernel) rfl (fun w0 => ev_move rfl) rfl rfl (Sub.refl _) ?_
          refine mx (i := 5) rfl (by decide +kernel) (by decide +kernel) (by decide +kernel) rfl (fun w0 => ev_move rfl) rfl rfl (Sub.refl _) ?_
          refine mx (i := 6) rfl (by decide +kernel) (by decide +kernel) (by decide +kernel) rfl (fun w0 => ev_move rfl) rfl rfl (Sub.refl _) ?_
          refine mx (i := 7) rfl (by decide +kernel) (by decide +kernel) (by decide +kernel) rfl (fun w0 => ev_sliceh_lo Try.underlying22 ty55 rfl rfl (fun w1 sw => sw.sl_rd (h := 0) rfl) (by assumption) (by omega) (by first | omega | (simp only [List.length_append, List.length_cons, List.length_nil, List.length_set, List.length_replicate, List.length_take, List.length_drop, ints_length, wr_length, node_len] <;> omega))) rfl rfl (Sub.refl _) ?_
          refine at_eq (i := 32) (v' := cutAt 32 p (half cs.length) cs.length) rfl (by rw [Int.toNat_natCast]) ?_
          refine mx_one (i := 4) (by decide +kernel) (Sub.refl _) ?_
          refine wo (i := 4) rfl ?_
          refine st_call has79 rfl (fun w1 sw => rn 29 (ih (cutAt 32 p 0 (half cs.length)) (cs.take (half cs.length)) (i) w1 (by rw [List.length_take]; omega) (hu.take _) (by rw [List.length_take]; omega) (by omega) (takeh (sw.sl_rd (h := 0) rfl) hu (by omega)))) nil_all rfl rfl (fun v29 _ => ?_)
          have hu29 := path_h32 _ (cs.take (half cs.length)) (i) (Nat.le_refl _) (hu.take _)
          have hpm := path_max _ (cs.take (half cs.length)) (i) (Nat.le_refl _)
          have hlt2 : ((cs.take (half cs.length))).length ≤ 256 := (by rw [List.length_take]; omega)
          refine op_nil ?_
          refine ax_then ?_
          refine mx_one (i := 8) (by decide +kernel) (Sub.refl _) ?_
          refine wo (i := 8) rfl ?_
          refine st_callv has77 rfl (fun w1 sw => root_any (cutAt 32 p (half cs.length) cs.length) (cs.drop (half cs.length)) w1 (hu.drop _) (by rw [List.length_drop]; omega) (droph (sw.sl_rd (h := 0) rfl) hu (by omega))) rfl rfl ?_
          refine op_nil ?_
          refine ax_then ?_
          refine mx_one (i := 9) (by decide +kernel) (Sub.refl _) ?_
          refine wo (i := 9) rfl ?_
          refine st_bsh1 (h := 34) Try.underlying22 ty55 rfl (by first | assumption | omega) rfl rfl (fun b34 hu34 => ?_)
          refine op_nil ?_
          refine ax_then ?_
          refine mx_one (i := 10) (by decide +kernel) (Sub.refl _) ?_
          refine wo (i := 10) rfl ?_
          refine st_appendh (h := 29) Try.underlying22 Try.underlying22 ty55 rfl rfl rfl rfl (fun w1 sw => sw.own_rd (h := 34) rfl) (by assumption) (by assumption) (by first | omega | (simp only [List.length_append, List.length_cons, List.length_nil, List.length_set, List.length_replicate, List.length_take, List.length_drop, ints_length, wr_length, node_len] <;> omega)) (by decide) rfl rfl (fun v35 hu35 => ?_)
          refine op_nil ?_
          refine ax_then ?_
          refine mx (i := 11) rfl (by decide +kernel) (by decide +kernel) (by decide +kernel) rfl (fun w0 => ev_assign rfl) rfl rfl (Sub.refl _) ?_
          refine mx_done (by decide +kernel) (Sub.refl _) ?_
          refine ax_then ?_
          refine At.regs (L' := [(0, _), (1, _), (4, _), (5, _)]) (.cons rfl (.cons rfl (.cons rfl (.cons rfl (.nil _))))) ?_
          refine cd_ret ?_
          refine ax_then_ret ?_
          refine rt_tmp (.inl rfl) Try.results79 rfl ?_
          first | exact fun w1 sw => ⟨_, trivial, rfl, by rw [hyes]; exact (sw.gives (N := [(29, _)]) (.cons rfl (.nil _))).rn 0⟩ | exact fun w1 sw => ⟨_, trivial, rfl, by rw [hyes]; exact (sw.gives (N := [(42, _)]) (.cons rfl (.nil _))).rn 0⟩
        ·
          have hyes := path_hi (by omega) hge hc24
          have hrl := root_len (hu.take (half cs.length))
          refine cd_skip ?_
          refine ax_then ?_
          refine At.regs (L' := [(0, _), (1, _), (4, _), (5, _)]) (.cons rfl (.cons rfl (.cons rfl (.cons rfl (.nil _))))) ?_
          refine cd_seq ?_
          refine cd_mix hmix ?_
          refine mx (i := 0) rfl (by decide +kernel) (by decide +kernel) (by decide +kernel) rfl (fun w0 => ev_move rfl) rfl rfl (Sub.refl _) ?_
          refine mx (i := 1) rfl (by decide +kernel) (by decide +kernel) (by decide +kernel) rfl (fun w0 => ev_move rfl) rfl rfl (Sub.refl _) ?_
          refine mx (i := 2) rfl (by decide +kernel) (by decide +kernel) (by decide +kernel) rfl (fun w0 => ev_sliceh_lo Try.underlying22 ty55 rfl rfl (fun w1 sw => sw.sl_rd (h := 0) rfl) (by assumption) (by omega) (by first | omega | (simp only [List.length_append, List.length_cons, List.length_nil, List.length_set, List.length_replicate, List.length_take, List.length_drop, ints_length, wr_length, node_len] <;> omega))) rfl rfl (Sub.refl _) ?_
          refine at_eq (i := 38) (v' := cutAt 32 p (half cs.length) cs.length) rfl (by rw [Int.toNat_natCast]) ?_
          refine mx (i := 3) rfl (by decide +kernel) (by decide +kernel) (by decide +kernel) rfl (fun w0 => ev_move rfl) rfl rfl (Sub.refl _) ?_
          refine mx (i := 4) rfl (by decide +kernel) (by decide +kernel) (by decide +kernel) rfl (fun w0 => ev_move rfl) rfl rfl (Sub.refl _) ?_
          refine mx (i := 5) rfl (by decide +kernel) (by decide +kernel) (by decide +kernel) rfl (fun w0 => ev_sub64 rfl rfl (by omega) (by omega)) rfl rfl (Sub.refl _) ?_
          refine mx (i := 7) rfl (by decide +kernel) (by decide +kernel) (by decide +kernel) rfl (fun w0 => ev_move rfl) rfl rfl (Sub.refl _) ?_
          refine mx (i := 8) rfl (by decide +kernel) (by decide +kernel) (by decide +kernel) rfl (fun w0 => ev_move rfl) rfl rfl (Sub.refl _) ?_
          refine mx (i := 9) rfl (by decide +kernel) (by decide +kernel) (by decide +kernel) rfl (fun w0 => ev_sliceh_hi Try.underlying22 ty55 rfl rfl (fun w1 sw => sw.sl_rd (h := 0) rfl) (by assumption) (by omega) (by first | omega | (simp only [List.length_append, List.length_cons, List.length_nil, List.length_set, List.length_replicate, List.length_take, List.length_drop, ints_length, wr_length, node_len] <;> omega))) rfl rfl (Sub.refl _) ?_
          refine at_eq (i := 45) (v' := cutAt 32 p 0 (half cs.length)) rfl (by rw [Int.toNat_natCast]) ?_
          refine mx_one (i := 6) (by decide +kernel) (Sub.refl _) ?_
          refine wo (i := 6) rfl ?_
          refine st_call has79 rfl (fun w1 sw => rn 42 (ih (cutAt 32 p (half cs.length) cs.length) (cs.drop (half cs.length)) (i - (half cs.length : Int)) w1 (by rw [List.length_drop]; omega) (hu.drop _) (by rw [List.length_drop]; omega) (by omega) (droph (sw.sl_rd (h := 0) rfl) hu (by omega)))) nil_all rfl rfl (fun v42 _ => ?_)
          have hu42 := path_h32 _ (cs.drop (half cs.length)) (i - (half cs.length : Int)) (Nat.le_refl _) (hu.drop _)
          have hpm := path_max _ (cs.drop (half cs.length)) (i - (half cs.length : Int)) (Nat.le_refl _)
          have hlt2 : ((cs.drop (half cs.length))).length ≤ 256 := (by rw [List.length_drop]; omega)
          refine op_nil ?_
          refine ax_then ?_
          refine mx_one (i := 10) (by decide +kernel) (Sub.refl _) ?_
          refine wo (i := 10) rfl ?_
          refine st_callv has77 rfl (fun w1 sw => root_any (cutAt 32 p 0 (half cs.length)) (cs.take (half cs.length)) w1 (hu.take _) (by rw [List.length_take]; omega) (takeh (sw.sl_rd (h := 0) rfl) hu (by omega))) rfl rfl ?_
          refine op_nil ?_
          refine ax_then ?_
          refine mx_one (i := 11) (by decide +kernel) (Sub.refl _) ?_
          refine wo (i := 11) rfl ?_
          refine st_bsh1 (h := 47) Try.underlying22 ty55 rfl (by first | assumption | omega) rfl rfl (fun b47 hu47 => ?_)
          refine op_nil ?_
          refine ax_then ?_
          refine mx_one (i := 12) (by decide +kernel) (Sub.refl _) ?_
          refine wo (i := 12) rfl ?_
          refine st_appendh (h := 42) Try.underlying22 Try.underlying22 ty55 rfl rfl rfl rfl (fun w1 sw => sw.own_rd (h := 47) rfl) (by assumption) (by assumption) (by first | omega | (simp only [List.length_append, List.length_cons, List.length_nil, List.length_set, List.length_replicate, List.length_take, List.length_drop, ints_length, wr_length, node_len] <;> omega)) (by decide) rfl rfl (fun v48 hu48 => ?_)
          refine op_nil ?_
          refine ax_then ?_
          refine mx (i := 13) rfl (by decide +kernel) (by decide +kernel) (by decide +kernel) rfl (fun w0 => ev_assign rfl) rfl rfl (Sub.refl _) ?_
          refine mx_done (by decide +kernel) (Sub.refl _) ?_
          refine ax_then ?_
          refine At.regs (L' := [(4, _)]) (.cons rfl (.nil _)) ?_
          refine cd_ret ?_
          refine rt_tmp (.inl rfl) Try.results79 rfl ?_
          first | exact fun w1 sw => ⟨_, trivial, rfl, by rw [hyes]; exact (sw.gives (N := [(29, _)]) (.cons rfl (.nil _))).rn 0⟩ | exact fun w1 sw => ⟨_, trivial, rfl, by rw [hyes]; exact (sw.gives (N := [(42, _)]) (.cons rfl (.nil _))).rn 0⟩
theorem path_all : ∀ (N : Nat) (p : Value) (cs : List (List Int)) (i : Int) (w : World), cs.length < N → H32 cs → cs.length ≤ 256 → (-9223372036854775808 ≤ i ∧ i ≤ 9223372036854775807) → Rd w p 32 (flat cs) → Calls Try.prog 79 #[p, .int .i64 i] w (Post (ι := Value) w [] (fun _ => True) (fun v => v) (fun v => [(0, .own (v) 55 32 (flat (path cs i)))]))
  | 0, _, _, _, _, hN, _, _, _, _ => absurd hN (Nat.not_lt_zero _)
  | N + 1, p, cs, i, w, hN, hu, hcl, hi, h => path_step cs.length (fun p' cs' i' w' h1 => path_all N p' cs' i' w' (by omega)) p cs i w rfl hu hcl hi h
theorem path_any (p : Value) (cs : List (List Int)) (i : Int) (w : World) (hu : H32 cs) (hcl : cs.length ≤ 256) (hi : -9223372036854775808 ≤ i ∧ i ≤ 9223372036854775807) (h : Rd w p 32 (flat cs)) : Calls Try.prog 79 #[p, .int .i64 i] w (Post (ι := Value) w [] (fun _ => True) (fun v => v) (fun v => [(0, .own (v) 55 32 (flat (path cs i)))])) := path_all (cs.length + 1) p cs i w (by omega) hu hcl hi h
set_option maxRecDepth 20000 in
set_option maxHeartbeats 4000000 in
theorem rpath_step (N : Nat) (ih : ∀ (p : Value) (cs : List (List Int)) (i : Int) (w : World), cs.length < N → H32 cs → cs.length ≤ 256 → (-9223372036854775808 ≤ i ∧ i ≤ 9223372036854775807) → Rd w p 32 (flat cs) → Calls Try.prog 74 #[p, .int .i64 i] w (Post (ι := Value) w [] (fun _ => True) (fun v => v) (fun v => [(0, .own (v) 55 32 (flat (path cs i)))]))) (p : Value) (cs : List (List Int)) (i : Int) (w : World) (hN : cs.length = N) (hu : H32 cs) (hcl : cs.length ≤ 256) (hi : -9223372036854775808 ≤ i ∧ i ≤ 9223372036854775807) (h : Rd w p 32 (flat cs)) : Calls Try.prog 74 #[p, .int .i64 i] w (Post (ι := Value) w [] (fun _ => True) (fun v => v) (fun v => [(0, .own (v) 55 32 (flat (path cs i)))])) := by
  refine calls_at (vs := [p, .int .i64 i]) (X := []) (H := []) (F := [(0, .sl p 32 (flat (cs)))]) 49 Try.func74 rfl rfl rfl (Sat.rd0 0 h) ?_
  refine cd_seq ?_
  refine cd_region ?_
  refine st (ev_assign rfl) rfl rfl rfl ?_
  refine at_own_nil 4 55 32 ?_
  refine at_heq (i := 4) (v' := .own (.slice none 0 0) 55 32 (flat [])) rfl rfl ?_
  have hu4 := H32.nil
  refine op_nil ?_
  refine ax_then ?_
  refine At.regs (L' := [(0, _), (1, _), (4, _)]) (.cons rfl (.cons rfl (.cons rfl (.nil _)))) ?_
  refine cd_seq ?_
  refine cd_seq ?_
  refine cd_region ?_
  refine st (ev_move rfl) rfl rfl rfl ?_
  refine st (ev_lss rfl rfl) rfl rfl rfl ?_
  refine st (ev_move rfl) rfl rfl rfl ?_
  refine at_split_if (i := 8) rfl (fun hg8 => ?_) (fun hg8 => ?_)
  ·
    have hno : path cs i = [] := path_no (by omega)
    refine st_skip rfl rfl rfl ?_
    refine st_skip rfl rfl rfl ?_
    refine st_skip rfl rfl rfl ?_
    refine st_skip rfl rfl rfl ?_
    refine st (ev_pick_t rfl rfl) rfl rfl rfl ?_
    refine st (ev_move rfl) rfl rfl rfl ?_
    refine st_skip rfl rfl rfl ?_
    refine st_skip rfl rfl rfl ?_
    refine st_skip rfl rfl rfl ?_
    refine st (ev_pick_t rfl rfl) rfl rfl rfl ?_
    refine op_nil ?_
    refine ax_then ?_
    refine At.regs (L' := [(0, _), (1, _), (4, _), (18, _)]) (.cons rfl (.cons rfl (.cons rfl (.cons rfl (.nil _))))) ?_
    refine cd_true rfl ?_
    refine cd_seq ?_
    refine cd_region ?_
    refine st (ev_assign rfl) rfl rfl rfl ?_
    refine at_own_nil 4 55 32 ?_
    refine at_heq (i := 4) (v' := .own (.slice none 0 0) 55 32 (flat [])) rfl rfl ?_
    have hu4 := H32.nil
    refine op_nil ?_
    refine ax_then ?_
    refine At.regs (L' := [(0, _), (1, _), (4, _)]) (.cons rfl (.cons rfl (.cons rfl (.nil _)))) ?_
    refine cd_ret ?_
    refine ax_then_ret ?_
    refine rt_tmp (.inl rfl) Try.results74 rfl ?_
    exact fun w1 sw => ⟨_, trivial, rfl, by rw [hno]; exact (sw.gives (N := [(4, _)]) (.cons rfl (.nil _))).rn 0⟩
  ·
    refine st (ev_move rfl) rfl rfl rfl ?_
    refine st (ev_move rfl) rfl rfl rfl ?_
    refine st (ev_len_rdh (h := 0) Try.underlying22 rfl rfl (by assumption)) rfl rfl rfl ?_
    refine st (ev_geq rfl rfl) rfl rfl rfl ?_
    refine st (ev_pick_f rfl rfl) rfl rfl rfl ?_
    refine st (ev_move rfl) rfl rfl rfl ?_
    refine at_split_if (i := 14) rfl (fun hg14 => ?_) (fun hg14 => ?_)
    ·
      have hno : path cs i = [] := path_no (by omega)
      refine st_skip rfl rfl rfl ?_
      refine st_skip rfl rfl rfl ?_
      refine st_skip rfl rfl rfl ?_
      refine st (ev_pick_t rfl rfl) rfl rfl rfl ?_
      refine op_nil ?_
      refine ax_then ?_
      refine At.regs (L' := [(0, _), (1, _), (4, _), (18, _)]) (.cons rfl (.cons rfl (.cons rfl (.cons rfl (.nil _))))) ?_
      refine cd_true rfl ?_
      refine cd_seq ?_
      refine cd_region ?_
      refine st (ev_assign rfl) rfl rfl rfl ?_
      refine at_own_nil 4 55 32 ?_
      refine at_heq (i := 4) (v' := .own (.slice none 0 0) 55 32 (flat [])) rfl rfl ?_
      have hu4 := H32.nil
      refine op_nil ?_
      refine ax_then ?_
      refine At.regs (L' := [(0, _), (1, _), (4, _)]) (.cons rfl (.cons rfl (.cons rfl (.nil _)))) ?_
      refine cd_ret ?_
      refine ax_then_ret ?_
      refine rt_tmp (.inl rfl) Try.results74 rfl ?_
      exact fun w1 sw => ⟨_, trivial, rfl, by rw [hno]; exact (sw.gives (N := [(4, _)]) (.cons rfl (.nil _))).rn 0⟩
    ·
      refine st (ev_move rfl) rfl rfl rfl ?_
      refine st (ev_len_rdh (h := 0) Try.underlying22 rfl rfl (by assumption)) rfl rfl rfl ?_
      refine st (ev_lss rfl rfl) rfl rfl rfl ?_
      refine st (ev_pick_f rfl rfl) rfl rfl rfl ?_
      refine op_nil ?_
      refine ax_then ?_
      refine At.regs (L' := [(0, _), (1, _), (4, _), (18, _)]) (.cons rfl (.cons rfl (.cons rfl (.cons rfl (.nil _))))) ?_
      refine cd_if rfl (fun hc18 => ?_) (fun hc18 => ?_)
      ·
        have hno : path cs i = [] := path_no (by omega)
        refine cd_seq ?_
        refine cd_region ?_
        refine st (ev_assign rfl) rfl rfl rfl ?_
        refine at_own_nil 4 55 32 ?_
        refine at_heq (i := 4) (v' := .own (.slice none 0 0) 55 32 (flat [])) rfl rfl ?_
        have hu4 := H32.nil
        refine op_nil ?_
        refine ax_then ?_
        refine At.regs (L' := [(0, _), (1, _), (4, _)]) (.cons rfl (.cons rfl (.cons rfl (.nil _)))) ?_
        refine cd_ret ?_
        refine ax_then_ret ?_
        refine rt_tmp (.inl rfl) Try.results74 rfl ?_
        exact fun w1 sw => ⟨_, trivial, rfl, by rw [hno]; exact (sw.gives (N := [(4, _)]) (.cons rfl (.nil _))).rn 0⟩
      ·
        have hge : 2 ≤ cs.length := by omega
        have hlt := half_lt hge
        have hps := half_pos cs.length
        refine cd_skip ?_
        refine ax_then ?_
        refine At.regs (L' := [(0, _), (1, _), (4, _)]) (.cons rfl (.cons rfl (.cons rfl (.nil _)))) ?_
        refine cd_seq ?_
        refine cd_region ?_
        refine st (ev_move rfl) rfl rfl rfl ?_
        refine st (ev_len_rdh (h := 0) Try.underlying22 rfl rfl (by assumption)) rfl rfl rfl ?_
        refine at_eq (i := 20) (v' := .int .i64 (cs.length : Int)) rfl rfl ?_
        refine st_callv has99 rfl (fun w1 sw => rhalf_any cs.length w1 hge (by omega)) rfl rfl ?_
        refine st (ev_assign rfl) rfl rfl rfl ?_
        refine op_nil ?_
        refine ax_then ?_
        refine At.regs (L' := [(0, _), (1, _), (4, _), (5, _)]) (.cons rfl (.cons rfl (.cons rfl (.cons rfl (.nil _))))) ?_
        refine cd_seq ?_
        refine cd_seq ?_
        refine cd_region ?_
        refine st (ev_move rfl) rfl rfl rfl ?_
        refine st (ev_move rfl) rfl rfl rfl ?_
        refine st (ev_lss rfl rfl) rfl rfl rfl ?_
        refine op_nil ?_
        refine ax_then ?_
        refine At.regs (L' := [(0, _), (1, _), (4, _), (5, _), (24, _)]) (.cons rfl (.cons rfl (.cons rfl (.cons rfl (.cons rfl (.nil _)))))) ?_
        refine cd_if rfl (fun hc24 => ?_) (fun hc24 => ?_)
        ·
          have hyes := path_lo (by omega) hge hc24
          have hrl := root_len (hu.drop (half cs.length))
          refine cd_seq ?_
          refine cd_mix hmix ?_
          refine mx (i := 0) rfl (by decide +kernel) (by decide +kernel) (by decide +kernel) rfl (fun w0 => ev_move rfl) rfl rfl (Sub.refl _) ?_
          refine mx (i := 1) rfl (by decide +kernel) (by decide +kernel) (by decide +kernel) rfl (fun w0 => ev_move rfl) rfl rfl (Sub.refl _) ?_
          refine mx (i := 2) rfl (by decide +kernel) (by decide +kernel) (by decide +kernel) rfl (fun w0 => ev_sliceh_hi Try.underlying22 ty55 rfl rfl (fun w1 sw => sw.sl_rd (h := 0) rfl) (by assumption) (by omega) (by first | omega | (simp only [List.length_append, List.length_cons, List.length_nil, List.length_set, List.length_replicate, List.length_take, List.length_drop, ints_length, wr_length, node_len] <;> omega))) rfl rfl (Sub.refl _) ?_
          refine at_eq (i := 27) (v' := cutAt 32 p 0 (half cs.length)) rfl (by rw [Int.toNat_natCast]) ?_
          refine mx (i := 3) rfl (by decide +kernel) (by decide +kernel) (by decide +kernel) rfl (fun w0 => ev_move rfl) rfl rfl (Sub.refl _) ?_
          refine mx (i := 5) rfl (by decide +kernel) (by decide +kernel) (by decide +kernel) rfl (fun w0 => ev_move rfl) rfl rfl (Sub.refl _) ?_
          refine mx (i := 6) rfl (by decide +kernel) (by decide +kernel) (by decide +kernel) rfl (fun w0 => ev_move rfl) rfl rfl (Sub.refl _) ?_
          refine mx (i := 7) rfl (by decide +kernel) (by decide +kernel) (by decide +kernel) rfl (fun w0 => ev_sliceh_lo Try.underlying22 ty55 rfl rfl (fun w1 sw => sw.sl_rd (h := 0) rfl) (by assumption) (by omega) (by first | omega | (simp only [List.length_append, List.length_cons, List.length_nil, List.length_set, List.length_replicate, List.length_take, List.length_drop, ints_length, wr_length, node_len] <;> omega))) rfl rfl (Sub.refl _) ?_
          refine at_eq (i := 32) (v' := cutAt 32 p (half cs.length) cs.length) rfl (by rw [Int.toNat_natCast]) ?_
          refine mx_one (i := 4) (by decide +kernel) (Sub.refl _) ?_
          refine wo (i := 4) rfl ?_
          refine st_call has74 rfl (fun w1 sw => rn 29 (ih (cutAt 32 p 0 (half cs.length)) (cs.take (half cs.length)) (i) w1 (by rw [List.length_take]; omega) (hu.take _) (by rw [List.length_take]; omega) (by omega) (takeh (sw.sl_rd (h := 0) rfl) hu (by omega)))) nil_all rfl rfl (fun v29 _ => ?_)
          have hu29 := path_h32 _ (cs.take (half cs.length)) (i) (Nat.le_refl _) (hu.take _)
          have hpm := path_max _ (cs.take (half cs.length)) (i) (Nat.le_refl _)
          have hlt2 : ((cs.take (half cs.length))).length ≤ 256 := (by rw [List.length_take]; omega)
          refine op_nil ?_
          refine ax_then ?_
          refine mx_one (i := 8) (by decide +kernel) (Sub.refl _) ?_
          refine wo (i := 8) rfl ?_
          refine st_callv has69 rfl (fun w1 sw => rroot_any (cutAt 32 p (half cs.length) cs.length) (cs.drop (half cs.length)) w1 (hu.drop _) (by rw [List.length_drop]; omega) (droph (sw.sl_rd (h := 0) rfl) hu (by omega))) rfl rfl ?_
          refine op_nil ?_
          refine ax_then ?_
          refine mx_one (i := 9) (by decide +kernel) (Sub.refl _) ?_
          refine wo (i := 9) rfl ?_
          refine st_bsh1 (h := 34) Try.underlying22 ty55 rfl (by first | assumption | omega) rfl rfl (fun b34 hu34 => ?_)
          refine op_nil ?_
          refine ax_then ?_
          refine mx_one (i := 10) (by decide +kernel) (Sub.refl _) ?_
          refine wo (i := 10) rfl ?_
          refine st_appendh (h := 29) Try.underlying22 Try.underlying22 ty55 rfl rfl rfl rfl (fun w1 sw => sw.own_rd (h := 34) rfl) (by assumption) (by assumption) (by first | omega | (simp only [List.length_append, List.length_cons, List.length_nil, List.length_set, List.length_replicate, List.length_take, List.length_drop, ints_length, wr_length, node_len] <;> omega)) (by decide) rfl rfl (fun v35 hu35 => ?_)
          refine op_nil ?_
          refine ax_then ?_
          refine mx (i := 11) rfl (by decide +kernel) (by decide +kernel) (by decide +kernel) rfl (fun w0 => ev_assign rfl) rfl rfl (Sub.refl _) ?_
          refine mx_done (by decide +kernel) (Sub.refl _) ?_
          refine ax_then ?_
          refine At.regs (L' := [(0, _), (1, _), (4, _), (5, _)]) (.cons rfl (.cons rfl (.cons rfl (.cons rfl (.nil _))))) ?_
          refine cd_ret ?_
          refine ax_then_ret ?_
          refine rt_tmp (.inl rfl) Try.results74 rfl ?_
          first | exact fun w1 sw => ⟨_, trivial, rfl, by rw [hyes]; exact (sw.gives (N := [(29, _)]) (.cons rfl (.nil _))).rn 0⟩ | exact fun w1 sw => ⟨_, trivial, rfl, by rw [hyes]; exact (sw.gives (N := [(42, _)]) (.cons rfl (.nil _))).rn 0⟩
        ·
          have hyes := path_hi (by omega) hge hc24
          have hrl := root_len (hu.take (half cs.length))
          refine cd_skip ?_
          refine ax_then ?_
          refine At.regs (L' := [(0, _), (1, _), (4, _), (5, _)]) (.cons rfl (.cons rfl (.cons rfl (.cons rfl (.nil _))))) ?_
          refine cd_seq ?_
          refine cd_mix hmix ?_
          refine mx (i := 0) rfl (by decide +kernel) (by decide +kernel) (by decide +kernel) rfl (fun w0 => ev_move rfl) rfl rfl (Sub.refl _) ?_
          refine mx (i := 1) rfl (by decide +kernel) (by decide +kernel) (by decide +kernel) rfl (fun w0 => ev_move rfl) rfl rfl (Sub.refl _) ?_
          refine mx (i := 2) rfl (by decide +kernel) (by decide +kernel) (by decide +kernel) rfl (fun w0 => ev_sliceh_lo Try.underlying22 ty55 rfl rfl (fun w1 sw => sw.sl_rd (h := 0) rfl) (by assumption) (by omega) (by first | omega | (simp only [List.length_append, List.length_cons, List.length_nil, List.length_set, List.length_replicate, List.length_take, List.length_drop, ints_length, wr_length, node_len] <;> omega))) rfl rfl (Sub.refl _) ?_
          refine at_eq (i := 38) (v' := cutAt 32 p (half cs.length) cs.length) rfl (by rw [Int.toNat_natCast]) ?_
          refine mx (i := 3) rfl (by decide +kernel) (by decide +kernel) (by decide +kernel) rfl (fun w0 => ev_move rfl) rfl rfl (Sub.refl _) ?_
          refine mx (i := 4) rfl (by decide +kernel) (by decide +kernel) (by decide +kernel) rfl (fun w0 => ev_move rfl) rfl rfl (Sub.refl _) ?_
          refine mx (i := 5) rfl (by decide +kernel) (by decide +kernel) (by decide +kernel) rfl (fun w0 => ev_sub64 rfl rfl (by omega) (by omega)) rfl rfl (Sub.refl _) ?_
          refine mx (i := 7) rfl (by decide +kernel) (by decide +kernel) (by decide +kernel) rfl (fun w0 => ev_move rfl) rfl rfl (Sub.refl _) ?_
          refine mx (i := 8) rfl (by decide +kernel) (by decide +kernel) (by decide +kernel) rfl (fun w0 => ev_move rfl) rfl rfl (Sub.refl _) ?_
          refine mx (i := 9) rfl (by decide +kernel) (by decide +kernel) (by decide +kernel) rfl (fun w0 => ev_sliceh_hi Try.underlying22 ty55 rfl rfl (fun w1 sw => sw.sl_rd (h := 0) rfl) (by assumption) (by omega) (by first | omega | (simp only [List.length_append, List.length_cons, List.length_nil, List.length_set, List.length_replicate, List.length_take, List.length_drop, ints_length, wr_length, node_len] <;> omega))) rfl rfl (Sub.refl _) ?_
          refine at_eq (i := 45) (v' := cutAt 32 p 0 (half cs.length)) rfl (by rw [Int.toNat_natCast]) ?_
          refine mx_one (i := 6) (by decide +kernel) (Sub.refl _) ?_
          refine wo (i := 6) rfl ?_
          refine st_call has74 rfl (fun w1 sw => rn 42 (ih (cutAt 32 p (half cs.length) cs.length) (cs.drop (half cs.length)) (i - (half cs.length : Int)) w1 (by rw [List.length_drop]; omega) (hu.drop _) (by rw [List.length_drop]; omega) (by omega) (droph (sw.sl_rd (h := 0) rfl) hu (by omega)))) nil_all rfl rfl (fun v42 _ => ?_)
          have hu42 := path_h32 _ (cs.drop (half cs.length)) (i - (half cs.length : Int)) (Nat.le_refl _) (hu.drop _)
          have hpm := path_max _ (cs.drop (half cs.length)) (i - (half cs.length : Int)) (Nat.le_refl _)
          have hlt2 : ((cs.drop (half cs.length))).length ≤ 256 := (by rw [List.length_drop]; omega)
          refine op_nil ?_
          refine ax_then ?_
          refine mx_one (i := 10) (by decide +kernel) (Sub.refl _) ?_
          refine wo (i := 10) rfl ?_
          refine st_callv has69 rfl (fun w1 sw => rroot_any (cutAt 32 p 0 (half cs.length)) (cs.take (half cs.length)) w1 (hu.take _) (by rw [List.length_take]; omega) (takeh (sw.sl_rd (h := 0) rfl) hu (by omega))) rfl rfl ?_
          refine op_nil ?_
          refine ax_then ?_
          refine mx_one (i := 11) (by decide +kernel) (Sub.refl _) ?_
          refine wo (i := 11) rfl ?_
          refine st_bsh1 (h := 47) Try.underlying22 ty55 rfl (by first | assumption | omega) rfl rfl (fun b47 hu47 => ?_)
          refine op_nil ?_
          refine ax_then ?_
          refine mx_one (i := 12) (by decide +kernel) (Sub.refl _) ?_
          refine wo (i := 12) rfl ?_
          refine st_appendh (h := 42) Try.underlying22 Try.underlying22 ty55 rfl rfl rfl rfl (fun w1 sw => sw.own_rd (h := 47) rfl) (by assumption) (by assumption) (by first | omega | (simp only [List.length_append, List.length_cons, List.length_nil, List.length_set, List.length_replicate, List.length_take, List.length_drop, ints_length, wr_length, node_len] <;> omega)) (by decide) rfl rfl (fun v48 hu48 => ?_)
          refine op_nil ?_
          refine ax_then ?_
          refine mx (i := 13) rfl (by decide +kernel) (by decide +kernel) (by decide +kernel) rfl (fun w0 => ev_assign rfl) rfl rfl (Sub.refl _) ?_
          refine mx_done (by decide +kernel) (Sub.refl _) ?_
          refine ax_then ?_
          refine At.regs (L' := [(4, _)]) (.cons rfl (.nil _)) ?_
          refine cd_ret ?_
          refine rt_tmp (.inl rfl) Try.results74 rfl ?_
          first | exact fun w1 sw => ⟨_, trivial, rfl, by rw [hyes]; exact (sw.gives (N := [(29, _)]) (.cons rfl (.nil _))).rn 0⟩ | exact fun w1 sw => ⟨_, trivial, rfl, by rw [hyes]; exact (sw.gives (N := [(42, _)]) (.cons rfl (.nil _))).rn 0⟩
theorem rpath_all : ∀ (N : Nat) (p : Value) (cs : List (List Int)) (i : Int) (w : World), cs.length < N → H32 cs → cs.length ≤ 256 → (-9223372036854775808 ≤ i ∧ i ≤ 9223372036854775807) → Rd w p 32 (flat cs) → Calls Try.prog 74 #[p, .int .i64 i] w (Post (ι := Value) w [] (fun _ => True) (fun v => v) (fun v => [(0, .own (v) 55 32 (flat (path cs i)))]))
  | 0, _, _, _, _, hN, _, _, _, _ => absurd hN (Nat.not_lt_zero _)
  | N + 1, p, cs, i, w, hN, hu, hcl, hi, h => rpath_step cs.length (fun p' cs' i' w' h1 => rpath_all N p' cs' i' w' (by omega)) p cs i w rfl hu hcl hi h
theorem rpath_any (p : Value) (cs : List (List Int)) (i : Int) (w : World) (hu : H32 cs) (hcl : cs.length ≤ 256) (hi : -9223372036854775808 ≤ i ∧ i ≤ 9223372036854775807) (h : Rd w p 32 (flat cs)) : Calls Try.prog 74 #[p, .int .i64 i] w (Post (ι := Value) w [] (fun _ => True) (fun v => v) (fun v => [(0, .own (v) 55 32 (flat (path cs i)))])) := rpath_all (cs.length + 1) p cs i w (by omega) hu hcl hi h
set_option maxRecDepth 20000 in
set_option maxHeartbeats 2000000 in
theorem up_any (leaf : List Int) (i : Int) (q : Value) (p : List (List Int)) (w : World) (hl : leaf.length = 32) (h0 : 0 ≤ i) (h1 : i ≤ 9223372036854775807) (hu : H32 p) (hpl : p.length ≤ 140737488352000) (h : Rd w q 32 (flat p)) : Calls Try.prog 118 #[.agg (ints .u8 (leaf)).toArray, .int .i64 i, q] w (PostV w (.agg (ints .u8 (up leaf i p)).toArray)) := by
  refine calls_at (vs := [.agg (ints .u8 (leaf)).toArray, .int .i64 i, q]) (X := []) (H := []) (F := [(2, .sl q 32 (flat (p)))]) 28 Try.func118 rfl rfl rfl (Sat.rd0 2 h) ?_
  refine cd_seq ?_
  refine cd_region ?_
  refine st_box (h := 3) rfl rfl rfl rfl (fun b3 => ?_)
  refine st_alloc (h := 6) ty55 rfl rfl rfl (fun b6 => ?_)
  refine op_nil ?_
  refine ax_then ?_
  refine At.regs (L' := [(1, _), (2, _), (3, _), (6, _)]) (.cons rfl (.cons rfl (.cons rfl (.cons rfl (.nil _))))) ?_
  refine cd_seq ?_
  refine cd_seq ?_
  refine cd_region ?_
  refine st (ev_move rfl) rfl rfl rfl ?_
  refine st (ev_len_rdh (h := 2) Try.underlying22 rfl rfl (by assumption)) rfl rfl rfl ?_
  refine st (ev_move rfl) rfl rfl rfl ?_
  refine op_nil ?_
  refine ax_then ?_
  refine At.regs (L' := [(1, _), (3, _), (6, _), (9, _), (10, _), (11, _)]) (.cons rfl (.cons rfl (.cons rfl (.cons rfl (.cons rfl (.cons rfl (.nil _))))))) ?_
  refine cd_block ?_
  refine at_eq (i := 1) (v' := .int .i64 (i / 2 ^ 0)) rfl (by rw [Int.pow_zero, Int.ediv_one]) ?_
  refine cd_loop (ι := Nat) (fun k => k ≤ p.length) (fun k => p.length - k)
      (fun k => [(1, .int .i64 (i / 2 ^ k)), (3, .pointer (some ⟨b3, 0, none⟩)), (6, .pointer (some ⟨b6, 0, none⟩)), (9, q), (10, .int .i64 (p.length : Nat)), (11, .int .i64 (k : Int))])
      (fun k => [(3, .blk b3 (.cells (ints .u8 (up leaf i (p.take (k)))).toArray 55)), (6, .blk b6 (.cells (ints .u8 (List.replicate 32 0)).toArray 55))])
      (fun k => [(2, .sl q 32 (flat (p)))])
      0 (by omega) (.cons rfl (.cons rfl (.cons rfl (.cons rfl (.cons rfl (.cons rfl (.nil _))))))) (.cons rfl (.cons rfl (.nil _))) (.cons rfl (.nil _)) (fun k hi => ?_)
  have hul := up_len hl i (p.take k)
  have hdr := div_range h0 k
  have hg : k < p.length → (p.getD k []).length = 32 := fun hk => hu.get hk
  have e0 : (k : Int).toNat = k := by omega
  refine cd_seq ?_
  refine cd_region ?_
  refine st (ev_lss rfl rfl) rfl rfl rfl ?_
  refine op_nil ?_
  refine ax_then ?_
  refine At.regs (L' := [(1, _), (3, _), (6, _), (9, _), (10, _), (11, _), (12, _)]) (.cons rfl (.cons rfl (.cons rfl (.cons rfl (.cons rfl (.cons rfl (.cons rfl (.nil _)))))))) ?_
  refine cd_seq ?_
  refine cd_if rfl (fun hc12 => ?_) (fun hc12 => ?_)
  ·
    have hg2 := hg (by omega)
    refine cd_skip ?_
    refine ax_then ?_
    refine At.regs (L' := [(1, _), (3, _), (6, _), (9, _), (10, _), (11, _), (12, _)]) (.cons rfl (.cons rfl (.cons rfl (.cons rfl (.cons rfl (.cons rfl (.cons rfl (.nil _)))))))) ?_
    refine cd_seq ?_
    refine cd_block ?_
    refine cd_seq ?_
    refine cd_region ?_
    refine st (ev_indexAddr_rdh (h := 2) Try.underlying22 ty55 rfl rfl rfl (by assumption) (by omega) (by omega)) rfl rfl rfl ?_
    refine st (ld_rdh (h := 2) ty55 rfl rfl rfl (by assumption) (by omega)) rfl rfl rfl ?_
    refine at_eq (i := 14) (v' := .agg (ints .u8 (p.getD k [])).toArray) rfl (by rw [e0]) ?_
    refine st_alloc (h := 8) ty55 rfl rfl rfl (fun b8 => ?_)
    refine st_store_all 8 ty55 rfl rfl rfl rfl (by first | omega | (simp only [List.length_append, List.length_cons, List.length_nil, List.length_set, List.length_replicate, List.length_take, List.length_drop, ints_length, wr_length, node_len] <;> omega) | rfl) (ints_one _ _) (by first | omega | (simp only [List.length_append, List.length_cons, List.length_nil, List.length_set, List.length_replicate, List.length_take, List.length_drop, ints_length, wr_length, node_len] <;> omega) | rfl) rfl ?_
    refine op_nil ?_
    refine ax_then ?_
    refine At.regs (L' := [(1, _), (3, _), (6, _), (8, _), (9, _), (10, _), (11, _), (12, _), (13, _), (14, _)]) (.cons rfl (.cons rfl (.cons rfl (.cons rfl (.cons rfl (.cons rfl (.cons rfl (.cons rfl (.cons rfl (.cons rfl (.nil _))))))))))) ?_
    refine cd_seq ?_
    refine cd_seq ?_
    refine cd_region ?_
    refine st (ev_move rfl) rfl rfl rfl ?_
    refine st (ev_and rfl rfl) rfl rfl rfl ?_
    refine at_eq (i := 16) (v' := .int .i64 (i / 2 ^ k % 2)) rfl (by rw [iand1 hdr.1 (by omega)]) ?_
    refine st (ev_eql rfl rfl) rfl rfl rfl ?_
    refine op_nil ?_
    refine ax_then ?_
    refine At.regs (L' := [(1, _), (3, _), (6, _), (8, _), (9, _), (10, _), (11, _), (12, _), (13, _), (14, _), (15, _), (16, _), (17, _)]) (.cons rfl (.cons rfl (.cons rfl (.cons rfl (.cons rfl (.cons rfl (.cons rfl (.cons rfl (.cons rfl (.cons rfl (.cons rfl (.cons rfl (.cons rfl (.nil _)))))))))))))) ?_
    refine cd_if rfl (fun hc17 => ?_) (fun hc17 => ?_)
    ·
      refine cd_region ?_
      refine st (ld_blk_all (h := 3) ty55 rfl rfl rfl (by first | omega | (simp only [List.length_append, List.length_cons, List.length_nil, List.length_set, List.length_replicate, List.length_take, List.length_drop, ints_length, wr_length, node_len] <;> omega) | rfl)) rfl rfl rfl ?_
      refine st (ld_blk_all (h := 8) ty55 rfl rfl rfl (by first | omega | (simp only [List.length_append, List.length_cons, List.length_nil, List.length_set, List.length_replicate, List.length_take, List.length_drop, ints_length, wr_length, node_len] <;> omega) | rfl)) rfl rfl rfl ?_
      refine st_callv has109 rfl (fun w1 sw => node_any (up leaf i (p.take (k))) (p.getD k []) w1 hul hg2) rfl rfl ?_
      refine st_store_all 3 ty55 rfl rfl rfl rfl (by first | omega | (simp only [List.length_append, List.length_cons, List.length_nil, List.length_set, List.length_replicate, List.length_take, List.length_drop, ints_length, wr_length, node_len] <;> omega) | rfl) (ints_one _ _) (by first | omega | (simp only [List.length_append, List.length_cons, List.length_nil, List.length_set, List.length_replicate, List.length_take, List.length_drop, ints_length, wr_length, node_len] <;> omega) | rfl) rfl ?_
      refine op_nil ?_
      refine ax_then ?_
      refine At.regs (L' := [(1, _), (3, _), (6, _), (8, _), (9, _), (10, _), (11, _), (12, _), (13, _), (14, _), (15, _), (16, _), (17, _), (18, _), (19, _), (20, _)]) (.cons rfl (.cons rfl (.cons rfl (.cons rfl (.cons rfl (.cons rfl (.cons rfl (.cons rfl (.cons rfl (.cons rfl (.cons rfl (.cons rfl (.cons rfl (.cons rfl (.cons rfl (.cons rfl (.nil _))))))))))))))))) ?_
      refine cd_region ?_
      refine st (ev_move rfl) rfl rfl rfl ?_
      refine st (ev_shr rfl rfl (by omega)) rfl rfl rfl ?_
      refine at_eq (i := 25) (v' := .int .i64 (i / 2 ^ (k + 1))) rfl (by rw [ishr1 hdr.1, div_step]) ?_
      refine st (ev_assign rfl) rfl rfl rfl ?_
      refine op_nil ?_
      refine ax_block ?_
      refine ax_then ?_
      refine At.regs (L' := [(1, _), (3, _), (6, _), (8, _), (9, _), (10, _), (11, _), (12, _), (13, _), (14, _), (15, _), (16, _), (17, _), (18, _), (19, _), (20, _), (24, _), (25, _)]) (.cons rfl (.cons rfl (.cons rfl (.cons rfl (.cons rfl (.cons rfl (.cons rfl (.cons rfl (.cons rfl (.cons rfl (.cons rfl (.cons rfl (.cons rfl (.cons rfl (.cons rfl (.cons rfl (.cons rfl (.cons rfl (.nil _))))))))))))))))))) ?_
      refine cd_region ?_
      refine st (ev_add64 rfl rfl (by omega) (by omega)) rfl rfl rfl ?_
      refine st (ev_move rfl) rfl rfl rfl ?_
      refine op_nil ?_
      refine ax_heq (i := 3) (v' := .blk b3 (.cells (ints .u8 (up leaf i (p.take (k + 1)))).toArray 55)) rfl (by rw [up_take leaf i (by omega)]; first | rw [if_pos hc17] | rw [if_neg hc17]) ?_
      exact at_again (k + 1) (by omega) (by omega) (.cons rfl (.cons rfl (.cons rfl (.cons rfl (.cons rfl (.cons rfl (.nil _))))))) (.cons rfl (.cons rfl (.nil _))) (.cons rfl (.nil _))
    ·
      refine cd_region ?_
      refine st (ld_blk_all (h := 8) ty55 rfl rfl rfl (by first | omega | (simp only [List.length_append, List.length_cons, List.length_nil, List.length_set, List.length_replicate, List.length_take, List.length_drop, ints_length, wr_length, node_len] <;> omega) | rfl)) rfl rfl rfl ?_
      refine st (ld_blk_all (h := 3) ty55 rfl rfl rfl (by first | omega | (simp only [List.length_append, List.length_cons, List.length_nil, List.length_set, List.length_replicate, List.length_take, List.length_drop, ints_length, wr_length, node_len] <;> omega) | rfl)) rfl rfl rfl ?_
      refine st_callv has109 rfl (fun w1 sw => node_any (p.getD k []) (up leaf i (p.take (k))) w1 hg2 hul) rfl rfl ?_
      refine st_store_all 3 ty55 rfl rfl rfl rfl (by first | omega | (simp only [List.length_append, List.length_cons, List.length_nil, List.length_set, List.length_replicate, List.length_take, List.length_drop, ints_length, wr_length, node_len] <;> omega) | rfl) (ints_one _ _) (by first | omega | (simp only [List.length_append, List.length_cons, List.length_nil, List.length_set, List.length_replicate, List.length_take, List.length_drop, ints_length, wr_length, node_len] <;> omega) | rfl) rfl ?_
      refine op_nil ?_
      refine ax_then ?_
      refine At.regs (L' := [(1, _), (3, _), (6, _), (8, _), (9, _), (10, _), (11, _), (12, _), (13, _), (14, _), (15, _), (16, _), (17, _), (21, _), (22, _), (23, _)]) (.cons rfl (.cons rfl (.cons rfl (.cons rfl (.cons rfl (.cons rfl (.cons rfl (.cons rfl (.cons rfl (.cons rfl (.cons rfl (.cons rfl (.cons rfl (.cons rfl (.cons rfl (.cons rfl (.nil _))))))))))))))))) ?_
      refine cd_region ?_
      refine st (ev_move rfl) rfl rfl rfl ?_
      refine st (ev_shr rfl rfl (by omega)) rfl rfl rfl ?_
      refine at_eq (i := 25) (v' := .int .i64 (i / 2 ^ (k + 1))) rfl (by rw [ishr1 hdr.1, div_step]) ?_
      refine st (ev_assign rfl) rfl rfl rfl ?_
      refine op_nil ?_
      refine ax_block ?_
      refine ax_then ?_
      refine At.regs (L' := [(1, _), (3, _), (6, _), (8, _), (9, _), (10, _), (11, _), (12, _), (13, _), (14, _), (15, _), (16, _), (17, _), (21, _), (22, _), (23, _), (24, _), (25, _)]) (.cons rfl (.cons rfl (.cons rfl (.cons rfl (.cons rfl (.cons rfl (.cons rfl (.cons rfl (.cons rfl (.cons rfl (.cons rfl (.cons rfl (.cons rfl (.cons rfl (.cons rfl (.cons rfl (.cons rfl (.cons rfl (.nil _))))))))))))))))))) ?_
      refine cd_region ?_
      refine st (ev_add64 rfl rfl (by omega) (by omega)) rfl rfl rfl ?_
      refine st (ev_move rfl) rfl rfl rfl ?_
      refine op_nil ?_
      refine ax_heq (i := 3) (v' := .blk b3 (.cells (ints .u8 (up leaf i (p.take (k + 1)))).toArray 55)) rfl (by rw [up_take leaf i (by omega)]; first | rw [if_pos hc17] | rw [if_neg hc17]) ?_
      exact at_again (k + 1) (by omega) (by omega) (.cons rfl (.cons rfl (.cons rfl (.cons rfl (.cons rfl (.cons rfl (.nil _))))))) (.cons rfl (.cons rfl (.nil _))) (.cons rfl (.nil _))
  ·
    obtain rfl : k = p.length := by omega
    refine at_heq (i := 3) (v' := .blk b3 (.cells (ints .u8 (up leaf i p)).toArray 55)) rfl (by rw [List.take_length]) ?_
    have hul2 := up_len hl i p
    refine cd_exit ?_
    refine ax_then_exit ?_
    refine ax_then_exit ?_
    refine ax_block_hit ?_
    refine ax_then ?_
    refine At.regs (L' := [(3, _), (6, _)]) (.cons rfl (.cons rfl (.nil _))) ?_
    refine cd_seq ?_
    refine cd_region ?_
    refine st (ld_blk_all (h := 3) ty55 rfl rfl rfl (by first | omega | (simp only [List.length_append, List.length_cons, List.length_nil, List.length_set, List.length_replicate, List.length_take, List.length_drop, ints_length, wr_length, node_len] <;> omega) | rfl)) rfl rfl rfl ?_
    refine st_store_all 6 ty55 rfl rfl rfl rfl (by first | omega | (simp only [List.length_append, List.length_cons, List.length_nil, List.length_set, List.length_replicate, List.length_take, List.length_drop, ints_length, wr_length, node_len] <;> omega) | rfl) (ints_one _ _) (by first | omega | (simp only [List.length_append, List.length_cons, List.length_nil, List.length_set, List.length_replicate, List.length_take, List.length_drop, ints_length, wr_length, node_len] <;> omega) | rfl) rfl ?_
    refine op_nil ?_
    refine ax_then ?_
    refine At.regs (L' := [(6, _)]) (.cons rfl (.nil _)) ?_
    refine cd_ret ?_
    refine rt_cell (h0 := 6) (.inl rfl) Try.results118 ty55 rfl rfl rfl (by first | omega | (simp only [List.length_append, List.length_cons, List.length_nil, List.length_set, List.length_replicate, List.length_take, List.length_drop, ints_length, wr_length, node_len] <;> omega) | rfl) ?_
    exact fun w1 sw => ⟨rfl, sw.gives (.nil _)⟩
set_option maxRecDepth 20000 in
set_option maxHeartbeats 2000000 in
theorem rup_any (leaf : List Int) (i : Int) (q : Value) (p : List (List Int)) (w : World) (hl : leaf.length = 32) (h0 : 0 ≤ i) (h1 : i ≤ 9223372036854775807) (hu : H32 p) (hpl : p.length ≤ 140737488352000) (h : Rd w q 32 (flat p)) : Calls Try.prog 122 #[.agg (ints .u8 (leaf)).toArray, .int .i64 i, q] w (PostV w (.agg (ints .u8 (up leaf i p)).toArray)) := by
  refine calls_at (vs := [.agg (ints .u8 (leaf)).toArray, .int .i64 i, q]) (X := []) (H := []) (F := [(2, .sl q 32 (flat (p)))]) 32 Try.func122 rfl rfl rfl (Sat.rd0 2 h) ?_
  refine cd_seq ?_
  refine cd_region ?_
  refine st_box (h := 3) rfl rfl rfl rfl (fun b3 => ?_)
  refine st_alloc (h := 6) ty55 rfl rfl rfl (fun b6 => ?_)
  refine op_nil ?_
  refine ax_then ?_
  refine At.regs (L' := [(1, _), (2, _), (3, _), (6, _)]) (.cons rfl (.cons rfl (.cons rfl (.cons rfl (.nil _))))) ?_
  refine cd_seq ?_
  refine cd_seq ?_
  refine cd_region ?_
  refine st (ev_assign rfl) rfl rfl rfl ?_
  refine op_nil ?_
  refine ax_then ?_
  refine At.regs (L' := [(1, _), (2, _), (3, _), (6, _), (7, _)]) (.cons rfl (.cons rfl (.cons rfl (.cons rfl (.cons rfl (.nil _)))))) ?_
  refine cd_block ?_
  refine at_eq (i := 1) (v' := .int .i64 (i / 2 ^ 0)) rfl (by rw [Int.pow_zero, Int.ediv_one]) ?_
  refine cd_loop (ι := Nat) (fun k => k ≤ p.length) (fun k => p.length - k)
      (fun k => [(1, .int .i64 (i / 2 ^ k)), (2, q), (3, .pointer (some ⟨b3, 0, none⟩)), (6, .pointer (some ⟨b6, 0, none⟩)), (7, .int .i64 (k : Int))])
      (fun k => [(3, .blk b3 (.cells (ints .u8 (up leaf i (p.take (k)))).toArray 55)), (6, .blk b6 (.cells (ints .u8 (List.replicate 32 0)).toArray 55))])
      (fun k => [(2, .sl q 32 (flat (p)))])
      0 (by omega) (.cons rfl (.cons rfl (.cons rfl (.cons rfl (.cons rfl (.nil _)))))) (.cons rfl (.cons rfl (.nil _))) (.cons rfl (.nil _)) (fun k hi => ?_)
  have hul := up_len hl i (p.take k)
  have hdr := div_range h0 k
  have hg : k < p.length → (p.getD k []).length = 32 := fun hk => hu.get hk
  have e0 : (k : Int).toNat = k := by omega
  refine cd_seq ?_
  refine cd_seq ?_
  refine cd_region ?_
  refine st (ev_move rfl) rfl rfl rfl ?_
  refine st (ev_move rfl) rfl rfl rfl ?_
  refine st (ev_len_rdh (h := 2) Try.underlying22 rfl rfl (by assumption)) rfl rfl rfl ?_
  refine st (ev_lss rfl rfl) rfl rfl rfl ?_
  refine op_nil ?_
  refine ax_then ?_
  refine At.regs (L' := [(1, _), (2, _), (3, _), (6, _), (7, _), (8, _), (9, _), (10, _), (11, _)]) (.cons rfl (.cons rfl (.cons rfl (.cons rfl (.cons rfl (.cons rfl (.cons rfl (.cons rfl (.cons rfl (.nil _)))))))))) ?_
  refine cd_if rfl (fun hc11 => ?_) (fun hc11 => ?_)
  ·
    have hg2 := hg (by omega)
    refine cd_skip ?_
    refine ax_then ?_
    refine At.regs (L' := [(1, _), (2, _), (3, _), (6, _), (7, _), (8, _), (9, _), (10, _), (11, _)]) (.cons rfl (.cons rfl (.cons rfl (.cons rfl (.cons rfl (.cons rfl (.cons rfl (.cons rfl (.cons rfl (.nil _)))))))))) ?_
    refine cd_seq ?_
    refine cd_block ?_
    refine cd_seq ?_
    refine cd_seq ?_
    refine cd_region ?_
    refine st (ev_move rfl) rfl rfl rfl ?_
    refine st (ev_and rfl rfl) rfl rfl rfl ?_
    refine at_eq (i := 15) (v' := .int .i64 (i / 2 ^ k % 2)) rfl (by rw [iand1 hdr.1 (by omega)]) ?_
    refine st (ev_eql rfl rfl) rfl rfl rfl ?_
    refine op_nil ?_
    refine ax_then ?_
    refine At.regs (L' := [(1, _), (2, _), (3, _), (6, _), (7, _), (8, _), (9, _), (10, _), (11, _), (14, _), (15, _), (16, _)]) (.cons rfl (.cons rfl (.cons rfl (.cons rfl (.cons rfl (.cons rfl (.cons rfl (.cons rfl (.cons rfl (.cons rfl (.cons rfl (.cons rfl (.nil _))))))))))))) ?_
    refine cd_if rfl (fun hc16 => ?_) (fun hc16 => ?_)
    ·
      refine cd_open_tail 6 hmix (by decide +kernel) ?_
      refine qt (ld_blk_all (h := 3) ty55 rfl rfl rfl (by first | omega | (simp only [List.length_append, List.length_cons, List.length_nil, List.length_set, List.length_replicate, List.length_take, List.length_drop, ints_length, wr_length, node_len] <;> omega) | rfl)) rfl rfl rfl ?_
      refine qt (ev_move rfl) rfl rfl rfl ?_
      refine qt (ev_move rfl) rfl rfl rfl ?_
      refine qt (ev_indexAddr_rdh (h := 2) Try.underlying22 ty55 rfl rfl rfl (by assumption) (by omega) (by omega)) rfl rfl rfl ?_
      refine qt (ld_rdh (h := 2) ty55 rfl rfl rfl (by assumption) (by omega)) rfl rfl rfl ?_
      refine qt_eq (i := 21) (v' := .agg (ints .u8 (p.getD k [])).toArray) rfl (by rw [e0]) ?_
      refine qt_callv has100 rfl (fun w1 sw => rnode_any (up leaf i (p.take (k))) (p.getD k []) w1 hul hg2) rfl rfl ?_
      refine qt_end ?_
      refine st_store_all 3 ty55 rfl rfl rfl rfl (by first | omega | (simp only [List.length_append, List.length_cons, List.length_nil, List.length_set, List.length_replicate, List.length_take, List.length_drop, ints_length, wr_length, node_len] <;> omega) | rfl) (ints_one _ _) (by first | omega | (simp only [List.length_append, List.length_cons, List.length_nil, List.length_set, List.length_replicate, List.length_take, List.length_drop, ints_length, wr_length, node_len] <;> omega) | rfl) rfl ?_
      refine op_nil ?_
      refine ax_then ?_
      refine At.regs (L' := [(1, _), (2, _), (3, _), (6, _), (7, _), (8, _), (9, _), (10, _), (11, _), (14, _), (15, _), (16, _), (17, _), (18, _), (19, _), (20, _), (21, _), (22, _)]) (.cons rfl (.cons rfl (.cons rfl (.cons rfl (.cons rfl (.cons rfl (.cons rfl (.cons rfl (.cons rfl (.cons rfl (.cons rfl (.cons rfl (.cons rfl (.cons rfl (.cons rfl (.cons rfl (.cons rfl (.cons rfl (.nil _))))))))))))))))))) ?_
      refine cd_region ?_
      refine st (ev_move rfl) rfl rfl rfl ?_
      refine st (ev_shr rfl rfl (by omega)) rfl rfl rfl ?_
      refine at_eq (i := 30) (v' := .int .i64 (i / 2 ^ (k + 1))) rfl (by rw [ishr1 hdr.1, div_step]) ?_
      refine st (ev_assign rfl) rfl rfl rfl ?_
      refine op_nil ?_
      refine ax_block ?_
      refine ax_then ?_
      refine At.regs (L' := [(1, _), (2, _), (3, _), (6, _), (7, _), (8, _), (9, _), (10, _), (11, _), (14, _), (15, _), (16, _), (17, _), (18, _), (19, _), (20, _), (21, _), (22, _), (29, _), (30, _)]) (.cons rfl (.cons rfl (.cons rfl (.cons rfl (.cons rfl (.cons rfl (.cons rfl (.cons rfl (.cons rfl (.cons rfl (.cons rfl (.cons rfl (.cons rfl (.cons rfl (.cons rfl (.cons rfl (.cons rfl (.cons rfl (.cons rfl (.cons rfl (.nil _))))))))))))))))))))) ?_
      refine cd_region ?_
      refine st (ev_move rfl) rfl rfl rfl ?_
      refine st (ev_add64 rfl rfl (by omega) (by omega)) rfl rfl rfl ?_
      refine st (ev_assign rfl) rfl rfl rfl ?_
      refine op_nil ?_
      refine ax_heq (i := 3) (v' := .blk b3 (.cells (ints .u8 (up leaf i (p.take (k + 1)))).toArray 55)) rfl (by rw [up_take leaf i (by omega)]; first | rw [if_pos hc16] | rw [if_neg hc16]) ?_
      exact at_again (k + 1) (by omega) (by omega) (.cons rfl (.cons rfl (.cons rfl (.cons rfl (.cons rfl (.nil _)))))) (.cons rfl (.cons rfl (.nil _))) (.cons rfl (.nil _))
    ·
      refine cd_open_tail 6 hmix (by decide +kernel) ?_
      refine qt (ev_move rfl) rfl rfl rfl ?_
      refine qt (ev_move rfl) rfl rfl rfl ?_
      refine qt (ev_indexAddr_rdh (h := 2) Try.underlying22 ty55 rfl rfl rfl (by assumption) (by omega) (by omega)) rfl rfl rfl ?_
      refine qt (ld_rdh (h := 2) ty55 rfl rfl rfl (by assumption) (by omega)) rfl rfl rfl ?_
      refine qt_eq (i := 26) (v' := .agg (ints .u8 (p.getD k [])).toArray) rfl (by rw [e0]) ?_
      refine qt (ld_blk_all (h := 3) ty55 rfl rfl rfl (by first | omega | (simp only [List.length_append, List.length_cons, List.length_nil, List.length_set, List.length_replicate, List.length_take, List.length_drop, ints_length, wr_length, node_len] <;> omega) | rfl)) rfl rfl rfl ?_
      refine qt_callv has100 rfl (fun w1 sw => rnode_any (p.getD k []) (up leaf i (p.take (k))) w1 hg2 hul) rfl rfl ?_
      refine qt_end ?_
      refine st_store_all 3 ty55 rfl rfl rfl rfl (by first | omega | (simp only [List.length_append, List.length_cons, List.length_nil, List.length_set, List.length_replicate, List.length_take, List.length_drop, ints_length, wr_length, node_len] <;> omega) | rfl) (ints_one _ _) (by first | omega | (simp only [List.length_append, List.length_cons, List.length_nil, List.length_set, List.length_replicate, List.length_take, List.length_drop, ints_length, wr_length, node_len] <;> omega) | rfl) rfl ?_
      refine op_nil ?_
      refine ax_then ?_
      refine At.regs (L' := [(1, _), (2, _), (3, _), (6, _), (7, _), (8, _), (9, _), (10, _), (11, _), (14, _), (15, _), (16, _), (23, _), (24, _), (25, _), (26, _), (27, _), (28, _)]) (.cons rfl (.cons rfl (.cons rfl (.cons rfl (.cons rfl (.cons rfl (.cons rfl (.cons rfl (.cons rfl (.cons rfl (.cons rfl (.cons rfl (.cons rfl (.cons rfl (.cons rfl (.cons rfl (.cons rfl (.cons rfl (.nil _))))))))))))))))))) ?_
      refine cd_region ?_
      refine st (ev_move rfl) rfl rfl rfl ?_
      refine st (ev_shr rfl rfl (by omega)) rfl rfl rfl ?_
      refine at_eq (i := 30) (v' := .int .i64 (i / 2 ^ (k + 1))) rfl (by rw [ishr1 hdr.1, div_step]) ?_
      refine st (ev_assign rfl) rfl rfl rfl ?_
      refine op_nil ?_
      refine ax_block ?_
      refine ax_then ?_
      refine At.regs (L' := [(1, _), (2, _), (3, _), (6, _), (7, _), (8, _), (9, _), (10, _), (11, _), (14, _), (15, _), (16, _), (23, _), (24, _), (25, _), (26, _), (27, _), (28, _), (29, _), (30, _)]) (.cons rfl (.cons rfl (.cons rfl (.cons rfl (.cons rfl (.cons rfl (.cons rfl (.cons rfl (.cons rfl (.cons rfl (.cons rfl (.cons rfl (.cons rfl (.cons rfl (.cons rfl (.cons rfl (.cons rfl (.cons rfl (.cons rfl (.cons rfl (.nil _))))))))))))))))))))) ?_
      refine cd_region ?_
      refine st (ev_move rfl) rfl rfl rfl ?_
      refine st (ev_add64 rfl rfl (by omega) (by omega)) rfl rfl rfl ?_
      refine st (ev_assign rfl) rfl rfl rfl ?_
      refine op_nil ?_
      refine ax_heq (i := 3) (v' := .blk b3 (.cells (ints .u8 (up leaf i (p.take (k + 1)))).toArray 55)) rfl (by rw [up_take leaf i (by omega)]; first | rw [if_pos hc16] | rw [if_neg hc16]) ?_
      exact at_again (k + 1) (by omega) (by omega) (.cons rfl (.cons rfl (.cons rfl (.cons rfl (.cons rfl (.nil _)))))) (.cons rfl (.cons rfl (.nil _))) (.cons rfl (.nil _))
  ·
    obtain rfl : k = p.length := by omega
    refine at_heq (i := 3) (v' := .blk b3 (.cells (ints .u8 (up leaf i p)).toArray 55)) rfl (by rw [List.take_length]) ?_
    have hul2 := up_len hl i p
    refine cd_exit ?_
    refine ax_then_exit ?_
    refine ax_then_exit ?_
    refine ax_block_hit ?_
    refine ax_then ?_
    refine At.regs (L' := [(3, _), (6, _)]) (.cons rfl (.cons rfl (.nil _))) ?_
    refine cd_seq ?_
    refine cd_region ?_
    refine st (ld_blk_all (h := 3) ty55 rfl rfl rfl (by first | omega | (simp only [List.length_append, List.length_cons, List.length_nil, List.length_set, List.length_replicate, List.length_take, List.length_drop, ints_length, wr_length, node_len] <;> omega) | rfl)) rfl rfl rfl ?_
    refine st_store_all 6 ty55 rfl rfl rfl rfl (by first | omega | (simp only [List.length_append, List.length_cons, List.length_nil, List.length_set, List.length_replicate, List.length_take, List.length_drop, ints_length, wr_length, node_len] <;> omega) | rfl) (ints_one _ _) (by first | omega | (simp only [List.length_append, List.length_cons, List.length_nil, List.length_set, List.length_replicate, List.length_take, List.length_drop, ints_length, wr_length, node_len] <;> omega) | rfl) rfl ?_
    refine op_nil ?_
    refine ax_then ?_
    refine At.regs (L' := [(6, _)]) (.cons rfl (.nil _)) ?_
    refine cd_ret ?_
    refine rt_cell (h0 := 6) (.inl rfl) Try.results122 ty55 rfl rfl rfl (by first | omega | (simp only [List.length_append, List.length_cons, List.length_nil, List.length_set, List.length_replicate, List.length_take, List.length_drop, ints_length, wr_length, node_len] <;> omega) | rfl) ?_
    exact fun w1 sw => ⟨rfl, sw.gives (.nil _)⟩
end Go.Proofs.Ytgfnmolbagilmaa

namespace Go.Proofs.Ytgfnmolbagilmaa
open Go Go.RowKit Fw
open Sha
open Ots
open Mk
set_option linter.unusedVariables false
set_option linter.unusedSimpArgs false
set_option maxRecDepth 20000 in
set_option maxHeartbeats 1000000 in
theorem named_any (r : List Int) (w : World) (hr : r.length = 32) : Calls Try.prog 76 #[.agg (ints .u8 (r)).toArray] w (PostV w (.agg (ints .u8 (Ky.named r)).toArray)) := by
  refine calls_at (vs := [.agg (ints .u8 (r)).toArray]) (X := []) (H := []) (F := []) 7 Try.func76 rfl rfl rfl (Sat.start0 w) ?_
  refine cd_seq ?_
  refine cd_region ?_
  refine st_box (h := 1) rfl rfl rfl rfl (fun b1 => ?_)
  refine st_alloc (h := 2) ty55 rfl rfl rfl (fun b2 => ?_)
  refine op_nil ?_
  refine ax_then ?_
  refine At.regs (L' := [(1, _), (2, _)]) (.cons rfl (.cons rfl (.nil _))) ?_
  refine cd_seq ?_
  refine cd_region ?_
  refine st_bsi (h := 3) (xs := [_]) Try.underlying28 ty5 (by decide) rfl rfl (by decide) rfl rfl (fun b3 => ?_)
  refine st (ev_slice_arr_all Try.underlying55 ty5 rfl) rfl rfl rfl ?_
  refine st_appendi (h := 3) Try.underlying28 Try.underlying28 ty5 rfl rfl rfl rfl (fun w1 sw => rd_blk_all sw (h := 1) rfl (by first | omega | (simp only [List.length_append, List.length_cons, List.length_nil, List.length_set, List.length_replicate, List.length_take, List.length_drop, ints_length, wr_length, sha_len, node_len, recov_len, Ky.named_len, Ky.keyPub_len] <;> omega) | rfl)) (by first | omega | (simp only [List.length_append, List.length_cons, List.length_nil, List.length_set, List.length_replicate, List.length_take, List.length_drop, ints_length, wr_length, sha_len, node_len, recov_len, Ky.named_len, Ky.keyPub_len] <;> omega)) (by decide) rfl rfl (fun v5 => ?_)
  refine st_callv has107 rfl (fun w1 sw => sum_any v5 ([4] ++ r) w1 (by simp only [List.length_append, List.length_cons, List.length_nil]; omega) (sw.own_rd (h := 3) rfl)) rfl rfl ?_
  refine at_eq (i := 6) (v' := .agg (ints .u8 (Ky.named r)).toArray) rfl rfl ?_
  refine st_store_all 2 ty55 rfl rfl rfl rfl (by first | omega | (simp only [List.length_append, List.length_cons, List.length_nil, List.length_set, List.length_replicate, List.length_take, List.length_drop, ints_length, wr_length, sha_len, node_len, recov_len, Ky.named_len, Ky.keyPub_len] <;> omega) | rfl) (ints_one _ _) (by first | omega | (simp only [List.length_append, List.length_cons, List.length_nil, List.length_set, List.length_replicate, List.length_take, List.length_drop, ints_length, wr_length, sha_len, node_len, recov_len, Ky.named_len, Ky.keyPub_len] <;> omega) | rfl) rfl ?_
  refine op_nil ?_
  refine ax_then ?_
  refine At.regs (L' := [(2, _)]) (.cons rfl (.nil _)) ?_
  refine cd_ret ?_
  refine rt_cell (h0 := 2) (.inl rfl) Try.results76 ty55 rfl rfl rfl (by first | omega | (simp only [List.length_append, List.length_cons, List.length_nil, List.length_set, List.length_replicate, List.length_take, List.length_drop, ints_length, wr_length, sha_len, node_len, recov_len, Ky.named_len, Ky.keyPub_len] <;> omega) | rfl) ?_
  exact fun w1 sw => ⟨rfl, sw.gives (.nil _)⟩
set_option maxRecDepth 20000 in
set_option maxHeartbeats 1000000 in
theorem rnamed_any (r : List Int) (w : World) (hr : r.length = 32) : Calls Try.prog 68 #[.agg (ints .u8 (r)).toArray] w (PostV w (.agg (ints .u8 (Ky.named r)).toArray)) := by
  refine calls_at (vs := [.agg (ints .u8 (r)).toArray]) (X := []) (H := []) (F := []) 7 Try.func68 rfl rfl rfl (Sat.start0 w) ?_
  refine cd_seq ?_
  refine cd_region ?_
  refine st_box (h := 1) rfl rfl rfl rfl (fun b1 => ?_)
  refine st_alloc (h := 2) ty55 rfl rfl rfl (fun b2 => ?_)
  refine op_nil ?_
  refine ax_then ?_
  refine At.regs (L' := [(1, _), (2, _)]) (.cons rfl (.cons rfl (.nil _))) ?_
  refine cd_seq ?_
  refine cd_region ?_
  refine st_bsi (h := 3) (xs := [_]) Try.underlying28 ty5 (by decide) rfl rfl (by decide) rfl rfl (fun b3 => ?_)
  refine st (ev_slice_arr_all Try.underlying55 ty5 rfl) rfl rfl rfl ?_
  refine st_appendi (h := 3) Try.underlying28 Try.underlying28 ty5 rfl rfl rfl rfl (fun w1 sw => rd_blk_all sw (h := 1) rfl (by first | omega | (simp only [List.length_append, List.length_cons, List.length_nil, List.length_set, List.length_replicate, List.length_take, List.length_drop, ints_length, wr_length, sha_len, node_len, recov_len, Ky.named_len, Ky.keyPub_len] <;> omega) | rfl)) (by first | omega | (simp only [List.length_append, List.length_cons, List.length_nil, List.length_set, List.length_replicate, List.length_take, List.length_drop, ints_length, wr_length, sha_len, node_len, recov_len, Ky.named_len, Ky.keyPub_len] <;> omega)) (by decide) rfl rfl (fun v5 => ?_)
  refine st_callv has98 rfl (fun w1 sw => rsum_any v5 ([4] ++ r) w1 (by simp only [List.length_append, List.length_cons, List.length_nil]; omega) (sw.own_rd (h := 3) rfl)) rfl rfl ?_
  refine at_eq (i := 6) (v' := .agg (ints .u8 (Ky.named r)).toArray) rfl rfl ?_
  refine st_store_all 2 ty55 rfl rfl rfl rfl (by first | omega | (simp only [List.length_append, List.length_cons, List.length_nil, List.length_set, List.length_replicate, List.length_take, List.length_drop, ints_length, wr_length, sha_len, node_len, recov_len, Ky.named_len, Ky.keyPub_len] <;> omega) | rfl) (ints_one _ _) (by first | omega | (simp only [List.length_append, List.length_cons, List.length_nil, List.length_set, List.length_replicate, List.length_take, List.length_drop, ints_length, wr_length, sha_len, node_len, recov_len, Ky.named_len, Ky.keyPub_len] <;> omega) | rfl) rfl ?_
  refine op_nil ?_
  refine ax_then ?_
  refine At.regs (L' := [(2, _)]) (.cons rfl (.nil _)) ?_
  refine cd_ret ?_
  refine rt_cell (h0 := 2) (.inl rfl) Try.results68 ty55 rfl rfl rfl (by first | omega | (simp only [List.length_append, List.length_cons, List.length_nil, List.length_set, List.length_replicate, List.length_take, List.length_drop, ints_length, wr_length, sha_len, node_len, recov_len, Ky.named_len, Ky.keyPub_len] <;> omega) | rfl) ?_
  exact fun w1 sw => ⟨rfl, sw.gives (.nil _)⟩
set_option maxRecDepth 20000 in
set_option maxHeartbeats 1000000 in
theorem isSig_any (l : Int) (vc vp : Value) (cs ps : List (List Int)) (w : World) (hu : H32 cs) (hu' : H32 ps) (h : Rd w vc 32 (flat cs)) (h' : Rd w vp 32 (flat ps)) : Calls Try.prog 117 #[.agg (List.toArray [.int .i64 l, vc, vp])] w (PostV w (.bool (decide (Ky.isSig l cs ps)))) := by
  refine calls_at (vs := [.agg (List.toArray [.int .i64 l, vc, vp])]) (X := []) (H := []) (F := [(21, .sl vp 32 (flat (ps))), (20, .sl vc 32 (flat (cs)))]) 23 Try.func117 rfl rfl rfl ((Sat.rd0 20 h).more 21 h') ?_
  refine cd_seq ?_
  refine cd_region ?_
  refine st_box (h := 1) rfl rfl rfl rfl (fun b1 => ?_)
  refine st (ev_assign rfl) rfl rfl rfl ?_
  refine op_nil ?_
  refine ax_then ?_
  refine At.regs (L' := [(1, _), (2, _)]) (.cons rfl (.cons rfl (.nil _))) ?_
  refine cd_seq ?_
  refine cd_region ?_
  refine st (ev_fieldAddr (b := _) Try.underlying80 (f := _) rfl ty3 (by decide) rfl) rfl rfl rfl ?_
  refine st (ld_blk1 (h := 1) ty3 rfl rfl rfl rfl) rfl rfl rfl ?_
  refine st (ev_geq rfl rfl) rfl rfl rfl ?_
  refine st (ev_move rfl) rfl rfl rfl ?_
  refine at_split_if (i := 6) rfl (fun hg6 => ?_) (fun hg6 => ?_)
  ·
    refine st (ev_fieldAddr (b := _) Try.underlying80 (f := _) rfl ty3 (by decide) rfl) rfl rfl rfl ?_
    refine st (ld_blk1 (h := 1) ty3 rfl rfl rfl rfl) rfl rfl rfl ?_
    refine st (ev_lss rfl rfl) rfl rfl rfl ?_
    refine st (ev_pick_t rfl rfl) rfl rfl rfl ?_
    refine st (ev_move rfl) rfl rfl rfl ?_
    refine at_split_if (i := 11) rfl (fun hg11 => ?_) (fun hg11 => ?_)
    ·
      refine st (ev_fieldAddr (b := _) Try.underlying80 (f := _) rfl ty22 (by decide) rfl) rfl rfl rfl ?_
      refine st (ld_blk1 (h := 1) ty22 rfl rfl rfl rfl) rfl rfl rfl ?_
      refine st (ev_len_rdh (h := 20) Try.underlying22 rfl rfl (by assumption)) rfl rfl rfl ?_
      refine st (ev_eql rfl rfl) rfl rfl rfl ?_
      refine st (ev_pick_t rfl rfl) rfl rfl rfl ?_
      refine st (ev_move rfl) rfl rfl rfl ?_
      refine at_split_if (i := 17) rfl (fun hg17 => ?_) (fun hg17 => ?_)
      ·
        refine st (ev_fieldAddr (b := _) Try.underlying80 (f := _) rfl ty22 (by decide) rfl) rfl rfl rfl ?_
        refine st (ld_blk1 (h := 1) ty22 rfl rfl rfl rfl) rfl rfl rfl ?_
        refine st (ev_len_rdh (h := 21) Try.underlying22 rfl rfl (by assumption)) rfl rfl rfl ?_
        refine st (ev_eql rfl rfl) rfl rfl rfl ?_
        refine st (ev_pick_t rfl rfl) rfl rfl rfl ?_
        refine st (ev_assign rfl) rfl rfl rfl ?_
        refine op_nil ?_
        refine ax_then ?_
        refine At.regs (L' := [(2, _)]) (.cons rfl (.nil _)) ?_
        refine cd_ret ?_
        refine rt_tmp (.inl rfl) Try.results117 rfl ?_
        exact fun w1 sw => ⟨congrArg (fun b => Ending.returned (Value.bool b)) (by first | exact (decide_eq_false (fun hh => by obtain ⟨a1, a2, a3, a4⟩ := hh; omega)).symm | exact decide_eq_decide.2 ⟨fun h => ⟨by omega, by omega, by omega, by omega⟩, fun h => by obtain ⟨a1, a2, a3, a4⟩ := h; omega⟩), sw.gives (.nil _)⟩
      ·
        refine st_skip rfl rfl rfl ?_
        refine st_skip rfl rfl rfl ?_
        refine st_skip rfl rfl rfl ?_
        refine st_skip rfl rfl rfl ?_
        refine st (ev_pick_f rfl rfl) rfl rfl rfl ?_
        refine st (ev_assign rfl) rfl rfl rfl ?_
        refine op_nil ?_
        refine ax_then ?_
        refine At.regs (L' := [(2, _)]) (.cons rfl (.nil _)) ?_
        refine cd_ret ?_
        refine rt_tmp (.inl rfl) Try.results117 rfl ?_
        exact fun w1 sw => ⟨congrArg (fun b => Ending.returned (Value.bool b)) (by first | exact (decide_eq_false (fun hh => by obtain ⟨a1, a2, a3, a4⟩ := hh; omega)).symm | exact decide_eq_decide.2 ⟨fun h => ⟨by omega, by omega, by omega, by omega⟩, fun h => by obtain ⟨a1, a2, a3, a4⟩ := h; omega⟩), sw.gives (.nil _)⟩
    ·
      refine st_skip rfl rfl rfl ?_
      refine st_skip rfl rfl rfl ?_
      refine st_skip rfl rfl rfl ?_
      refine st_skip rfl rfl rfl ?_
      refine st (ev_pick_f rfl rfl) rfl rfl rfl ?_
      refine st (ev_move rfl) rfl rfl rfl ?_
      refine st_skip rfl rfl rfl ?_
      refine st_skip rfl rfl rfl ?_
      refine st_skip rfl rfl rfl ?_
      refine st_skip rfl rfl rfl ?_
      refine st (ev_pick_f rfl rfl) rfl rfl rfl ?_
      refine st (ev_assign rfl) rfl rfl rfl ?_
      refine op_nil ?_
      refine ax_then ?_
      refine At.regs (L' := [(2, _)]) (.cons rfl (.nil _)) ?_
      refine cd_ret ?_
      refine rt_tmp (.inl rfl) Try.results117 rfl ?_
      exact fun w1 sw => ⟨congrArg (fun b => Ending.returned (Value.bool b)) (by first | exact (decide_eq_false (fun hh => by obtain ⟨a1, a2, a3, a4⟩ := hh; omega)).symm | exact decide_eq_decide.2 ⟨fun h => ⟨by omega, by omega, by omega, by omega⟩, fun h => by obtain ⟨a1, a2, a3, a4⟩ := h; omega⟩), sw.gives (.nil _)⟩
  ·
    refine st_skip rfl rfl rfl ?_
    refine st_skip rfl rfl rfl ?_
    refine st_skip rfl rfl rfl ?_
    refine st (ev_pick_f rfl rfl) rfl rfl rfl ?_
    refine st (ev_move rfl) rfl rfl rfl ?_
    refine st_skip rfl rfl rfl ?_
    refine st_skip rfl rfl rfl ?_
    refine st_skip rfl rfl rfl ?_
    refine st_skip rfl rfl rfl ?_
    refine st (ev_pick_f rfl rfl) rfl rfl rfl ?_
    refine st (ev_move rfl) rfl rfl rfl ?_
    refine st_skip rfl rfl rfl ?_
    refine st_skip rfl rfl rfl ?_
    refine st_skip rfl rfl rfl ?_
    refine st_skip rfl rfl rfl ?_
    refine st (ev_pick_f rfl rfl) rfl rfl rfl ?_
    refine st (ev_assign rfl) rfl rfl rfl ?_
    refine op_nil ?_
    refine ax_then ?_
    refine At.regs (L' := [(2, _)]) (.cons rfl (.nil _)) ?_
    refine cd_ret ?_
    refine rt_tmp (.inl rfl) Try.results117 rfl ?_
    exact fun w1 sw => ⟨congrArg (fun b => Ending.returned (Value.bool b)) (by first | exact (decide_eq_false (fun hh => by obtain ⟨a1, a2, a3, a4⟩ := hh; omega)).symm | exact decide_eq_decide.2 ⟨fun h => ⟨by omega, by omega, by omega, by omega⟩, fun h => by obtain ⟨a1, a2, a3, a4⟩ := h; omega⟩), sw.gives (.nil _)⟩
set_option maxRecDepth 20000 in
set_option maxHeartbeats 1000000 in
theorem risSig_any (l : Int) (vc vp : Value) (cs ps : List (List Int)) (w : World) (hu : H32 cs) (hu' : H32 ps) (h : Rd w vc 32 (flat cs)) (h' : Rd w vp 32 (flat ps)) : Calls Try.prog 120 #[.agg (List.toArray [.int .i64 l, vc, vp])] w (PostV w (.bool (decide (Ky.isSig l cs ps)))) := by
  refine calls_at (vs := [.agg (List.toArray [.int .i64 l, vc, vp])]) (X := []) (H := []) (F := [(21, .sl vp 32 (flat (ps))), (20, .sl vc 32 (flat (cs)))]) 23 Try.func120 rfl rfl rfl ((Sat.rd0 20 h).more 21 h') ?_
  refine cd_seq ?_
  refine cd_region ?_
  refine st_box (h := 1) rfl rfl rfl rfl (fun b1 => ?_)
  refine st (ev_assign rfl) rfl rfl rfl ?_
  refine op_nil ?_
  refine ax_then ?_
  refine At.regs (L' := [(1, _), (2, _)]) (.cons rfl (.cons rfl (.nil _))) ?_
  refine cd_seq ?_
  refine cd_region ?_
  refine st (ev_fieldAddr (b := _) Try.underlying80 (f := _) rfl ty3 (by decide) rfl) rfl rfl rfl ?_
  refine st (ld_blk1 (h := 1) ty3 rfl rfl rfl rfl) rfl rfl rfl ?_
  refine st (ev_geq rfl rfl) rfl rfl rfl ?_
  refine st (ev_move rfl) rfl rfl rfl ?_
  refine at_split_if (i := 6) rfl (fun hg6 => ?_) (fun hg6 => ?_)
  ·
    refine st (ev_fieldAddr (b := _) Try.underlying80 (f := _) rfl ty3 (by decide) rfl) rfl rfl rfl ?_
    refine st (ld_blk1 (h := 1) ty3 rfl rfl rfl rfl) rfl rfl rfl ?_
    refine st (ev_lss rfl rfl) rfl rfl rfl ?_
    refine st (ev_pick_t rfl rfl) rfl rfl rfl ?_
    refine st (ev_move rfl) rfl rfl rfl ?_
    refine at_split_if (i := 11) rfl (fun hg11 => ?_) (fun hg11 => ?_)
    ·
      refine st (ev_fieldAddr (b := _) Try.underlying80 (f := _) rfl ty22 (by decide) rfl) rfl rfl rfl ?_
      refine st (ld_blk1 (h := 1) ty22 rfl rfl rfl rfl) rfl rfl rfl ?_
      refine st (ev_len_rdh (h := 20) Try.underlying22 rfl rfl (by assumption)) rfl rfl rfl ?_
      refine st (ev_eql rfl rfl) rfl rfl rfl ?_
      refine st (ev_pick_t rfl rfl) rfl rfl rfl ?_
      refine st (ev_move rfl) rfl rfl rfl ?_
      refine at_split_if (i := 17) rfl (fun hg17 => ?_) (fun hg17 => ?_)
      ·
        refine st (ev_fieldAddr (b := _) Try.underlying80 (f := _) rfl ty22 (by decide) rfl) rfl rfl rfl ?_
        refine st (ld_blk1 (h := 1) ty22 rfl rfl rfl rfl) rfl rfl rfl ?_
        refine st (ev_len_rdh (h := 21) Try.underlying22 rfl rfl (by assumption)) rfl rfl rfl ?_
        refine st (ev_eql rfl rfl) rfl rfl rfl ?_
        refine st (ev_pick_t rfl rfl) rfl rfl rfl ?_
        refine st (ev_assign rfl) rfl rfl rfl ?_
        refine op_nil ?_
        refine ax_then ?_
        refine At.regs (L' := [(2, _)]) (.cons rfl (.nil _)) ?_
        refine cd_ret ?_
        refine rt_tmp (.inl rfl) Try.results120 rfl ?_
        exact fun w1 sw => ⟨congrArg (fun b => Ending.returned (Value.bool b)) (by first | exact (decide_eq_false (fun hh => by obtain ⟨a1, a2, a3, a4⟩ := hh; omega)).symm | exact decide_eq_decide.2 ⟨fun h => ⟨by omega, by omega, by omega, by omega⟩, fun h => by obtain ⟨a1, a2, a3, a4⟩ := h; omega⟩), sw.gives (.nil _)⟩
      ·
        refine st_skip rfl rfl rfl ?_
        refine st_skip rfl rfl rfl ?_
        refine st_skip rfl rfl rfl ?_
        refine st_skip rfl rfl rfl ?_
        refine st (ev_pick_f rfl rfl) rfl rfl rfl ?_
        refine st (ev_assign rfl) rfl rfl rfl ?_
        refine op_nil ?_
        refine ax_then ?_
        refine At.regs (L' := [(2, _)]) (.cons rfl (.nil _)) ?_
        refine cd_ret ?_
        refine rt_tmp (.inl rfl) Try.results120 rfl ?_
        exact fun w1 sw => ⟨congrArg (fun b => Ending.returned (Value.bool b)) (by first | exact (decide_eq_false (fun hh => by obtain ⟨a1, a2, a3, a4⟩ := hh; omega)).symm | exact decide_eq_decide.2 ⟨fun h => ⟨by omega, by omega, by omega, by omega⟩, fun h => by obtain ⟨a1, a2, a3, a4⟩ := h; omega⟩), sw.gives (.nil _)⟩
    ·
      refine st_skip rfl rfl rfl ?_
      refine st_skip rfl rfl rfl ?_
      refine st_skip rfl rfl rfl ?_
      refine st_skip rfl rfl rfl ?_
      refine st (ev_pick_f rfl rfl) rfl rfl rfl ?_
      refine st (ev_move rfl) rfl rfl rfl ?_
      refine st_skip rfl rfl rfl ?_
      refine st_skip rfl rfl rfl ?_
      refine st_skip rfl rfl rfl ?_
      refine st_skip rfl rfl rfl ?_
      refine st (ev_pick_f rfl rfl) rfl rfl rfl ?_
      refine st (ev_assign rfl) rfl rfl rfl ?_
      refine op_nil ?_
      refine ax_then ?_
      refine At.regs (L' := [(2, _)]) (.cons rfl (.nil _)) ?_
      refine cd_ret ?_
      refine rt_tmp (.inl rfl) Try.results120 rfl ?_
      exact fun w1 sw => ⟨congrArg (fun b => Ending.returned (Value.bool b)) (by first | exact (decide_eq_false (fun hh => by obtain ⟨a1, a2, a3, a4⟩ := hh; omega)).symm | exact decide_eq_decide.2 ⟨fun h => ⟨by omega, by omega, by omega, by omega⟩, fun h => by obtain ⟨a1, a2, a3, a4⟩ := h; omega⟩), sw.gives (.nil _)⟩
  ·
    refine st_skip rfl rfl rfl ?_
    refine st_skip rfl rfl rfl ?_
    refine st_skip rfl rfl rfl ?_
    refine st (ev_pick_f rfl rfl) rfl rfl rfl ?_
    refine st (ev_move rfl) rfl rfl rfl ?_
    refine st_skip rfl rfl rfl ?_
    refine st_skip rfl rfl rfl ?_
    refine st_skip rfl rfl rfl ?_
    refine st_skip rfl rfl rfl ?_
    refine st (ev_pick_f rfl rfl) rfl rfl rfl ?_
    refine st (ev_move rfl) rfl rfl rfl ?_
    refine st_skip rfl rfl rfl ?_
    refine st_skip rfl rfl rfl ?_
    refine st_skip rfl rfl rfl ?_
    refine st_skip rfl rfl rfl ?_
    refine st (ev_pick_f rfl rfl) rfl rfl rfl ?_
    refine st (ev_assign rfl) rfl rfl rfl ?_
    refine op_nil ?_
    refine ax_then ?_
    refine At.regs (L' := [(2, _)]) (.cons rfl (.nil _)) ?_
    refine cd_ret ?_
    refine rt_tmp (.inl rfl) Try.results120 rfl ?_
    exact fun w1 sw => ⟨congrArg (fun b => Ending.returned (Value.bool b)) (by first | exact (decide_eq_false (fun hh => by obtain ⟨a1, a2, a3, a4⟩ := hh; omega)).symm | exact decide_eq_decide.2 ⟨fun h => ⟨by omega, by omega, by omega, by omega⟩, fun h => by obtain ⟨a1, a2, a3, a4⟩ := h; omega⟩), sw.gives (.nil _)⟩
set_option maxRecDepth 20000 in
set_option maxHeartbeats 1000000 in
theorem rsame5_any (l l2 : Int) (vc vp vc2 vp2 : Value) (cs ps cs2 ps2 : List (List Int)) (w : World) (hu : H32 cs) (hu' : H32 ps) (hu2 : H32 cs2) (hu2' : H32 ps2) (n1 : cs.length ≤ 140737488352000) (n2 : ps.length ≤ 140737488352000) (n3 : cs2.length ≤ 140737488352000) (n4 : ps2.length ≤ 140737488352000) (h : Rd w vc 32 (flat cs)) (h' : Rd w vp 32 (flat ps)) (h2 : Rd w vc2 32 (flat cs2)) (h2' : Rd w vp2 32 (flat ps2)) : Calls Try.prog 49 #[.agg (List.toArray [.int .i64 l, vc, vp]), .agg (List.toArray [.int .i64 l2, vc2, vp2])] w (PostV w (.bool (decide (l = l2 ∧ cs = cs2 ∧ ps = ps2)))) := by
  refine calls_at (vs := [.agg (List.toArray [.int .i64 l, vc, vp]), .agg (List.toArray [.int .i64 l2, vc2, vp2])]) (X := []) (H := []) (F := [(23, .sl vp2 32 (flat (ps2))), (22, .sl vc2 32 (flat (cs2))), (21, .sl vp 32 (flat (ps))), (20, .sl vc 32 (flat (cs)))]) 24 Try.func49 rfl rfl rfl ((((Sat.rd0 20 h).more 21 h').more 22 h2).more 23 h2') ?_
  refine cd_seq ?_
  refine cd_region ?_
  refine st_box (h := 2) rfl rfl rfl rfl (fun b2 => ?_)
  refine st_box (h := 3) rfl rfl rfl rfl (fun b3 => ?_)
  refine st (ev_assign rfl) rfl rfl rfl ?_
  refine op_nil ?_
  refine ax_then ?_
  refine At.regs (L' := [(2, _), (3, _), (4, _)]) (.cons rfl (.cons rfl (.cons rfl (.nil _)))) ?_
  refine cd_seq ?_
  refine cd_region ?_
  refine st (ev_fieldAddr (b := _) Try.underlying80 (f := _) rfl ty3 (by decide) rfl) rfl rfl rfl ?_
  refine st (ld_blk1 (h := 2) ty3 rfl rfl rfl rfl) rfl rfl rfl ?_
  refine st (ev_fieldAddr (b := _) Try.underlying80 (f := _) rfl ty3 (by decide) rfl) rfl rfl rfl ?_
  refine st (ld_blk1 (h := 3) ty3 rfl rfl rfl rfl) rfl rfl rfl ?_
  refine st (ev_eql rfl rfl) rfl rfl rfl ?_
  refine st (ev_move rfl) rfl rfl rfl ?_
  refine at_split_if (i := 10) rfl (fun hg10 => ?_) (fun hg10 => ?_)
  ·
    refine st (ev_fieldAddr (b := _) Try.underlying80 (f := _) rfl ty22 (by decide) rfl) rfl rfl rfl ?_
    refine st (ld_blk1 (h := 2) ty22 rfl rfl rfl rfl) rfl rfl rfl ?_
    refine st (ev_fieldAddr (b := _) Try.underlying80 (f := _) rfl ty22 (by decide) rfl) rfl rfl rfl ?_
    refine st (ld_blk1 (h := 3) ty22 rfl rfl rfl rfl) rfl rfl rfl ?_
    refine st_callv has65 rfl (fun w1 sw => hashes_any vc vc2 cs cs2 w1 hu hu2 n1 n3 (sw.sl_rd (h := 20) rfl) (sw.sl_rd (h := 22) rfl)) rfl rfl ?_
    refine st (ev_pick_t rfl rfl) rfl rfl rfl ?_
    refine st (ev_move rfl) rfl rfl rfl ?_
    refine at_split_if (i := 17) rfl (fun hg17 => ?_) (fun hg17 => ?_)
    ·
      refine st (ev_fieldAddr (b := _) Try.underlying80 (f := _) rfl ty22 (by decide) rfl) rfl rfl rfl ?_
      refine st (ld_blk1 (h := 2) ty22 rfl rfl rfl rfl) rfl rfl rfl ?_
      refine st (ev_fieldAddr (b := _) Try.underlying80 (f := _) rfl ty22 (by decide) rfl) rfl rfl rfl ?_
      refine st (ld_blk1 (h := 3) ty22 rfl rfl rfl rfl) rfl rfl rfl ?_
      refine st_callv has65 rfl (fun w1 sw => hashes_any vp vp2 ps ps2 w1 hu' hu2' n2 n4 (sw.sl_rd (h := 21) rfl) (sw.sl_rd (h := 23) rfl)) rfl rfl ?_
      refine st (ev_pick_t rfl rfl) rfl rfl rfl ?_
      refine st (ev_assign rfl) rfl rfl rfl ?_
      refine op_nil ?_
      refine ax_then ?_
      refine At.regs (L' := [(4, _)]) (.cons rfl (.nil _)) ?_
      refine cd_ret ?_
      refine rt_tmp (.inl rfl) Try.results49 rfl ?_
      exact fun w1 sw => ⟨congrArg (fun b => Ending.returned (Value.bool b)) (by first | exact (decide_eq_false (fun hh => by obtain ⟨a1, a2, a3⟩ := hh; first | exact hg10 a1 | exact hg17 a2)).symm | exact decide_eq_decide.2 ⟨fun h => ⟨hg10, hg17, h⟩, fun h => h.2.2⟩), sw.gives (.nil _)⟩
    ·
      refine st_skip rfl rfl rfl ?_
      refine st_skip rfl rfl rfl ?_
      refine st_skip rfl rfl rfl ?_
      refine st_skip rfl rfl rfl ?_
      refine st_skip rfl rfl rfl ?_
      refine st (ev_pick_f rfl rfl) rfl rfl rfl ?_
      refine st (ev_assign rfl) rfl rfl rfl ?_
      refine op_nil ?_
      refine ax_then ?_
      refine At.regs (L' := [(4, _)]) (.cons rfl (.nil _)) ?_
      refine cd_ret ?_
      refine rt_tmp (.inl rfl) Try.results49 rfl ?_
      exact fun w1 sw => ⟨congrArg (fun b => Ending.returned (Value.bool b)) (by first | exact (decide_eq_false (fun hh => by obtain ⟨a1, a2, a3⟩ := hh; first | exact hg10 a1 | exact hg17 a2)).symm | exact decide_eq_decide.2 ⟨fun h => ⟨hg10, hg17, h⟩, fun h => h.2.2⟩), sw.gives (.nil _)⟩
  ·
    refine st_skip rfl rfl rfl ?_
    refine st_skip rfl rfl rfl ?_
    refine st_skip rfl rfl rfl ?_
    refine st_skip rfl rfl rfl ?_
    refine st_skip rfl rfl rfl ?_
    refine st (ev_pick_f rfl rfl) rfl rfl rfl ?_
    refine st (ev_move rfl) rfl rfl rfl ?_
    refine st_skip rfl rfl rfl ?_
    refine st_skip rfl rfl rfl ?_
    refine st_skip rfl rfl rfl ?_
    refine st_skip rfl rfl rfl ?_
    refine st_skip rfl rfl rfl ?_
    refine st (ev_pick_f rfl rfl) rfl rfl rfl ?_
    refine st (ev_assign rfl) rfl rfl rfl ?_
    refine op_nil ?_
    refine ax_then ?_
    refine At.regs (L' := [(4, _)]) (.cons rfl (.nil _)) ?_
    refine cd_ret ?_
    refine rt_tmp (.inl rfl) Try.results49 rfl ?_
    exact fun w1 sw => ⟨congrArg (fun b => Ending.returned (Value.bool b)) (by first | exact (decide_eq_false (fun hh => by obtain ⟨a1, a2, a3⟩ := hh; first | exact hg10 a1 | exact hg17 a2)).symm | exact decide_eq_decide.2 ⟨fun h => ⟨hg10, hg17, h⟩, fun h => h.2.2⟩), sw.gives (.nil _)⟩
set_option maxRecDepth 20000 in
set_option maxHeartbeats 2000000 in
theorem verify_any (p : List Int) (q : Value) (m : List Int) (l : Int) (vc vp : Value) (cs ps : List (List Int)) (w : World) (hp : p.length = 32) (hm : m.length ≤ 140737488352000) (hu : H32 cs) (hu' : H32 ps) (n1 : cs.length ≤ 140737488352000) (n2 : ps.length ≤ 140737488352000) (h0 : Rd w q 1 (ints .u8 m)) (h : Rd w vc 32 (flat cs)) (h' : Rd w vp 32 (flat ps)) : Calls Try.prog 91 #[.agg (ints .u8 (p)).toArray, q, .agg (List.toArray [.int .i64 l, vc, vp])] w (PostV w (.bool (decide (Ky.verP p m l cs ps)))) := by
  refine calls_at (vs := [.agg (ints .u8 (p)).toArray, q, .agg (List.toArray [.int .i64 l, vc, vp])]) (X := []) (H := []) (F := [(21, .sl vp 32 (flat (ps))), (20, .sl vc 32 (flat (cs))), (1, .sl q 1 (ints .u8 (m)))]) 32 Try.func91 rfl rfl rfl (((Sat.rd0 1 h0).more 20 h).more 21 h') ?_
  refine cd_seq ?_
  refine cd_region ?_
  refine st_box (h := 3) rfl rfl rfl rfl (fun b3 => ?_)
  refine st_box (h := 5) rfl rfl rfl rfl (fun b5 => ?_)
  refine st (ev_assign rfl) rfl rfl rfl ?_
  refine op_nil ?_
  refine ax_then ?_
  refine At.regs (L' := [(1, _), (3, _), (5, _), (6, _)]) (.cons rfl (.cons rfl (.cons rfl (.cons rfl (.nil _))))) ?_
  refine cd_seq ?_
  refine cd_region ?_
  refine st (ev_move rfl) rfl rfl rfl ?_
  refine st (ev_fieldAddr (b := _) Try.underlying80 (f := _) rfl ty22 (by decide) rfl) rfl rfl rfl ?_
  refine st (ld_blk1 (h := 5) ty22 rfl rfl rfl rfl) rfl rfl rfl ?_
  refine st_callv has116 rfl (fun w1 sw => recover_any q vc m cs w1 hm hu n1 (sw.sl_rd (h := 1) rfl) (sw.sl_rd (h := 20) rfl)) rfl rfl ?_
  have hrl := recov_len m cs
  refine st (ev_move rfl) rfl rfl rfl ?_
  refine st (ev_extract rfl rfl) rfl rfl rfl ?_
  refine st (ev_extract rfl rfl) rfl rfl rfl ?_
  refine st_alloc (h := 7) ty55 rfl rfl rfl (fun b7 => ?_)
  refine st_store_all 7 ty55 rfl rfl rfl rfl (by first | omega | (simp only [List.length_append, List.length_cons, List.length_nil, List.length_set, List.length_replicate, List.length_take, List.length_drop, ints_length, wr_length, sha_len, node_len, recov_len, Ky.named_len, Ky.keyPub_len] <;> omega) | rfl) (ints_one _ _) (by first | omega | (simp only [List.length_append, List.length_cons, List.length_nil, List.length_set, List.length_replicate, List.length_take, List.length_drop, ints_length, wr_length, sha_len, node_len, recov_len, Ky.named_len, Ky.keyPub_len] <;> omega) | rfl) rfl ?_
  refine st (ev_assign rfl) rfl rfl rfl ?_
  refine op_nil ?_
  refine ax_then ?_
  refine At.regs (L' := [(3, _), (5, _), (6, _), (7, _), (8, _)]) (.cons rfl (.cons rfl (.cons rfl (.cons rfl (.cons rfl (.nil _)))))) ?_
  refine cd_seq ?_
  refine cd_open hmix (by decide +kernel) ?_
  refine qt (ev_move rfl) rfl rfl rfl ?_
  refine qt (ev_move rfl) rfl rfl rfl ?_
  refine qt_split_if (i := 17) rfl (fun hg17 => ?_) (fun hg17 => ?_)
  ·
    refine qt (ld_blk_all (h := 5) ty80 rfl rfl rfl (by first | omega | (simp only [List.length_append, List.length_cons, List.length_nil, List.length_set, List.length_replicate, List.length_take, List.length_drop, ints_length, wr_length, sha_len, node_len, recov_len, Ky.named_len, Ky.keyPub_len] <;> omega) | rfl)) rfl rfl rfl ?_
    refine qt_callv has117 rfl (fun w1 sw => isSig_any l vc vp cs ps w1 hu hu' (sw.sl_rd (h := 20) rfl) (sw.sl_rd (h := 21) rfl)) rfl rfl ?_
    refine qt (ev_pick_t rfl rfl) rfl rfl rfl ?_
    refine qt (ev_move rfl) rfl rfl rfl ?_
    refine qt_split_if (i := 21) rfl (fun hg21 => ?_) (fun hg21 => ?_)
    ·
      have his := hg21
      refine qt (ld_blk_all (h := 7) ty55 rfl rfl rfl (by first | omega | (simp only [List.length_append, List.length_cons, List.length_nil, List.length_set, List.length_replicate, List.length_take, List.length_drop, ints_length, wr_length, sha_len, node_len, recov_len, Ky.named_len, Ky.keyPub_len] <;> omega) | rfl)) rfl rfl rfl ?_
      refine qt (ev_fieldAddr (b := _) Try.underlying80 (f := _) rfl ty3 (by decide) rfl) rfl rfl rfl ?_
      refine qt (ld_blk1 (h := 5) ty3 rfl rfl rfl rfl) rfl rfl rfl ?_
      refine qt (ev_fieldAddr (b := _) Try.underlying80 (f := _) rfl ty22 (by decide) rfl) rfl rfl rfl ?_
      refine qt (ld_blk1 (h := 5) ty22 rfl rfl rfl rfl) rfl rfl rfl ?_
      refine qt_callv has118 rfl (fun w1 sw => up_any (recov m cs) l vp ps w1 (recov_len _ _) his.1 (by have := his.2.1; omega) hu' n2 (sw.sl_rd (h := 21) rfl)) rfl rfl ?_
      refine qt_callv has76 rfl (fun w1 sw => named_any (up (recov m cs) l ps) w1 (up_len (recov_len _ _) _ _)) rfl rfl ?_
      refine qt (ld_blk_all (h := 3) ty55 rfl rfl rfl (by first | omega | (simp only [List.length_append, List.length_cons, List.length_nil, List.length_set, List.length_replicate, List.length_take, List.length_drop, ints_length, wr_length, sha_len, node_len, recov_len, Ky.named_len, Ky.keyPub_len] <;> omega) | rfl)) rfl rfl rfl ?_
      refine qt (ev_eql_arr Try.underlying55 ty5 eqg55 rfl rfl (by first | omega | (simp only [List.length_append, List.length_cons, List.length_nil, List.length_set, List.length_replicate, List.length_take, List.length_drop, ints_length, wr_length, sha_len, node_len, recov_len, Ky.named_len, Ky.keyPub_len] <;> omega) | rfl) (by first | omega | (simp only [List.length_append, List.length_cons, List.length_nil, List.length_set, List.length_replicate, List.length_take, List.length_drop, ints_length, wr_length, sha_len, node_len, recov_len, Ky.named_len, Ky.keyPub_len] <;> omega) | rfl)) rfl rfl rfl ?_
      refine qt (ev_pick_t rfl rfl) rfl rfl rfl ?_
      refine qt (ev_assign rfl) rfl rfl rfl ?_
      refine qt_end ?_
      refine op_nil ?_
      refine ax_then ?_
      refine At.regs (L' := [(6, _)]) (.cons rfl (.nil _)) ?_
      refine cd_ret ?_
      refine rt_tmp (.inl rfl) Try.results91 rfl ?_
      exact fun w1 sw => ⟨congrArg (fun b => Ending.returned (Value.bool b)) (by first | exact (decide_eq_false (fun hh => hnot hh.1)).symm | exact decide_eq_decide.2 ⟨fun h => ⟨his, h⟩, fun h => h.2⟩), sw.gives (.nil _)⟩
    ·
      have hnot := hg21
      refine qt_skip rfl rfl rfl ?_
      refine qt_skip rfl rfl rfl ?_
      refine qt_skip rfl rfl rfl ?_
      refine qt_skip rfl rfl rfl ?_
      refine qt_skip rfl rfl rfl ?_
      refine qt_skip rfl rfl rfl ?_
      refine qt_skip rfl rfl rfl ?_
      refine qt_skip rfl rfl rfl ?_
      refine qt_skip rfl rfl rfl ?_
      refine qt (ev_pick_f rfl rfl) rfl rfl rfl ?_
      refine qt (ev_assign rfl) rfl rfl rfl ?_
      refine qt_end ?_
      refine op_nil ?_
      refine ax_then ?_
      refine At.regs (L' := [(6, _)]) (.cons rfl (.nil _)) ?_
      refine cd_ret ?_
      refine rt_tmp (.inl rfl) Try.results91 rfl ?_
      exact fun w1 sw => ⟨congrArg (fun b => Ending.returned (Value.bool b)) (by first | exact (decide_eq_false (fun hh => hnot hh.1)).symm | exact decide_eq_decide.2 ⟨fun h => ⟨his, h⟩, fun h => h.2⟩), sw.gives (.nil _)⟩
  ·
    have hnot : ¬ Ky.isSig l cs ps := fun hh => hg17 hh.2.2.1
    refine qt_skip rfl rfl rfl ?_
    refine qt_skip rfl rfl rfl ?_
    refine qt (ev_pick_f rfl rfl) rfl rfl rfl ?_
    refine qt (ev_move rfl) rfl rfl rfl ?_
    refine qt_skip rfl rfl rfl ?_
    refine qt_skip rfl rfl rfl ?_
    refine qt_skip rfl rfl rfl ?_
    refine qt_skip rfl rfl rfl ?_
    refine qt_skip rfl rfl rfl ?_
    refine qt_skip rfl rfl rfl ?_
    refine qt_skip rfl rfl rfl ?_
    refine qt_skip rfl rfl rfl ?_
    refine qt_skip rfl rfl rfl ?_
    refine qt (ev_pick_f rfl rfl) rfl rfl rfl ?_
    refine qt (ev_assign rfl) rfl rfl rfl ?_
    refine qt_end ?_
    refine op_nil ?_
    refine ax_then ?_
    refine At.regs (L' := [(6, _)]) (.cons rfl (.nil _)) ?_
    refine cd_ret ?_
    refine rt_tmp (.inl rfl) Try.results91 rfl ?_
    exact fun w1 sw => ⟨congrArg (fun b => Ending.returned (Value.bool b)) (by first | exact (decide_eq_false (fun hh => hnot hh.1)).symm | exact decide_eq_decide.2 ⟨fun h => ⟨his, h⟩, fun h => h.2⟩), sw.gives (.nil _)⟩
set_option maxRecDepth 20000 in
set_option maxHeartbeats 2000000 in
theorem rverify_any (p : List Int) (q : Value) (m : List Int) (l : Int) (vc vp : Value) (cs ps : List (List Int)) (w : World) (hp : p.length = 32) (hm : m.length ≤ 140737488352000) (hu : H32 cs) (hu' : H32 ps) (n1 : cs.length ≤ 140737488352000) (n2 : ps.length ≤ 140737488352000) (h0 : Rd w q 1 (ints .u8 m)) (h : Rd w vc 32 (flat cs)) (h' : Rd w vp 32 (flat ps)) : Calls Try.prog 94 #[.agg (ints .u8 (p)).toArray, q, .agg (List.toArray [.int .i64 l, vc, vp])] w (PostV w (.bool (decide (Ky.verP p m l cs ps)))) := by
  refine calls_at (vs := [.agg (ints .u8 (p)).toArray, q, .agg (List.toArray [.int .i64 l, vc, vp])]) (X := []) (H := []) (F := [(21, .sl vp 32 (flat (ps))), (20, .sl vc 32 (flat (cs))), (1, .sl q 1 (ints .u8 (m)))]) 28 Try.func94 rfl rfl rfl (((Sat.rd0 1 h0).more 20 h).more 21 h') ?_
  refine cd_seq ?_
  refine cd_region ?_
  refine st_box (h := 3) rfl rfl rfl rfl (fun b3 => ?_)
  refine st_box (h := 5) rfl rfl rfl rfl (fun b5 => ?_)
  refine st (ev_assign rfl) rfl rfl rfl ?_
  refine op_nil ?_
  refine ax_then ?_
  refine At.regs (L' := [(1, _), (3, _), (5, _), (6, _)]) (.cons rfl (.cons rfl (.cons rfl (.cons rfl (.nil _))))) ?_
  refine cd_seq ?_
  refine cd_seq ?_
  refine cd_region ?_
  refine st (ld_blk_all (h := 5) ty80 rfl rfl rfl (by first | omega | (simp only [List.length_append, List.length_cons, List.length_nil, List.length_set, List.length_replicate, List.length_take, List.length_drop, ints_length, wr_length, sha_len, node_len, recov_len, Ky.named_len, Ky.keyPub_len] <;> omega) | rfl)) rfl rfl rfl ?_
  refine st_callv has120 rfl (fun w1 sw => risSig_any l vc vp cs ps w1 hu hu' (sw.sl_rd (h := 20) rfl) (sw.sl_rd (h := 21) rfl)) rfl rfl ?_
  refine st (ev_not_if rfl) rfl rfl rfl ?_
  refine op_nil ?_
  refine ax_then ?_
  refine At.regs (L' := [(1, _), (3, _), (5, _), (6, _), (11, _)]) (.cons rfl (.cons rfl (.cons rfl (.cons rfl (.cons rfl (.nil _)))))) ?_
  refine cd_if rfl (fun hc11 => ?_) (fun hc11 => ?_)
  ·
    have hnot := hc11
    refine cd_seq ?_
    refine cd_region ?_
    refine st (ev_assign rfl) rfl rfl rfl ?_
    refine op_nil ?_
    refine ax_then ?_
    refine At.regs (L' := [(1, _), (3, _), (5, _), (6, _)]) (.cons rfl (.cons rfl (.cons rfl (.cons rfl (.nil _))))) ?_
    refine cd_ret ?_
    refine ax_then_ret ?_
    refine rt_tmp (.inl rfl) Try.results94 rfl ?_
    exact fun w1 sw => ⟨congrArg (fun b => Ending.returned (Value.bool b)) (by first | exact (decide_eq_false (fun hh => hnot hh.1)).symm | exact decide_eq_decide.2 ⟨fun h => ⟨his, h⟩, fun h => h.2⟩), sw.gives (.nil _)⟩
  ·
    have his : Ky.isSig l cs ps := Classical.byContradiction hc11
    refine cd_skip ?_
    refine ax_then ?_
    refine At.regs (L' := [(1, _), (3, _), (5, _), (6, _)]) (.cons rfl (.cons rfl (.cons rfl (.cons rfl (.nil _))))) ?_
    refine cd_seq ?_
    refine cd_region ?_
    refine st (ev_move rfl) rfl rfl rfl ?_
    refine st (ev_fieldAddr (b := _) Try.underlying80 (f := _) rfl ty22 (by decide) rfl) rfl rfl rfl ?_
    refine st (ld_blk1 (h := 5) ty22 rfl rfl rfl rfl) rfl rfl rfl ?_
    refine st_callv has121 rfl (fun w1 sw => rrecover_any q vc m cs w1 hm hu n1 (sw.sl_rd (h := 1) rfl) (sw.sl_rd (h := 20) rfl)) rfl rfl ?_
    have hrl := recov_len m cs
    refine st (ev_move rfl) rfl rfl rfl ?_
    refine st (ev_extract rfl rfl) rfl rfl rfl ?_
    refine st (ev_extract rfl rfl) rfl rfl rfl ?_
    refine st_alloc (h := 7) ty55 rfl rfl rfl (fun b7 => ?_)
    refine st_store_all 7 ty55 rfl rfl rfl rfl (by first | omega | (simp only [List.length_append, List.length_cons, List.length_nil, List.length_set, List.length_replicate, List.length_take, List.length_drop, ints_length, wr_length, sha_len, node_len, recov_len, Ky.named_len, Ky.keyPub_len] <;> omega) | rfl) (ints_one _ _) (by first | omega | (simp only [List.length_append, List.length_cons, List.length_nil, List.length_set, List.length_replicate, List.length_take, List.length_drop, ints_length, wr_length, sha_len, node_len, recov_len, Ky.named_len, Ky.keyPub_len] <;> omega) | rfl) rfl ?_
    refine st (ev_assign rfl) rfl rfl rfl ?_
    refine op_nil ?_
    refine ax_then ?_
    refine At.regs (L' := [(3, _), (5, _), (6, _), (7, _)]) (.cons rfl (.cons rfl (.cons rfl (.cons rfl (.nil _))))) ?_
    refine cd_seq ?_
    refine cd_open hmix (by decide +kernel) ?_
    refine qt (ld_blk_all (h := 7) ty55 rfl rfl rfl (by first | omega | (simp only [List.length_append, List.length_cons, List.length_nil, List.length_set, List.length_replicate, List.length_take, List.length_drop, ints_length, wr_length, sha_len, node_len, recov_len, Ky.named_len, Ky.keyPub_len] <;> omega) | rfl)) rfl rfl rfl ?_
    refine qt (ev_fieldAddr (b := _) Try.underlying80 (f := _) rfl ty3 (by decide) rfl) rfl rfl rfl ?_
    refine qt (ld_blk1 (h := 5) ty3 rfl rfl rfl rfl) rfl rfl rfl ?_
    refine qt (ev_fieldAddr (b := _) Try.underlying80 (f := _) rfl ty22 (by decide) rfl) rfl rfl rfl ?_
    refine qt (ld_blk1 (h := 5) ty22 rfl rfl rfl rfl) rfl rfl rfl ?_
    refine qt_callv has122 rfl (fun w1 sw => rup_any (recov m cs) l vp ps w1 (recov_len _ _) his.1 (by have := his.2.1; omega) hu' n2 (sw.sl_rd (h := 21) rfl)) rfl rfl ?_
    refine qt_callv has68 rfl (fun w1 sw => rnamed_any (up (recov m cs) l ps) w1 (up_len (recov_len _ _) _ _)) rfl rfl ?_
    refine qt (ld_blk_all (h := 3) ty55 rfl rfl rfl (by first | omega | (simp only [List.length_append, List.length_cons, List.length_nil, List.length_set, List.length_replicate, List.length_take, List.length_drop, ints_length, wr_length, sha_len, node_len, recov_len, Ky.named_len, Ky.keyPub_len] <;> omega) | rfl)) rfl rfl rfl ?_
    refine qt (ev_eql_arr Try.underlying55 ty5 eqg55 rfl rfl (by first | omega | (simp only [List.length_append, List.length_cons, List.length_nil, List.length_set, List.length_replicate, List.length_take, List.length_drop, ints_length, wr_length, sha_len, node_len, recov_len, Ky.named_len, Ky.keyPub_len] <;> omega) | rfl) (by first | omega | (simp only [List.length_append, List.length_cons, List.length_nil, List.length_set, List.length_replicate, List.length_take, List.length_drop, ints_length, wr_length, sha_len, node_len, recov_len, Ky.named_len, Ky.keyPub_len] <;> omega) | rfl)) rfl rfl rfl ?_
    refine qt (ev_assign rfl) rfl rfl rfl ?_
    refine qt_end ?_
    refine op_nil ?_
    refine ax_then ?_
    refine At.regs (L' := [(6, _)]) (.cons rfl (.nil _)) ?_
    refine cd_ret ?_
    refine rt_tmp (.inl rfl) Try.results94 rfl ?_
    exact fun w1 sw => ⟨congrArg (fun b => Ending.returned (Value.bool b)) (by first | exact (decide_eq_false (fun hh => hnot hh.1)).symm | exact decide_eq_decide.2 ⟨fun h => ⟨his, h⟩, fun h => h.2⟩), sw.gives (.nil _)⟩
end Go.Proofs.Ytgfnmolbagilmaa

namespace Go.Proofs.Ytgfnmolbagilmaa
open Go Go.RowKit Fw
set_option linter.unusedVariables false
set_option linter.unusedSimpArgs false
/-- where h stands among the hashes -/
def idx (hs : List (List Int)) (h : List Int) : Int := match (List.range hs.length).find? (fun j => decide (h = hs.getD j [])) with | some j => (j : Int) | none => -1
theorem idx_hit {hs : List (List Int)} {h : List Int} {i : Nat} (hi : i < hs.length) (h1 : ∀ j, j < i → h ≠ hs.getD j []) (h2 : h = hs.getD i []) : idx hs h = i := by
  have : (List.range hs.length).find? (fun j => decide (h = hs.getD j [])) = some i := by
    rw [List.find?_range_eq_some]
    exact ⟨by simpa using h2, by simpa using hi, fun j hj => by simpa using h1 j hj⟩
  rw [idx, this]
theorem idx_miss {hs : List (List Int)} {h : List Int} (h1 : ∀ j, j < hs.length → h ≠ hs.getD j []) : idx hs h = -1 := by
  have : (List.range hs.length).find? (fun j => decide (h = hs.getD j [])) = none := by
    rw [List.find?_eq_none]
    intro j hj
    simpa using h1 j (by simpa using hj)
  rw [idx, this]
theorem idx_neg {hs : List (List Int)} {h : List Int} : ¬ 0 ≤ idx hs h ↔ ∀ j, j < hs.length → h ≠ hs.getD j [] := by
  constructor
  · intro hn j hj
    cases hf : (List.range hs.length).find? (fun j => decide (h = hs.getD j [])) with
    | some k =>
      rw [idx, hf] at hn
      exact absurd (Int.natCast_nonneg k) hn
    | none =>
      have := List.find?_eq_none.1 hf j (by simpa using hj)
      simpa using this
  · intro h1
    rw [idx_miss h1]
    omega
/-- keys that may be -/
def isK (ks : List (List Int)) (need : Int) : Prop := (∀ a, a < ks.length → ¬ 0 ≤ idx (ks.take a) (ks.getD a [])) ∧ 1 ≤ ks.length ∧ ks.length ≤ 4 ∧ 1 ≤ need ∧ need ≤ (ks.length : Int)
instance (ks : List (List Int)) (need : Int) : Decidable (isK ks need) := by unfold isK; infer_instance
set_option maxRecDepth 20000 in
set_option maxHeartbeats 1000000 in
theorem index_any (p : Value) (hs : List (List Int)) (h0 : List Int) (w : World) (hu : H32 hs) (hl : h0.length = 32) (hs0 : hs.length ≤ 140737488352000) (h : Rd w p 32 (flat hs)) : Calls Try.prog 115 #[p, .agg (ints .u8 (h0)).toArray] w (PostV w (.int .i64 (idx hs h0))) := by
  refine calls_at (vs := [p, .agg (ints .u8 (h0)).toArray]) (X := []) (H := []) (F := [(0, .sl p 32 (flat (hs)))]) 19 Try.func115 rfl rfl rfl (Sat.rd0 0 h) ?_
  refine cd_seq ?_
  refine cd_region ?_
  refine st_box (h := 3) rfl rfl rfl rfl (fun b3 => ?_)
  refine st (ev_assign rfl) rfl rfl rfl ?_
  refine op_nil ?_
  refine ax_then ?_
  refine At.regs (L' := [(0, _), (3, _), (4, _)]) (.cons rfl (.cons rfl (.cons rfl (.nil _)))) ?_
  refine cd_seq ?_
  refine cd_seq ?_
  refine cd_region ?_
  refine st (ev_move rfl) rfl rfl rfl ?_
  refine st (ev_len_rdh (h := 0) Try.underlying22 rfl rfl hu) rfl rfl rfl ?_
  refine st (ev_move rfl) rfl rfl rfl ?_
  refine op_nil ?_
  refine ax_then ?_
  refine At.regs (L' := [(0, _), (3, _), (4, _), (7, _), (8, _)]) (.cons rfl (.cons rfl (.cons rfl (.cons rfl (.cons rfl (.nil _)))))) ?_
  refine cd_block ?_
  refine cd_loop (ι := Nat) (fun i => i ≤ hs.length ∧ ∀ j, j < i → h0 ≠ hs.getD j []) (fun i => hs.length - i)
      (fun i => [(0, p), (3, .pointer (some ⟨b3, 0, none⟩)), (7, .int .i64 (hs.length : Nat)), (8, .int .i64 (i : Int))])
      (fun i => [(3, .blk b3 (.cells (ints .u8 h0).toArray 55))])
      (fun i => [(0, .sl p 32 (flat (hs)))])
      0 (⟨by omega, fun j hj => by omega⟩) (.cons rfl (.cons rfl (.cons rfl (.cons rfl (.nil _))))) (.cons rfl (.nil _)) (.cons rfl (.nil _)) (fun i hi => ?_)
  have hi1 := hi.1
  have e0 : (i : Int).toNat = i := by omega
  refine cd_seq ?_
  refine cd_region ?_
  refine st (ev_lss rfl rfl) rfl rfl rfl ?_
  refine op_nil ?_
  refine ax_then ?_
  refine At.regs (L' := [(0, _), (3, _), (7, _), (8, _), (9, _)]) (.cons rfl (.cons rfl (.cons rfl (.cons rfl (.cons rfl (.nil _)))))) ?_
  refine cd_seq ?_
  refine cd_if rfl (fun hc9 => ?_) (fun hc9 => ?_)
  ·
    refine cd_skip ?_
    refine ax_then ?_
    refine At.regs (L' := [(0, _), (3, _), (7, _), (8, _), (9, _)]) (.cons rfl (.cons rfl (.cons rfl (.cons rfl (.cons rfl (.nil _)))))) ?_
    refine cd_seq ?_
    refine cd_block ?_
    refine cd_seq ?_
    refine cd_region ?_
    refine st (ev_move rfl) rfl rfl rfl ?_
    refine st (ev_assign rfl) rfl rfl rfl ?_
    refine op_nil ?_
    refine ax_then ?_
    refine At.regs (L' := [(0, _), (3, _), (5, _), (7, _), (8, _), (9, _), (10, _)]) (.cons rfl (.cons rfl (.cons rfl (.cons rfl (.cons rfl (.cons rfl (.cons rfl (.nil _)))))))) ?_
    refine cd_seq ?_
    refine cd_open hmix (by decide +kernel) ?_
    refine qt (ld_blk_all (h := 3) ty55 rfl rfl rfl (by first | omega | (simp only [List.length_append, List.length_cons, List.length_nil, List.length_set, List.length_replicate, List.length_take, List.length_drop, ints_length, wr_length] <;> omega) | exact H32.get (by assumption) (by omega) | rfl)) rfl rfl rfl ?_
    refine qt (ev_move rfl) rfl rfl rfl ?_
    refine qt (ev_move rfl) rfl rfl rfl ?_
    refine qt (ev_indexAddr_rdh (h := 0) Try.underlying22 ty55 rfl rfl rfl hu (by omega) (by omega)) rfl rfl rfl ?_
    refine qt (ld_rdh (i := (i : Int).toNat) (h := 0) ty55 rfl rfl rfl hu (by omega)) rfl rfl rfl ?_
    refine qt (ev_eql_arr Try.underlying55 ty5 eqg55 rfl rfl (by first | omega | (simp only [List.length_append, List.length_cons, List.length_nil, List.length_set, List.length_replicate, List.length_take, List.length_drop, ints_length, wr_length] <;> omega) | exact H32.get (by assumption) (by omega) | rfl) (by first | omega | (simp only [List.length_append, List.length_cons, List.length_nil, List.length_set, List.length_replicate, List.length_take, List.length_drop, ints_length, wr_length] <;> omega) | exact H32.get (by assumption) (by omega) | rfl)) rfl rfl rfl ?_
    refine qt_end ?_
    refine op_nil ?_
    refine ax_then ?_
    refine At.regs (L' := [(0, _), (3, _), (5, _), (7, _), (8, _), (9, _), (10, _), (11, _), (12, _), (13, _), (14, _), (15, _), (16, _)]) (.cons rfl (.cons rfl (.cons rfl (.cons rfl (.cons rfl (.cons rfl (.cons rfl (.cons rfl (.cons rfl (.cons rfl (.cons rfl (.cons rfl (.cons rfl (.nil _)))))))))))))) ?_
    refine cd_if rfl (fun hc16 => ?_) (fun hc16 => ?_)
    ·
      have hit := hc16
      rw [e0] at hit
      refine cd_seq ?_
      refine cd_region ?_
      refine st (ev_move rfl) rfl rfl rfl ?_
      refine st (ev_assign rfl) rfl rfl rfl ?_
      refine op_nil ?_
      refine ax_then ?_
      refine At.regs (L' := [(0, _), (3, _), (4, _), (5, _), (7, _), (8, _), (9, _), (10, _), (11, _), (12, _), (13, _), (14, _), (15, _), (16, _), (17, _)]) (.cons rfl (.cons rfl (.cons rfl (.cons rfl (.cons rfl (.cons rfl (.cons rfl (.cons rfl (.cons rfl (.cons rfl (.cons rfl (.cons rfl (.cons rfl (.cons rfl (.cons rfl (.nil _)))))))))))))))) ?_
      refine cd_ret ?_
      refine ax_block_ret ?_
      refine ax_then_ret ?_
      refine ax_then_ret ?_
      refine ax_block_ret ?_
      refine ax_then_ret ?_
      refine rt_tmp (.inl rfl) Try.results115 rfl ?_
      exact fun w1 sw => ⟨by rw [idx_hit (by omega) hi.2 hit], sw.gives (.nil _)⟩
    ·
      refine cd_skip ?_
      refine ax_block ?_
      refine ax_then ?_
      refine At.regs (L' := [(0, _), (3, _), (5, _), (7, _), (8, _), (9, _), (10, _), (11, _), (12, _), (13, _), (14, _), (15, _), (16, _)]) (.cons rfl (.cons rfl (.cons rfl (.cons rfl (.cons rfl (.cons rfl (.cons rfl (.cons rfl (.cons rfl (.cons rfl (.cons rfl (.cons rfl (.cons rfl (.nil _)))))))))))))) ?_
      refine cd_region ?_
      refine st (ev_add64 rfl rfl (by omega) (by omega)) rfl rfl rfl ?_
      refine st (ev_move rfl) rfl rfl rfl ?_
      refine op_nil ?_
      exact at_again (i + 1) (⟨by omega, fun j hj => (Nat.lt_succ_iff_lt_or_eq.1 hj).elim (hi.2 j) (fun e => by subst e; simpa using hc16)⟩) (by omega) (.cons rfl (.cons rfl (.cons rfl (.cons rfl (.nil _))))) (.cons rfl (.nil _)) (.cons rfl (.nil _))
  ·
    obtain rfl : i = hs.length := by omega
    refine cd_exit ?_
    refine ax_then_exit ?_
    refine ax_then_exit ?_
    refine ax_block_hit ?_
    refine ax_then ?_
    refine At.regs (L' := []) (.nil _) ?_
    refine cd_seq ?_
    refine cd_region ?_
    refine st (ev_assign rfl) rfl rfl rfl ?_
    refine op_nil ?_
    refine ax_then ?_
    refine At.regs (L' := [(4, _)]) (.cons rfl (.nil _)) ?_
    refine cd_ret ?_
    refine rt_tmp (.inl rfl) Try.results115 rfl ?_
    exact fun w1 sw => ⟨by rw [idx_miss hi.2], sw.gives (.nil _)⟩
set_option maxRecDepth 20000 in
set_option maxHeartbeats 1000000 in
theorem contains_any (p : Value) (hs : List (List Int)) (h0 : List Int) (w : World) (hu : H32 hs) (hl : h0.length = 32) (hs0 : hs.length ≤ 140737488352000) (h : Rd w p 32 (flat hs)) : Calls Try.prog 89 #[p, .agg (ints .u8 (h0)).toArray] w (PostV w (.bool (decide (0 ≤ idx hs h0)))) := by
  refine calls_at (vs := [p, .agg (ints .u8 (h0)).toArray]) (X := []) (H := []) (F := [(0, .sl p 32 (flat (hs)))]) 9 Try.func89 rfl rfl rfl (Sat.rd0 0 h) ?_
  refine cd_seq ?_
  refine cd_region ?_
  refine st_box (h := 3) rfl rfl rfl rfl (fun b3 => ?_)
  refine st (ev_assign rfl) rfl rfl rfl ?_
  refine op_nil ?_
  refine ax_then ?_
  refine At.regs (L' := [(0, _), (3, _), (4, _)]) (.cons rfl (.cons rfl (.cons rfl (.nil _)))) ?_
  refine cd_seq ?_
  refine cd_region ?_
  refine st (ev_move rfl) rfl rfl rfl ?_
  refine st (ld_blk_all (h := 3) ty55 rfl rfl rfl (by first | omega | (simp only [List.length_append, List.length_cons, List.length_nil, List.length_set, List.length_replicate, List.length_take, List.length_drop, ints_length, wr_length] <;> omega) | exact H32.get (by assumption) (by omega) | rfl)) rfl rfl rfl ?_
  refine st_callv has115 rfl (fun w1 sw => index_any p hs h0 w1 hu hl hs0 (sw.sl_rd (h := 0) rfl)) rfl rfl ?_
  refine st (ev_geq rfl rfl) rfl rfl rfl ?_
  refine st (ev_assign rfl) rfl rfl rfl ?_
  refine op_nil ?_
  refine ax_then ?_
  refine At.regs (L' := [(4, _)]) (.cons rfl (.nil _)) ?_
  refine cd_ret ?_
  refine rt_tmp (.inl rfl) Try.results89 rfl ?_
  exact fun w1 sw => ⟨rfl, sw.gives (.nil _)⟩
/-- of keys that may be, all but their being unlike -/
def bas (ks : List (List Int)) (need : Int) : Prop := 1 ≤ ks.length ∧ ks.length ≤ 4 ∧ 1 ≤ need ∧ need ≤ (ks.length : Int)
instance (ks : List (List Int)) (need : Int) : Decidable (bas ks need) := by unfold bas; infer_instance
def outK (ks : List (List Int)) (need : Int) (i : Nat) : Prop := bas ks need ∧ ∀ a, a < i → ¬ 0 ≤ idx (ks.take a) (ks.getD a [])
instance (ks : List (List Int)) (need : Int) (i : Nat) : Decidable (outK ks need i) := by unfold outK; infer_instance
def innK (ks : List (List Int)) (need : Int) (i j : Nat) : Prop := outK ks need i ∧ ∀ b, b < j → ks.getD i [] ≠ ks.getD b []
instance (ks : List (List Int)) (need : Int) (i j : Nat) : Decidable (innK ks need i j) := by unfold innK; infer_instance
theorem innK_all {ks : List (List Int)} {need : Int} {i : Nat} (hi : i < ks.length) : innK ks need i i ↔ outK ks need (i + 1) := by
  have hx : (¬ 0 ≤ idx (ks.take i) (ks.getD i [])) ↔ ∀ b, b < i → ks.getD i [] ≠ ks.getD b [] := by
    rw [idx_neg, List.length_take, Nat.min_eq_left (by omega)]
    constructor
    · intro h b hb
      have := h b hb
      simpa [List.getD_eq_getElem?_getD, List.getElem?_take, hb] using this
    · intro h b hb
      have := h b hb
      simpa [List.getD_eq_getElem?_getD, List.getElem?_take, hb] using this
  constructor
  · rintro ⟨⟨h1, h2⟩, h3⟩
    refine ⟨h1, fun a ha => ?_⟩
    rcases Nat.lt_succ_iff_lt_or_eq.1 ha with ha | rfl
    · exact h2 a ha
    · exact hx.2 h3
  · rintro ⟨h1, h2⟩
    exact ⟨⟨h1, fun a ha => h2 a (by omega)⟩, hx.1 (h2 i (by omega))⟩
theorem outK_isK {ks : List (List Int)} {need : Int} : isK ks need ↔ outK ks need ks.length := ⟨fun ⟨h1, h2⟩ => ⟨h2, h1⟩, fun ⟨h1, h2⟩ => ⟨h2, h1⟩⟩
set_option maxRecDepth 20000 in
set_option maxHeartbeats 1000000 in
theorem is_any (sv : Value) (ks : List (List Int)) (need : Int) (w : World) (hu : H32 ks) (hs0 : ks.length ≤ 140737488352000) (h : Rd w sv 32 (flat ks)) : Calls Try.prog 58 #[.agg ([sv, .int .i64 need]).toArray] w (PostV w (.bool (decide (isK ks need)))) := by
  refine calls_at (vs := [.agg ([sv, .int .i64 need]).toArray]) (X := []) (H := []) (F := [(20, .sl sv 32 (flat (ks)))]) 43 Try.func58 rfl rfl rfl (Sat.rd0 20 h) ?_
  refine cd_seq ?_
  refine cd_region ?_
  refine st_box (h := 1) rfl rfl rfl rfl (fun b1 => ?_)
  refine st (ev_assign rfl) rfl rfl rfl ?_
  refine op_nil ?_
  refine ax_then ?_
  refine At.regs (L' := [(1, _), (2, _)]) (.cons rfl (.cons rfl (.nil _))) ?_
  refine cd_seq ?_
  refine cd_seq ?_
  refine cd_region ?_
  refine st (ev_fieldAddr (b := _) Try.underlying24 (f := _) rfl ty22 (by decide) rfl) rfl rfl rfl ?_
  refine st (ld_blk1 (h := 1) ty22 rfl rfl rfl rfl) rfl rfl rfl ?_
  refine st (ev_len_rdh (h := 20) Try.underlying22 rfl rfl (by assumption)) rfl rfl rfl ?_
  refine st (ev_move rfl) rfl rfl rfl ?_
  refine op_nil ?_
  refine ax_then ?_
  refine At.regs (L' := [(1, _), (2, _), (6, _), (7, _), (8, _)]) (.cons rfl (.cons rfl (.cons rfl (.cons rfl (.cons rfl (.nil _)))))) ?_
  refine cd_block ?_
  refine cd_loop (ι := Nat) (fun i => i ≤ ks.length ∧ ∀ a, a < i → ¬ 0 ≤ idx (ks.take a) (ks.getD a [])) (fun i => ks.length - i)
      (fun i => [(1, .pointer (some ⟨b1, 0, none⟩)), (6, sv), (7, .int .i64 (ks.length : Nat)), (8, .int .i64 (i : Int))])
      (fun i => [(1, .blk b1 (.cells ([sv, .int .i64 need]).toArray 24))])
      (fun i => [(20, .sl sv 32 (flat (ks)))])
      0 (⟨by omega, fun j hj => by omega⟩) (.cons rfl (.cons rfl (.cons rfl (.cons rfl (.nil _))))) (.cons rfl (.nil _)) (.cons rfl (.nil _)) (fun i hi => ?_)
  have hi1 := hi.1
  have e0 : (i : Int).toNat = i := by omega
  refine cd_seq ?_
  refine cd_region ?_
  refine st (ev_lss rfl rfl) rfl rfl rfl ?_
  refine op_nil ?_
  refine ax_then ?_
  refine At.regs (L' := [(1, _), (6, _), (7, _), (8, _), (9, _)]) (.cons rfl (.cons rfl (.cons rfl (.cons rfl (.cons rfl (.nil _)))))) ?_
  refine cd_seq ?_
  refine cd_if rfl (fun hc9 => ?_) (fun hc9 => ?_)
  ·
    refine cd_skip ?_
    refine ax_then ?_
    refine At.regs (L' := [(1, _), (6, _), (7, _), (8, _), (9, _)]) (.cons rfl (.cons rfl (.cons rfl (.cons rfl (.cons rfl (.nil _)))))) ?_
    refine cd_seq ?_
    refine cd_block ?_
    refine cd_seq ?_
    refine cd_region ?_
    refine st (ev_move rfl) rfl rfl rfl ?_
    refine st (ev_indexAddr_rdh (h := 20) Try.underlying22 ty55 rfl rfl rfl (by assumption) (by omega) (by omega)) rfl rfl rfl ?_
    refine st (ld_rdh (h := 20) ty55 rfl rfl rfl (by assumption) (by omega)) rfl rfl rfl ?_
    refine at_eq (i := 12) (v' := .agg (ints .u8 (ks.getD i [])).toArray) rfl (by rw [e0]) ?_
    have hgl := hu.get (i := i) (by omega)
    refine st_alloc (h := 4) ty55 rfl rfl rfl (fun b4 => ?_)
    refine st (ev_assign rfl) rfl rfl rfl ?_
    refine st_store_all 4 ty55 rfl rfl rfl rfl (by first | omega | (simp only [List.length_append, List.length_cons, List.length_nil, List.length_set, List.length_replicate, List.length_take, List.length_drop, ints_length, wr_length] <;> omega) | exact H32.get (by assumption) (by omega) | rfl) (ints_one _ _) (by first | omega | (simp only [List.length_append, List.length_cons, List.length_nil, List.length_set, List.length_replicate, List.length_take, List.length_drop, ints_length, wr_length] <;> omega) | exact H32.get (by assumption) (by omega) | rfl) rfl ?_
    refine op_nil ?_
    refine ax_then ?_
    refine At.regs (L' := [(1, _), (3, _), (4, _), (6, _), (7, _), (8, _), (9, _), (10, _), (11, _), (12, _)]) (.cons rfl (.cons rfl (.cons rfl (.cons rfl (.cons rfl (.cons rfl (.cons rfl (.cons rfl (.cons rfl (.cons rfl (.nil _))))))))))) ?_
    refine cd_seq ?_
    refine cd_open hmix (by decide +kernel) ?_
    refine qt (ev_fieldAddr (b := _) Try.underlying24 (f := _) rfl ty22 (by decide) rfl) rfl rfl rfl ?_
    refine qt (ld_blk1 (h := 1) ty22 rfl rfl rfl rfl) rfl rfl rfl ?_
    refine qt (ev_move rfl) rfl rfl rfl ?_
    refine qt (ev_sliceh_hi Try.underlying22 ty55 rfl rfl (fun w1 sw => sw.sl_rd (h := 20) rfl) (by assumption) (by omega) (by first | omega | (simp only [List.length_append, List.length_cons, List.length_nil, List.length_set, List.length_replicate, List.length_take, List.length_drop, ints_length, wr_length] <;> omega))) rfl rfl rfl ?_
    refine qt_eq (i := 16) (v' := cutAt 32 sv 0 i) rfl (by rw [e0]) ?_
    refine qt (ld_blk_all (h := 4) ty55 rfl rfl rfl (by first | omega | (simp only [List.length_append, List.length_cons, List.length_nil, List.length_set, List.length_replicate, List.length_take, List.length_drop, ints_length, wr_length] <;> omega) | exact H32.get (by assumption) (by omega) | rfl)) rfl rfl rfl ?_
    refine qt_callv has89 rfl (fun w1 sw => contains_any (cutAt 32 sv 0 i) (ks.take i) (ks.getD i []) w1 (hu.take i) hgl (by rw [List.length_take]; omega) (takeh (sw.sl_rd (h := 20) rfl) hu (by omega))) rfl rfl ?_
    refine qt_end ?_
    refine op_nil ?_
    refine ax_then ?_
    refine At.regs (L' := [(1, _), (3, _), (4, _), (6, _), (7, _), (8, _), (9, _), (10, _), (11, _), (12, _), (13, _), (14, _), (15, _), (16, _), (17, _), (18, _)]) (.cons rfl (.cons rfl (.cons rfl (.cons rfl (.cons rfl (.cons rfl (.cons rfl (.cons rfl (.cons rfl (.cons rfl (.cons rfl (.cons rfl (.cons rfl (.cons rfl (.cons rfl (.cons rfl (.nil _))))))))))))))))) ?_
    refine cd_if rfl (fun hc18 => ?_) (fun hc18 => ?_)
    ·
      refine cd_seq ?_
      refine cd_region ?_
      refine st (ev_assign rfl) rfl rfl rfl ?_
      refine op_nil ?_
      refine ax_then ?_
      refine At.regs (L' := [(1, _), (2, _), (3, _), (4, _), (6, _), (7, _), (8, _), (9, _), (10, _), (11, _), (12, _), (13, _), (14, _), (15, _), (16, _), (17, _), (18, _)]) (.cons rfl (.cons rfl (.cons rfl (.cons rfl (.cons rfl (.cons rfl (.cons rfl (.cons rfl (.cons rfl (.cons rfl (.cons rfl (.cons rfl (.cons rfl (.cons rfl (.cons rfl (.cons rfl (.cons rfl (.nil _)))))))))))))))))) ?_
      refine cd_ret ?_
      refine ax_block_ret ?_
      refine ax_then_ret ?_
      refine ax_then_ret ?_
      refine ax_block_ret ?_
      refine ax_then_ret ?_
      refine rt_tmp (.inl rfl) Try.results58 rfl ?_
      exact fun w1 sw => ⟨congrArg (fun b => Ending.returned (Value.bool b)) (decide_eq_false (fun hh => hh.1 i (by omega) hc18)).symm, sw.gives (.nil _)⟩
    ·
      refine cd_skip ?_
      refine ax_block ?_
      refine ax_then ?_
      refine At.regs (L' := [(1, _), (3, _), (4, _), (6, _), (7, _), (8, _), (9, _), (10, _), (11, _), (12, _), (13, _), (14, _), (15, _), (16, _), (17, _), (18, _)]) (.cons rfl (.cons rfl (.cons rfl (.cons rfl (.cons rfl (.cons rfl (.cons rfl (.cons rfl (.cons rfl (.cons rfl (.cons rfl (.cons rfl (.cons rfl (.cons rfl (.cons rfl (.cons rfl (.nil _))))))))))))))))) ?_
      refine cd_region ?_
      refine st (ev_add64 rfl rfl (by omega) (by omega)) rfl rfl rfl ?_
      refine st (ev_move rfl) rfl rfl rfl ?_
      refine op_nil ?_
      exact at_again (i + 1) (⟨by omega, fun j hj => (Nat.lt_succ_iff_lt_or_eq.1 hj).elim (hi.2 j) (fun e => by subst e; exact hc18)⟩) (by omega) (.cons rfl (.cons rfl (.cons rfl (.cons rfl (.nil _))))) (.cons rfl (.nil _)) (.cons rfl (.nil _))
  ·
    obtain rfl : i = ks.length := by omega
    refine cd_exit ?_
    refine ax_then_exit ?_
    refine ax_then_exit ?_
    refine ax_block_hit ?_
    refine ax_then ?_
    refine At.regs (L' := [(1, _)]) (.cons rfl (.nil _)) ?_
    refine cd_seq ?_
    refine cd_region ?_
    refine st (ev_fieldAddr (b := _) Try.underlying24 (f := _) rfl ty22 (by decide) rfl) rfl rfl rfl ?_
    refine st (ld_blk1 (h := 1) ty22 rfl rfl rfl rfl) rfl rfl rfl ?_
    refine st (ev_len_rdh (h := 20) Try.underlying22 rfl rfl (by assumption)) rfl rfl rfl ?_
    refine st (ev_geq rfl rfl) rfl rfl rfl ?_
    refine st (ev_move rfl) rfl rfl rfl ?_
    refine at_split_if (i := 24) rfl (fun hg24 => ?_) (fun hg24 => ?_)
    ·
      refine st (ev_fieldAddr (b := _) Try.underlying24 (f := _) rfl ty22 (by decide) rfl) rfl rfl rfl ?_
      refine st (ld_blk1 (h := 1) ty22 rfl rfl rfl rfl) rfl rfl rfl ?_
      refine st (ev_len_rdh (h := 20) Try.underlying22 rfl rfl (by assumption)) rfl rfl rfl ?_
      refine st (ev_leq rfl rfl) rfl rfl rfl ?_
      refine st (ev_pick_t rfl rfl) rfl rfl rfl ?_
      refine st (ev_move rfl) rfl rfl rfl ?_
      refine at_split_if (i := 30) rfl (fun hg30 => ?_) (fun hg30 => ?_)
      ·
        refine st (ev_fieldAddr (b := _) Try.underlying24 (f := _) rfl ty3 (by decide) rfl) rfl rfl rfl ?_
        refine st (ld_blk1 (h := 1) ty3 rfl rfl rfl rfl) rfl rfl rfl ?_
        refine st (ev_geq rfl rfl) rfl rfl rfl ?_
        refine st (ev_pick_t rfl rfl) rfl rfl rfl ?_
        refine st (ev_move rfl) rfl rfl rfl ?_
        refine at_split_if (i := 35) rfl (fun hg35 => ?_) (fun hg35 => ?_)
        ·
          refine st (ev_fieldAddr (b := _) Try.underlying24 (f := _) rfl ty3 (by decide) rfl) rfl rfl rfl ?_
          refine st (ld_blk1 (h := 1) ty3 rfl rfl rfl rfl) rfl rfl rfl ?_
          refine st (ev_fieldAddr (b := _) Try.underlying24 (f := _) rfl ty22 (by decide) rfl) rfl rfl rfl ?_
          refine st (ld_blk1 (h := 1) ty22 rfl rfl rfl rfl) rfl rfl rfl ?_
          refine st (ev_len_rdh (h := 20) Try.underlying22 rfl rfl (by assumption)) rfl rfl rfl ?_
          refine st (ev_leq rfl rfl) rfl rfl rfl ?_
          refine st (ev_pick_t rfl rfl) rfl rfl rfl ?_
          refine st (ev_assign rfl) rfl rfl rfl ?_
          refine op_nil ?_
          refine ax_then ?_
          refine At.regs (L' := [(2, _)]) (.cons rfl (.nil _)) ?_
          refine cd_ret ?_
          refine rt_tmp (.inl rfl) Try.results58 rfl ?_
          exact fun w1 sw => ⟨congrArg (fun b => Ending.returned (Value.bool b)) (decide_eq_decide.2 ⟨fun h => ⟨hi.2, by omega, by omega, by omega, by omega⟩, fun h => h.2.2.2.2⟩), sw.gives (.nil _)⟩
        ·
          refine st_skip rfl rfl rfl ?_
          refine st_skip rfl rfl rfl ?_
          refine st_skip rfl rfl rfl ?_
          refine st_skip rfl rfl rfl ?_
          refine st_skip rfl rfl rfl ?_
          refine st_skip rfl rfl rfl ?_
          refine st (ev_pick_f rfl rfl) rfl rfl rfl ?_
          refine st (ev_assign rfl) rfl rfl rfl ?_
          refine op_nil ?_
          refine ax_then ?_
          refine At.regs (L' := [(2, _)]) (.cons rfl (.nil _)) ?_
          refine cd_ret ?_
          refine rt_tmp (.inl rfl) Try.results58 rfl ?_
          exact fun w1 sw => ⟨congrArg (fun b => Ending.returned (Value.bool b)) (decide_eq_false (fun hh => by obtain ⟨_, a1, a2, a3, a4⟩ := hh; omega)).symm, sw.gives (.nil _)⟩
      ·
        refine st_skip rfl rfl rfl ?_
        refine st_skip rfl rfl rfl ?_
        refine st_skip rfl rfl rfl ?_
        refine st (ev_pick_f rfl rfl) rfl rfl rfl ?_
        refine st (ev_move rfl) rfl rfl rfl ?_
        refine st_skip rfl rfl rfl ?_
        refine st_skip rfl rfl rfl ?_
        refine st_skip rfl rfl rfl ?_
        refine st_skip rfl rfl rfl ?_
        refine st_skip rfl rfl rfl ?_
        refine st_skip rfl rfl rfl ?_
        refine st (ev_pick_f rfl rfl) rfl rfl rfl ?_
        refine st (ev_assign rfl) rfl rfl rfl ?_
        refine op_nil ?_
        refine ax_then ?_
        refine At.regs (L' := [(2, _)]) (.cons rfl (.nil _)) ?_
        refine cd_ret ?_
        refine rt_tmp (.inl rfl) Try.results58 rfl ?_
        exact fun w1 sw => ⟨congrArg (fun b => Ending.returned (Value.bool b)) (decide_eq_false (fun hh => by obtain ⟨_, a1, a2, a3, a4⟩ := hh; omega)).symm, sw.gives (.nil _)⟩
    ·
      refine st_skip rfl rfl rfl ?_
      refine st_skip rfl rfl rfl ?_
      refine st_skip rfl rfl rfl ?_
      refine st_skip rfl rfl rfl ?_
      refine st (ev_pick_f rfl rfl) rfl rfl rfl ?_
      refine st (ev_move rfl) rfl rfl rfl ?_
      refine st_skip rfl rfl rfl ?_
      refine st_skip rfl rfl rfl ?_
      refine st_skip rfl rfl rfl ?_
      refine st (ev_pick_f rfl rfl) rfl rfl rfl ?_
      refine st (ev_move rfl) rfl rfl rfl ?_
      refine st_skip rfl rfl rfl ?_
      refine st_skip rfl rfl rfl ?_
      refine st_skip rfl rfl rfl ?_
      refine st_skip rfl rfl rfl ?_
      refine st_skip rfl rfl rfl ?_
      refine st_skip rfl rfl rfl ?_
      refine st (ev_pick_f rfl rfl) rfl rfl rfl ?_
      refine st (ev_assign rfl) rfl rfl rfl ?_
      refine op_nil ?_
      refine ax_then ?_
      refine At.regs (L' := [(2, _)]) (.cons rfl (.nil _)) ?_
      refine cd_ret ?_
      refine rt_tmp (.inl rfl) Try.results58 rfl ?_
      exact fun w1 sw => ⟨congrArg (fun b => Ending.returned (Value.bool b)) (decide_eq_false (fun hh => by obtain ⟨_, a1, a2, a3, a4⟩ := hh; omega)).symm, sw.gives (.nil _)⟩
end Go.Proofs.Ytgfnmolbagilmaa

namespace Go.Proofs.Ytgfnmolbagilmaa
open Go Go.RowKit Fw
open Sha
open Ots
open Mk
set_option linter.unusedVariables false
set_option linter.unusedSimpArgs false
set_option maxRecDepth 20000 in
set_option maxHeartbeats 2000000 in
theorem whoC_any (x : Qm.Mark) (b8 b2 : Nat) (h body : List Int) (pb mv : Value) (w : World) (hl : h.length = 32) (h8 : Lies w b8 0 (ints .u8 h)) (h2 : Lies w b2 0 [pb, mv]) (hbody : Rd w pb 1 (ints .u8 body)) (hbl : body.length ≤ 140737488352000) (hx : Qm.MOk x) (hr : Qm.MRd w x) : Calls Try.prog 90 #[(.agg (Qm.mcells x).toArray), .pointer (some ⟨b8, 0, none⟩), .pointer (some ⟨b2, 0, none⟩)] w (PostV w (.bool (decide (Qm.hits h body x)))) := by
  have hml := Qm.mcells_len hx
  have hkl := hx.1
  refine calls_at (vs := [(.agg (Qm.mcells x).toArray), .pointer (some ⟨b8, 0, none⟩), .pointer (some ⟨b2, 0, none⟩)]) (X := []) (H := []) (F := [(24, .mem b2 0 [pb, mv]), (23, .mem b8 0 (ints .u8 h)), (22, .sl (pb) 1 (ints .u8 (body))), (21, .sl (x.vp) 32 (flat (x.ps))), (20, .sl (x.vc) 32 (flat (x.cs)))]) 17 Try.func90 rfl rfl rfl (((((Sat.rd0 20 hr.1).more 21 hr.2).more 22 hbody).read (f := .mem b8 0 (ints .u8 h)) 23 h8 off_nil).read (f := .mem b2 0 [pb, mv]) 24 h2 off_nil) ?_
  refine cd_seq ?_
  refine cd_region ?_
  refine st_box (h := 3) rfl rfl rfl rfl (fun b3 => ?_)
  refine st (ev_assign rfl) rfl rfl rfl ?_
  refine op_nil ?_
  refine ax_then ?_
  refine At.regs (L' := [(1, _), (2, _), (3, _), (4, _)]) (.cons rfl (.cons rfl (.cons rfl (.cons rfl (.nil _))))) ?_
  refine cd_seq ?_
  refine cd_region ?_
  refine st (ev_fieldAddr (b := _) Try.underlying82 (f := _) rfl ty55 (by decide) rfl) rfl rfl rfl ?_
  refine st (ld_blk (h := 3) ty55 rfl rfl rfl (by rw [hml]; show 0 + 32 ≤ 35; decide)) rfl rfl rfl ?_
  refine at_eq (i := 6) (v' := .agg (ints .u8 (x.key)).toArray) rfl (congrArg (fun x => Value.agg (List.toArray x)) (Qm.mkey hx)) ?_
  refine st (ld_mem_all (h := 23) ty55 rfl rfl rfl (by first | omega | (simp only [List.length_append, List.length_cons, List.length_nil, List.length_set, List.length_replicate, List.length_take, List.length_drop, ints_length, wr_length, sha_len, node_len, recov_len, Ky.named_len, Ky.keyPub_len] <;> omega) | rfl)) rfl rfl rfl ?_
  refine st (ev_eql_arr Try.underlying55 ty5 eqg55 rfl rfl (by first | omega | (simp only [List.length_append, List.length_cons, List.length_nil, List.length_set, List.length_replicate, List.length_take, List.length_drop, ints_length, wr_length, sha_len, node_len, recov_len, Ky.named_len, Ky.keyPub_len] <;> omega) | rfl) (by first | omega | (simp only [List.length_append, List.length_cons, List.length_nil, List.length_set, List.length_replicate, List.length_take, List.length_drop, ints_length, wr_length, sha_len, node_len, recov_len, Ky.named_len, Ky.keyPub_len] <;> omega) | rfl)) rfl rfl rfl ?_
  refine st (ev_move rfl) rfl rfl rfl ?_
  refine at_split_if (i := 9) rfl (fun hg9 => ?_) (fun hg9 => ?_)
  ·
    refine st (ld_mem_all (h := 23) ty55 rfl rfl rfl (by first | omega | (simp only [List.length_append, List.length_cons, List.length_nil, List.length_set, List.length_replicate, List.length_take, List.length_drop, ints_length, wr_length, sha_len, node_len, recov_len, Ky.named_len, Ky.keyPub_len] <;> omega) | rfl)) rfl rfl rfl ?_
    refine st (ev_fieldAddr (b := _) Try.underlying31 (f := _) rfl ty28 (by decide) rfl) rfl rfl rfl ?_
    refine st (ld_mem1 (h := 24) ty28 rfl rfl rfl (Nat.zero_add _).symm rfl) rfl rfl rfl ?_
    refine st (ev_fieldAddr (b := _) Try.underlying82 (f := _) rfl ty80 (by decide) rfl) rfl rfl rfl ?_
    refine st (ld_blk (h := 3) ty80 rfl rfl rfl (by rw [hml]; show 32 + 3 ≤ 35; decide)) rfl rfl rfl ?_
    refine at_eq (i := 14) (v' := .agg (List.toArray [.int .i64 x.leaf, x.vc, x.vp])) rfl (congrArg (fun x => Value.agg (List.toArray x)) (Qm.msig hx)) ?_
    refine st_callv has91 rfl (fun w1 sw => verify_any h pb body x.leaf x.vc x.vp x.cs x.ps w1 hl hbl hx.2.1 hx.2.2.1 hx.2.2.2.1 hx.2.2.2.2 (sw.sl_rd (h := 22) rfl) (sw.sl_rd (h := 20) rfl) (sw.sl_rd (h := 21) rfl)) rfl rfl ?_
    refine st (ev_pick_t rfl rfl) rfl rfl rfl ?_
    refine st (ev_assign rfl) rfl rfl rfl ?_
    refine op_nil ?_
    refine ax_then ?_
    refine At.regs (L' := [(4, _)]) (.cons rfl (.nil _)) ?_
    refine cd_ret ?_
    refine rt_tmp (.inl rfl) Try.results90 rfl ?_
    exact fun w1 sw => ⟨congrArg (fun b => Ending.returned (Value.bool b)) (by first | exact (decide_eq_false (fun hh => hg9 hh.1)).symm | exact decide_eq_decide.2 ⟨fun hh => ⟨hg9, hh⟩, fun hh => hh.2⟩), sw.gives (.nil _)⟩
  ·
    refine st_skip rfl rfl rfl ?_
    refine st_skip rfl rfl rfl ?_
    refine st_skip rfl rfl rfl ?_
    refine st_skip rfl rfl rfl ?_
    refine st_skip rfl rfl rfl ?_
    refine st_skip rfl rfl rfl ?_
    refine st (ev_pick_f rfl rfl) rfl rfl rfl ?_
    refine st (ev_assign rfl) rfl rfl rfl ?_
    refine op_nil ?_
    refine ax_then ?_
    refine At.regs (L' := [(4, _)]) (.cons rfl (.nil _)) ?_
    refine cd_ret ?_
    refine rt_tmp (.inl rfl) Try.results90 rfl ?_
    exact fun w1 sw => ⟨congrArg (fun b => Ending.returned (Value.bool b)) (by first | exact (decide_eq_false (fun hh => hg9 hh.1)).symm | exact decide_eq_decide.2 ⟨fun hh => ⟨hg9, hh⟩, fun hh => hh.2⟩), sw.gives (.nil _)⟩
set_option maxRecDepth 20000 in
set_option maxHeartbeats 2000000 in
theorem indexF_any (v : Value) (ms : List Qm.Mark) (w : World) (k : Nat) (hk : Has Try.prog k) (vf vc : List Value) (p : Qm.Mark → Bool) (hc : ∀ (w1 : World) (x : Qm.Mark), Qm.Keeps w w1 → x ∈ ms → Calls Try.prog k (vf ++ [Value.agg (Qm.mcells x).toArray] ++ vc).toArray w1 (PostV w1 (.bool (p x)))) (ha : Qm.AOk ms) (hl : ms.length ≤ 1000000) (h : Rd w v 35 (Qm.mflat ms)) : Calls Try.prog 119 #[v, .func (.func k) vf.toArray vc.toArray] w (PostV w (.int .i64 (Qm.firstP p ms))) := by
  refine calls_at (vs := [v, .func (.func k) vf.toArray vc.toArray]) (X := []) (H := []) (F := [(0, .sl (v) 35 (Qm.mflat (ms)))]) 19 Try.func119 rfl rfl rfl (Sat.rd0 0 h) ?_
  refine cd_seq ?_
  refine cd_region ?_
  refine st (ev_assign rfl) rfl rfl rfl ?_
  refine op_nil ?_
  refine ax_then ?_
  refine At.regs (L' := [(0, _), (1, _), (4, _)]) (.cons rfl (.cons rfl (.cons rfl (.nil _)))) ?_
  refine cd_seq ?_
  refine cd_seq ?_
  refine cd_region ?_
  refine st (ev_move rfl) rfl rfl rfl ?_
  refine st (ev_len_rd (h := 0) (n := ms.length) Try.underlying29 rfl rfl (Qm.mflat_len ha) (by decide)) rfl rfl rfl ?_
  refine st (ev_move rfl) rfl rfl rfl ?_
  refine op_nil ?_
  refine ax_then ?_
  refine At.regs (L' := [(0, _), (1, _), (4, _), (7, _), (8, _)]) (.cons rfl (.cons rfl (.cons rfl (.cons rfl (.cons rfl (.nil _)))))) ?_
  refine cd_block ?_
  refine cd_loop (ι := Nat) (fun i => i ≤ ms.length ∧ ∀ j, (hj : j < i) → (hm : j < ms.length) → p ms[j] = false) (fun i => ms.length - i)
      (fun i => [(0, v), (1, .func (.func k) vf.toArray vc.toArray), (7, .int .i64 (ms.length : Nat)), (8, .int .i64 (i : Int))])
      (fun i => [])
      (fun i => [(0, .sl (v) 35 (Qm.mflat (ms)))])
      0 (⟨by omega, fun j hj => by omega⟩) (.cons rfl (.cons rfl (.cons rfl (.cons rfl (.nil _))))) (.nil _) (.cons rfl (.nil _)) (fun i hi => ?_)
  have hi1 := hi.1
  have hfl := Qm.mflat_len ha
  refine cd_seq ?_
  refine cd_region ?_
  refine st (ev_lss rfl rfl) rfl rfl rfl ?_
  refine op_nil ?_
  refine ax_then ?_
  refine At.regs (L' := [(0, _), (1, _), (7, _), (8, _), (9, _)]) (.cons rfl (.cons rfl (.cons rfl (.cons rfl (.cons rfl (.nil _)))))) ?_
  refine cd_seq ?_
  refine cd_if rfl (fun hc9 => ?_) (fun hc9 => ?_)
  ·
    have hlt : i < ms.length := by omega
    refine cd_skip ?_
    refine ax_then ?_
    refine At.regs (L' := [(0, _), (1, _), (7, _), (8, _), (9, _)]) (.cons rfl (.cons rfl (.cons rfl (.cons rfl (.cons rfl (.nil _)))))) ?_
    refine cd_seq ?_
    refine cd_block ?_
    refine cd_seq ?_
    refine cd_region ?_
    refine st (ev_move rfl) rfl rfl rfl ?_
    refine st (ev_assign rfl) rfl rfl rfl ?_
    refine op_nil ?_
    refine ax_then ?_
    refine At.regs (L' := [(0, _), (1, _), (5, _), (7, _), (8, _), (9, _), (10, _)]) (.cons rfl (.cons rfl (.cons rfl (.cons rfl (.cons rfl (.cons rfl (.cons rfl (.nil _)))))))) ?_
    refine cd_seq ?_
    refine cd_region ?_
    refine st (ev_move rfl) rfl rfl rfl ?_
    refine st (ev_move rfl) rfl rfl rfl ?_
    refine st (ev_move rfl) rfl rfl rfl ?_
    refine st (ev_indexAddr_rd (h := 0) (n := ms.length) Try.underlying29 ty82 rfl rfl rfl (Qm.mflat_len ha) (by decide) (by omega) (by omega)) rfl rfl rfl ?_
    refine st (ld_rd (h := 0) ty82 rfl rfl rfl (by decide) (by rw [hfl, Int.toNat_natCast]; omega)) rfl rfl rfl ?_
    refine at_eq (i := 15) (v' := .agg (Qm.mcells ms[i]).toArray) rfl (congrArg (fun x => Value.agg (List.toArray x)) (by rw [Int.toNat_natCast]; exact Qm.mflat_get ha hlt)) ?_
    refine st_callv_fn hk rfl rfl rfl (fun w1 sw => hc w1 ms[i] (Qm.Keeps.of sw) (List.getElem_mem hlt)) rfl rfl ?_
    refine op_nil ?_
    refine ax_then ?_
    refine At.regs (L' := [(0, _), (1, _), (5, _), (7, _), (8, _), (9, _), (10, _), (11, _), (12, _), (13, _), (14, _), (15, _), (16, _)]) (.cons rfl (.cons rfl (.cons rfl (.cons rfl (.cons rfl (.cons rfl (.cons rfl (.cons rfl (.cons rfl (.cons rfl (.cons rfl (.cons rfl (.cons rfl (.nil _)))))))))))))) ?_
    refine cd_cond rfl (fun hc16 => ?_) (fun hc16 => ?_)
    ·
      refine cd_seq ?_
      refine cd_region ?_
      refine st (ev_move rfl) rfl rfl rfl ?_
      refine st (ev_assign rfl) rfl rfl rfl ?_
      refine op_nil ?_
      refine ax_then ?_
      refine At.regs (L' := [(0, _), (1, _), (4, _), (5, _), (7, _), (8, _), (9, _), (10, _), (11, _), (12, _), (13, _), (14, _), (15, _), (16, _), (17, _)]) (.cons rfl (.cons rfl (.cons rfl (.cons rfl (.cons rfl (.cons rfl (.cons rfl (.cons rfl (.cons rfl (.cons rfl (.cons rfl (.cons rfl (.cons rfl (.cons rfl (.cons rfl (.nil _)))))))))))))))) ?_
      refine cd_ret ?_
      refine ax_block_ret ?_
      refine ax_then_ret ?_
      refine ax_then_ret ?_
      refine ax_block_ret ?_
      refine ax_then_ret ?_
      refine rt_tmp (.inl rfl) Try.results119 rfl ?_
      exact fun w1 sw => ⟨by rw [Qm.firstP_hit hlt (fun j hj => hi.2 j hj (by omega)) hc16], sw.gives (.nil _)⟩
    ·
      refine cd_skip ?_
      refine ax_block ?_
      refine ax_then ?_
      refine At.regs (L' := [(0, _), (1, _), (5, _), (7, _), (8, _), (9, _), (10, _), (11, _), (12, _), (13, _), (14, _), (15, _), (16, _)]) (.cons rfl (.cons rfl (.cons rfl (.cons rfl (.cons rfl (.cons rfl (.cons rfl (.cons rfl (.cons rfl (.cons rfl (.cons rfl (.cons rfl (.cons rfl (.nil _)))))))))))))) ?_
      refine cd_region ?_
      refine st (ev_add64 rfl rfl (by omega) (by omega)) rfl rfl rfl ?_
      refine st (ev_move rfl) rfl rfl rfl ?_
      refine op_nil ?_
      exact at_again (i + 1) (⟨by omega, fun j hj hm => (Nat.lt_succ_iff_lt_or_eq.1 hj).elim (fun h => hi.2 j h hm) (fun e => by subst e; exact hc16)⟩) (by omega) (.cons rfl (.cons rfl (.cons rfl (.cons rfl (.nil _))))) (.nil _) (.cons rfl (.nil _))
  ·
    obtain rfl : i = ms.length := by omega
    refine cd_exit ?_
    refine ax_then_exit ?_
    refine ax_then_exit ?_
    refine ax_block_hit ?_
    refine ax_then ?_
    refine At.regs (L' := []) (.nil _) ?_
    refine cd_seq ?_
    refine cd_region ?_
    refine st (ev_assign rfl) rfl rfl rfl ?_
    refine op_nil ?_
    refine ax_then ?_
    refine At.regs (L' := [(4, _)]) (.cons rfl (.nil _)) ?_
    refine cd_ret ?_
    refine rt_tmp (.inl rfl) Try.results119 rfl ?_
    exact fun w1 sw => ⟨by rw [Qm.firstP_miss (fun j hj => hi.2 j hj hj)], sw.gives (.nil _)⟩
set_option maxRecDepth 20000 in
set_option maxHeartbeats 1000000 in
theorem containsF_any (v : Value) (ms : List Qm.Mark) (w : World) (k : Nat) (hk : Has Try.prog k) (vf vc : List Value) (p : Qm.Mark → Bool) (hc : ∀ (w1 : World) (x : Qm.Mark), Qm.Keeps w w1 → x ∈ ms → Calls Try.prog k (vf ++ [Value.agg (Qm.mcells x).toArray] ++ vc).toArray w1 (PostV w1 (.bool (p x)))) (ha : Qm.AOk ms) (hl : ms.length ≤ 1000000) (h : Rd w v 35 (Qm.mflat ms)) : Calls Try.prog 92 #[v, .func (.func k) vf.toArray vc.toArray] w (PostV w (.bool (ms.any p))) := by
  refine calls_at (vs := [v, .func (.func k) vf.toArray vc.toArray]) (X := []) (H := []) (F := [(0, .sl (v) 35 (Qm.mflat (ms)))]) 9 Try.func92 rfl rfl rfl (Sat.rd0 0 h) ?_
  refine cd_seq ?_
  refine cd_region ?_
  refine st (ev_assign rfl) rfl rfl rfl ?_
  refine op_nil ?_
  refine ax_then ?_
  refine At.regs (L' := [(0, _), (1, _), (4, _)]) (.cons rfl (.cons rfl (.cons rfl (.nil _)))) ?_
  refine cd_seq ?_
  refine cd_region ?_
  refine st (ev_move rfl) rfl rfl rfl ?_
  refine st (ev_move rfl) rfl rfl rfl ?_
  refine st_callv has119 rfl (fun w1 sw => indexF_any v ms w1 k hk vf vc p (fun w2 x hk2 hx => hc w2 x (fun b hb => (hk2 b (Nat.lt_of_lt_of_le hb sw.size)).trans (sw.old b hb (by simp))) hx) ha hl (sw.sl_rd (h := 0) rfl)) rfl rfl ?_
  refine st (ev_geq rfl rfl) rfl rfl rfl ?_
  refine st (ev_assign rfl) rfl rfl rfl ?_
  refine op_nil ?_
  refine ax_then ?_
  refine At.regs (L' := [(4, _)]) (.cons rfl (.nil _)) ?_
  refine cd_ret ?_
  refine rt_tmp (.inl rfl) Try.results92 rfl ?_
  exact fun w1 sw => ⟨congrArg (fun b => Ending.returned (Value.bool b)) (Qm.firstP_ge p ms), sw.gives (.nil _)⟩
theorem rd_cutm {w : World} {v : Value} {ms : List Qm.Mark} (ha : Qm.AOk ms) (h : Rd w v 35 (Qm.mflat ms)) {n : Nat} (hn : n ≤ ms.length) : Rd w (cutAt 35 v 0 n) 35 (Qm.mflat (ms.take n)) := by
  have := rd_cut (n := ms.length) (lo := 0) (hi := n) h (by decide) (Qm.mflat_len ha) (Nat.zero_le _) hn
  rw [Nat.zero_mul, List.drop_zero, Nat.sub_zero, Qm.mflat_take n ha] at this
  exact this
theorem idx_mem {hs : List (List Int)} {h : List Int} : (0 ≤ idx hs h) ↔ h ∈ hs := by
  constructor
  · intro h0
    apply Classical.byContradiction
    intro hn
    exact (idx_neg.2 fun j hj e => hn (by rw [e, List.getD_eq_getElem?_getD, List.getElem?_eq_getElem hj]; exact List.getElem_mem hj)) h0
  · intro hm
    apply Classical.byContradiction
    intro hn
    obtain ⟨j, hj, e⟩ := List.getElem_of_mem hm
    exact idx_neg.1 hn j hj (by rw [List.getD_eq_getElem?_getD, List.getElem?_eq_getElem hj]; exact e.symm)
theorem any4 (body : List Int) (ms : List Qm.Mark) (h : List Int) : (ms.take 4).any (fun x => decide (Qm.hits h body x)) = decide (Qm.some4 body ms h) := by
  rw [Bool.eq_iff_iff, List.any_eq_true, decide_eq_true_eq]
  exact ⟨fun ⟨x, hx, hh⟩ => ⟨x, hx, of_decide_eq_true hh⟩, fun ⟨x, hx, hh⟩ => ⟨x, hx, decide_eq_true hh⟩⟩
theorem take_min (ms : List Qm.Mark) : ms.take (min ms.length 4) = ms.take 4 := by
  rcases Nat.le_total ms.length 4 with h | h
  · rw [Nat.min_eq_left h, List.take_length, List.take_of_length_le h]
  · rw [Nat.min_eq_right h]
set_option maxRecDepth 20000 in
set_option maxHeartbeats 4000000 in
theorem who_any (pb mv kv : Value) (need : Int) (body : List Int) (ms : List Qm.Mark) (ks : List (List Int)) (w : World) (hbody : Rd w pb 1 (ints .u8 body)) (hbl : body.length ≤ 140737488352000) (ha : Qm.AOk ms) (hml : ms.length ≤ 1000000) (hm : Rd w mv 35 (Qm.mflat ms)) (hmr : ∀ x, x ∈ ms → Qm.MRd w x) (hu : H32 ks) (hkl : ks.length ≤ 1000000) (hk : Rd w kv 32 (flat ks)) : Calls Try.prog 59 #[.agg (List.toArray [pb, mv]), .agg (List.toArray [kv, .int .i64 need])] w (Post (ι := Value) w [] (fun _ => True) (fun v => v) (fun v => [(0, .own (v) 55 32 (flat (Qm.who body ms ks)))])) := by
  refine calls_at (vs := [.agg (List.toArray [pb, mv]), .agg (List.toArray [kv, .int .i64 need])]) (X := []) (H := []) (F := [(22, .sl (pb) 1 (ints .u8 (body))), (21, .sl (mv) 35 (Qm.mflat (ms))), (20, .sl (kv) 32 (flat (ks)))]) 40 Try.func59 rfl rfl rfl (((Sat.rd0 20 hk).more 21 hm).more 22 hbody) ?_
  refine cd_seq ?_
  refine cd_region ?_
  refine st_box (h := 2) rfl rfl rfl rfl (fun b2 => ?_)
  refine st_box (h := 3) rfl rfl rfl rfl (fun b3 => ?_)
  refine st (ev_assign rfl) rfl rfl rfl ?_
  refine at_own_nil 4 55 32 ?_
  refine at_heq (i := 4) (v' := .own (.slice none 0 0) 55 32 (flat [])) rfl rfl ?_
  have hu4 := H32.nil
  refine op_nil ?_
  refine ax_then ?_
  refine At.regs (L' := [(2, _), (3, _), (4, _)]) (.cons rfl (.cons rfl (.cons rfl (.nil _)))) ?_
  refine cd_seq ?_
  refine cd_region ?_
  refine st (ev_fieldAddr (b := _) Try.underlying31 (f := _) rfl ty29 (by decide) rfl) rfl rfl rfl ?_
  refine st (ld_blk1 (h := 2) ty29 rfl rfl rfl rfl) rfl rfl rfl ?_
  refine st (ev_fieldAddr (b := _) Try.underlying31 (f := _) rfl ty29 (by decide) rfl) rfl rfl rfl ?_
  refine st (ld_blk1 (h := 2) ty29 rfl rfl rfl rfl) rfl rfl rfl ?_
  refine st (ev_len_rd (h := 21) (n := ms.length) Try.underlying29 rfl rfl (Qm.mflat_len ha) (by decide)) rfl rfl rfl ?_
  refine st (ev_min2 rfl rfl) rfl rfl rfl ?_
  refine st (ev_slice_rd_hi (n := ms.length) Try.underlying29 ty82 rfl rfl (fun w1 sw => sw.sl_rd (h := 21) rfl) (by decide) (Qm.mflat_len ha) (by omega) (by omega)) rfl rfl rfl ?_
  refine at_eq (i := 16) (v' := cutAt 35 mv 0 (min ms.length 4)) rfl (by congr 1; omega) ?_
  refine st (ev_assign rfl) rfl rfl rfl ?_
  refine op_nil ?_
  refine ax_then ?_
  refine At.regs (L' := [(2, _), (3, _), (4, _), (5, _)]) (.cons rfl (.cons rfl (.cons rfl (.cons rfl (.nil _))))) ?_
  refine cd_seq ?_
  refine cd_region ?_
  refine st (ev_assign rfl) rfl rfl rfl ?_
  refine at_own_nil 6 55 32 ?_
  refine at_heq (i := 6) (v' := .own (.slice none 0 0) 55 32 (flat [])) rfl rfl ?_
  have hu6 := H32.nil
  refine op_nil ?_
  refine ax_then ?_
  refine At.regs (L' := [(2, _), (3, _), (4, _), (5, _), (6, _)]) (.cons rfl (.cons rfl (.cons rfl (.cons rfl (.cons rfl (.nil _)))))) ?_
  refine cd_seq ?_
  refine cd_seq ?_
  refine cd_region ?_
  refine st (ev_fieldAddr (b := _) Try.underlying24 (f := _) rfl ty22 (by decide) rfl) rfl rfl rfl ?_
  refine st (ld_blk1 (h := 3) ty22 rfl rfl rfl rfl) rfl rfl rfl ?_
  refine st (ev_len_rdh (h := 20) Try.underlying22 rfl rfl (by assumption)) rfl rfl rfl ?_
  refine st (ev_move rfl) rfl rfl rfl ?_
  refine op_nil ?_
  refine ax_then ?_
  refine At.regs (L' := [(2, _), (4, _), (5, _), (6, _), (18, _), (19, _), (20, _)]) (.cons rfl (.cons rfl (.cons rfl (.cons rfl (.cons rfl (.cons rfl (.cons rfl (.nil _)))))))) ?_
  refine cd_block ?_
  refine cd_loop (ι := Nat × Value) (fun x => x.1 ≤ ks.length) (fun x => ks.length - x.1)
      (fun x => [(2, .pointer (some ⟨b2, 0, none⟩)), (5, cutAt 35 mv 0 (min ms.length 4)), (6, x.2), (18, kv), (19, .int .i64 (ks.length : Nat)), (20, .int .i64 (x.1 : Int))])
      (fun x => [(2, .blk (b2) (.cells ([pb, mv]).toArray 31)), (3, .blk (b3) (.cells ([kv, .int .i64 need]).toArray 24)), (6, .own (x.2) 55 32 (flat (Qm.who body ms (ks.take (x.1)))))])
      (fun x => [(20, .sl (kv) 32 (flat (ks))), (21, .sl (mv) 35 (Qm.mflat (ms))), (22, .sl (pb) 1 (ints .u8 (body)))])
      (0, .slice none 0 0) (by omega) (.cons rfl (.cons rfl (.cons rfl (.cons rfl (.cons rfl (.cons rfl (.nil _))))))) (.cons rfl (.cons rfl (.cons rfl (.nil _)))) (.cons rfl (.cons rfl (.cons rfl (.nil _)))) (fun x hi => ?_)
  have e0 : (x.1 : Int).toNat = x.1 := by omega
  have hwu := Qm.who_h32 body ms (hu.take x.1)
  have hwl := hwu.2
  have hw32 := hwu.1
  have htl : (ks.take x.1).length ≤ ks.length := by rw [List.length_take]; omega
  have hgx : x.1 < ks.length → (ks.getD x.1 []).length = 32 := fun hh => hu.get hh
  have hgx2 : x.1 < ks.length → (ks.getD (x.1 : Int).toNat []).length = 32 := fun hh => by rw [e0]; exact hu.get hh
  have hst : x.1 < ks.length → ks.take (x.1 + 1) = ks.take x.1 ++ [ks.getD x.1 []] := fun hh => by rw [List.take_succ_eq_append_getElem hh, List.getD_eq_getElem?_getD, List.getElem?_eq_getElem hh]; rfl
  refine cd_seq ?_
  refine cd_region ?_
  refine st (ev_lss rfl rfl) rfl rfl rfl ?_
  refine op_nil ?_
  refine ax_then ?_
  refine At.regs (L' := [(2, _), (5, _), (6, _), (18, _), (19, _), (20, _), (21, _)]) (.cons rfl (.cons rfl (.cons rfl (.cons rfl (.cons rfl (.cons rfl (.cons rfl (.nil _)))))))) ?_
  refine cd_seq ?_
  refine cd_if rfl (fun hc21 => ?_) (fun hc21 => ?_)
  ·
    have hg := hgx (by omega)
    have hg2 := hgx2 (by omega)
    refine cd_skip ?_
    refine ax_then ?_
    refine At.regs (L' := [(2, _), (5, _), (6, _), (18, _), (19, _), (20, _), (21, _)]) (.cons rfl (.cons rfl (.cons rfl (.cons rfl (.cons rfl (.cons rfl (.cons rfl (.nil _)))))))) ?_
    refine cd_join (ι := Value) (fun y => True) (fun y => [(2, .pointer (some ⟨b2, 0, none⟩)), (5, cutAt 35 mv 0 (min ms.length 4)), (6, y), (18, kv), (19, .int .i64 (ks.length : Nat)), (20, .int .i64 (x.1 : Int))]) (fun y => [(2, .blk (b2) (.cells ([pb, mv]).toArray 31)), (3, .blk (b3) (.cells ([kv, .int .i64 need]).toArray 24)), (6, .own (y) 55 32 (flat (Qm.who body ms (ks.take (x.1 + 1)))))]) (fun y => [(20, .sl (kv) 32 (flat (ks))), (21, .sl (mv) 35 (Qm.mflat (ms))), (22, .sl (pb) 1 (ints .u8 (body)))]) ?_ (fun y hj => ?_)
    ·
      refine cd_block ?_
      refine cd_seq ?_
      refine cd_region ?_
      refine st (ev_indexAddr_rdh (h := 20) Try.underlying22 ty55 rfl rfl rfl (by assumption) (by omega) (by omega)) rfl rfl rfl ?_
      refine st (ld_rdh (h := 20) ty55 rfl rfl rfl (by assumption) (by omega)) rfl rfl rfl ?_
      refine at_eq (i := 23) (v' := .agg (ints .u8 (ks.getD x.1 [])).toArray) rfl (by rw [e0]) ?_
      refine st_alloc (h := 8) ty55 rfl rfl rfl (fun b8 => ?_)
      refine st_store_all 8 ty55 rfl rfl rfl rfl (by first | omega | (simp only [List.length_append, List.length_cons, List.length_nil, List.length_set, List.length_replicate, List.length_take, List.length_drop, ints_length, wr_length, sha_len, node_len, recov_len, Ky.named_len, Ky.keyPub_len] <;> omega) | rfl) (ints_one _ _) (by first | omega | (simp only [List.length_append, List.length_cons, List.length_nil, List.length_set, List.length_replicate, List.length_take, List.length_drop, ints_length, wr_length, sha_len, node_len, recov_len, Ky.named_len, Ky.keyPub_len] <;> omega) | rfl) rfl ?_
      refine op_nil ?_
      refine ax_then ?_
      refine At.regs (L' := [(2, _), (5, _), (6, _), (8, _), (18, _), (19, _), (20, _), (21, _), (22, _), (23, _)]) (.cons rfl (.cons rfl (.cons rfl (.cons rfl (.cons rfl (.cons rfl (.cons rfl (.cons rfl (.cons rfl (.cons rfl (.nil _))))))))))) ?_
      refine cd_seq ?_
      refine cd_region ?_
      refine st (ev_func rfl rfl) rfl rfl rfl ?_
      refine st (ev_assign rfl) rfl rfl rfl ?_
      refine op_nil ?_
      refine ax_then ?_
      refine At.regs (L' := [(2, _), (5, _), (6, _), (8, _), (9, _), (18, _), (19, _), (20, _), (21, _), (22, _), (23, _), (24, _)]) (.cons rfl (.cons rfl (.cons rfl (.cons rfl (.cons rfl (.cons rfl (.cons rfl (.cons rfl (.cons rfl (.cons rfl (.cons rfl (.cons rfl (.nil _))))))))))))) ?_
      refine cd_seq ?_
      refine cd_region ?_
      refine st (ev_move rfl) rfl rfl rfl ?_
      refine st (ld_blk_all (h := 8) ty55 rfl rfl rfl (by first | omega | (simp only [List.length_append, List.length_cons, List.length_nil, List.length_set, List.length_replicate, List.length_take, List.length_drop, ints_length, wr_length, sha_len, node_len, recov_len, Ky.named_len, Ky.keyPub_len] <;> omega) | rfl)) rfl rfl rfl ?_
      refine st_callv has89 rfl (fun w1 sw => contains_any x.2 (Qm.who body ms (ks.take (x.1))) (ks.getD x.1 []) w1 hw32 hg (by omega) (sw.own_rd (h := 6) rfl)) rfl rfl ?_
      refine at_eq (i := 27) (v' := .bool (decide (ks.getD x.1 [] ∈ Qm.who body ms (ks.take (x.1))))) rfl (congrArg Value.bool (decide_eq_decide.2 idx_mem)) ?_
      refine st (ev_not_if rfl) rfl rfl rfl ?_
      refine st (ev_move rfl) rfl rfl rfl ?_
      refine at_split_if (i := 29) rfl (fun hg29 => ?_) (fun hg29 => ?_)
      ·
        refine st (ev_move rfl) rfl rfl rfl ?_
        refine st (ev_move rfl) rfl rfl rfl ?_
        refine st_callv has92 rfl (fun w1 sw => containsF_any (cutAt 35 mv 0 (min ms.length 4)) (ms.take (min ms.length 4)) w1 90 has90 [] [.pointer (some ⟨b8, 0, none⟩), .pointer (some ⟨b2, 0, none⟩)] (fun y => decide (Qm.hits (ks.getD x.1 []) body y)) (fun w2 y hk2 hy => whoC_any y b8 b2 (ks.getD x.1 []) body pb mv w2 hg (hk2.lies (lies_blk (sw.blk_eq (h := 8) rfl))) (hk2.lies (lies_blk (sw.blk_eq (h := 2) rfl))) (hk2.rd (sw.sl_rd (h := 22) rfl)) hbl (ha y (List.mem_of_mem_take hy)) (hk2.mrd ((Qm.Keeps.of sw).mrd (hmr y (List.mem_of_mem_take hy))))) (ha.take _) (by rw [List.length_take]; omega) (rd_cutm ha (sw.sl_rd (h := 21) rfl) (by omega))) rfl rfl ?_
        refine at_eq (i := 32) (v' := .bool (decide (Qm.some4 body ms (ks.getD x.1 [])))) rfl (by rw [take_min, any4]) ?_
        refine st (ev_pick_t rfl rfl) rfl rfl rfl ?_
        refine op_nil ?_
        refine ax_then ?_
        refine At.regs (L' := [(2, _), (5, _), (6, _), (8, _), (9, _), (18, _), (19, _), (20, _), (21, _), (22, _), (23, _), (24, _), (25, _), (26, _), (27, _), (28, _), (29, _), (30, _), (31, _), (32, _), (33, _)]) (.cons rfl (.cons rfl (.cons rfl (.cons rfl (.cons rfl (.cons rfl (.cons rfl (.cons rfl (.cons rfl (.cons rfl (.cons rfl (.cons rfl (.cons rfl (.cons rfl (.cons rfl (.cons rfl (.cons rfl (.cons rfl (.cons rfl (.cons rfl (.cons rfl (.nil _)))))))))))))))))))))) ?_
        refine cd_if rfl (fun hc33 => ?_) (fun hc33 => ?_)
        ·
          refine cd_region ?_
          refine st (ev_move rfl) rfl rfl rfl ?_
          refine st (ld_blk_all (h := 8) ty55 rfl rfl rfl (by first | omega | (simp only [List.length_append, List.length_cons, List.length_nil, List.length_set, List.length_replicate, List.length_take, List.length_drop, ints_length, wr_length, sha_len, node_len, recov_len, Ky.named_len, Ky.keyPub_len] <;> omega) | rfl)) rfl rfl rfl ?_
          refine st_bsh1 (h := 36) Try.underlying22 ty55 rfl (by first | assumption | omega) rfl rfl (fun b36 hu36 => ?_)
          refine st_appendh (h := 6) Try.underlying22 Try.underlying22 ty55 rfl rfl rfl rfl (fun w1 sw => sw.own_rd (h := 36) rfl) (by assumption) (by assumption) (by first | omega | (simp only [List.length_append, List.length_cons, List.length_nil, List.length_set, List.length_replicate, List.length_take, List.length_drop, ints_length, wr_length, sha_len, node_len, recov_len, Ky.named_len, Ky.keyPub_len] <;> omega)) (by decide) rfl rfl (fun v37 hu37 => ?_)
          refine st (ev_assign rfl) rfl rfl rfl ?_
          refine op_nil ?_
          refine ax_block ?_
          refine ax_heq (i := 6) (v' := .own (v37) 55 32 (flat (Qm.who body ms (ks.take (x.1 + 1))))) rfl (by rw [hst (by omega), Qm.who_snoc, if_pos ⟨hg29, hc33⟩]) ?_
          exact at_met (v37) (trivial) (.cons rfl (.cons rfl (.cons rfl (.cons rfl (.cons rfl (.cons rfl (.nil _))))))) (.cons rfl (.cons rfl (.cons rfl (.nil _)))) (.cons rfl (.cons rfl (.cons rfl (.nil _))))
        ·
          refine cd_skip ?_
          refine ax_block ?_
          refine ax_heq (i := 6) (v' := .own (x.2) 55 32 (flat (Qm.who body ms (ks.take (x.1 + 1))))) rfl (by rw [hst (by omega), Qm.who_snoc, if_neg (fun hh => hc33 hh.2)]) ?_
          exact at_met (x.2) (trivial) (.cons rfl (.cons rfl (.cons rfl (.cons rfl (.cons rfl (.cons rfl (.nil _))))))) (.cons rfl (.cons rfl (.cons rfl (.nil _)))) (.cons rfl (.cons rfl (.cons rfl (.nil _))))
      ·
        refine st_skip rfl rfl rfl ?_
        refine st_skip rfl rfl rfl ?_
        refine st_skip rfl rfl rfl ?_
        refine st (ev_pick_f rfl rfl) rfl rfl rfl ?_
        refine op_nil ?_
        refine ax_then ?_
        refine At.regs (L' := [(2, _), (5, _), (6, _), (8, _), (9, _), (18, _), (19, _), (20, _), (21, _), (22, _), (23, _), (24, _), (25, _), (26, _), (27, _), (28, _), (29, _), (30, _), (31, _), (32, _), (33, _)]) (.cons rfl (.cons rfl (.cons rfl (.cons rfl (.cons rfl (.cons rfl (.cons rfl (.cons rfl (.cons rfl (.cons rfl (.cons rfl (.cons rfl (.cons rfl (.cons rfl (.cons rfl (.cons rfl (.cons rfl (.cons rfl (.cons rfl (.cons rfl (.cons rfl (.nil _)))))))))))))))))))))) ?_
        refine cd_false rfl ?_
        refine cd_skip ?_
        refine ax_block ?_
        refine ax_heq (i := 6) (v' := .own (x.2) 55 32 (flat (Qm.who body ms (ks.take (x.1 + 1))))) rfl (by rw [hst (by omega), Qm.who_snoc, if_neg (fun hh => hg29 hh.1)]) ?_
        exact at_met (x.2) (trivial) (.cons rfl (.cons rfl (.cons rfl (.cons rfl (.cons rfl (.cons rfl (.nil _))))))) (.cons rfl (.cons rfl (.cons rfl (.nil _)))) (.cons rfl (.cons rfl (.cons rfl (.nil _))))
    ·
      refine cd_region ?_
      refine st (ev_add64 rfl rfl (by omega) (by omega)) rfl rfl rfl ?_
      refine st (ev_move rfl) rfl rfl rfl ?_
      refine op_nil ?_
      exact at_again ((x.1 + 1, y)) (by show x.1 + 1 ≤ ks.length; omega) (by omega) (.cons rfl (.cons rfl (.cons rfl (.cons rfl (.cons rfl (.cons rfl (.nil _))))))) (.cons rfl (.cons rfl (.cons rfl (.nil _)))) (.cons rfl (.cons rfl (.cons rfl (.nil _))))
  ·
    obtain ⟨j, u⟩ := x
    dsimp only at hi hc21 ⊢
    obtain rfl : j = ks.length := by omega
    refine at_heq (i := 6) (v' := .own (u) 55 32 (flat (Qm.who body ms ks))) rfl (by rw [List.take_length]) ?_
    refine cd_exit ?_
    refine ax_then_exit ?_
    refine ax_then_exit ?_
    refine ax_block_hit ?_
    refine ax_then ?_
    refine At.regs (L' := [(6, _)]) (.cons rfl (.nil _)) ?_
    refine cd_seq ?_
    refine cd_region ?_
    refine st (ev_move rfl) rfl rfl rfl ?_
    refine st (ev_assign rfl) rfl rfl rfl ?_
    refine op_nil ?_
    refine ax_then ?_
    refine At.regs (L' := [(4, _)]) (.cons rfl (.nil _)) ?_
    refine cd_ret ?_
    refine rt_tmp (.inl rfl) Try.results59 rfl ?_
    exact fun w1 sw => ⟨u, trivial, rfl, (sw.gives (N := [(6, _)]) (.cons rfl (.nil _))).rn 0⟩
end Go.Proofs.Ytgfnmolbagilmaa

namespace Go.Proofs.Ytgfnmolbagilmaa
open Go Go.RowKit Fw
open Sha
open Ots
open Mk
set_option linter.unusedVariables false
set_option linter.unusedSimpArgs false
def meets (body : List Int) (ms : List Qm.Mark) (ks : List (List Int)) (need : Int) : Prop := isK ks need ∧ ((Qm.who body ms ks).length : Int) ≥ need
instance (body : List Int) (ms : List Qm.Mark) (ks : List (List Int)) (need : Int) : Decidable (meets body ms ks need) := by unfold meets; infer_instance
set_option maxRecDepth 20000 in
set_option maxHeartbeats 2000000 in
theorem meets_any (pb mv kv : Value) (need : Int) (body : List Int) (ms : List Qm.Mark) (ks : List (List Int)) (w : World) (hbody : Rd w pb 1 (ints .u8 body)) (hbl : body.length ≤ 140737488352000) (ha : Qm.AOk ms) (hml : ms.length ≤ 1000000) (hm : Rd w mv 35 (Qm.mflat ms)) (hmr : ∀ x, x ∈ ms → Qm.MRd w x) (hu : H32 ks) (hkl : ks.length ≤ 1000000) (hk : Rd w kv 32 (flat ks)) : Calls Try.prog 32 #[.agg (List.toArray [pb, mv]), .agg (List.toArray [kv, .int .i64 need])] w (PostV w (.bool (decide (meets body ms ks need)))) := by
  refine calls_at (vs := [.agg (List.toArray [pb, mv]), .agg (List.toArray [kv, .int .i64 need])]) (X := []) (H := []) (F := [(22, .sl (pb) 1 (ints .u8 (body))), (21, .sl (mv) 35 (Qm.mflat (ms))), (20, .sl (kv) 32 (flat (ks)))]) 16 Try.func32 rfl rfl rfl (((Sat.rd0 20 hk).more 21 hm).more 22 hbody) ?_
  refine cd_seq ?_
  refine cd_region ?_
  refine st_box (h := 2) rfl rfl rfl rfl (fun b2 => ?_)
  refine st_box (h := 3) rfl rfl rfl rfl (fun b3 => ?_)
  refine st (ev_assign rfl) rfl rfl rfl ?_
  refine op_nil ?_
  refine ax_then ?_
  refine At.regs (L' := [(2, _), (3, _), (4, _)]) (.cons rfl (.cons rfl (.cons rfl (.nil _)))) ?_
  refine cd_seq ?_
  refine at_freeze_blk (h := 2) (H' := [(3, _)]) 2 rfl (.cons rfl (.nil _)) rfl ?_
  refine at_freeze_blk (h := 3) (H' := []) 3 rfl (.nil _) rfl ?_
  refine cd_mix hmix ?_
  refine mx (i := 0) rfl (by decide +kernel) (by decide +kernel) (by decide +kernel) rfl (fun w0 => ld_mem_all (h := 3) ty24 rfl rfl rfl (by first | omega | (simp only [List.length_append, List.length_cons, List.length_nil, List.length_set, List.length_replicate, List.length_take, List.length_drop, ints_length, wr_length, sha_len, node_len, recov_len, Ky.named_len, Ky.keyPub_len] <;> omega) | rfl)) rfl rfl (Sub.refl _) ?_
  refine mx_one (i := 1) (by decide +kernel) (Sub.refl _) ?_
  refine wo (i := 1) rfl ?_
  refine st_callv has58 rfl (fun w1 sw => is_any kv ks need w1 hu (by omega) (sw.sl_rd (h := 20) rfl)) rfl rfl ?_
  refine op_nil ?_
  refine ax_then ?_
  refine mx (i := 2) rfl (by decide +kernel) (by decide +kernel) (by decide +kernel) rfl (fun w0 => ev_move rfl) rfl rfl (Sub.refl _) ?_
  refine at_split_if (i := 7) rfl (fun hg7 => ?_) (fun hg7 => ?_)
  ·
    refine mx (i := 3) rfl (by decide +kernel) (by decide +kernel) (by decide +kernel) rfl (fun w0 => ld_mem_all (h := 2) ty31 rfl rfl rfl (by first | omega | (simp only [List.length_append, List.length_cons, List.length_nil, List.length_set, List.length_replicate, List.length_take, List.length_drop, ints_length, wr_length, sha_len, node_len, recov_len, Ky.named_len, Ky.keyPub_len] <;> omega) | rfl)) rfl rfl (Sub.refl _) ?_
    refine mx (i := 4) rfl (by decide +kernel) (by decide +kernel) (by decide +kernel) rfl (fun w0 => ld_mem_all (h := 3) ty24 rfl rfl rfl (by first | omega | (simp only [List.length_append, List.length_cons, List.length_nil, List.length_set, List.length_replicate, List.length_take, List.length_drop, ints_length, wr_length, sha_len, node_len, recov_len, Ky.named_len, Ky.keyPub_len] <;> omega) | rfl)) rfl rfl (Sub.refl _) ?_
    refine mx (i := 7) rfl (by decide +kernel) (by decide +kernel) (by decide +kernel) rfl (fun w0 => ev_fieldAddr (b := _) Try.underlying24 (f := _) rfl ty3 (by decide) rfl) rfl rfl (Sub.refl _) ?_
    refine mx (i := 8) rfl (by decide +kernel) (by decide +kernel) (by decide +kernel) rfl (fun w0 => ld_mem1 (h := 3) ty3 rfl rfl rfl (Nat.zero_add _).symm rfl) rfl rfl (Sub.refl _) ?_
    refine mx_one (i := 5) (by decide +kernel) (Sub.refl _) ?_
    refine wo (i := 5) rfl ?_
    refine st_call has59 rfl (fun w1 sw => rn 10 (who_any pb mv kv need body ms ks w1 (sw.sl_rd (h := 22) rfl) hbl ha hml (sw.sl_rd (h := 21) rfl) (fun x hx => (Qm.Keeps.of sw).mrd (hmr x hx)) hu hkl (sw.sl_rd (h := 20) rfl))) nil_all rfl rfl (fun v10 _ => ?_)
    have hwu := Qm.who_h32 body ms hu
    have hw32 := hwu.1
    refine op_nil ?_
    refine ax_then ?_
    refine mx_one (i := 6) (by decide +kernel) (Sub.refl _) ?_
    refine wo (i := 6) rfl ?_
    refine st (ev_len_ownh (h := 10) Try.underlying22 rfl rfl (by assumption)) rfl rfl rfl ?_
    refine op_nil ?_
    refine ax_then ?_
    refine mx (i := 9) rfl (by decide +kernel) (by decide +kernel) (by decide +kernel) rfl (fun w0 => ev_geq rfl rfl) rfl rfl (Sub.refl _) ?_
    refine mx (i := 10) rfl (by decide +kernel) (by decide +kernel) (by decide +kernel) rfl (fun w0 => ev_pick_t rfl rfl) rfl rfl (Sub.refl _) ?_
    refine mx (i := 11) rfl (by decide +kernel) (by decide +kernel) (by decide +kernel) rfl (fun w0 => ev_assign rfl) rfl rfl (Sub.refl _) ?_
    refine mx_done (by decide +kernel) (Sub.refl _) ?_
    refine ax_then ?_
    refine At.regs (L' := [(4, _)]) (.cons rfl (.nil _)) ?_
    refine cd_ret ?_
    refine rt_tmp (.inl rfl) Try.results32 rfl ?_
    exact fun w1 sw => ⟨congrArg (fun b => Ending.returned (Value.bool b)) (by first | exact (decide_eq_false (fun hh => hg7 hh.1)).symm | exact decide_eq_decide.2 ⟨fun hh => ⟨hg7, hh⟩, fun hh => hh.2⟩), sw.gives (.nil _)⟩
  ·
    refine mx_skip (i := 3) rfl (by decide +kernel) (by decide +kernel) (by decide +kernel) rfl rfl rfl (Sub.refl _) ?_
    refine mx_skip (i := 4) rfl (by decide +kernel) (by decide +kernel) (by decide +kernel) rfl rfl rfl (Sub.refl _) ?_
    refine mx_skip (i := 5) rfl (by decide +kernel) (by decide +kernel) (by decide +kernel) rfl rfl rfl (Sub.refl _) ?_
    refine mx_skip (i := 6) rfl (by decide +kernel) (by decide +kernel) (by decide +kernel) rfl rfl rfl (Sub.refl _) ?_
    refine mx_skip (i := 7) rfl (by decide +kernel) (by decide +kernel) (by decide +kernel) rfl rfl rfl (Sub.refl _) ?_
    refine mx_skip (i := 8) rfl (by decide +kernel) (by decide +kernel) (by decide +kernel) rfl rfl rfl (Sub.refl _) ?_
    refine mx_skip (i := 9) rfl (by decide +kernel) (by decide +kernel) (by decide +kernel) rfl rfl rfl (Sub.refl _) ?_
    refine mx (i := 10) rfl (by decide +kernel) (by decide +kernel) (by decide +kernel) rfl (fun w0 => ev_pick_f rfl rfl) rfl rfl (Sub.refl _) ?_
    refine mx (i := 11) rfl (by decide +kernel) (by decide +kernel) (by decide +kernel) rfl (fun w0 => ev_assign rfl) rfl rfl (Sub.refl _) ?_
    refine mx_done (by decide +kernel) (Sub.refl _) ?_
    refine ax_then ?_
    refine At.regs (L' := [(4, _)]) (.cons rfl (.nil _)) ?_
    refine cd_ret ?_
    refine rt_tmp (.inl rfl) Try.results32 rfl ?_
    exact fun w1 sw => ⟨congrArg (fun b => Ending.returned (Value.bool b)) (by first | exact (decide_eq_false (fun hh => hg7 hh.1)).symm | exact decide_eq_decide.2 ⟨fun hh => ⟨hg7, hh⟩, fun hh => hh.2⟩), sw.gives (.nil _)⟩
end Go.Proofs.Ytgfnmolbagilmaa

namespace Go.Proofs.Ytgfnmolbagilmaa.Fw
open Go Go.RowKit Go.Proofs.Ytgfnmolbagilmaa
theorem Sat.fmap {w0 w : World} {X : List Nat} {H : List (Nat × Ent)} {F : List (Nat × FE)} (sw : Sat w0 X H F w) {h sz sz' : Nat} {v v' : Value} {l l' : List Value} (h' : Nat) (hh : lk F h = some (.sl v sz l)) (hR : ∀ w, Rd w v sz l → Rd w v' sz' l') (hB : ∀ b, b ∈ blkOf v' → b ∈ blkOf v) (hl : l = [] → l' = []) : Sat w0 X H ((h', .sl v' sz' l') :: F) w :=
  sw.read h' (hR w (sw.sl_rd hh)) fun k e hk b hb => (sw.off _ _ _ _ hh hk b hb).elim (fun h => .inl (hl h)) fun h => .inr fun hb' => h (hB b hb')
theorem at_fmap {K : Act → World → Prop} {E : Env} {L : List (Nat × Value)} {H : List (Nat × Ent)} {F : List (Nat × FE)} {h sz sz' : Nat} {v v' : Value} {l l' : List Value} (h' : Nat) (hh : lk F h = some (.sl v sz l)) (hR : ∀ w, Rd w v sz l → Rd w v' sz' l') (hB : ∀ b, b ∈ blkOf v' → b ∈ blkOf v) (hl : l = [] → l' = [])
    (k : At K E L H ((h', .sl v' sz' l') :: F)) : At K E L H F := fun a w fa sw => k a w fa (sw.fmap h' hh hR hB hl)
theorem blkOf_cut (sz : Nat) (v : Value) (lo hi : Nat) : ∀ b, b ∈ blkOf (cutAt sz v lo hi) → b ∈ blkOf v := by
  intro b hb
  cases v with
  | slice a n c =>
    cases a with
    | none => simp only [cutAt] at hb; split at hb <;> simp [blkOf] at hb
    | some x =>
      have e : ∀ y : Addr, (y.add (lo * sz)).block = y.block := fun y => by unfold Addr.add; split <;> rfl
      simp only [cutAt] at hb
      split at hb
      · exact hb
      · simp only [blkOf, Option.map_some, e] at hb ⊢; exact hb
  | _ => simp [cutAt, blkOf] at hb
end Go.Proofs.Ytgfnmolbagilmaa.Fw
namespace Go.Proofs.Ytgfnmolbagilmaa.Ky
open Go Fw Sha Ots Mk Go.Proofs.Ytgfnmolbagilmaa
set_option linter.unusedSimpArgs false
set_option linter.unusedVariables false
def nil0 : Value := .slice none 0 0
theorem rd_nil0 {w : World} : Rd w nil0 1 (ints .u8 []) := ⟨none, 0, 0, rfl, by simp [ints], Nat.le_refl _, fun _ => rfl, fun x hx => by cases hx⟩
def hashOf (r : List Int) : List Int := if 32 ≤ r.length then r.take 32 else List.replicate 32 0
theorem hashOf_len (r : List Int) : (hashOf r).length = 32 := by unfold hashOf; split <;> simp <;> omega
/-- a signature's bytes -/
def enc (leaf : Int) (cs ps : List (List Int)) : List Int := [leaf] ++ (cs ++ ps).flatten
end Go.Proofs.Ytgfnmolbagilmaa.Ky

namespace Go.Proofs.Ytgfnmolbagilmaa.Rr
open Go Fw Sha Ky Go.Proofs.Ytgfnmolbagilmaa
set_option linter.unusedSimpArgs false
set_option linter.unusedVariables false
/-- what is left of what is read -/
structure Und (v : Value) (r : List Int) (v' : Value) (r' : List Int) : Prop where
  rd : ∀ w, Rd w v 1 (ints .u8 r) → Rd w v' 1 (ints .u8 r')
  blk : ∀ b, b ∈ blkOf v' → b ∈ blkOf v
  len : r'.length ≤ r.length
  mem : ∀ c, c ∈ r' → c ∈ r
theorem Und.refl (v : Value) (r : List Int) : Und v r v r := ⟨fun _ h => h, fun _ h => h, Nat.le_refl _, fun _ h => h⟩
theorem Und.trans {v v' v'' : Value} {r r' r'' : List Int} (a : Und v r v' r') (b : Und v' r' v'' r'') : Und v r v'' r'' :=
  ⟨fun w h => b.rd w (a.rd w h), fun x h => a.blk x (b.blk x h), Nat.le_trans b.len a.len, fun c h => a.mem c (b.mem c h)⟩
theorem Und.none (v : Value) (r : List Int) : Und v r nil0 [] := ⟨fun _ _ => rd_nil0, fun b h => by simp [blkOf, nil0] at h, Nat.zero_le _, fun c h => by cases h⟩
theorem Und.cut (v : Value) {r : List Int} {k : Nat} (hk : k ≤ r.length) : Und v r (cutAt 1 v k r.length) (r.drop k) :=
  ⟨fun w h => by
    have := h.cuti (lo := k) (hi := r.length) hk (Nat.le_refl _)
    rwa [List.take_of_length_le (by rw [List.length_drop]; exact Nat.le_refl _)] at this, blkOf_cut _ _ _ _, by simp, fun c h => List.mem_of_mem_drop h⟩
theorem Und.nil {v v' : Value} {r r' : List Int} (a : Und v r v' r') (h : ints .u8 r = []) : ints .u8 r' = [] := by
  have e : r.length = 0 := by have := congrArg List.length h; rwa [ints_length] at this
  have := a.len
  have : r' = [] := List.length_eq_zero_iff.1 (by omega)
  rw [this]; rfl
theorem Und.byt {v v' : Value} {r r' : List Int} (a : Und v r v' r') (h : Byt r) : Byt r' := fun c hc => h c (a.mem c hc)
/-- one byte more of a number -/
def acc (u c : Int) (i : Nat) : Int := ior .u64 u (ishl .u64 (IntKind.u64.wrap (iand .u8 c 127)) (7 * (i : Int)))
def numG : Nat → Int → List Int → Option (Int × Nat)
  | _, _, [] => none
  | i, u, c :: r => if i ≥ 9 ∨ (i > 0 ∧ c = 0) then none else if c < 128 then (if acc u c i > 4611686018427387904 then none else some (acc u c i, i + 1)) else numG (i + 1) (acc u c i) r
def numS (r : List Int) : Option (Int × Nat) := numG 0 0 r
def nVal (r : List Int) : Int := match numS r with | some x => x.1 | none => 0
def nRest (r : List Int) : List Int := match numS r with | some x => r.drop x.2 | none => []
def nBad (r : List Int) : Bool := (numS r).isNone
theorem acc_pos (u c : Int) (i : Nat) : 0 ≤ acc u c i := by
  unfold acc ior
  simp only [IntKind.wrap, IntKind.signed, IntKind.bits, Bool.false_and, Bool.false_eq_true, if_false]
  exact Int.emod_nonneg _ (by decide)
theorem numG_spec : ∀ (r : List Int) (i : Nat) (u : Int) (x : Int × Nat), numG i u r = some x → 0 ≤ x.1 ∧ x.1 ≤ 4611686018427387904 ∧ i < x.2 ∧ x.2 ≤ i + r.length ∧ x.2 ≤ 9
  | [], _, _, _, h => by simp [numG] at h
  | c :: r, i, u, x, h => by
    simp only [numG] at h
    split at h
    · cases h
    · next h9 =>
      split at h
      · split at h
        · cases h
        · next hb => cases h; exact ⟨acc_pos _ _ _, by simpa using hb, Nat.lt_succ_self _, by simp, by show i + 1 ≤ 9; omega⟩
      · have := numG_spec r (i + 1) _ x h
        simp only [List.length_cons]
        omega
theorem numS_spec {r : List Int} {x : Int × Nat} (h : numS r = some x) : 0 ≤ x.1 ∧ x.1 ≤ 4611686018427387904 ∧ 0 < x.2 ∧ x.2 ≤ r.length ∧ x.2 ≤ 9 := by
  have := numG_spec r 0 0 x h
  omega
theorem nUnd_ok (v : Value) {r : List Int} {x : Int × Nat} (h : numS r = some x) : Und v r (cutAt 1 v x.2 r.length) (nRest r) := by
  have := numS_spec h
  have e : nRest r = r.drop x.2 := by unfold nRest; rw [h]
  rw [e]
  exact Und.cut v (by omega)
theorem nUnd_no (v : Value) {r : List Int} (h : numS r = none) : Und v r nil0 (nRest r) := by
  have e : nRest r = [] := by unfold nRest; rw [h]
  rw [e]
  exact Und.none v r
theorem nRest_len (r : List Int) : (nRest r).length ≤ r.length := by
  unfold nRest
  split
  · simp
  · exact Nat.zero_le _
theorem nRest_no {r : List Int} (h : nBad r = true) : nRest r = [] := by
  unfold nBad at h
  unfold nRest
  cases e : numS r with
  | none => rfl
  | some x => rw [e] at h; cases h
theorem nVal_no {r : List Int} (h : numS r = none) : nVal r = 0 ∧ nBad r = true ∧ nRest r = [] := by
  refine ⟨by unfold nVal; rw [h], by unfold nBad; rw [h]; rfl, by unfold nRest; rw [h]⟩
theorem nVal_ok {r : List Int} {x : Int × Nat} (h : numS r = some x) : nVal r = x.1 ∧ nBad r = false ∧ nRest r = r.drop x.2 := by
  refine ⟨by unfold nVal; rw [h], by unfold nBad; rw [h]; rfl, by unfold nRest; rw [h]⟩
theorem numG_brk {i : Nat} {u c : Int} {r : List Int} (h : i ≥ 9 ∨ (i > 0 ∧ c = 0)) : numG i u (c :: r) = none := by rw [numG, if_pos h]
theorem numG_big {i : Nat} {u c : Int} {r : List Int} (h : c < 128) (hb : acc u c i > 4611686018427387904) : numG i u (c :: r) = none := by
  rw [numG]
  split
  · rfl
  · first | rfl | rw [if_pos h, if_pos hb]
theorem numG_ok {i : Nat} {u c : Int} {r : List Int} (h : ¬ (i ≥ 9 ∨ (i > 0 ∧ c = 0))) (hc : c < 128) (hb : ¬ acc u c i > 4611686018427387904) : numG i u (c :: r) = some (acc u c i, i + 1) := by rw [numG, if_neg h, if_pos hc, if_neg hb]
theorem numG_go {i : Nat} {u c : Int} {r : List Int} (h : ¬ (i ≥ 9 ∨ (i > 0 ∧ c = 0))) (hc : ¬ c < 128) : numG i u (c :: r) = numG (i + 1) (acc u c i) r := by rw [numG, if_neg h, if_neg hc]
theorem numG_ten {u : Int} : ∀ {r : List Int}, numG 10 u r = none
  | [] => rfl
  | c :: r => numG_brk (.inl (by decide))
/-- a tenth byte has a number too large -/
theorem acc_nine (u : Int) : acc u 1 9 > 4611686018427387904 := by
  have e : ishl .u64 (IntKind.u64.wrap (iand .u8 1 127)) (7 * ((9 : Nat) : Int)) = 9223372036854775808 := by decide +kernel
  unfold acc
  rw [e, ior]
  have h : (BitVec.ofInt IntKind.u64.bits u ||| BitVec.ofInt IntKind.u64.bits 9223372036854775808).toNat ≥ 9223372036854775808 := by
    rw [BitVec.toNat_or]
    refine Nat.le_trans ?_ Nat.right_le_or
    decide +kernel
  have h2 : (BitVec.ofInt IntKind.u64.bits u ||| BitVec.ofInt IntKind.u64.bits 9223372036854775808).toNat < 2 ^ 64 := BitVec.isLt _
  generalize (BitVec.ofInt IntKind.u64.bits u ||| BitVec.ofInt IntKind.u64.bits 9223372036854775808).toNat = n at h h2
  simp only [IntKind.wrap, IntKind.signed, IntKind.bits, Bool.false_and, Bool.false_eq_true, if_false]
  have h3 : ((n : Int) % 2 ^ 64) = n := Int.emod_eq_of_lt (by omega) (by omega)
  rw [h3]
  omega
theorem drop_head {r : List Int} {i : Nat} (hi : i < r.length) : r.drop i = r.getD i 0 :: r.drop (i + 1) := by
  rw [List.drop_eq_getElem_cons hi, List.getD_eq_getElem?_getD, List.getElem?_eq_getElem hi]; rfl
def fitsR (r : List Int) (n : Int) : Prop := 0 ≤ n ∧ n ≤ (r.length : Nat)
instance (r : List Int) (n : Int) : Decidable (fitsR r n) := by unfold fitsR; infer_instance
def rOut (r : List Int) (n : Int) : List Int := if fitsR r n then r.take n.toNat else []
def rRest (r : List Int) (n : Int) : List Int := if fitsR r n then r.drop n.toNat else []
def rBad (r : List Int) (n : Int) : Bool := !decide (fitsR r n)
theorem rUnd_ok (v : Value) {r : List Int} {n : Int} (h : fitsR r n) : Und v r (cutAt 1 v n.toNat r.length) (rRest r n) := by
  rw [rRest, if_pos h]
  exact Und.cut v (by have := h.2; omega)
theorem rUnd_no (v : Value) {r : List Int} {n : Int} (h : ¬ fitsR r n) : Und v r nil0 (rRest r n) := by
  rw [rRest, if_neg h]
  exact Und.none v r
theorem rOut_1 (c : Int) (r : List Int) : rOut (c :: r) 1 = [c] ∧ rRest (c :: r) 1 = r ∧ rBad (c :: r) 1 = false := by
  have hf : fitsR (c :: r) 1 := ⟨by decide, by simp only [List.length_cons]; omega⟩
  refine ⟨by rw [rOut, if_pos hf]; rfl, by rw [rRest, if_pos hf]; rfl, by rw [rBad, decide_eq_true hf]; rfl⟩
theorem rBad_1 {r : List Int} (h : rBad r 1 = true) : r = [] := by
  cases r with
  | nil => rfl
  | cons c t => rw [(rOut_1 c t).2.2] at h; cases h
theorem rBad_cons {r : List Int} (h : ¬ rBad r 1 = true) : ∃ c t, r = c :: t := by
  cases r with
  | nil => exact absurd (by decide) h
  | cons c t => exact ⟨c, t, rfl⟩
end Go.Proofs.Ytgfnmolbagilmaa.Rr

namespace Go.Proofs.Ytgfnmolbagilmaa.Rr
open Go Fw Sha Ky Go.Proofs.Ytgfnmolbagilmaa
set_option linter.unusedSimpArgs false
set_option linter.unusedVariables false
def encN (u : Nat) : List Int := if h : u < 128 then [(u : Int)] else ((u % 128 + 128 : Nat) : Int) :: encN (u / 128)
termination_by u
decreasing_by omega
theorem encN_lt {u : Nat} (h : u < 128) : encN u = [(u : Int)] := by rw [encN, dif_pos h]
theorem encN_ge {u : Nat} (h : ¬ u < 128) : encN u = ((u % 128 + 128 : Nat) : Int) :: encN (u / 128) := by rw [encN, dif_neg h]
/-- a number, as it is laid -/
def clampN (n : Int) : Nat := (max 0 (min n 4611686018427387904)).toNat
theorem clampN_le (n : Int) : clampN n ≤ 4611686018427387904 := by unfold clampN; omega
theorem clampN_id {n : Int} (h0 : 0 ≤ n) (h1 : n ≤ 4611686018427387904) : (clampN n : Int) = n := by unfold clampN; omega
def num (n : Int) : List Int := encN (clampN n)
def nums (l : List Int) : List Int := l.flatMap num
theorem nums_snoc (l : List Int) (n : Int) : nums (l ++ [n]) = nums l ++ num n := by simp [nums]
theorem encN_len : ∀ (k u : Nat), u < 128 ^ (k + 1) → (encN u).length ≤ k + 1
  | 0, u, h => by rw [encN_lt (by simpa using h)]; simp
  | k + 1, u, h => by
    by_cases h1 : u < 128
    · rw [encN_lt h1]; simp
    · have h2 : u < 128 * 128 ^ (k + 1) := by rw [Nat.pow_succ] at h; omega
      rw [encN_ge h1, List.length_cons]
      have := encN_len k (u / 128) (Nat.div_lt_of_lt_mul h2)
      omega
theorem num_len (n : Int) : (num n).length ≤ 9 := encN_len 8 (clampN n) (by have := clampN_le n; have e : 128 ^ (8 + 1) = 9223372036854775808 := (by decide); omega)
theorem encN_pos (u : Nat) : 0 < (encN u).length := by
  by_cases h : u < 128
  · rw [encN_lt h]; simp
  · rw [encN_ge h]; simp
theorem nums_len : ∀ (l : List Int), (nums l).length ≤ 9 * l.length
  | [] => by simp [nums]
  | n :: l => by
    have := nums_len l
    have := num_len n
    show ((n :: l).flatMap num).length ≤ _
    rw [List.flatMap_cons, List.length_append, List.length_cons]
    have e : (l.flatMap num).length = (nums l).length := rfl
    omega
theorem encN_byt : ∀ (k u : Nat), u < k → Byt (encN u)
  | 0, _, h => by omega
  | k + 1, u, h => by
    by_cases h1 : u < 128
    · rw [encN_lt h1]; intro c hc; simp at hc; omega
    · rw [encN_ge h1]
      intro c hc
      rcases List.mem_cons.1 hc with rfl | hc
      · have := Nat.mod_lt u (show 128 > 0 by decide); omega
      · exact encN_byt k (u / 128) (by omega) c hc
theorem num_byt (n : Int) : Byt (num n) := encN_byt _ _ (Nat.lt_succ_self _)
theorem nums_byt (l : List Int) : Byt (nums l) := fun c hc => by
  obtain ⟨n, _, h⟩ := List.mem_flatMap.1 hc
  exact num_byt n c h
theorem or128 : ∀ c : Nat, c < 256 → ior .u8 (c : Int) 128 = ((c % 128 + 128 : Nat) : Int) := by decide +kernel
theorem wrap8 (u : Nat) : IntKind.u8.wrap (u : Int) = ((u % 256 : Nat) : Int) := by
  simp only [IntKind.wrap, IntKind.signed, IntKind.bits, Bool.false_and, Bool.false_eq_true, if_false]
  omega
theorem lay8 (u : Nat) : ior .u8 (IntKind.u8.wrap (u : Int)) 128 = ((u % 128 + 128 : Nat) : Int) := by
  rw [wrap8, or128 _ (Nat.mod_lt _ (by decide))]
  congr 2
  omega
theorem ofInt64 {a : Nat} (h : a < 18446744073709551616) : (BitVec.ofInt IntKind.u64.bits (a : Int)).toNat = a := by
  show (BitVec.ofInt 64 (a : Int)).toNat = a
  rw [BitVec.toNat_ofInt]
  omega
theorem wrapn64 (n : Nat) (h : n < 18446744073709551616) : IntKind.u64.wrap (n : Int) = n := Fw.wrapu64_id (by omega) (by omega)
theorem and127_64 (u : Nat) (h : u < 18446744073709551616) : iand .u64 (u : Int) 127 = ((u % 128 : Nat) : Int) := by
  have e : (BitVec.ofInt IntKind.u64.bits 127).toNat = 127 := by decide
  rw [iand, BitVec.toNat_and, ofInt64 h, e, show (127 : Nat) = 2 ^ 7 - 1 from rfl, Nat.and_two_pow_sub_one_eq_mod]
  exact wrapn64 _ (by omega)
theorem shr7 (u : Nat) : ishr .u64 (u : Int) 7 = ((u / 128 : Nat) : Int) := by
  have e : (2 : Int) ^ (min (7 : Int).toNat IntKind.u64.bits) = ((128 : Nat) : Int) := by decide
  rw [ishr, e, Int.fdiv_eq_ediv_of_nonneg _ (by decide)]
  rfl
theorem lay8r (u : Nat) (h : u < 18446744073709551616) : ior .u8 (IntKind.u8.wrap (iand .u64 (u : Int) 127)) 128 = ((u % 128 + 128 : Nat) : Int) := by
  rw [and127_64 u h, lay8, Nat.mod_mod]
theorem low8 {u : Nat} (h : u < 128) : IntKind.u8.wrap (u : Int) = (u : Int) := by rw [wrap8, Nat.mod_eq_of_lt (by omega)]
theorem and127_8 : ∀ c : Nat, c < 256 → iand .u8 (c : Int) 127 = ((c % 128 : Nat) : Int) := by decide +kernel
theorem acc_nat {u c i : Nat} (hu : u < 128 ^ i) (hc : c < 256) (hi : i ≤ 8) (ht : u + (c % 128) * 128 ^ i < 18446744073709551616) : acc (u : Int) (c : Int) i = ((u + (c % 128) * 128 ^ i : Nat) : Int) := by
  have e7 : (128 : Nat) ^ i = 2 ^ (7 * i) := by rw [Nat.pow_mul]
  have hz : (c % 128) * 128 ^ i < 18446744073709551616 := Nat.lt_of_le_of_lt (Nat.le_add_left _ _) ht
  have h1 : ishl .u64 (IntKind.u64.wrap (iand .u8 (c : Int) 127)) (7 * (i : Int)) = (((c % 128) * 128 ^ i : Nat) : Int) := by
    rw [and127_8 c hc, wrapn64 _ (by omega), ishl]
    have e : min (7 * (i : Int)).toNat IntKind.u64.bits = 7 * i := by
      have : IntKind.u64.bits = 64 := rfl
      omega
    rw [e]
    have e2 : ((c % 128 : Nat) : Int) * 2 ^ (7 * i) = (((c % 128) * 128 ^ i : Nat) : Int) := by rw [e7]; push_cast; rfl
    rw [e2]
    exact wrapn64 _ hz
  rw [acc, h1, ior, BitVec.toNat_or, ofInt64 (by omega), ofInt64 hz]
  have h2 : u ||| (c % 128) * 128 ^ i = u + (c % 128) * 128 ^ i := by
    rw [e7, Nat.or_comm, Nat.mul_comm, Nat.add_comm, ← Nat.two_pow_add_eq_or_of_lt (by rw [← e7]; exact hu)]
  rw [h2]
  exact wrapn64 _ ht
/-- what was laid is read -/
theorem numG_enc : ∀ (k n i u : Nat) (t : List Int), n < k → u < 128 ^ i → (i = 0 ∨ 0 < n) → u + n * 128 ^ i ≤ 4611686018427387904 → numG i u (encN n ++ t) = some (((u + n * 128 ^ i : Nat) : Int), i + (encN n).length)
  | 0, _, _, _, _, h, _, _, _ => by omega
  | k + 1, n, i, u, t, hk, hu, h0, hm => by
    have hi : i ≤ 8 := by
      rcases Nat.lt_or_ge 8 i with h8 | h8
      · exfalso
        have hn : 0 < n := by omega
        have h1 : 128 ^ 9 ≤ 128 ^ i := Nat.pow_le_pow_right (by decide) h8
        have e : 128 ^ 9 = 9223372036854775808 := by decide
        have h2 : 1 * 128 ^ i ≤ n * 128 ^ i := Nat.mul_le_mul_right _ hn
        omega
      · exact h8
    by_cases h1 : n < 128
    · have e : n % 128 = n := Nat.mod_eq_of_lt h1
      have ha := acc_nat (c := n) hu (by omega) hi (by rw [e]; omega)
      rw [e] at ha
      rw [encN_lt h1, List.singleton_append, numG_ok (by omega) (by omega) (by rw [ha]; omega), ha]
      simp
    · have e : (n % 128 + 128) % 128 = n % 128 := by omega
      have hp : 0 < 128 ^ i := Nat.pow_pos (by decide)
      have hle : n % 128 * 128 ^ i ≤ n * 128 ^ i := Nat.mul_le_mul_right _ (Nat.mod_le _ _)
      have ha := acc_nat (c := n % 128 + 128) hu (by omega) hi (by rw [e]; omega)
      rw [e] at ha
      have hsum : u + n % 128 * 128 ^ i + n / 128 * 128 ^ (i + 1) = u + n * 128 ^ i := by
        have h2 : n % 128 + n / 128 * 128 = n := by omega
        calc u + n % 128 * 128 ^ i + n / 128 * 128 ^ (i + 1) = u + (n % 128 + n / 128 * 128) * 128 ^ i := by rw [Nat.pow_succ, Nat.add_mul]; rw [Nat.mul_comm (128 ^ i) 128, ← Nat.mul_assoc]; omega
          _ = _ := by rw [h2]
      have hlt : u + n % 128 * 128 ^ i < 128 ^ (i + 1) := by
        have h3 : n % 128 + 1 ≤ 128 := by omega
        have h4 : (n % 128 + 1) * 128 ^ i ≤ 128 * 128 ^ i := Nat.mul_le_mul_right _ h3
        rw [Nat.succ_mul] at h4
        rw [Nat.pow_succ, Nat.mul_comm (128 ^ i) 128]
        omega
      have ih := numG_enc k (n / 128) (i + 1) (u + n % 128 * 128 ^ i) t (by omega) hlt (.inr (by omega)) (by rw [hsum]; exact hm)
      rw [encN_ge h1, List.cons_append, numG_go (by omega) (by omega), ha, ih, hsum, List.length_cons]
      congr 2
      omega
theorem numS_num {n : Int} (h0 : 0 ≤ n) (h1 : n ≤ 4611686018427387904) (t : List Int) : numS (num n ++ t) = some (n, (num n).length) := by
  have h := numG_enc (clampN n + 1) (clampN n) 0 0 t (Nat.lt_succ_self _) (by decide) (.inl rfl) (by have := clampN_le n; simpa using this)
  have e : ((0 + clampN n * 128 ^ 0 : Nat) : Int) = n := by rw [Nat.pow_zero, Nat.mul_one, Nat.zero_add]; exact clampN_id h0 h1
  rw [numS, show (0 : Int) = ((0 : Nat) : Int) from rfl, num, h, e, Nat.zero_add]
theorem num_back {n : Int} (h0 : 0 ≤ n) (h1 : n ≤ 4611686018427387904) (t : List Int) : nVal (num n ++ t) = n ∧ nRest (num n ++ t) = t ∧ nBad (num n ++ t) = false := by
  have h := nVal_ok (numS_num h0 h1 t)
  exact ⟨h.1, by rw [h.2.2]; simp, h.2.1⟩
end Go.Proofs.Ytgfnmolbagilmaa.Rr

namespace Go.Proofs.Ytgfnmolbagilmaa.Ck
open Go Fw Sha Ots Mk Go.Proofs.Ytgfnmolbagilmaa
set_option linter.unusedSimpArgs false
set_option linter.unusedVariables false
def isN (n : Int) : Prop := 0 ≤ n ∧ n ≤ 1073741824
instance (n : Int) : Decidable (isN n) := by unfold isN; infer_instance
def body (nonce now : Int) : List Int := Rr.nums [7, nonce, now]
theorem body_len (a b : Int) : (body a b).length ≤ 27 := Rr.nums_len [7, a, b]
theorem body_byt (a b : Int) : Byt (body a b) := Rr.nums_byt _
theorem body_pos (a b : Int) : 0 < (body a b).length := by
  have e : body a b = Rr.num 7 ++ (Rr.num a ++ (Rr.num b ++ [])) := rfl
  have := Rr.encN_pos (Rr.clampN 7)
  rw [e, List.length_append]
  have : 0 < (Rr.num 7).length := this
  omega
def r1 (b : List Int) : List Int := Rr.nRest b
def r2 (b : List Int) : List Int := Rr.nRest (r1 b)
def r3 (b : List Int) : List Int := Rr.nRest (r2 b)
def whole (b : List Int) : Prop := Rr.nBad b = false ∧ Rr.nBad (r1 b) = false ∧ Rr.nBad (r2 b) = false ∧ (r3 b).length = 0
instance (b : List Int) : Decidable (whole b) := by unfold whole; infer_instance
def form (b : List Int) : Prop := whole b ∧ Rr.nVal b = 7 ∧ isN (Rr.nVal (r1 b)) ∧ isN (Rr.nVal (r2 b))
instance (b : List Int) : Decidable (form b) := by unfold form; infer_instance
def chk (p b : List Int) (ms : List Qm.Mark) (nonce : Int) : Int × Int :=
  if meets b ms [p] 1 then (if form b then (if Rr.nVal (r1 b) = nonce then (Rr.nVal (r2 b), 0) else (0, 5)) else (0, 2)) else (0, 4)
theorem whole_eq (b : List Int) : (!(false || Rr.nBad b || Rr.nBad (r1 b) || Rr.nBad (r2 b)) && decide ((r3 b).length = 0)) = decide (whole b) := by
  rw [Bool.eq_iff_iff, decide_eq_true_eq]
  unfold whole
  simp only [Bool.false_or, Bool.and_eq_true, Bool.not_eq_true', Bool.or_eq_false_iff, decide_eq_true_eq, and_assoc]
theorem len1 (b : List Int) : (r1 b).length ≤ b.length := Rr.nRest_len b
theorem len2 (b : List Int) : (r2 b).length ≤ b.length := Nat.le_trans (Rr.nRest_len _) (len1 b)
theorem no1 {b : List Int} (h : (false || Rr.nBad b) = true) : r1 b = [] := Rr.nRest_no (by simpa using h)
theorem no2 {b : List Int} (h : (false || Rr.nBad b || Rr.nBad (r1 b)) = true) : r2 b = [] := by
  unfold r2
  cases h1 : Rr.nBad b with
  | true => rw [no1 (by rw [h1]; rfl)]; rfl
  | false => rw [h1] at h; exact Rr.nRest_no (by simpa using h)
theorem isK_one (p : List Int) : isK [p] 1 := by
  refine ⟨fun a ha => ?_, by simp, by simp, by decide, by simp⟩
  have : a = 0 := by simpa using ha
  subst this
  exact idx_neg.2 fun j hj => by simp at hj
/-- what a clock signs -/
def mk (s : List Int) (n : Nat) (b : List Int) (va vb : Value) : Qm.Mark := ⟨Ky.keyPub s, (n : Int), va, vb, sign s n b 36, path (Ky.leaves s 16) n⟩
theorem mk_ok (s : List Int) {n : Nat} (hn : n < 16) (b : List Int) (va vb : Value) : Qm.AOk [mk s n b va vb] := fun x hx => by
  obtain rfl := List.mem_singleton.1 hx
  have hp := (Ky.way_up s hn).1
  refine ⟨Ky.keyPub_len _, sign_h32 _ _ _ _, path_h32 _ _ _ (Nat.le_refl _) (Ky.leaves_h32 _ _), ?_, ?_⟩
  · show (sign s n b 36).length ≤ _
    rw [sign_len]; decide
  · show (path (Ky.leaves s 16) n).length ≤ _
    rw [hp]; decide
theorem who_one (b p : List Int) (ms : List Qm.Mark) : Qm.who b ms [p] = if Qm.some4 b ms p then [p] else [] := by
  show (if p ∉ ([] : List (List Int)) ∧ Qm.some4 b ms p then [] ++ [p] else []) = _
  by_cases h : Qm.some4 b ms p
  · rw [if_pos ⟨by simp, h⟩, if_pos h]; rfl
  · rw [if_neg (fun hh => h hh.2), if_neg h]
theorem meets_own (s : List Int) {n : Nat} (hn : n < 16) (b : List Int) (va vb : Value) : meets b [mk s n b va vb] [Ky.keyPub s] 1 := by
  refine ⟨isK_one _, ?_⟩
  have h : Qm.some4 b [mk s n b va vb] (Ky.keyPub s) := ⟨mk s n b va vb, by simp, rfl, Ky.ver_sign s b hn⟩
  rw [who_one, if_pos h]
  simp
theorem meets_no {b p : List Int} {ms : List Qm.Mark} (h : ∀ x, x ∈ ms → x.key ≠ p) : ¬ meets b ms [p] 1 := fun ⟨_, hm⟩ => by
  have h : ¬ Qm.some4 b ms p := fun ⟨x, hx, hh⟩ => h x (List.mem_of_mem_take hx) hh.1
  rw [who_one, if_neg h] at hm
  simp at hm
theorem form_body {a b : Int} (ha : isN a) (hb : isN b) : form (body a b) ∧ Rr.nVal (r1 (body a b)) = a ∧ Rr.nVal (r2 (body a b)) = b := by
  have e : body a b = Rr.num 7 ++ (Rr.num a ++ (Rr.num b ++ [])) := rfl
  obtain ⟨h1, h2, h3⟩ := Rr.num_back (n := 7) (by decide) (by decide) (Rr.num a ++ (Rr.num b ++ []))
  obtain ⟨h4, h5, h6⟩ := Rr.num_back (n := a) ha.1 (by have := ha.2; omega) (Rr.num b ++ [])
  obtain ⟨h7, h8, h9⟩ := Rr.num_back (n := b) hb.1 (by have := hb.2; omega) []
  have e1 : r1 (body a b) = Rr.num a ++ (Rr.num b ++ []) := by rw [r1, e, h2]
  have e2 : r2 (body a b) = Rr.num b ++ [] := by rw [r2, e1, h5]
  have e3 : r3 (body a b) = [] := by rw [r3, e2, h8]
  refine ⟨⟨⟨by rw [e, h3], by rw [e1, h6], by rw [e2, h9], by rw [e3]; rfl⟩, by rw [e, h1], by rw [e1, h4]; exact ha, by rw [e2, h7]; exact hb⟩, by rw [e1, h4], by rw [e2, h7]⟩
theorem chk_own (s : List Int) {n : Nat} (hn : n < 16) {a b : Int} (ha : isN a) (hb : isN b) (va vb : Value) (c : Int) : chk (Ky.keyPub s) (body a b) [mk s n (body a b) va vb] c = if a = c then (b, 0) else (0, 5) := by
  obtain ⟨h1, h2, h3⟩ := form_body ha hb
  rw [chk, if_pos (meets_own s hn _ _ _), if_pos h1, h2, h3]
theorem chk_no {p b : List Int} {ms : List Qm.Mark} (h : ∀ x, x ∈ ms → x.key ≠ p) (c : Int) : chk p b ms c = (0, 4) := by rw [chk, if_neg (meets_no h)]
end Go.Proofs.Ytgfnmolbagilmaa.Ck

namespace Go.Proofs.Ytgfnmolbagilmaa
open Go Go.RowKit Fw
open Sha
open Ots
open Mk
set_option linter.unusedVariables false
set_option linter.unusedSimpArgs false
set_option maxRecDepth 20000 in
set_option maxHeartbeats 2000000 in
theorem new_any (s : List Int) (u : Int) (w : World) (hl : s.length = 32) : Calls Try.prog 41 #[.agg (ints .u8 (s)).toArray, .int .i64 u] w (Post (ι := Nat × Value) w [] (fun _ => True) (fun x => .pointer (some ⟨x.1, 0, none⟩)) (fun x => [(0, .blk (x.1) (.cells (Ky.cells s x.2 (Ky.clamp u)).toArray 133)), (1, .own (x.2) 55 32 (flat (Ky.leaves s 16)))])) := by
  refine calls_at (vs := [.agg (ints .u8 (s)).toArray, .int .i64 u]) (X := []) (H := []) (F := []) 30 Try.func41 rfl rfl rfl (Sat.start0 w) ?_
  refine cd_seq ?_
  refine cd_region ?_
  refine st_box (h := 2) rfl rfl rfl rfl (fun b2 => ?_)
  refine st (ev_assign rfl) rfl rfl rfl ?_
  refine op_nil ?_
  refine ax_then ?_
  refine At.regs (L' := [(1, _), (2, _), (4, _)]) (.cons rfl (.cons rfl (.cons rfl (.nil _)))) ?_
  refine cd_seq ?_
  refine cd_region ?_
  refine st (ld_blk_all (h := 2) ty55 rfl rfl rfl (by first | omega | (simp only [List.length_append, List.length_cons, List.length_nil, List.length_set, List.length_replicate, List.length_take, List.length_drop, ints_length, wr_length, sha_len, node_len, recov_len, Ky.named_len, Ky.keyPub_len] <;> omega) | rfl)) rfl rfl rfl ?_
  refine st (ev_move rfl) rfl rfl rfl ?_
  refine st (ev_max2 rfl rfl) rfl rfl rfl ?_
  refine st (ev_min2 rfl rfl) rfl rfl rfl ?_
  refine at_eq (i := 10) (v' := .int .i64 (Ky.clamp u)) rfl rfl ?_
  refine st (ev_build_struct ty133 rfl pl133 rfl ((fill_put (i := 0) (off := 0) (n := 32) (vs := ints .u8 s) rfl rfl (by rw [ints_length, hl]) (Nat.le_of_ble_eq_true rfl)).trans ((fill_put (i := 2) (off := 33) (n := 1) (vs := [.int .i64 (Ky.clamp u)]) rfl rfl rfl (by rw [wr_length (by rw [ints_length, hl]; exact Nat.le_of_ble_eq_true rfl)]; exact Nat.le_of_ble_eq_true rfl)).trans fill_nil))) rfl rfl rfl ?_
  refine at_eq (i := 11) (v' := .agg (Ky.cells s (.slice none 0 0) (Ky.clamp u)).toArray) rfl (congrArg (fun x => Value.agg (List.toArray x)) (Ky.key_new hl _)) ?_
  refine st_box (h := 12) rfl rfl rfl rfl (fun b12 => ?_)
  refine st (ev_assign rfl) rfl rfl rfl ?_
  refine op_nil ?_
  refine ax_then ?_
  refine At.regs (L' := [(2, _), (4, _), (5, _)]) (.cons rfl (.cons rfl (.cons rfl (.nil _)))) ?_
  refine cd_seq ?_
  refine cd_seq ?_
  refine cd_region ?_
  refine st (ev_move rfl) rfl rfl rfl ?_
  refine op_nil ?_
  refine ax_then ?_
  refine At.regs (L' := [(2, _), (4, _), (5, _), (13, _)]) (.cons rfl (.cons rfl (.cons rfl (.cons rfl (.nil _))))) ?_
  refine cd_block ?_
  refine at_freeze_blk (h := 2) (H' := [(12, _)]) 2 rfl (.cons rfl (.nil _)) rfl ?_
  refine at_own_nil 20 55 32 ?_
  refine at_heq (i := 20) (v' := .own (.slice none 0 0) 55 32 (flat (Ky.leaves s 0))) rfl rfl ?_
  refine cd_loop (ι := Nat × Value) (fun x => x.1 ≤ 16) (fun x => 16 - x.1)
      (fun x => [(2, .pointer (some ⟨b2, 0, none⟩)), (5, .pointer (some ⟨b12, 0, none⟩)), (13, .int .i64 (x.1 : Int))])
      (fun x => [(12, .blk (b12) (.cells (Ky.cells s x.2 (Ky.clamp u)).toArray 133)), (20, .own (x.2) 55 32 (flat (Ky.leaves s x.1)))])
      (fun x => [(2, .mem b2 0 (ints .u8 s))])
      (0, .slice none 0 0) (by omega) (.cons rfl (.cons rfl (.cons rfl (.nil _)))) (.cons rfl (.cons rfl (.nil _))) (.cons rfl (.nil _)) (fun x hi => ?_)
  have hlu := Ky.leaves_h32 s x.1
  have hln := Ky.leaves_len s x.1
  have hpl : (pub s x.1).length = 32 := sha_len _
  refine cd_seq ?_
  refine cd_region ?_
  refine st (ev_lss rfl rfl) rfl rfl rfl ?_
  refine op_nil ?_
  refine ax_then ?_
  refine At.regs (L' := [(2, _), (5, _), (13, _), (14, _)]) (.cons rfl (.cons rfl (.cons rfl (.cons rfl (.nil _))))) ?_
  refine cd_seq ?_
  refine cd_if rfl (fun hc14 => ?_) (fun hc14 => ?_)
  ·
    refine cd_skip ?_
    refine ax_then ?_
    refine At.regs (L' := [(2, _), (5, _), (13, _), (14, _)]) (.cons rfl (.cons rfl (.cons rfl (.cons rfl (.nil _))))) ?_
    refine cd_seq ?_
    refine cd_block ?_
    refine cd_seq ?_
    refine cd_region ?_
    refine st (ev_move rfl) rfl rfl rfl ?_
    refine st (ev_assign rfl) rfl rfl rfl ?_
    refine op_nil ?_
    refine ax_then ?_
    refine At.regs (L' := [(2, _), (5, _), (6, _), (13, _), (14, _), (15, _)]) (.cons rfl (.cons rfl (.cons rfl (.cons rfl (.cons rfl (.cons rfl (.nil _))))))) ?_
    refine cd_mix hmix ?_
    refine mx (i := 0) rfl (by decide +kernel) (by decide +kernel) (by decide +kernel) rfl (fun w0 => ev_move rfl) rfl rfl (Sub.refl _) ?_
    refine mx (i := 1) rfl (by decide +kernel) (by decide +kernel) (by decide +kernel) rfl (fun w0 => ev_move rfl) rfl rfl (Sub.refl _) ?_
    refine mx (i := 2) rfl (by decide +kernel) (by decide +kernel) (by decide +kernel) rfl (fun w0 => ev_nilCheck rfl) rfl rfl (Sub.refl _) ?_
    refine mx (i := 3) rfl (by decide +kernel) (by decide +kernel) (by decide +kernel) rfl (fun w0 => ev_fieldAddr (b := _) Try.underlying133 (f := _) rfl ty22 (by decide) rfl) rfl rfl (Sub.refl _) ?_
    refine mx (i := 5) rfl (by decide +kernel) (by decide +kernel) (by decide +kernel) rfl (fun w0 => ld_mem_all (h := 2) ty55 rfl rfl rfl (by first | omega | (simp only [List.length_append, List.length_cons, List.length_nil, List.length_set, List.length_replicate, List.length_take, List.length_drop, ints_length, wr_length, sha_len, node_len, recov_len, Ky.named_len, Ky.keyPub_len] <;> omega) | rfl)) rfl rfl (Sub.refl _) ?_
    refine mx (i := 6) rfl (by decide +kernel) (by decide +kernel) (by decide +kernel) rfl (fun w0 => ev_move rfl) rfl rfl (Sub.refl _) ?_
    refine mx_two (i := 4) (j := 7) (by decide +kernel) (Sub.refl _) ?_ ?_
    ·
      refine wo (i := 4) rfl ?_
      refine st (ld_blk1 (h := 12) ty22 rfl rfl rfl (Ky.cells_32 hl _ _)) rfl rfl rfl ?_
      refine op_nil ?_
      refine ax_then ?_
      refine mx_one (i := 7) (by decide +kernel) (Sub.refl _) ?_
      refine wo (i := 7) rfl ?_
      refine st_callv has75 rfl (fun w1 sw => public_any s x.1 w1 hl) rfl rfl ?_
      refine op_nil ?_
      refine ax_then ?_
      refine mx_one (i := 8) (by decide +kernel) (Sub.refl _) ?_
      refine wo (i := 8) rfl ?_
      refine st_bsh1 (h := 24) Try.underlying22 ty55 rfl (by first | assumption | omega) rfl rfl (fun b24 hu24 => ?_)
      refine op_nil ?_
      refine ax_then ?_
      refine mx_one (i := 9) (by decide +kernel) (Sub.refl _) ?_
      refine wo (i := 9) rfl ?_
      refine st_appendh (h := 20) Try.underlying22 Try.underlying22 ty55 rfl rfl rfl rfl (fun w1 sw => sw.own_rd (h := 24) rfl) (by assumption) (by assumption) (by first | omega | (simp only [List.length_append, List.length_cons, List.length_nil, List.length_set, List.length_replicate, List.length_take, List.length_drop, ints_length, wr_length, sha_len, node_len, recov_len, Ky.named_len, Ky.keyPub_len] <;> omega)) (by decide) rfl rfl (fun v25 hu25 => ?_)
      refine at_own_shape (h := 20) rfl (fun hs25 => ?_)
      refine op_nil ?_
      refine ax_then ?_
      refine mx (i := 10) rfl (by decide +kernel) (by decide +kernel) (by decide +kernel) rfl (fun w0 => ev_nilCheck rfl) rfl rfl (Sub.refl _) ?_
      refine mx (i := 11) rfl (by decide +kernel) (by decide +kernel) (by decide +kernel) rfl (fun w0 => ev_fieldAddr (b := _) Try.underlying133 (f := _) rfl ty22 (by decide) rfl) rfl rfl (Sub.refl _) ?_
      refine mx_one (i := 12) (by decide +kernel) (Sub.refl _) ?_
      refine wo (i := 12) rfl ?_
      refine st_store1 12 ty22 rfl rfl rfl hs25.2 (by rw [Ky.cells_len hl]; decide) rfl ?_
      refine at_heq (i := 12) (v' := .blk (b12) (.cells (Ky.cells s v25 (Ky.clamp u)).toArray 133)) rfl (congrArg (fun l : List Value => Ent.blk b12 (.cells l.toArray 133)) (Ky.cells_set32 hl _ _ _)) ?_
      refine op_nil ?_
      refine ax_then ?_
      refine mx_done (by decide +kernel) (Sub.refl _) ?_
      refine ax_block ?_
      refine ax_then ?_
      refine At.regs (L' := [(2, _), (5, _), (6, _), (13, _), (14, _), (15, _), (16, _), (17, _), (18, _), (19, _), (20, _), (21, _), (22, _), (23, _), (24, _), (25, _), (26, _), (27, _)]) (.cons rfl (.cons rfl (.cons rfl (.cons rfl (.cons rfl (.cons rfl (.cons rfl (.cons rfl (.cons rfl (.cons rfl (.cons rfl (.cons rfl (.cons rfl (.cons rfl (.cons rfl (.cons rfl (.cons rfl (.cons rfl (.nil _))))))))))))))))))) ?_
      refine cd_region ?_
      refine st (ev_add64 rfl rfl (by omega) (by omega)) rfl rfl rfl ?_
      refine st (ev_move rfl) rfl rfl rfl ?_
      refine op_nil ?_
      refine ax_heq (i := 20) (v' := .own (v25) 55 32 (flat (Ky.leaves s (x.1 + 1)))) rfl (by rw [Ky.leaves_snoc]) ?_
      exact at_again ((x.1 + 1, v25)) (by show x.1 + 1 ≤ 16; omega) (by omega) (.cons rfl (.cons rfl (.cons rfl (.nil _)))) (.cons rfl (.cons rfl (.nil _))) (.cons rfl (.nil _))
    ·
      refine wo (i := 7) rfl ?_
      refine st_callv has75 rfl (fun w1 sw => public_any s x.1 w1 hl) rfl rfl ?_
      refine op_nil ?_
      refine ax_then ?_
      refine mx_two (i := 4) (j := 8) (by decide +kernel) (Sub.refl _) ?_ ?_
      ·
        refine wo (i := 4) rfl ?_
        refine st (ld_blk1 (h := 12) ty22 rfl rfl rfl (Ky.cells_32 hl _ _)) rfl rfl rfl ?_
        refine op_nil ?_
        refine ax_then ?_
        refine mx_one (i := 8) (by decide +kernel) (Sub.refl _) ?_
        refine wo (i := 8) rfl ?_
        refine st_bsh1 (h := 24) Try.underlying22 ty55 rfl (by first | assumption | omega) rfl rfl (fun b24 hu24 => ?_)
        refine op_nil ?_
        refine ax_then ?_
        refine mx_one (i := 9) (by decide +kernel) (Sub.refl _) ?_
        refine wo (i := 9) rfl ?_
        refine st_appendh (h := 20) Try.underlying22 Try.underlying22 ty55 rfl rfl rfl rfl (fun w1 sw => sw.own_rd (h := 24) rfl) (by assumption) (by assumption) (by first | omega | (simp only [List.length_append, List.length_cons, List.length_nil, List.length_set, List.length_replicate, List.length_take, List.length_drop, ints_length, wr_length, sha_len, node_len, recov_len, Ky.named_len, Ky.keyPub_len] <;> omega)) (by decide) rfl rfl (fun v25 hu25 => ?_)
        refine at_own_shape (h := 20) rfl (fun hs25 => ?_)
        refine op_nil ?_
        refine ax_then ?_
        refine mx (i := 10) rfl (by decide +kernel) (by decide +kernel) (by decide +kernel) rfl (fun w0 => ev_nilCheck rfl) rfl rfl (Sub.refl _) ?_
        refine mx (i := 11) rfl (by decide +kernel) (by decide +kernel) (by decide +kernel) rfl (fun w0 => ev_fieldAddr (b := _) Try.underlying133 (f := _) rfl ty22 (by decide) rfl) rfl rfl (Sub.refl _) ?_
        refine mx_one (i := 12) (by decide +kernel) (Sub.refl _) ?_
        refine wo (i := 12) rfl ?_
        refine st_store1 12 ty22 rfl rfl rfl hs25.2 (by rw [Ky.cells_len hl]; decide) rfl ?_
        refine at_heq (i := 12) (v' := .blk (b12) (.cells (Ky.cells s v25 (Ky.clamp u)).toArray 133)) rfl (congrArg (fun l : List Value => Ent.blk b12 (.cells l.toArray 133)) (Ky.cells_set32 hl _ _ _)) ?_
        refine op_nil ?_
        refine ax_then ?_
        refine mx_done (by decide +kernel) (Sub.refl _) ?_
        refine ax_block ?_
        refine ax_then ?_
        refine At.regs (L' := [(2, _), (5, _), (6, _), (13, _), (14, _), (15, _), (16, _), (17, _), (18, _), (19, _), (20, _), (21, _), (22, _), (23, _), (24, _), (25, _), (26, _), (27, _)]) (.cons rfl (.cons rfl (.cons rfl (.cons rfl (.cons rfl (.cons rfl (.cons rfl (.cons rfl (.cons rfl (.cons rfl (.cons rfl (.cons rfl (.cons rfl (.cons rfl (.cons rfl (.cons rfl (.cons rfl (.cons rfl (.nil _))))))))))))))))))) ?_
        refine cd_region ?_
        refine st (ev_add64 rfl rfl (by omega) (by omega)) rfl rfl rfl ?_
        refine st (ev_move rfl) rfl rfl rfl ?_
        refine op_nil ?_
        refine ax_heq (i := 20) (v' := .own (v25) 55 32 (flat (Ky.leaves s (x.1 + 1)))) rfl (by rw [Ky.leaves_snoc]) ?_
        exact at_again ((x.1 + 1, v25)) (by show x.1 + 1 ≤ 16; omega) (by omega) (.cons rfl (.cons rfl (.cons rfl (.nil _)))) (.cons rfl (.cons rfl (.nil _))) (.cons rfl (.nil _))
      ·
        refine wo (i := 8) rfl ?_
        refine st_bsh1 (h := 24) Try.underlying22 ty55 rfl (by first | assumption | omega) rfl rfl (fun b24 hu24 => ?_)
        refine op_nil ?_
        refine ax_then ?_
        refine mx_one (i := 4) (by decide +kernel) (Sub.refl _) ?_
        refine wo (i := 4) rfl ?_
        refine st (ld_blk1 (h := 12) ty22 rfl rfl rfl (Ky.cells_32 hl _ _)) rfl rfl rfl ?_
        refine op_nil ?_
        refine ax_then ?_
        refine mx_one (i := 9) (by decide +kernel) (Sub.refl _) ?_
        refine wo (i := 9) rfl ?_
        refine st_appendh (h := 20) Try.underlying22 Try.underlying22 ty55 rfl rfl rfl rfl (fun w1 sw => sw.own_rd (h := 24) rfl) (by assumption) (by assumption) (by first | omega | (simp only [List.length_append, List.length_cons, List.length_nil, List.length_set, List.length_replicate, List.length_take, List.length_drop, ints_length, wr_length, sha_len, node_len, recov_len, Ky.named_len, Ky.keyPub_len] <;> omega)) (by decide) rfl rfl (fun v25 hu25 => ?_)
        refine at_own_shape (h := 20) rfl (fun hs25 => ?_)
        refine op_nil ?_
        refine ax_then ?_
        refine mx (i := 10) rfl (by decide +kernel) (by decide +kernel) (by decide +kernel) rfl (fun w0 => ev_nilCheck rfl) rfl rfl (Sub.refl _) ?_
        refine mx (i := 11) rfl (by decide +kernel) (by decide +kernel) (by decide +kernel) rfl (fun w0 => ev_fieldAddr (b := _) Try.underlying133 (f := _) rfl ty22 (by decide) rfl) rfl rfl (Sub.refl _) ?_
        refine mx_one (i := 12) (by decide +kernel) (Sub.refl _) ?_
        refine wo (i := 12) rfl ?_
        refine st_store1 12 ty22 rfl rfl rfl hs25.2 (by rw [Ky.cells_len hl]; decide) rfl ?_
        refine at_heq (i := 12) (v' := .blk (b12) (.cells (Ky.cells s v25 (Ky.clamp u)).toArray 133)) rfl (congrArg (fun l : List Value => Ent.blk b12 (.cells l.toArray 133)) (Ky.cells_set32 hl _ _ _)) ?_
        refine op_nil ?_
        refine ax_then ?_
        refine mx_done (by decide +kernel) (Sub.refl _) ?_
        refine ax_block ?_
        refine ax_then ?_
        refine At.regs (L' := [(2, _), (5, _), (6, _), (13, _), (14, _), (15, _), (16, _), (17, _), (18, _), (19, _), (20, _), (21, _), (22, _), (23, _), (24, _), (25, _), (26, _), (27, _)]) (.cons rfl (.cons rfl (.cons rfl (.cons rfl (.cons rfl (.cons rfl (.cons rfl (.cons rfl (.cons rfl (.cons rfl (.cons rfl (.cons rfl (.cons rfl (.cons rfl (.cons rfl (.cons rfl (.cons rfl (.cons rfl (.nil _))))))))))))))))))) ?_
        refine cd_region ?_
        refine st (ev_add64 rfl rfl (by omega) (by omega)) rfl rfl rfl ?_
        refine st (ev_move rfl) rfl rfl rfl ?_
        refine op_nil ?_
        refine ax_heq (i := 20) (v' := .own (v25) 55 32 (flat (Ky.leaves s (x.1 + 1)))) rfl (by rw [Ky.leaves_snoc]) ?_
        exact at_again ((x.1 + 1, v25)) (by show x.1 + 1 ≤ 16; omega) (by omega) (.cons rfl (.cons rfl (.cons rfl (.nil _)))) (.cons rfl (.cons rfl (.nil _))) (.cons rfl (.nil _))
  ·
    obtain ⟨j, v⟩ := x
    dsimp only at hi hc14 ⊢
    obtain rfl : j = 16 := by omega
    refine cd_exit ?_
    refine ax_then_exit ?_
    refine ax_then_exit ?_
    refine ax_block_hit ?_
    refine ax_then ?_
    refine At.regs (L' := [(5, _)]) (.cons rfl (.nil _)) ?_
    refine cd_seq ?_
    refine cd_region ?_
    refine st (ev_move rfl) rfl rfl rfl ?_
    refine st (ev_assign rfl) rfl rfl rfl ?_
    refine op_nil ?_
    refine ax_then ?_
    refine At.regs (L' := [(4, _)]) (.cons rfl (.nil _)) ?_
    refine cd_ret ?_
    refine rt_tmp (.inl rfl) Try.results41 rfl ?_
    exact fun w1 sw => ⟨(b12, v), trivial, rfl, (sw.gives (N := [(12, _), (20, _)]) (.cons rfl (.cons rfl (.nil _)))).rn2 (by decide) 0 1⟩
set_option maxRecDepth 20000 in
set_option maxHeartbeats 1000000 in
theorem pubkey_any (b : Nat) (v : Value) (s : List Int) (n : Nat) (w : World) (hl : s.length = 32) (h : Lies w b 0 (Ky.cells s v (n : Int))) (h' : Rd w v 32 (flat (Ky.leaves s 16))) : Calls Try.prog 42 #[.pointer (some ⟨b, 0, none⟩)] w (PostV w (.agg (ints .u8 (Ky.keyPub s)).toArray)) := by
  refine calls_at (vs := [.pointer (some ⟨b, 0, none⟩)]) (X := []) (H := []) (F := [(21, .mem b 0 (Ky.cells s v (n : Int))), (20, .sl (v) 32 (flat (Ky.leaves s 16)))]) 12 Try.func42 rfl rfl rfl ((Sat.rd0 20 h').read 21 h off_nil) ?_
  refine cd_seq ?_
  refine cd_region ?_
  refine st_alloc (h := 2) ty55 rfl rfl rfl (fun b2 => ?_)
  refine op_nil ?_
  refine ax_then ?_
  refine At.regs (L' := [(0, _), (2, _)]) (.cons rfl (.cons rfl (.nil _))) ?_
  refine cd_seq ?_
  refine cd_seq ?_
  refine cd_region ?_
  refine st (ev_move rfl) rfl rfl rfl ?_
  refine st (ev_eql_ptr_nil Try.underlying95 rfl rfl) rfl rfl rfl ?_
  refine op_nil ?_
  refine ax_then ?_
  refine At.regs (L' := [(0, _), (2, _), (4, _)]) (.cons rfl (.cons rfl (.cons rfl (.nil _)))) ?_
  refine cd_false rfl ?_
  refine cd_skip ?_
  refine ax_then ?_
  refine At.regs (L' := [(0, _), (2, _)]) (.cons rfl (.cons rfl (.nil _))) ?_
  refine cd_seq ?_
  refine cd_region ?_
  refine st (ev_move rfl) rfl rfl rfl ?_
  refine st (ev_nilCheck rfl) rfl rfl rfl ?_
  refine st (ev_fieldAddr (b := _) Try.underlying133 (f := _) rfl ty22 (by decide) rfl) rfl rfl rfl ?_
  refine st (ld_mem1 (h := 21) ty22 rfl rfl rfl (Nat.zero_add _).symm (Ky.cells_32 hl _ _)) rfl rfl rfl ?_
  refine st_callv has77 rfl (fun w1 sw => root_any v (Ky.leaves s 16) w1 (Ky.leaves_h32 s 16) (by rw [Ky.leaves_len]; decide) (sw.sl_rd (h := 20) rfl)) rfl rfl ?_
  refine st_callv has76 rfl (fun w1 sw => named_any (root (Ky.leaves s 16)) w1 (root_len (Ky.leaves_h32 s 16))) rfl rfl ?_
  refine at_eq (i := 11) (v' := .agg (ints .u8 (Ky.keyPub s)).toArray) rfl rfl ?_
  refine st_store_all 2 ty55 rfl rfl rfl rfl (by first | omega | (simp only [List.length_append, List.length_cons, List.length_nil, List.length_set, List.length_replicate, List.length_take, List.length_drop, ints_length, wr_length, sha_len, node_len, recov_len, Ky.named_len, Ky.keyPub_len] <;> omega) | rfl) (ints_one _ _) (by first | omega | (simp only [List.length_append, List.length_cons, List.length_nil, List.length_set, List.length_replicate, List.length_take, List.length_drop, ints_length, wr_length, sha_len, node_len, recov_len, Ky.named_len, Ky.keyPub_len] <;> omega) | rfl) rfl ?_
  refine op_nil ?_
  refine ax_then ?_
  refine At.regs (L' := [(2, _)]) (.cons rfl (.nil _)) ?_
  refine cd_ret ?_
  refine rt_cell (h0 := 2) (.inl rfl) Try.results42 ty55 rfl rfl rfl (by first | omega | (simp only [List.length_append, List.length_cons, List.length_nil, List.length_set, List.length_replicate, List.length_take, List.length_drop, ints_length, wr_length, sha_len, node_len, recov_len, Ky.named_len, Ky.keyPub_len] <;> omega) | rfl) ?_
  exact fun w1 sw => ⟨rfl, sw.gives (.nil _)⟩
set_option maxRecDepth 20000 in
set_option maxHeartbeats 1000000 in
theorem signk_used (b : Nat) (v : Value) (s : List Int) (n : Nat) (q : Value) (w : World) (hn : 16 ≤ n) (hl : s.length = 32) (h : Lies w b 0 (Ky.cells s v (n : Int))) (h' : Rd w v 32 (flat (Ky.leaves s 16))) : Calls Try.prog 45 #[.pointer (some ⟨b, 0, none⟩), q] w (PostV w (.tuple #[.agg (List.toArray [.int .i64 0, .slice none 0 0, .slice none 0 0]), .int .i64 3])) := by
  refine calls_at (vs := [.pointer (some ⟨b, 0, none⟩), q]) (X := []) (H := []) (F := [(21, .mem b 0 (Ky.cells s v (n : Int))), (20, .sl (v) 32 (flat (Ky.leaves s 16)))]) 44 Try.func45 rfl rfl rfl ((Sat.rd0 20 h').read 21 h off_nil) ?_
  refine cd_seq ?_
  refine cd_region ?_
  refine st_alloc (h := 4) ty80 rfl rfl rfl (fun b4 => ?_)
  refine st (ev_assign rfl) rfl rfl rfl ?_
  refine op_nil ?_
  refine ax_then ?_
  refine At.regs (L' := [(0, _), (1, _), (4, _), (5, _)]) (.cons rfl (.cons rfl (.cons rfl (.cons rfl (.nil _))))) ?_
  refine cd_seq ?_
  refine cd_block ?_
  refine cd_seq ?_
  refine cd_region ?_
  refine st (ev_move rfl) rfl rfl rfl ?_
  refine st (ev_eql_ptr_nil Try.underlying95 rfl rfl) rfl rfl rfl ?_
  refine st (ev_assign rfl) rfl rfl rfl ?_
  refine op_nil ?_
  refine ax_then ?_
  refine At.regs (L' := [(0, _), (1, _), (4, _), (5, _), (7, _)]) (.cons rfl (.cons rfl (.cons rfl (.cons rfl (.cons rfl (.nil _)))))) ?_
  refine cd_false rfl ?_
  refine cd_seq ?_
  refine cd_region ?_
  refine st (ev_move rfl) rfl rfl rfl ?_
  refine st (ev_nilCheck rfl) rfl rfl rfl ?_
  refine st (ev_fieldAddr (b := _) Try.underlying133 (f := _) rfl ty3 (by decide) rfl) rfl rfl rfl ?_
  refine st (ld_mem1 (h := 21) ty3 rfl rfl rfl (Nat.zero_add _).symm (Ky.cells_33 hl _ _)) rfl rfl rfl ?_
  refine st (ev_geq rfl rfl) rfl rfl rfl ?_
  refine st (ev_assign rfl) rfl rfl rfl ?_
  refine op_nil ?_
  refine ax_then ?_
  refine At.regs (L' := [(0, _), (1, _), (4, _), (5, _), (11, _)]) (.cons rfl (.cons rfl (.cons rfl (.cons rfl (.cons rfl (.nil _)))))) ?_
  refine cd_if_t rfl (by omega) ?_
  refine cd_seq ?_
  refine cd_region ?_
  refine st (ev_build_struct ty80 rfl pl80 rfl rfl) rfl rfl rfl ?_
  refine st_store_all 4 ty80 rfl rfl rfl rfl (by first | omega | (simp only [List.length_append, List.length_cons, List.length_nil, List.length_set, List.length_replicate, List.length_take, List.length_drop, ints_length, wr_length, sha_len, node_len, recov_len, Ky.named_len, Ky.keyPub_len] <;> omega) | rfl) (by first | (intro u hu; simp at hu; rcases hu with rfl | rfl <;> rfl) | (simp [Value.oneCell'])) (by first | omega | (simp only [List.length_append, List.length_cons, List.length_nil, List.length_set, List.length_replicate, List.length_take, List.length_drop, ints_length, wr_length, sha_len, node_len, recov_len, Ky.named_len, Ky.keyPub_len] <;> omega) | rfl) rfl ?_
  refine st (ev_assign rfl) rfl rfl rfl ?_
  refine op_nil ?_
  refine ax_then ?_
  refine At.regs (L' := [(0, _), (1, _), (4, _), (5, _)]) (.cons rfl (.cons rfl (.cons rfl (.cons rfl (.nil _))))) ?_
  refine cd_ret ?_
  refine ax_block_ret ?_
  refine ax_then_ret ?_
  refine rt_cell_tmp (h0 := 4) (.inl rfl) Try.results45 ty80 rfl rfl rfl (by first | omega | (simp only [List.length_append, List.length_cons, List.length_nil, List.length_set, List.length_replicate, List.length_take, List.length_drop, ints_length, wr_length, sha_len, node_len, recov_len, Ky.named_len, Ky.keyPub_len] <;> omega) | rfl) rfl ?_
  exact fun w1 sw => ⟨rfl, sw.gives (.nil _)⟩
set_option maxRecDepth 20000 in
set_option maxHeartbeats 4000000 in
theorem signk_any (b : Nat) (v q : Value) (s m : List Int) (n : Nat) (w : World) (hl : s.length = 32) (hn : n < 16) (hm : m.length ≤ 140737488352000) (hb : w.heap[b]? = some (.cells (Ky.cells s v (n : Int)).toArray 133)) (h : Rd w v 32 (flat (Ky.leaves s 16))) (hbv : FE.off b (.sl (v) 32 (flat (Ky.leaves s 16)))) (h' : Rd w q 1 (ints .u8 m)) (hbq : FE.off b (.sl (q) 1 (ints .u8 (m)))) : Calls Try.prog 45 #[.pointer (some ⟨b, 0, none⟩), q] w (Post (ι := Value × Value) w [b] (fun _ => True) (fun x => .tuple #[.agg (List.toArray [.int .i64 (n : Int), x.1, x.2]), .int .i64 0]) (fun x => [(0, .blk (b) (.cells (Ky.cells s v (((n + 1 : Nat)) : Int)).toArray 133)), (1, .own (x.1) 55 32 (flat (sign s n m 36))), (2, .own (x.2) 55 32 (flat (path (Ky.leaves s 16) n)))])) := by
  have hlu := Ky.leaves_h32 s 16
  have hll := Ky.leaves_len s 16
  refine calls_at (vs := [.pointer (some ⟨b, 0, none⟩), q]) (X := [b]) (H := [(0, .blk (b) (.cells (Ky.cells s v (n : Int)).toArray 133))]) (F := [(2, .sl (q) 1 (ints .u8 (m))), (1, .sl (v) 32 (flat (Ky.leaves s 16)))]) 44 Try.func45 rfl rfl rfl (((Sat.blkX 0 hb).readb (f := .sl (v) 32 (flat (Ky.leaves s 16))) 1 h hbv).readb (f := .sl (q) 1 (ints .u8 (m))) 2 h' hbq) ?_
  refine cd_seq ?_
  refine cd_region ?_
  refine st_alloc (h := 4) ty80 rfl rfl rfl (fun b4 => ?_)
  refine st (ev_assign rfl) rfl rfl rfl ?_
  refine op_nil ?_
  refine ax_then ?_
  refine At.regs (L' := [(0, _), (1, _), (4, _), (5, _)]) (.cons rfl (.cons rfl (.cons rfl (.cons rfl (.nil _))))) ?_
  refine cd_seq ?_
  refine cd_block ?_
  refine cd_seq ?_
  refine cd_region ?_
  refine st (ev_move rfl) rfl rfl rfl ?_
  refine st (ev_eql_ptr_nil Try.underlying95 rfl rfl) rfl rfl rfl ?_
  refine st (ev_assign rfl) rfl rfl rfl ?_
  refine op_nil ?_
  refine ax_then ?_
  refine At.regs (L' := [(0, _), (1, _), (4, _), (5, _), (7, _)]) (.cons rfl (.cons rfl (.cons rfl (.cons rfl (.cons rfl (.nil _)))))) ?_
  refine cd_false rfl ?_
  refine cd_seq ?_
  refine cd_region ?_
  refine st (ev_move rfl) rfl rfl rfl ?_
  refine st (ev_nilCheck rfl) rfl rfl rfl ?_
  refine st (ev_fieldAddr (b := _) Try.underlying133 (f := _) rfl ty3 (by decide) rfl) rfl rfl rfl ?_
  refine st (ld_blk1 (h := 0) ty3 rfl rfl rfl (Ky.cells_33 hl _ _)) rfl rfl rfl ?_
  refine st (ev_geq rfl rfl) rfl rfl rfl ?_
  refine st (ev_assign rfl) rfl rfl rfl ?_
  refine op_nil ?_
  refine ax_then ?_
  refine At.regs (L' := [(0, _), (1, _), (4, _), (5, _), (11, _)]) (.cons rfl (.cons rfl (.cons rfl (.cons rfl (.cons rfl (.nil _)))))) ?_
  refine cd_if_f rfl (by omega) ?_
  refine cd_skip ?_
  refine ax_block ?_
  refine ax_then ?_
  refine At.regs (L' := [(0, _), (1, _), (4, _), (5, _)]) (.cons rfl (.cons rfl (.cons rfl (.cons rfl (.nil _))))) ?_
  refine cd_seq ?_
  refine cd_region ?_
  refine st (ev_move rfl) rfl rfl rfl ?_
  refine st (ev_nilCheck rfl) rfl rfl rfl ?_
  refine st (ev_fieldAddr (b := _) Try.underlying133 (f := _) rfl ty3 (by decide) rfl) rfl rfl rfl ?_
  refine st (ld_blk1 (h := 0) ty3 rfl rfl rfl (Ky.cells_33 hl _ _)) rfl rfl rfl ?_
  refine st (ev_assign rfl) rfl rfl rfl ?_
  refine op_nil ?_
  refine ax_then ?_
  refine At.regs (L' := [(0, _), (1, _), (4, _), (5, _), (6, _)]) (.cons rfl (.cons rfl (.cons rfl (.cons rfl (.cons rfl (.nil _)))))) ?_
  refine cd_seq ?_
  refine cd_region ?_
  refine st (ev_move rfl) rfl rfl rfl ?_
  refine st (ev_nilCheck rfl) rfl rfl rfl ?_
  refine st (ev_fieldAddr (b := _) Try.underlying133 (f := _) rfl ty3 (by decide) rfl) rfl rfl rfl ?_
  refine st (ld_blk1 (h := 0) ty3 rfl rfl rfl (Ky.cells_33 hl _ _)) rfl rfl rfl ?_
  refine st (ev_add64 rfl rfl (by omega) (by omega)) rfl rfl rfl ?_
  refine st (ev_nilCheck rfl) rfl rfl rfl ?_
  refine st (ev_fieldAddr (b := _) Try.underlying133 (f := _) rfl ty3 (by decide) rfl) rfl rfl rfl ?_
  refine st_store1 0 ty3 rfl rfl rfl rfl (by rw [Ky.cells_len hl]; decide) rfl ?_
  refine at_heq (i := 0) (v' := .blk (b) (.cells (Ky.cells s v (((n + 1 : Nat)) : Int)).toArray 133)) rfl (congrArg (fun l : List Value => Ent.blk b (.cells l.toArray 133)) (Ky.cells_set33 hl _ _ _)) ?_
  refine op_nil ?_
  refine ax_then ?_
  refine At.regs (L' := [(0, _), (1, _), (4, _), (5, _), (6, _)]) (.cons rfl (.cons rfl (.cons rfl (.cons rfl (.cons rfl (.nil _)))))) ?_
  refine cd_seq ?_
  refine cd_mix hmix ?_
  refine mx (i := 0) rfl (by decide +kernel) (by decide +kernel) (by decide +kernel) rfl (fun w0 => ev_move rfl) rfl rfl (Sub.refl _) ?_
  refine mx (i := 1) rfl (by decide +kernel) (by decide +kernel) (by decide +kernel) rfl (fun w0 => ev_move rfl) rfl rfl (Sub.refl _) ?_
  refine mx (i := 2) rfl (by decide +kernel) (by decide +kernel) (by decide +kernel) rfl (fun w0 => ev_nilCheck rfl) rfl rfl (Sub.refl _) ?_
  refine mx (i := 3) rfl (by decide +kernel) (by decide +kernel) (by decide +kernel) rfl (fun w0 => ev_fieldAddr (b := _) Try.underlying133 (f := _) rfl ty55 (by decide) rfl) rfl rfl (Sub.refl _) ?_
  refine mx (i := 5) rfl (by decide +kernel) (by decide +kernel) (by decide +kernel) rfl (fun w0 => ev_move rfl) rfl rfl (Sub.refl _) ?_
  refine mx (i := 6) rfl (by decide +kernel) (by decide +kernel) (by decide +kernel) rfl (fun w0 => ev_move rfl) rfl rfl (Sub.refl _) ?_
  refine mx (i := 8) rfl (by decide +kernel) (by decide +kernel) (by decide +kernel) rfl (fun w0 => ev_move rfl) rfl rfl (Sub.refl _) ?_
  refine mx (i := 9) rfl (by decide +kernel) (by decide +kernel) (by decide +kernel) rfl (fun w0 => ev_nilCheck rfl) rfl rfl (Sub.refl _) ?_
  refine mx (i := 10) rfl (by decide +kernel) (by decide +kernel) (by decide +kernel) rfl (fun w0 => ev_fieldAddr (b := _) Try.underlying133 (f := _) rfl ty22 (by decide) rfl) rfl rfl (Sub.refl _) ?_
  refine mx (i := 12) rfl (by decide +kernel) (by decide +kernel) (by decide +kernel) rfl (fun w0 => ev_move rfl) rfl rfl (Sub.refl _) ?_
  refine mx_two (i := 4) (j := 11) (by decide +kernel) (Sub.refl _) ?_ ?_
  ·
    refine wo (i := 4) rfl ?_
    refine st (ld_blk (h := 0) ty55 rfl rfl rfl (by rw [Ky.cells_len hl]; decide)) rfl rfl rfl ?_
    refine at_eq (i := 33) (v' := .agg (ints .u8 (s)).toArray) rfl (congrArg (fun x => Value.agg (List.toArray x)) (Ky.cells_seed hl _ _)) ?_
    refine op_nil ?_
    refine ax_then ?_
    refine mx_two (i := 7) (j := 11) (by decide +kernel) (Sub.refl _) ?_ ?_
    ·
      refine wo (i := 7) rfl ?_
      refine st_call has78 rfl (fun w1 sw => rn 36 (sign_any s n q m w1 (by first | rfl | assumption) (by first | decide | omega) (sw.sl_rd (h := 2) rfl))) nil_all rfl rfl (fun v36 _ => ?_)
      have hsu36 := sign_h32 s n m 36
      have hsn36 := sign_len s n m 36
      refine at_own_shape (h := 36) rfl (fun hs36 => ?_)
      refine op_nil ?_
      refine ax_then ?_
      refine mx_one (i := 11) (by decide +kernel) (Sub.refl _) ?_
      refine wo (i := 11) rfl ?_
      refine st (ld_blk1 (h := 0) ty22 rfl rfl rfl (Ky.cells_32 hl _ _)) rfl rfl rfl ?_
      refine op_nil ?_
      refine ax_then ?_
      refine mx_one (i := 13) (by decide +kernel) (Sub.refl _) ?_
      refine wo (i := 13) rfl ?_
      refine st_call has79 rfl (fun w1 sw => rn 42 (path_any v (Ky.leaves s 16) (n : Int) w1 hlu (by rw [hll]; decide) (by omega) (sw.sl_rd (h := 1) rfl))) nil_all rfl rfl (fun v42 _ => ?_)
      refine at_own_shape (h := 42) rfl (fun hs42 => ?_)
      refine op_nil ?_
      refine ax_then ?_
      refine mx (i := 14) rfl (by decide +kernel) (by decide +kernel) (by decide +kernel) rfl (fun w0 => ev_build_struct ty80 rfl pl80 rfl ((fill_put (i := 0) (off := 0) (n := 1) (vs := [.int .i64 (n : Int)]) rfl rfl rfl (Nat.le_of_ble_eq_true rfl)).trans ((fill_put (i := 1) (off := 1) (n := 1) (vs := [v36]) rfl hs36.1 rfl (Nat.le_of_ble_eq_true rfl)).trans ((fill_put (i := 2) (off := 2) (n := 1) (vs := [v42]) rfl hs42.1 rfl (Nat.le_of_ble_eq_true rfl)).trans fill_nil)))) rfl rfl (Sub.refl _) ?_
      refine at_eq (i := 43) (v' := .agg (List.toArray [.int .i64 (n : Int), v36, v42])) rfl rfl ?_
      refine mx_one (i := 15) (by decide +kernel) (Sub.refl _) ?_
      refine wo (i := 15) rfl ?_
      refine st_store_all 4 ty80 rfl rfl rfl rfl rfl (by intro u hu; simp at hu; rcases hu with rfl | rfl | rfl; rfl; exact hs36.2; exact hs42.2) rfl rfl ?_
      refine op_nil ?_
      refine ax_then ?_
      refine mx (i := 16) rfl (by decide +kernel) (by decide +kernel) (by decide +kernel) rfl (fun w0 => ev_assign rfl) rfl rfl (Sub.refl _) ?_
      refine mx_done (by decide +kernel) (Sub.refl _) ?_
      refine ax_then ?_
      refine At.regs (L' := [(4, _), (5, _)]) (.cons rfl (.cons rfl (.nil _))) ?_
      refine cd_ret ?_
      refine rt_cell_tmp (h0 := 4) (.inl rfl) Try.results45 ty80 rfl rfl rfl (by first | omega | (simp only [List.length_append, List.length_cons, List.length_nil, List.length_set, List.length_replicate, List.length_take, List.length_drop, ints_length, wr_length, sha_len, node_len, recov_len, Ky.named_len, Ky.keyPub_len] <;> omega) | rfl) rfl ?_
      exact fun w1 sw => ⟨(v36, v42), trivial, rfl, (sw.gives (N := [(0, _), (36, _), (42, _)]) (.cons rfl (.cons rfl (.cons rfl (.nil _))))).rn3 (by decide) (by decide) (by decide) 0 1 2⟩
    ·
      refine wo (i := 11) rfl ?_
      refine st (ld_blk1 (h := 0) ty22 rfl rfl rfl (Ky.cells_32 hl _ _)) rfl rfl rfl ?_
      refine op_nil ?_
      refine ax_then ?_
      refine mx_one (i := 7) (by decide +kernel) (Sub.refl _) ?_
      refine wo (i := 7) rfl ?_
      refine st_call has78 rfl (fun w1 sw => rn 36 (sign_any s n q m w1 (by first | rfl | assumption) (by first | decide | omega) (sw.sl_rd (h := 2) rfl))) nil_all rfl rfl (fun v36 _ => ?_)
      have hsu36 := sign_h32 s n m 36
      have hsn36 := sign_len s n m 36
      refine at_own_shape (h := 36) rfl (fun hs36 => ?_)
      refine op_nil ?_
      refine ax_then ?_
      refine mx_one (i := 13) (by decide +kernel) (Sub.refl _) ?_
      refine wo (i := 13) rfl ?_
      refine st_call has79 rfl (fun w1 sw => rn 42 (path_any v (Ky.leaves s 16) (n : Int) w1 hlu (by rw [hll]; decide) (by omega) (sw.sl_rd (h := 1) rfl))) nil_all rfl rfl (fun v42 _ => ?_)
      refine at_own_shape (h := 42) rfl (fun hs42 => ?_)
      refine op_nil ?_
      refine ax_then ?_
      refine mx (i := 14) rfl (by decide +kernel) (by decide +kernel) (by decide +kernel) rfl (fun w0 => ev_build_struct ty80 rfl pl80 rfl ((fill_put (i := 0) (off := 0) (n := 1) (vs := [.int .i64 (n : Int)]) rfl rfl rfl (Nat.le_of_ble_eq_true rfl)).trans ((fill_put (i := 1) (off := 1) (n := 1) (vs := [v36]) rfl hs36.1 rfl (Nat.le_of_ble_eq_true rfl)).trans ((fill_put (i := 2) (off := 2) (n := 1) (vs := [v42]) rfl hs42.1 rfl (Nat.le_of_ble_eq_true rfl)).trans fill_nil)))) rfl rfl (Sub.refl _) ?_
      refine at_eq (i := 43) (v' := .agg (List.toArray [.int .i64 (n : Int), v36, v42])) rfl rfl ?_
      refine mx_one (i := 15) (by decide +kernel) (Sub.refl _) ?_
      refine wo (i := 15) rfl ?_
      refine st_store_all 4 ty80 rfl rfl rfl rfl rfl (by intro u hu; simp at hu; rcases hu with rfl | rfl | rfl; rfl; exact hs36.2; exact hs42.2) rfl rfl ?_
      refine op_nil ?_
      refine ax_then ?_
      refine mx (i := 16) rfl (by decide +kernel) (by decide +kernel) (by decide +kernel) rfl (fun w0 => ev_assign rfl) rfl rfl (Sub.refl _) ?_
      refine mx_done (by decide +kernel) (Sub.refl _) ?_
      refine ax_then ?_
      refine At.regs (L' := [(4, _), (5, _)]) (.cons rfl (.cons rfl (.nil _))) ?_
      refine cd_ret ?_
      refine rt_cell_tmp (h0 := 4) (.inl rfl) Try.results45 ty80 rfl rfl rfl (by first | omega | (simp only [List.length_append, List.length_cons, List.length_nil, List.length_set, List.length_replicate, List.length_take, List.length_drop, ints_length, wr_length, sha_len, node_len, recov_len, Ky.named_len, Ky.keyPub_len] <;> omega) | rfl) rfl ?_
      exact fun w1 sw => ⟨(v36, v42), trivial, rfl, (sw.gives (N := [(0, _), (36, _), (42, _)]) (.cons rfl (.cons rfl (.cons rfl (.nil _))))).rn3 (by decide) (by decide) (by decide) 0 1 2⟩
  ·
    refine wo (i := 11) rfl ?_
    refine st (ld_blk1 (h := 0) ty22 rfl rfl rfl (Ky.cells_32 hl _ _)) rfl rfl rfl ?_
    refine op_nil ?_
    refine ax_then ?_
    refine mx_one (i := 4) (by decide +kernel) (Sub.refl _) ?_
    refine wo (i := 4) rfl ?_
    refine st (ld_blk (h := 0) ty55 rfl rfl rfl (by rw [Ky.cells_len hl]; decide)) rfl rfl rfl ?_
    refine at_eq (i := 33) (v' := .agg (ints .u8 (s)).toArray) rfl (congrArg (fun x => Value.agg (List.toArray x)) (Ky.cells_seed hl _ _)) ?_
    refine op_nil ?_
    refine ax_then ?_
    refine mx_one (i := 7) (by decide +kernel) (Sub.refl _) ?_
    refine wo (i := 7) rfl ?_
    refine st_call has78 rfl (fun w1 sw => rn 36 (sign_any s n q m w1 (by first | rfl | assumption) (by first | decide | omega) (sw.sl_rd (h := 2) rfl))) nil_all rfl rfl (fun v36 _ => ?_)
    have hsu36 := sign_h32 s n m 36
    have hsn36 := sign_len s n m 36
    refine at_own_shape (h := 36) rfl (fun hs36 => ?_)
    refine op_nil ?_
    refine ax_then ?_
    refine mx_one (i := 13) (by decide +kernel) (Sub.refl _) ?_
    refine wo (i := 13) rfl ?_
    refine st_call has79 rfl (fun w1 sw => rn 42 (path_any v (Ky.leaves s 16) (n : Int) w1 hlu (by rw [hll]; decide) (by omega) (sw.sl_rd (h := 1) rfl))) nil_all rfl rfl (fun v42 _ => ?_)
    refine at_own_shape (h := 42) rfl (fun hs42 => ?_)
    refine op_nil ?_
    refine ax_then ?_
    refine mx (i := 14) rfl (by decide +kernel) (by decide +kernel) (by decide +kernel) rfl (fun w0 => ev_build_struct ty80 rfl pl80 rfl ((fill_put (i := 0) (off := 0) (n := 1) (vs := [.int .i64 (n : Int)]) rfl rfl rfl (Nat.le_of_ble_eq_true rfl)).trans ((fill_put (i := 1) (off := 1) (n := 1) (vs := [v36]) rfl hs36.1 rfl (Nat.le_of_ble_eq_true rfl)).trans ((fill_put (i := 2) (off := 2) (n := 1) (vs := [v42]) rfl hs42.1 rfl (Nat.le_of_ble_eq_true rfl)).trans fill_nil)))) rfl rfl (Sub.refl _) ?_
    refine at_eq (i := 43) (v' := .agg (List.toArray [.int .i64 (n : Int), v36, v42])) rfl rfl ?_
    refine mx_one (i := 15) (by decide +kernel) (Sub.refl _) ?_
    refine wo (i := 15) rfl ?_
    refine st_store_all 4 ty80 rfl rfl rfl rfl rfl (by intro u hu; simp at hu; rcases hu with rfl | rfl | rfl; rfl; exact hs36.2; exact hs42.2) rfl rfl ?_
    refine op_nil ?_
    refine ax_then ?_
    refine mx (i := 16) rfl (by decide +kernel) (by decide +kernel) (by decide +kernel) rfl (fun w0 => ev_assign rfl) rfl rfl (Sub.refl _) ?_
    refine mx_done (by decide +kernel) (Sub.refl _) ?_
    refine ax_then ?_
    refine At.regs (L' := [(4, _), (5, _)]) (.cons rfl (.cons rfl (.nil _))) ?_
    refine cd_ret ?_
    refine rt_cell_tmp (h0 := 4) (.inl rfl) Try.results45 ty80 rfl rfl rfl (by first | omega | (simp only [List.length_append, List.length_cons, List.length_nil, List.length_set, List.length_replicate, List.length_take, List.length_drop, ints_length, wr_length, sha_len, node_len, recov_len, Ky.named_len, Ky.keyPub_len] <;> omega) | rfl) rfl ?_
    exact fun w1 sw => ⟨(v36, v42), trivial, rfl, (sw.gives (N := [(0, _), (36, _), (42, _)]) (.cons rfl (.cons rfl (.cons rfl (.nil _))))).rn3 (by decide) (by decide) (by decide) 0 1 2⟩
end Go.Proofs.Ytgfnmolbagilmaa

namespace Go.Proofs.Ytgfnmolbagilmaa
open Go Go.RowKit Fw
open Sha
open Ots
open Mk
set_option linter.unusedVariables false
set_option linter.unusedSimpArgs false
set_option maxRecDepth 20000 in
set_option maxHeartbeats 1000000 in
theorem clone_nil (w : World) : Calls Try.prog 80 #[.slice none 0 0] w (Post (ι := Value) w [] (fun _ => True) (fun v => v) (fun v => [(0, .own (v) 5 1 (ints .u8 ([])))])) := by
  refine calls_at (vs := [.slice none 0 0]) (X := []) (H := []) (F := []) 8 Try.func80 rfl rfl rfl (Sat.start0 w) ?_
  refine cd_seq ?_
  refine cd_region ?_
  refine st (ev_assign rfl) rfl rfl rfl ?_
  refine at_own_nil 2 5 1 ?_
  refine at_heq (i := 2) (v' := .own (.slice none 0 0) 5 1 (ints .u8 [])) rfl rfl ?_
  refine op_nil ?_
  refine ax_then ?_
  refine At.regs (L' := [(0, _), (2, _)]) (.cons rfl (.cons rfl (.nil _))) ?_
  refine cd_seq ?_
  refine cd_seq ?_
  refine cd_region ?_
  refine st (ev_move rfl) rfl rfl rfl ?_
  refine st (ev_eql_slice_nil Try.underlying28 rfl rfl) rfl rfl rfl ?_
  refine op_nil ?_
  refine ax_then ?_
  refine At.regs (L' := [(0, _), (2, _), (4, _)]) (.cons rfl (.cons rfl (.cons rfl (.nil _)))) ?_
  refine cd_true rfl ?_
  refine cd_seq ?_
  refine cd_region ?_
  refine st (ev_assign rfl) rfl rfl rfl ?_
  refine at_own_nil 2 5 1 ?_
  refine at_heq (i := 2) (v' := .own (.slice none 0 0) 5 1 (ints .u8 [])) rfl rfl ?_
  refine op_nil ?_
  refine ax_then ?_
  refine At.regs (L' := [(0, _), (2, _)]) (.cons rfl (.cons rfl (.nil _))) ?_
  refine cd_ret ?_
  refine ax_then_ret ?_
  refine rt_tmp (.inl rfl) Try.results80 rfl ?_
  exact fun w1 sw => ⟨_, trivial, rfl, (sw.gives (N := [(2, _)]) (.cons rfl (.nil _))).rn 0⟩
set_option maxRecDepth 20000 in
set_option maxHeartbeats 1000000 in
theorem clone_some (x : Addr) (n c : Nat) (l : List Int) (w : World) (hl : l.length ≤ 140737488352000) (h : Rd w (.slice (some x) n c) 1 (ints .u8 l)) : Calls Try.prog 80 #[.slice (some x) n c] w (Post (ι := Value) w [] (fun _ => True) (fun v => v) (fun v => [(0, .own (v) 5 1 (ints .u8 (l)))])) := by
  refine calls_at (vs := [.slice (some x) n c]) (X := []) (H := []) (F := [(0, .sl (.slice (some x) n c) 1 (ints .u8 (l)))]) 8 Try.func80 rfl rfl rfl (Sat.rd0 0 h) ?_
  refine cd_seq ?_
  refine cd_region ?_
  refine st (ev_assign rfl) rfl rfl rfl ?_
  refine at_own_nil 2 5 1 ?_
  refine at_heq (i := 2) (v' := .own (.slice none 0 0) 5 1 (ints .u8 [])) rfl rfl ?_
  refine op_nil ?_
  refine ax_then ?_
  refine At.regs (L' := [(0, _), (2, _)]) (.cons rfl (.cons rfl (.nil _))) ?_
  refine cd_seq ?_
  refine cd_seq ?_
  refine cd_region ?_
  refine st (ev_move rfl) rfl rfl rfl ?_
  refine st (ev_eql_slice_nil Try.underlying28 rfl rfl) rfl rfl rfl ?_
  refine op_nil ?_
  refine ax_then ?_
  refine At.regs (L' := [(0, _), (2, _), (4, _)]) (.cons rfl (.cons rfl (.cons rfl (.nil _)))) ?_
  refine cd_false rfl ?_
  refine cd_skip ?_
  refine ax_then ?_
  refine At.regs (L' := [(0, _), (2, _)]) (.cons rfl (.cons rfl (.nil _))) ?_
  refine cd_seq ?_
  refine cd_region ?_
  refine st_bsi (h := 5) (xs := []) Try.underlying28 ty5 (by decide) rfl rfl (by decide) rfl rfl (fun b5 => ?_)
  refine st (ev_move rfl) rfl rfl rfl ?_
  refine st_appendi (h := 5) Try.underlying28 Try.underlying28 ty5 rfl rfl rfl rfl (fun w1 sw => sw.sl_rd (h := 0) rfl) (by first | omega | (simp only [List.length_append, List.length_cons, List.length_nil, List.length_set, List.length_replicate, List.length_take, List.length_drop, ints_length, wr_length, sha_len, node_len, recov_len, Ky.named_len, Ky.keyPub_len] <;> omega)) (by decide) rfl rfl (fun v7 => ?_)
  refine at_heq (i := 5) (v' := .own (v7) 5 1 (ints .u8 (l))) rfl (by rw [List.nil_append]) ?_
  refine st (ev_assign rfl) rfl rfl rfl ?_
  refine op_nil ?_
  refine ax_then ?_
  refine At.regs (L' := [(2, _)]) (.cons rfl (.nil _)) ?_
  refine cd_ret ?_
  refine rt_tmp (.inl rfl) Try.results80 rfl ?_
  exact fun w1 sw => ⟨_, trivial, rfl, (sw.gives (N := [(5, _)]) (.cons rfl (.nil _))).rn 0⟩
theorem clone_any (p : Value) (l : List Int) (w : World) (hl : l.length ≤ 140737488352000) (h : Rd w p 1 (ints .u8 l)) : Calls Try.prog 80 #[p] w (Post (ι := Value) w [] (fun _ => True) (fun v => v) (fun v => [(0, .own (v) 5 1 (ints .u8 (l)))])) := by
  have h' := h
  obtain ⟨a, len, cap, rfl, h1, h2, h3, h4⟩ := h
  cases a with
  | some x => exact clone_some x len cap l w hl h'
  | none =>
    have hc := h3 rfl
    have hn : len = 0 := by omega
    subst hc; subst hn
    have : l = [] := List.length_eq_zero_iff.1 (by rw [ints_length] at h1; omega)
    subst this
    exact clone_nil w
set_option maxRecDepth 20000 in
set_option maxHeartbeats 1000000 in
theorem wout_any (b : Nat) (v : Value) (l : List Int) (w : World) (hl : l.length ≤ 140737488352000) (h : Lies w b 0 [v]) (h' : Rd w v 1 (ints .u8 l)) : Calls Try.prog 46 #[.pointer (some ⟨b, 0, none⟩)] w (Post (ι := Value) w [] (fun _ => True) (fun v => v) (fun v => [(0, .own (v) 5 1 (ints .u8 (l)))])) := by
  refine calls_at (vs := [.pointer (some ⟨b, 0, none⟩)]) (X := []) (H := []) (F := [(21, .mem b 0 [v]), (20, .sl (v) 1 (ints .u8 (l)))]) 10 Try.func46 rfl rfl rfl ((Sat.rd0 20 h').read 21 h off_nil) ?_
  refine cd_seq ?_
  refine cd_region ?_
  refine st (ev_assign rfl) rfl rfl rfl ?_
  refine at_own_nil 2 5 1 ?_
  refine at_heq (i := 2) (v' := .own (.slice none 0 0) 5 1 (ints .u8 [])) rfl rfl ?_
  refine op_nil ?_
  refine ax_then ?_
  refine At.regs (L' := [(0, _), (2, _)]) (.cons rfl (.cons rfl (.nil _))) ?_
  refine cd_seq ?_
  refine cd_seq ?_
  refine cd_region ?_
  refine st (ev_move rfl) rfl rfl rfl ?_
  refine st (ev_eql_ptr_nil Try.underlying134 rfl rfl) rfl rfl rfl ?_
  refine op_nil ?_
  refine ax_then ?_
  refine At.regs (L' := [(0, _), (2, _), (4, _)]) (.cons rfl (.cons rfl (.cons rfl (.nil _)))) ?_
  refine cd_false rfl ?_
  refine cd_skip ?_
  refine ax_then ?_
  refine At.regs (L' := [(0, _), (2, _)]) (.cons rfl (.cons rfl (.nil _))) ?_
  refine cd_seq ?_
  refine cd_region ?_
  refine st (ev_move rfl) rfl rfl rfl ?_
  refine st (ev_nilCheck rfl) rfl rfl rfl ?_
  refine st (ev_fieldAddr (b := _) Try.underlying100 (f := _) rfl ty28 (by decide) rfl) rfl rfl rfl ?_
  refine st (ld_mem1 (h := 21) ty28 rfl rfl rfl (Nat.zero_add _).symm rfl) rfl rfl rfl ?_
  refine st_call has80 rfl (fun w1 sw => rn 9 (clone_any v l w1 hl (sw.sl_rd (h := 20) rfl))) nil_all rfl rfl (fun v9 _ => ?_)
  refine st (ev_assign rfl) rfl rfl rfl ?_
  refine op_nil ?_
  refine ax_then ?_
  refine At.regs (L' := [(2, _)]) (.cons rfl (.nil _)) ?_
  refine cd_ret ?_
  refine rt_tmp (.inl rfl) Try.results46 rfl ?_
  exact fun w1 sw => ⟨_, trivial, rfl, (sw.gives (N := [(9, _)]) (.cons rfl (.nil _))).rn 0⟩
end Go.Proofs.Ytgfnmolbagilmaa

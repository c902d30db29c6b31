/- The statement's proof, part 4: what its walks and its plain laws need. -/
import Derived.Test.YteedclmcgifmpaaRows
import Derived.Tactics
import Derived.Deep.Quiet
import Derived.StillTail
import Derived.Laws.World
import Derived.Laws.Sem
import Derived.Laws.Entries
import Derived.Below
import Derived.Deep.LoopGhost
import Derived.Laws.BytesString
import Derived.Laws.IdiomStrings
import Derived.KernelRfl
import Derived.Carry
import Derived.OpenShut
import Derived.ProofKit
import Derived.ChangeSame
import Derived.HandedShaped
import Derived.SizedLaws
import Derived.Test.YteedclmcgifmpaaProg
import Derived.Test.YteedclmcgifmpaaXo3
namespace Go.Proofs.Yteedclmcgifmpaa
open Go Go.RowKit Fw
open Sha
open Mk
set_option linter.unusedVariables false
set_option linter.unusedSimpArgs false
set_option maxRecDepth 20000 in
set_option maxHeartbeats 4000000 in
theorem rpath_step (N : Nat) (ih : ∀ (p : Value) (cs : List (List Int)) (i : Int) (w : World), cs.length < N → H32 cs → cs.length ≤ 256 → (-9223372036854775808 ≤ i ∧ i ≤ 9223372036854775807) → Rd w p 32 (flat cs) → Calls Try.prog 55 #[p, .int .i64 i] w (Post (ι := Value) w [] (fun _ => True) (fun v => v) (fun v => [(0, .own (v) 39 32 (flat (path cs i)))]))) (p : Value) (cs : List (List Int)) (i : Int) (w : World) (hN : cs.length = N) (hu : H32 cs) (hcl : cs.length ≤ 256) (hi : -9223372036854775808 ≤ i ∧ i ≤ 9223372036854775807) (h : Rd w p 32 (flat cs)) : Calls Try.prog 55 #[p, .int .i64 i] w (Post (ι := Value) w [] (fun _ => True) (fun v => v) (fun v => [(0, .own (v) 39 32 (flat (path cs i)))])) := by
  refine calls_at (vs := [p, .int .i64 i]) (X := []) (H := []) (F := [(0, .sl p 32 (flat (cs)))]) 49 Try.func55 rfl rfl rfl (Sat.rd0 0 h) ?_
  refine cd_seq ?_
  refine cd_region ?_
  refine st (ev_assign rfl) rfl rfl rfl ?_
  refine at_own_nil 4 39 32 ?_
  refine at_heq (i := 4) (v' := .own (.slice none 0 0) 39 32 (flat [])) rfl rfl ?_
  have hu4 := H32.nil
  refine op_nil ?_
  refine ax_then ?_
  refine At.regs (L' := [(0, _), (1, _), (4, _)]) (.cons rfl (.cons rfl (.cons rfl (.nil _)))) ?_
  refine cd_seq ?_
  refine cd_seq ?_
  refine cd_region ?_
  refine st (ev_move rfl) rfl rfl rfl ?_
  refine st (ev_lss rfl rfl) rfl rfl rfl ?_
  refine st (ev_move rfl) rfl rfl rfl ?_
  refine at_split_if (i := 8) rfl (fun hg8 => ?_) (fun hg8 => ?_)
  ·
    have hno : path cs i = [] := path_no (by omega)
    refine st_skip rfl rfl rfl ?_
    refine st_skip rfl rfl rfl ?_
    refine st_skip rfl rfl rfl ?_
    refine st_skip rfl rfl rfl ?_
    refine st (ev_pick_t rfl rfl) rfl rfl rfl ?_
    refine st (ev_move rfl) rfl rfl rfl ?_
    refine st_skip rfl rfl rfl ?_
    refine st_skip rfl rfl rfl ?_
    refine st_skip rfl rfl rfl ?_
    refine st (ev_pick_t rfl rfl) rfl rfl rfl ?_
    refine op_nil ?_
    refine ax_then ?_
    refine At.regs (L' := [(0, _), (1, _), (4, _), (18, _)]) (.cons rfl (.cons rfl (.cons rfl (.cons rfl (.nil _))))) ?_
    refine cd_true rfl ?_
    refine cd_seq ?_
    refine cd_region ?_
    refine st (ev_assign rfl) rfl rfl rfl ?_
    refine at_own_nil 4 39 32 ?_
    refine at_heq (i := 4) (v' := .own (.slice none 0 0) 39 32 (flat [])) rfl rfl ?_
    have hu4 := H32.nil
    refine op_nil ?_
    refine ax_then ?_
    refine At.regs (L' := [(0, _), (1, _), (4, _)]) (.cons rfl (.cons rfl (.cons rfl (.nil _)))) ?_
    refine cd_ret ?_
    refine ax_then_ret ?_
    refine rt_tmp (.inl rfl) Try.results55 rfl ?_
    exact fun w1 sw => ⟨_, trivial, rfl, by rw [hno]; exact (sw.gives (N := [(4, _)]) (.cons rfl (.nil _))).rn 0⟩
  ·
    refine st (ev_move rfl) rfl rfl rfl ?_
    refine st (ev_move rfl) rfl rfl rfl ?_
    refine st (ev_len_rdh (h := 0) Try.underlying26 rfl rfl (by assumption)) rfl rfl rfl ?_
    refine st (ev_geq rfl rfl) rfl rfl rfl ?_
    refine st (ev_pick_f rfl rfl) rfl rfl rfl ?_
    refine st (ev_move rfl) rfl rfl rfl ?_
    refine at_split_if (i := 14) rfl (fun hg14 => ?_) (fun hg14 => ?_)
    ·
      have hno : path cs i = [] := path_no (by omega)
      refine st_skip rfl rfl rfl ?_
      refine st_skip rfl rfl rfl ?_
      refine st_skip rfl rfl rfl ?_
      refine st (ev_pick_t rfl rfl) rfl rfl rfl ?_
      refine op_nil ?_
      refine ax_then ?_
      refine At.regs (L' := [(0, _), (1, _), (4, _), (18, _)]) (.cons rfl (.cons rfl (.cons rfl (.cons rfl (.nil _))))) ?_
      refine cd_true rfl ?_
      refine cd_seq ?_
      refine cd_region ?_
      refine st (ev_assign rfl) rfl rfl rfl ?_
      refine at_own_nil 4 39 32 ?_
      refine at_heq (i := 4) (v' := .own (.slice none 0 0) 39 32 (flat [])) rfl rfl ?_
      have hu4 := H32.nil
      refine op_nil ?_
      refine ax_then ?_
      refine At.regs (L' := [(0, _), (1, _), (4, _)]) (.cons rfl (.cons rfl (.cons rfl (.nil _)))) ?_
      refine cd_ret ?_
      refine ax_then_ret ?_
      refine rt_tmp (.inl rfl) Try.results55 rfl ?_
      exact fun w1 sw => ⟨_, trivial, rfl, by rw [hno]; exact (sw.gives (N := [(4, _)]) (.cons rfl (.nil _))).rn 0⟩
    ·
      refine st (ev_move rfl) rfl rfl rfl ?_
      refine st (ev_len_rdh (h := 0) Try.underlying26 rfl rfl (by assumption)) rfl rfl rfl ?_
      refine st (ev_lss rfl rfl) rfl rfl rfl ?_
      refine st (ev_pick_f rfl rfl) rfl rfl rfl ?_
      refine op_nil ?_
      refine ax_then ?_
      refine At.regs (L' := [(0, _), (1, _), (4, _), (18, _)]) (.cons rfl (.cons rfl (.cons rfl (.cons rfl (.nil _))))) ?_
      refine cd_if rfl (fun hc18 => ?_) (fun hc18 => ?_)
      ·
        have hno : path cs i = [] := path_no (by omega)
        refine cd_seq ?_
        refine cd_region ?_
        refine st (ev_assign rfl) rfl rfl rfl ?_
        refine at_own_nil 4 39 32 ?_
        refine at_heq (i := 4) (v' := .own (.slice none 0 0) 39 32 (flat [])) rfl rfl ?_
        have hu4 := H32.nil
        refine op_nil ?_
        refine ax_then ?_
        refine At.regs (L' := [(0, _), (1, _), (4, _)]) (.cons rfl (.cons rfl (.cons rfl (.nil _)))) ?_
        refine cd_ret ?_
        refine ax_then_ret ?_
        refine rt_tmp (.inl rfl) Try.results55 rfl ?_
        exact fun w1 sw => ⟨_, trivial, rfl, by rw [hno]; exact (sw.gives (N := [(4, _)]) (.cons rfl (.nil _))).rn 0⟩
      ·
        have hge : 2 ≤ cs.length := by omega
        have hlt := half_lt hge
        have hps := half_pos cs.length
        refine cd_skip ?_
        refine ax_then ?_
        refine At.regs (L' := [(0, _), (1, _), (4, _)]) (.cons rfl (.cons rfl (.cons rfl (.nil _)))) ?_
        refine cd_seq ?_
        refine cd_region ?_
        refine st (ev_move rfl) rfl rfl rfl ?_
        refine st (ev_len_rdh (h := 0) Try.underlying26 rfl rfl (by assumption)) rfl rfl rfl ?_
        refine at_eq (i := 20) (v' := .int .i64 (cs.length : Int)) rfl rfl ?_
        refine st_callv has81 rfl (fun w1 sw => rhalf_any cs.length w1 hge (by omega)) rfl rfl ?_
        refine st (ev_assign rfl) rfl rfl rfl ?_
        refine op_nil ?_
        refine ax_then ?_
        refine At.regs (L' := [(0, _), (1, _), (4, _), (5, _)]) (.cons rfl (.cons rfl (.cons rfl (.cons rfl (.nil _))))) ?_
        refine cd_seq ?_
        refine cd_seq ?_
        refine cd_region ?_
        refine st (ev_move rfl) rfl rfl rfl ?_
        refine st (ev_move rfl) rfl rfl rfl ?_
        refine st (ev_lss rfl rfl) rfl rfl rfl ?_
        refine op_nil ?_
        refine ax_then ?_
        refine At.regs (L' := [(0, _), (1, _), (4, _), (5, _), (24, _)]) (.cons rfl (.cons rfl (.cons rfl (.cons rfl (.cons rfl (.nil _)))))) ?_
        refine cd_if rfl (fun hc24 => ?_) (fun hc24 => ?_)
        ·
          have hyes := path_lo (by omega) hge hc24
          have hrl := root_len (hu.drop (half cs.length))
          refine cd_seq ?_
          refine cd_mix hmix ?_
          refine mx (i := 0) rfl (by decide +kernel) (by decide +kernel) (by decide +kernel) rfl (fun w0 => ev_move rfl) rfl rfl (Sub.refl _) ?_
          refine mx (i := 1) rfl (by decide +kernel) (by decide +kernel) (by decide +kernel) rfl (fun w0 => ev_move rfl) rfl rfl (Sub.refl _) ?_
          refine mx (i := 2) rfl (by decide +kernel) (by decide +kernel) (by decide +kernel) rfl (fun w0 => ev_sliceh_hi Try.underlying26 ty39 rfl rfl (fun w1 sw => sw.sl_rd (h := 0) rfl) (by assumption) (by omega) (by first | omega | (simp only [List.length_append, List.length_cons, List.length_nil, List.length_set, List.length_replicate, List.length_take, List.length_drop, ints_length, wr_length, node_len] <;> omega))) rfl rfl (Sub.refl _) ?_
          refine at_eq (i := 27) (v' := cutAt 32 p 0 (half cs.length)) rfl (by rw [Int.toNat_natCast]) ?_
          refine mx (i := 3) rfl (by decide +kernel) (by decide +kernel) (by decide +kernel) rfl (fun w0 => ev_move rfl) rfl rfl (Sub.refl _) ?_
          refine mx (i := 5) rfl (by decide +kernel) (by decide +kernel) (by decide +kernel) rfl (fun w0 => ev_move rfl) rfl rfl (Sub.refl _) ?_
          refine mx (i := 6) rfl (by decide +kernel) (by decide +kernel) (by decide +kernel) rfl (fun w0 => ev_move rfl) rfl rfl (Sub.refl _) ?_
          refine mx (i := 7) rfl (by decide +kernel) (by decide +kernel) (by decide +kernel) rfl (fun w0 => ev_sliceh_lo Try.underlying26 ty39 rfl rfl (fun w1 sw => sw.sl_rd (h := 0) rfl) (by assumption) (by omega) (by first | omega | (simp only [List.length_append, List.length_cons, List.length_nil, List.length_set, List.length_replicate, List.length_take, List.length_drop, ints_length, wr_length, node_len] <;> omega))) rfl rfl (Sub.refl _) ?_
          refine at_eq (i := 32) (v' := cutAt 32 p (half cs.length) cs.length) rfl (by rw [Int.toNat_natCast]) ?_
          refine mx_one (i := 4) (by decide +kernel) (Sub.refl _) ?_
          refine wo (i := 4) rfl ?_
          refine st_call has55 rfl (fun w1 sw => rn 29 (ih (cutAt 32 p 0 (half cs.length)) (cs.take (half cs.length)) (i) w1 (by rw [List.length_take]; omega) (hu.take _) (by rw [List.length_take]; omega) (by omega) (takeh (sw.sl_rd (h := 0) rfl) hu (by omega)))) nil_all rfl rfl (fun v29 _ => ?_)
          have hu29 := path_h32 _ (cs.take (half cs.length)) (i) (Nat.le_refl _) (hu.take _)
          have hpm := path_max _ (cs.take (half cs.length)) (i) (Nat.le_refl _)
          have hlt2 : ((cs.take (half cs.length))).length ≤ 256 := (by rw [List.length_take]; omega)
          refine op_nil ?_
          refine ax_then ?_
          refine mx_one (i := 8) (by decide +kernel) (Sub.refl _) ?_
          refine wo (i := 8) rfl ?_
          refine st_callv has49 rfl (fun w1 sw => rroot_any (cutAt 32 p (half cs.length) cs.length) (cs.drop (half cs.length)) w1 (hu.drop _) (by rw [List.length_drop]; omega) (droph (sw.sl_rd (h := 0) rfl) hu (by omega))) rfl rfl ?_
          refine op_nil ?_
          refine ax_then ?_
          refine mx_one (i := 9) (by decide +kernel) (Sub.refl _) ?_
          refine wo (i := 9) rfl ?_
          refine st_bsh1 (h := 34) Try.underlying26 ty39 rfl (by first | assumption | omega) rfl rfl (fun b34 hu34 => ?_)
          refine op_nil ?_
          refine ax_then ?_
          refine mx_one (i := 10) (by decide +kernel) (Sub.refl _) ?_
          refine wo (i := 10) rfl ?_
          refine st_appendh (h := 29) Try.underlying26 Try.underlying26 ty39 rfl rfl rfl rfl (fun w1 sw => sw.own_rd (h := 34) rfl) (by assumption) (by assumption) (by first | omega | (simp only [List.length_append, List.length_cons, List.length_nil, List.length_set, List.length_replicate, List.length_take, List.length_drop, ints_length, wr_length, node_len] <;> omega)) (by decide) rfl rfl (fun v35 hu35 => ?_)
          refine op_nil ?_
          refine ax_then ?_
          refine mx (i := 11) rfl (by decide +kernel) (by decide +kernel) (by decide +kernel) rfl (fun w0 => ev_assign rfl) rfl rfl (Sub.refl _) ?_
          refine mx_done (by decide +kernel) (Sub.refl _) ?_
          refine ax_then ?_
          refine At.regs (L' := [(0, _), (1, _), (4, _), (5, _)]) (.cons rfl (.cons rfl (.cons rfl (.cons rfl (.nil _))))) ?_
          refine cd_ret ?_
          refine ax_then_ret ?_
          refine rt_tmp (.inl rfl) Try.results55 rfl ?_
          first | exact fun w1 sw => ⟨_, trivial, rfl, by rw [hyes]; exact (sw.gives (N := [(29, _)]) (.cons rfl (.nil _))).rn 0⟩ | exact fun w1 sw => ⟨_, trivial, rfl, by rw [hyes]; exact (sw.gives (N := [(42, _)]) (.cons rfl (.nil _))).rn 0⟩
        ·
          have hyes := path_hi (by omega) hge hc24
          have hrl := root_len (hu.take (half cs.length))
          refine cd_skip ?_
          refine ax_then ?_
          refine At.regs (L' := [(0, _), (1, _), (4, _), (5, _)]) (.cons rfl (.cons rfl (.cons rfl (.cons rfl (.nil _))))) ?_
          refine cd_seq ?_
          refine cd_mix hmix ?_
          refine mx (i := 0) rfl (by decide +kernel) (by decide +kernel) (by decide +kernel) rfl (fun w0 => ev_move rfl) rfl rfl (Sub.refl _) ?_
          refine mx (i := 1) rfl (by decide +kernel) (by decide +kernel) (by decide +kernel) rfl (fun w0 => ev_move rfl) rfl rfl (Sub.refl _) ?_
          refine mx (i := 2) rfl (by decide +kernel) (by decide +kernel) (by decide +kernel) rfl (fun w0 => ev_sliceh_lo Try.underlying26 ty39 rfl rfl (fun w1 sw => sw.sl_rd (h := 0) rfl) (by assumption) (by omega) (by first | omega | (simp only [List.length_append, List.length_cons, List.length_nil, List.length_set, List.length_replicate, List.length_take, List.length_drop, ints_length, wr_length, node_len] <;> omega))) rfl rfl (Sub.refl _) ?_
          refine at_eq (i := 38) (v' := cutAt 32 p (half cs.length) cs.length) rfl (by rw [Int.toNat_natCast]) ?_
          refine mx (i := 3) rfl (by decide +kernel) (by decide +kernel) (by decide +kernel) rfl (fun w0 => ev_move rfl) rfl rfl (Sub.refl _) ?_
          refine mx (i := 4) rfl (by decide +kernel) (by decide +kernel) (by decide +kernel) rfl (fun w0 => ev_move rfl) rfl rfl (Sub.refl _) ?_
          refine mx (i := 5) rfl (by decide +kernel) (by decide +kernel) (by decide +kernel) rfl (fun w0 => ev_sub64 rfl rfl (by omega) (by omega)) rfl rfl (Sub.refl _) ?_
          refine mx (i := 7) rfl (by decide +kernel) (by decide +kernel) (by decide +kernel) rfl (fun w0 => ev_move rfl) rfl rfl (Sub.refl _) ?_
          refine mx (i := 8) rfl (by decide +kernel) (by decide +kernel) (by decide +kernel) rfl (fun w0 => ev_move rfl) rfl rfl (Sub.refl _) ?_
          refine mx (i := 9) rfl (by decide +kernel) (by decide +kernel) (by decide +kernel) rfl (fun w0 => ev_sliceh_hi Try.underlying26 ty39 rfl rfl (fun w1 sw => sw.sl_rd (h := 0) rfl) (by assumption) (by omega) (by first | omega | (simp only [List.length_append, List.length_cons, List.length_nil, List.length_set, List.length_replicate, List.length_take, List.length_drop, ints_length, wr_length, node_len] <;> omega))) rfl rfl (Sub.refl _) ?_
          refine at_eq (i := 45) (v' := cutAt 32 p 0 (half cs.length)) rfl (by rw [Int.toNat_natCast]) ?_
          refine mx_one (i := 6) (by decide +kernel) (Sub.refl _) ?_
          refine wo (i := 6) rfl ?_
          refine st_call has55 rfl (fun w1 sw => rn 42 (ih (cutAt 32 p (half cs.length) cs.length) (cs.drop (half cs.length)) (i - (half cs.length : Int)) w1 (by rw [List.length_drop]; omega) (hu.drop _) (by rw [List.length_drop]; omega) (by omega) (droph (sw.sl_rd (h := 0) rfl) hu (by omega)))) nil_all rfl rfl (fun v42 _ => ?_)
          have hu42 := path_h32 _ (cs.drop (half cs.length)) (i - (half cs.length : Int)) (Nat.le_refl _) (hu.drop _)
          have hpm := path_max _ (cs.drop (half cs.length)) (i - (half cs.length : Int)) (Nat.le_refl _)
          have hlt2 : ((cs.drop (half cs.length))).length ≤ 256 := (by rw [List.length_drop]; omega)
          refine op_nil ?_
          refine ax_then ?_
          refine mx_one (i := 10) (by decide +kernel) (Sub.refl _) ?_
          refine wo (i := 10) rfl ?_
          refine st_callv has49 rfl (fun w1 sw => rroot_any (cutAt 32 p 0 (half cs.length)) (cs.take (half cs.length)) w1 (hu.take _) (by rw [List.length_take]; omega) (takeh (sw.sl_rd (h := 0) rfl) hu (by omega))) rfl rfl ?_
          refine op_nil ?_
          refine ax_then ?_
          refine mx_one (i := 11) (by decide +kernel) (Sub.refl _) ?_
          refine wo (i := 11) rfl ?_
          refine st_bsh1 (h := 47) Try.underlying26 ty39 rfl (by first | assumption | omega) rfl rfl (fun b47 hu47 => ?_)
          refine op_nil ?_
          refine ax_then ?_
          refine mx_one (i := 12) (by decide +kernel) (Sub.refl _) ?_
          refine wo (i := 12) rfl ?_
          refine st_appendh (h := 42) Try.underlying26 Try.underlying26 ty39 rfl rfl rfl rfl (fun w1 sw => sw.own_rd (h := 47) rfl) (by assumption) (by assumption) (by first | omega | (simp only [List.length_append, List.length_cons, List.length_nil, List.length_set, List.length_replicate, List.length_take, List.length_drop, ints_length, wr_length, node_len] <;> omega)) (by decide) rfl rfl (fun v48 hu48 => ?_)
          refine op_nil ?_
          refine ax_then ?_
          refine mx (i := 13) rfl (by decide +kernel) (by decide +kernel) (by decide +kernel) rfl (fun w0 => ev_assign rfl) rfl rfl (Sub.refl _) ?_
          refine mx_done (by decide +kernel) (Sub.refl _) ?_
          refine ax_then ?_
          refine At.regs (L' := [(4, _)]) (.cons rfl (.nil _)) ?_
          refine cd_ret ?_
          refine rt_tmp (.inl rfl) Try.results55 rfl ?_
          first | exact fun w1 sw => ⟨_, trivial, rfl, by rw [hyes]; exact (sw.gives (N := [(29, _)]) (.cons rfl (.nil _))).rn 0⟩ | exact fun w1 sw => ⟨_, trivial, rfl, by rw [hyes]; exact (sw.gives (N := [(42, _)]) (.cons rfl (.nil _))).rn 0⟩
theorem rpath_all : ∀ (N : Nat) (p : Value) (cs : List (List Int)) (i : Int) (w : World), cs.length < N → H32 cs → cs.length ≤ 256 → (-9223372036854775808 ≤ i ∧ i ≤ 9223372036854775807) → Rd w p 32 (flat cs) → Calls Try.prog 55 #[p, .int .i64 i] w (Post (ι := Value) w [] (fun _ => True) (fun v => v) (fun v => [(0, .own (v) 39 32 (flat (path cs i)))]))
  | 0, _, _, _, _, hN, _, _, _, _ => absurd hN (Nat.not_lt_zero _)
  | N + 1, p, cs, i, w, hN, hu, hcl, hi, h => rpath_step cs.length (fun p' cs' i' w' h1 => rpath_all N p' cs' i' w' (by omega)) p cs i w rfl hu hcl hi h
theorem rpath_any (p : Value) (cs : List (List Int)) (i : Int) (w : World) (hu : H32 cs) (hcl : cs.length ≤ 256) (hi : -9223372036854775808 ≤ i ∧ i ≤ 9223372036854775807) (h : Rd w p 32 (flat cs)) : Calls Try.prog 55 #[p, .int .i64 i] w (Post (ι := Value) w [] (fun _ => True) (fun v => v) (fun v => [(0, .own (v) 39 32 (flat (path cs i)))])) := rpath_all (cs.length + 1) p cs i w (by omega) hu hcl hi h
set_option maxRecDepth 20000 in
set_option maxHeartbeats 2000000 in
theorem up_any (leaf : List Int) (i : Int) (q : Value) (p : List (List Int)) (w : World) (hl : leaf.length = 32) (h0 : 0 ≤ i) (h1 : i ≤ 9223372036854775807) (hu : H32 p) (hpl : p.length ≤ 140737488352000) (h : Rd w q 32 (flat p)) : Calls Try.prog 57 #[.agg (ints .u8 (leaf)).toArray, .int .i64 i, q] w (PostV w (.agg (ints .u8 (up leaf i p)).toArray)) := by
  refine calls_at (vs := [.agg (ints .u8 (leaf)).toArray, .int .i64 i, q]) (X := []) (H := []) (F := [(2, .sl q 32 (flat (p)))]) 28 Try.func57 rfl rfl rfl (Sat.rd0 2 h) ?_
  refine cd_seq ?_
  refine cd_region ?_
  refine st_box (h := 3) rfl rfl rfl rfl (fun b3 => ?_)
  refine st_alloc (h := 6) ty39 rfl rfl rfl (fun b6 => ?_)
  refine op_nil ?_
  refine ax_then ?_
  refine At.regs (L' := [(1, _), (2, _), (3, _), (6, _)]) (.cons rfl (.cons rfl (.cons rfl (.cons rfl (.nil _))))) ?_
  refine cd_seq ?_
  refine cd_seq ?_
  refine cd_region ?_
  refine st (ev_move rfl) rfl rfl rfl ?_
  refine st (ev_len_rdh (h := 2) Try.underlying26 rfl rfl (by assumption)) rfl rfl rfl ?_
  refine st (ev_move rfl) rfl rfl rfl ?_
  refine op_nil ?_
  refine ax_then ?_
  refine At.regs (L' := [(1, _), (3, _), (6, _), (9, _), (10, _), (11, _)]) (.cons rfl (.cons rfl (.cons rfl (.cons rfl (.cons rfl (.cons rfl (.nil _))))))) ?_
  refine cd_block ?_
  refine at_eq (i := 1) (v' := .int .i64 (i / 2 ^ 0)) rfl (by rw [Int.pow_zero, Int.ediv_one]) ?_
  refine cd_loop (ι := Nat) (fun k => k ≤ p.length) (fun k => p.length - k)
      (fun k => [(1, .int .i64 (i / 2 ^ k)), (3, .pointer (some ⟨b3, 0, none⟩)), (6, .pointer (some ⟨b6, 0, none⟩)), (9, q), (10, .int .i64 (p.length : Nat)), (11, .int .i64 (k : Int))])
      (fun k => [(3, .blk b3 (.cells (ints .u8 (up leaf i (p.take (k)))).toArray 39)), (6, .blk b6 (.cells (ints .u8 (List.replicate 32 0)).toArray 39))])
      (fun k => [(2, .sl q 32 (flat (p)))])
      0 (by omega) (.cons rfl (.cons rfl (.cons rfl (.cons rfl (.cons rfl (.cons rfl (.nil _))))))) (.cons rfl (.cons rfl (.nil _))) (.cons rfl (.nil _)) (fun k hi => ?_)
  have hul := up_len hl i (p.take k)
  have hdr := div_range h0 k
  have hg : k < p.length → (p.getD k []).length = 32 := fun hk => hu.get hk
  have e0 : (k : Int).toNat = k := by omega
  refine cd_seq ?_
  refine cd_region ?_
  refine st (ev_lss rfl rfl) rfl rfl rfl ?_
  refine op_nil ?_
  refine ax_then ?_
  refine At.regs (L' := [(1, _), (3, _), (6, _), (9, _), (10, _), (11, _), (12, _)]) (.cons rfl (.cons rfl (.cons rfl (.cons rfl (.cons rfl (.cons rfl (.cons rfl (.nil _)))))))) ?_
  refine cd_seq ?_
  refine cd_if rfl (fun hc12 => ?_) (fun hc12 => ?_)
  ·
    have hg2 := hg (by omega)
    refine cd_skip ?_
    refine ax_then ?_
    refine At.regs (L' := [(1, _), (3, _), (6, _), (9, _), (10, _), (11, _), (12, _)]) (.cons rfl (.cons rfl (.cons rfl (.cons rfl (.cons rfl (.cons rfl (.cons rfl (.nil _)))))))) ?_
    refine cd_seq ?_
    refine cd_block ?_
    refine cd_seq ?_
    refine cd_region ?_
    refine st (ev_indexAddr_rdh (h := 2) Try.underlying26 ty39 rfl rfl rfl (by assumption) (by omega) (by omega)) rfl rfl rfl ?_
    refine st (ld_rdh (h := 2) ty39 rfl rfl rfl (by assumption) (by omega)) rfl rfl rfl ?_
    refine at_eq (i := 14) (v' := .agg (ints .u8 (p.getD k [])).toArray) rfl (by rw [e0]) ?_
    refine st_alloc (h := 8) ty39 rfl rfl rfl (fun b8 => ?_)
    refine st_store_all 8 ty39 rfl rfl rfl rfl (by first | omega | (simp only [List.length_append, List.length_cons, List.length_nil, List.length_set, List.length_replicate, List.length_take, List.length_drop, ints_length, wr_length, node_len] <;> omega) | rfl) (ints_one _ _) (by first | omega | (simp only [List.length_append, List.length_cons, List.length_nil, List.length_set, List.length_replicate, List.length_take, List.length_drop, ints_length, wr_length, node_len] <;> omega) | rfl) rfl ?_
    refine op_nil ?_
    refine ax_then ?_
    refine At.regs (L' := [(1, _), (3, _), (6, _), (8, _), (9, _), (10, _), (11, _), (12, _), (13, _), (14, _)]) (.cons rfl (.cons rfl (.cons rfl (.cons rfl (.cons rfl (.cons rfl (.cons rfl (.cons rfl (.cons rfl (.cons rfl (.nil _))))))))))) ?_
    refine cd_seq ?_
    refine cd_seq ?_
    refine cd_region ?_
    refine st (ev_move rfl) rfl rfl rfl ?_
    refine st (ev_and rfl rfl) rfl rfl rfl ?_
    refine at_eq (i := 16) (v' := .int .i64 (i / 2 ^ k % 2)) rfl (by rw [iand1 hdr.1 (by omega)]) ?_
    refine st (ev_eql rfl rfl) rfl rfl rfl ?_
    refine op_nil ?_
    refine ax_then ?_
    refine At.regs (L' := [(1, _), (3, _), (6, _), (8, _), (9, _), (10, _), (11, _), (12, _), (13, _), (14, _), (15, _), (16, _), (17, _)]) (.cons rfl (.cons rfl (.cons rfl (.cons rfl (.cons rfl (.cons rfl (.cons rfl (.cons rfl (.cons rfl (.cons rfl (.cons rfl (.cons rfl (.cons rfl (.nil _)))))))))))))) ?_
    refine cd_if rfl (fun hc17 => ?_) (fun hc17 => ?_)
    ·
      refine cd_region ?_
      refine st (ld_blk_all (h := 3) ty39 rfl rfl rfl (by first | omega | (simp only [List.length_append, List.length_cons, List.length_nil, List.length_set, List.length_replicate, List.length_take, List.length_drop, ints_length, wr_length, node_len] <;> omega) | rfl)) rfl rfl rfl ?_
      refine st (ld_blk_all (h := 8) ty39 rfl rfl rfl (by first | omega | (simp only [List.length_append, List.length_cons, List.length_nil, List.length_set, List.length_replicate, List.length_take, List.length_drop, ints_length, wr_length, node_len] <;> omega) | rfl)) rfl rfl rfl ?_
      refine st_callv has85 rfl (fun w1 sw => node_any (up leaf i (p.take (k))) (p.getD k []) w1 hul hg2) rfl rfl ?_
      refine st_store_all 3 ty39 rfl rfl rfl rfl (by first | omega | (simp only [List.length_append, List.length_cons, List.length_nil, List.length_set, List.length_replicate, List.length_take, List.length_drop, ints_length, wr_length, node_len] <;> omega) | rfl) (ints_one _ _) (by first | omega | (simp only [List.length_append, List.length_cons, List.length_nil, List.length_set, List.length_replicate, List.length_take, List.length_drop, ints_length, wr_length, node_len] <;> omega) | rfl) rfl ?_
      refine op_nil ?_
      refine ax_then ?_
      refine At.regs (L' := [(1, _), (3, _), (6, _), (8, _), (9, _), (10, _), (11, _), (12, _), (13, _), (14, _), (15, _), (16, _), (17, _), (18, _), (19, _), (20, _)]) (.cons rfl (.cons rfl (.cons rfl (.cons rfl (.cons rfl (.cons rfl (.cons rfl (.cons rfl (.cons rfl (.cons rfl (.cons rfl (.cons rfl (.cons rfl (.cons rfl (.cons rfl (.cons rfl (.nil _))))))))))))))))) ?_
      refine cd_region ?_
      refine st (ev_move rfl) rfl rfl rfl ?_
      refine st (ev_shr rfl rfl (by omega)) rfl rfl rfl ?_
      refine at_eq (i := 25) (v' := .int .i64 (i / 2 ^ (k + 1))) rfl (by rw [ishr1 hdr.1, div_step]) ?_
      refine st (ev_assign rfl) rfl rfl rfl ?_
      refine op_nil ?_
      refine ax_block ?_
      refine ax_then ?_
      refine At.regs (L' := [(1, _), (3, _), (6, _), (8, _), (9, _), (10, _), (11, _), (12, _), (13, _), (14, _), (15, _), (16, _), (17, _), (18, _), (19, _), (20, _), (24, _), (25, _)]) (.cons rfl (.cons rfl (.cons rfl (.cons rfl (.cons rfl (.cons rfl (.cons rfl (.cons rfl (.cons rfl (.cons rfl (.cons rfl (.cons rfl (.cons rfl (.cons rfl (.cons rfl (.cons rfl (.cons rfl (.cons rfl (.nil _))))))))))))))))))) ?_
      refine cd_region ?_
      refine st (ev_add64 rfl rfl (by omega) (by omega)) rfl rfl rfl ?_
      refine st (ev_move rfl) rfl rfl rfl ?_
      refine op_nil ?_
      refine ax_heq (i := 3) (v' := .blk b3 (.cells (ints .u8 (up leaf i (p.take (k + 1)))).toArray 39)) rfl (by rw [up_take leaf i (by omega)]; first | rw [if_pos hc17] | rw [if_neg hc17]) ?_
      exact at_again (k + 1) (by omega) (by omega) (.cons rfl (.cons rfl (.cons rfl (.cons rfl (.cons rfl (.cons rfl (.nil _))))))) (.cons rfl (.cons rfl (.nil _))) (.cons rfl (.nil _))
    ·
      refine cd_region ?_
      refine st (ld_blk_all (h := 8) ty39 rfl rfl rfl (by first | omega | (simp only [List.length_append, List.length_cons, List.length_nil, List.length_set, List.length_replicate, List.length_take, List.length_drop, ints_length, wr_length, node_len] <;> omega) | rfl)) rfl rfl rfl ?_
      refine st (ld_blk_all (h := 3) ty39 rfl rfl rfl (by first | omega | (simp only [List.length_append, List.length_cons, List.length_nil, List.length_set, List.length_replicate, List.length_take, List.length_drop, ints_length, wr_length, node_len] <;> omega) | rfl)) rfl rfl rfl ?_
      refine st_callv has85 rfl (fun w1 sw => node_any (p.getD k []) (up leaf i (p.take (k))) w1 hg2 hul) rfl rfl ?_
      refine st_store_all 3 ty39 rfl rfl rfl rfl (by first | omega | (simp only [List.length_append, List.length_cons, List.length_nil, List.length_set, List.length_replicate, List.length_take, List.length_drop, ints_length, wr_length, node_len] <;> omega) | rfl) (ints_one _ _) (by first | omega | (simp only [List.length_append, List.length_cons, List.length_nil, List.length_set, List.length_replicate, List.length_take, List.length_drop, ints_length, wr_length, node_len] <;> omega) | rfl) rfl ?_
      refine op_nil ?_
      refine ax_then ?_
      refine At.regs (L' := [(1, _), (3, _), (6, _), (8, _), (9, _), (10, _), (11, _), (12, _), (13, _), (14, _), (15, _), (16, _), (17, _), (21, _), (22, _), (23, _)]) (.cons rfl (.cons rfl (.cons rfl (.cons rfl (.cons rfl (.cons rfl (.cons rfl (.cons rfl (.cons rfl (.cons rfl (.cons rfl (.cons rfl (.cons rfl (.cons rfl (.cons rfl (.cons rfl (.nil _))))))))))))))))) ?_
      refine cd_region ?_
      refine st (ev_move rfl) rfl rfl rfl ?_
      refine st (ev_shr rfl rfl (by omega)) rfl rfl rfl ?_
      refine at_eq (i := 25) (v' := .int .i64 (i / 2 ^ (k + 1))) rfl (by rw [ishr1 hdr.1, div_step]) ?_
      refine st (ev_assign rfl) rfl rfl rfl ?_
      refine op_nil ?_
      refine ax_block ?_
      refine ax_then ?_
      refine At.regs (L' := [(1, _), (3, _), (6, _), (8, _), (9, _), (10, _), (11, _), (12, _), (13, _), (14, _), (15, _), (16, _), (17, _), (21, _), (22, _), (23, _), (24, _), (25, _)]) (.cons rfl (.cons rfl (.cons rfl (.cons rfl (.cons rfl (.cons rfl (.cons rfl (.cons rfl (.cons rfl (.cons rfl (.cons rfl (.cons rfl (.cons rfl (.cons rfl (.cons rfl (.cons rfl (.cons rfl (.cons rfl (.nil _))))))))))))))))))) ?_
      refine cd_region ?_
      refine st (ev_add64 rfl rfl (by omega) (by omega)) rfl rfl rfl ?_
      refine st (ev_move rfl) rfl rfl rfl ?_
      refine op_nil ?_
      refine ax_heq (i := 3) (v' := .blk b3 (.cells (ints .u8 (up leaf i (p.take (k + 1)))).toArray 39)) rfl (by rw [up_take leaf i (by omega)]; first | rw [if_pos hc17] | rw [if_neg hc17]) ?_
      exact at_again (k + 1) (by omega) (by omega) (.cons rfl (.cons rfl (.cons rfl (.cons rfl (.cons rfl (.cons rfl (.nil _))))))) (.cons rfl (.cons rfl (.nil _))) (.cons rfl (.nil _))
  ·
    obtain rfl : k = p.length := by omega
    refine at_heq (i := 3) (v' := .blk b3 (.cells (ints .u8 (up leaf i p)).toArray 39)) rfl (by rw [List.take_length]) ?_
    have hul2 := up_len hl i p
    refine cd_exit ?_
    refine ax_then_exit ?_
    refine ax_then_exit ?_
    refine ax_block_hit ?_
    refine ax_then ?_
    refine At.regs (L' := [(3, _), (6, _)]) (.cons rfl (.cons rfl (.nil _))) ?_
    refine cd_seq ?_
    refine cd_region ?_
    refine st (ld_blk_all (h := 3) ty39 rfl rfl rfl (by first | omega | (simp only [List.length_append, List.length_cons, List.length_nil, List.length_set, List.length_replicate, List.length_take, List.length_drop, ints_length, wr_length, node_len] <;> omega) | rfl)) rfl rfl rfl ?_
    refine st_store_all 6 ty39 rfl rfl rfl rfl (by first | omega | (simp only [List.length_append, List.length_cons, List.length_nil, List.length_set, List.length_replicate, List.length_take, List.length_drop, ints_length, wr_length, node_len] <;> omega) | rfl) (ints_one _ _) (by first | omega | (simp only [List.length_append, List.length_cons, List.length_nil, List.length_set, List.length_replicate, List.length_take, List.length_drop, ints_length, wr_length, node_len] <;> omega) | rfl) rfl ?_
    refine op_nil ?_
    refine ax_then ?_
    refine At.regs (L' := [(6, _)]) (.cons rfl (.nil _)) ?_
    refine cd_ret ?_
    refine rt_cell (h0 := 6) (.inl rfl) Try.results57 ty39 rfl rfl rfl (by first | omega | (simp only [List.length_append, List.length_cons, List.length_nil, List.length_set, List.length_replicate, List.length_take, List.length_drop, ints_length, wr_length, node_len] <;> omega) | rfl) ?_
    exact fun w1 sw => ⟨rfl, sw.gives (.nil _)⟩
set_option maxRecDepth 20000 in
set_option maxHeartbeats 2000000 in
theorem rup_any (leaf : List Int) (i : Int) (q : Value) (p : List (List Int)) (w : World) (hl : leaf.length = 32) (h0 : 0 ≤ i) (h1 : i ≤ 9223372036854775807) (hu : H32 p) (hpl : p.length ≤ 140737488352000) (h : Rd w q 32 (flat p)) : Calls Try.prog 59 #[.agg (ints .u8 (leaf)).toArray, .int .i64 i, q] w (PostV w (.agg (ints .u8 (up leaf i p)).toArray)) := by
  refine calls_at (vs := [.agg (ints .u8 (leaf)).toArray, .int .i64 i, q]) (X := []) (H := []) (F := [(2, .sl q 32 (flat (p)))]) 32 Try.func59 rfl rfl rfl (Sat.rd0 2 h) ?_
  refine cd_seq ?_
  refine cd_region ?_
  refine st_box (h := 3) rfl rfl rfl rfl (fun b3 => ?_)
  refine st_alloc (h := 6) ty39 rfl rfl rfl (fun b6 => ?_)
  refine op_nil ?_
  refine ax_then ?_
  refine At.regs (L' := [(1, _), (2, _), (3, _), (6, _)]) (.cons rfl (.cons rfl (.cons rfl (.cons rfl (.nil _))))) ?_
  refine cd_seq ?_
  refine cd_seq ?_
  refine cd_region ?_
  refine st (ev_assign rfl) rfl rfl rfl ?_
  refine op_nil ?_
  refine ax_then ?_
  refine At.regs (L' := [(1, _), (2, _), (3, _), (6, _), (7, _)]) (.cons rfl (.cons rfl (.cons rfl (.cons rfl (.cons rfl (.nil _)))))) ?_
  refine cd_block ?_
  refine at_eq (i := 1) (v' := .int .i64 (i / 2 ^ 0)) rfl (by rw [Int.pow_zero, Int.ediv_one]) ?_
  refine cd_loop (ι := Nat) (fun k => k ≤ p.length) (fun k => p.length - k)
      (fun k => [(1, .int .i64 (i / 2 ^ k)), (2, q), (3, .pointer (some ⟨b3, 0, none⟩)), (6, .pointer (some ⟨b6, 0, none⟩)), (7, .int .i64 (k : Int))])
      (fun k => [(3, .blk b3 (.cells (ints .u8 (up leaf i (p.take (k)))).toArray 39)), (6, .blk b6 (.cells (ints .u8 (List.replicate 32 0)).toArray 39))])
      (fun k => [(2, .sl q 32 (flat (p)))])
      0 (by omega) (.cons rfl (.cons rfl (.cons rfl (.cons rfl (.cons rfl (.nil _)))))) (.cons rfl (.cons rfl (.nil _))) (.cons rfl (.nil _)) (fun k hi => ?_)
  have hul := up_len hl i (p.take k)
  have hdr := div_range h0 k
  have hg : k < p.length → (p.getD k []).length = 32 := fun hk => hu.get hk
  have e0 : (k : Int).toNat = k := by omega
  refine cd_seq ?_
  refine cd_seq ?_
  refine cd_region ?_
  refine st (ev_move rfl) rfl rfl rfl ?_
  refine st (ev_move rfl) rfl rfl rfl ?_
  refine st (ev_len_rdh (h := 2) Try.underlying26 rfl rfl (by assumption)) rfl rfl rfl ?_
  refine st (ev_lss rfl rfl) rfl rfl rfl ?_
  refine op_nil ?_
  refine ax_then ?_
  refine At.regs (L' := [(1, _), (2, _), (3, _), (6, _), (7, _), (8, _), (9, _), (10, _), (11, _)]) (.cons rfl (.cons rfl (.cons rfl (.cons rfl (.cons rfl (.cons rfl (.cons rfl (.cons rfl (.cons rfl (.nil _)))))))))) ?_
  refine cd_if rfl (fun hc11 => ?_) (fun hc11 => ?_)
  ·
    have hg2 := hg (by omega)
    refine cd_skip ?_
    refine ax_then ?_
    refine At.regs (L' := [(1, _), (2, _), (3, _), (6, _), (7, _), (8, _), (9, _), (10, _), (11, _)]) (.cons rfl (.cons rfl (.cons rfl (.cons rfl (.cons rfl (.cons rfl (.cons rfl (.cons rfl (.cons rfl (.nil _)))))))))) ?_
    refine cd_seq ?_
    refine cd_block ?_
    refine cd_seq ?_
    refine cd_seq ?_
    refine cd_region ?_
    refine st (ev_move rfl) rfl rfl rfl ?_
    refine st (ev_and rfl rfl) rfl rfl rfl ?_
    refine at_eq (i := 15) (v' := .int .i64 (i / 2 ^ k % 2)) rfl (by rw [iand1 hdr.1 (by omega)]) ?_
    refine st (ev_eql rfl rfl) rfl rfl rfl ?_
    refine op_nil ?_
    refine ax_then ?_
    refine At.regs (L' := [(1, _), (2, _), (3, _), (6, _), (7, _), (8, _), (9, _), (10, _), (11, _), (14, _), (15, _), (16, _)]) (.cons rfl (.cons rfl (.cons rfl (.cons rfl (.cons rfl (.cons rfl (.cons rfl (.cons rfl (.cons rfl (.cons rfl (.cons rfl (.cons rfl (.nil _))))))))))))) ?_
    refine cd_if rfl (fun hc16 => ?_) (fun hc16 => ?_)
    ·
      refine cd_open_tail 6 hmix (by decide +kernel) ?_
      refine qt (ld_blk_all (h := 3) ty39 rfl rfl rfl (by first | omega | (simp only [List.length_append, List.length_cons, List.length_nil, List.length_set, List.length_replicate, List.length_take, List.length_drop, ints_length, wr_length, node_len] <;> omega) | rfl)) rfl rfl rfl ?_
      refine qt (ev_move rfl) rfl rfl rfl ?_
      refine qt (ev_move rfl) rfl rfl rfl ?_
      refine qt (ev_indexAddr_rdh (h := 2) Try.underlying26 ty39 rfl rfl rfl (by assumption) (by omega) (by omega)) rfl rfl rfl ?_
      refine qt (ld_rdh (h := 2) ty39 rfl rfl rfl (by assumption) (by omega)) rfl rfl rfl ?_
      refine qt_eq (i := 21) (v' := .agg (ints .u8 (p.getD k [])).toArray) rfl (by rw [e0]) ?_
      refine qt_callv has82 rfl (fun w1 sw => rnode_any (up leaf i (p.take (k))) (p.getD k []) w1 hul hg2) rfl rfl ?_
      refine qt_end ?_
      refine st_store_all 3 ty39 rfl rfl rfl rfl (by first | omega | (simp only [List.length_append, List.length_cons, List.length_nil, List.length_set, List.length_replicate, List.length_take, List.length_drop, ints_length, wr_length, node_len] <;> omega) | rfl) (ints_one _ _) (by first | omega | (simp only [List.length_append, List.length_cons, List.length_nil, List.length_set, List.length_replicate, List.length_take, List.length_drop, ints_length, wr_length, node_len] <;> omega) | rfl) rfl ?_
      refine op_nil ?_
      refine ax_then ?_
      refine At.regs (L' := [(1, _), (2, _), (3, _), (6, _), (7, _), (8, _), (9, _), (10, _), (11, _), (14, _), (15, _), (16, _), (17, _), (18, _), (19, _), (20, _), (21, _), (22, _)]) (.cons rfl (.cons rfl (.cons rfl (.cons rfl (.cons rfl (.cons rfl (.cons rfl (.cons rfl (.cons rfl (.cons rfl (.cons rfl (.cons rfl (.cons rfl (.cons rfl (.cons rfl (.cons rfl (.cons rfl (.cons rfl (.nil _))))))))))))))))))) ?_
      refine cd_region ?_
      refine st (ev_move rfl) rfl rfl rfl ?_
      refine st (ev_shr rfl rfl (by omega)) rfl rfl rfl ?_
      refine at_eq (i := 30) (v' := .int .i64 (i / 2 ^ (k + 1))) rfl (by rw [ishr1 hdr.1, div_step]) ?_
      refine st (ev_assign rfl) rfl rfl rfl ?_
      refine op_nil ?_
      refine ax_block ?_
      refine ax_then ?_
      refine At.regs (L' := [(1, _), (2, _), (3, _), (6, _), (7, _), (8, _), (9, _), (10, _), (11, _), (14, _), (15, _), (16, _), (17, _), (18, _), (19, _), (20, _), (21, _), (22, _), (29, _), (30, _)]) (.cons rfl (.cons rfl (.cons rfl (.cons rfl (.cons rfl (.cons rfl (.cons rfl (.cons rfl (.cons rfl (.cons rfl (.cons rfl (.cons rfl (.cons rfl (.cons rfl (.cons rfl (.cons rfl (.cons rfl (.cons rfl (.cons rfl (.cons rfl (.nil _))))))))))))))))))))) ?_
      refine cd_region ?_
      refine st (ev_move rfl) rfl rfl rfl ?_
      refine st (ev_add64 rfl rfl (by omega) (by omega)) rfl rfl rfl ?_
      refine st (ev_assign rfl) rfl rfl rfl ?_
      refine op_nil ?_
      refine ax_heq (i := 3) (v' := .blk b3 (.cells (ints .u8 (up leaf i (p.take (k + 1)))).toArray 39)) rfl (by rw [up_take leaf i (by omega)]; first | rw [if_pos hc16] | rw [if_neg hc16]) ?_
      exact at_again (k + 1) (by omega) (by omega) (.cons rfl (.cons rfl (.cons rfl (.cons rfl (.cons rfl (.nil _)))))) (.cons rfl (.cons rfl (.nil _))) (.cons rfl (.nil _))
    ·
      refine cd_open_tail 6 hmix (by decide +kernel) ?_
      refine qt (ev_move rfl) rfl rfl rfl ?_
      refine qt (ev_move rfl) rfl rfl rfl ?_
      refine qt (ev_indexAddr_rdh (h := 2) Try.underlying26 ty39 rfl rfl rfl (by assumption) (by omega) (by omega)) rfl rfl rfl ?_
      refine qt (ld_rdh (h := 2) ty39 rfl rfl rfl (by assumption) (by omega)) rfl rfl rfl ?_
      refine qt_eq (i := 26) (v' := .agg (ints .u8 (p.getD k [])).toArray) rfl (by rw [e0]) ?_
      refine qt (ld_blk_all (h := 3) ty39 rfl rfl rfl (by first | omega | (simp only [List.length_append, List.length_cons, List.length_nil, List.length_set, List.length_replicate, List.length_take, List.length_drop, ints_length, wr_length, node_len] <;> omega) | rfl)) rfl rfl rfl ?_
      refine qt_callv has82 rfl (fun w1 sw => rnode_any (p.getD k []) (up leaf i (p.take (k))) w1 hg2 hul) rfl rfl ?_
      refine qt_end ?_
      refine st_store_all 3 ty39 rfl rfl rfl rfl (by first | omega | (simp only [List.length_append, List.length_cons, List.length_nil, List.length_set, List.length_replicate, List.length_take, List.length_drop, ints_length, wr_length, node_len] <;> omega) | rfl) (ints_one _ _) (by first | omega | (simp only [List.length_append, List.length_cons, List.length_nil, List.length_set, List.length_replicate, List.length_take, List.length_drop, ints_length, wr_length, node_len] <;> omega) | rfl) rfl ?_
      refine op_nil ?_
      refine ax_then ?_
      refine At.regs (L' := [(1, _), (2, _), (3, _), (6, _), (7, _), (8, _), (9, _), (10, _), (11, _), (14, _), (15, _), (16, _), (23, _), (24, _), (25, _), (26, _), (27, _), (28, _)]) (.cons rfl (.cons rfl (.cons rfl (.cons rfl (.cons rfl (.cons rfl (.cons rfl (.cons rfl (.cons rfl (.cons rfl (.cons rfl (.cons rfl (.cons rfl (.cons rfl (.cons rfl (.cons rfl (.cons rfl (.cons rfl (.nil _))))))))))))))))))) ?_
      refine cd_region ?_
      refine st (ev_move rfl) rfl rfl rfl ?_
      refine st (ev_shr rfl rfl (by omega)) rfl rfl rfl ?_
      refine at_eq (i := 30) (v' := .int .i64 (i / 2 ^ (k + 1))) rfl (by rw [ishr1 hdr.1, div_step]) ?_
      refine st (ev_assign rfl) rfl rfl rfl ?_
      refine op_nil ?_
      refine ax_block ?_
      refine ax_then ?_
      refine At.regs (L' := [(1, _), (2, _), (3, _), (6, _), (7, _), (8, _), (9, _), (10, _), (11, _), (14, _), (15, _), (16, _), (23, _), (24, _), (25, _), (26, _), (27, _), (28, _), (29, _), (30, _)]) (.cons rfl (.cons rfl (.cons rfl (.cons rfl (.cons rfl (.cons rfl (.cons rfl (.cons rfl (.cons rfl (.cons rfl (.cons rfl (.cons rfl (.cons rfl (.cons rfl (.cons rfl (.cons rfl (.cons rfl (.cons rfl (.cons rfl (.cons rfl (.nil _))))))))))))))))))))) ?_
      refine cd_region ?_
      refine st (ev_move rfl) rfl rfl rfl ?_
      refine st (ev_add64 rfl rfl (by omega) (by omega)) rfl rfl rfl ?_
      refine st (ev_assign rfl) rfl rfl rfl ?_
      refine op_nil ?_
      refine ax_heq (i := 3) (v' := .blk b3 (.cells (ints .u8 (up leaf i (p.take (k + 1)))).toArray 39)) rfl (by rw [up_take leaf i (by omega)]; first | rw [if_pos hc16] | rw [if_neg hc16]) ?_
      exact at_again (k + 1) (by omega) (by omega) (.cons rfl (.cons rfl (.cons rfl (.cons rfl (.cons rfl (.nil _)))))) (.cons rfl (.cons rfl (.nil _))) (.cons rfl (.nil _))
  ·
    obtain rfl : k = p.length := by omega
    refine at_heq (i := 3) (v' := .blk b3 (.cells (ints .u8 (up leaf i p)).toArray 39)) rfl (by rw [List.take_length]) ?_
    have hul2 := up_len hl i p
    refine cd_exit ?_
    refine ax_then_exit ?_
    refine ax_then_exit ?_
    refine ax_block_hit ?_
    refine ax_then ?_
    refine At.regs (L' := [(3, _), (6, _)]) (.cons rfl (.cons rfl (.nil _))) ?_
    refine cd_seq ?_
    refine cd_region ?_
    refine st (ld_blk_all (h := 3) ty39 rfl rfl rfl (by first | omega | (simp only [List.length_append, List.length_cons, List.length_nil, List.length_set, List.length_replicate, List.length_take, List.length_drop, ints_length, wr_length, node_len] <;> omega) | rfl)) rfl rfl rfl ?_
    refine st_store_all 6 ty39 rfl rfl rfl rfl (by first | omega | (simp only [List.length_append, List.length_cons, List.length_nil, List.length_set, List.length_replicate, List.length_take, List.length_drop, ints_length, wr_length, node_len] <;> omega) | rfl) (ints_one _ _) (by first | omega | (simp only [List.length_append, List.length_cons, List.length_nil, List.length_set, List.length_replicate, List.length_take, List.length_drop, ints_length, wr_length, node_len] <;> omega) | rfl) rfl ?_
    refine op_nil ?_
    refine ax_then ?_
    refine At.regs (L' := [(6, _)]) (.cons rfl (.nil _)) ?_
    refine cd_ret ?_
    refine rt_cell (h0 := 6) (.inl rfl) Try.results59 ty39 rfl rfl rfl (by first | omega | (simp only [List.length_append, List.length_cons, List.length_nil, List.length_set, List.length_replicate, List.length_take, List.length_drop, ints_length, wr_length, node_len] <;> omega) | rfl) ?_
    exact fun w1 sw => ⟨rfl, sw.gives (.nil _)⟩
end Go.Proofs.Yteedclmcgifmpaa

namespace Go.Proofs.Yteedclmcgifmpaa
open Go Go.RowKit Fw
open Sha
open Ots
open Mk
set_option linter.unusedVariables false
set_option linter.unusedSimpArgs false
set_option maxRecDepth 20000 in
set_option maxHeartbeats 1000000 in
theorem named_any (r : List Int) (w : World) (hr : r.length = 32) : Calls Try.prog 50 #[.agg (ints .u8 (r)).toArray] w (PostV w (.agg (ints .u8 (Ky.named r)).toArray)) := by
  refine calls_at (vs := [.agg (ints .u8 (r)).toArray]) (X := []) (H := []) (F := []) 7 Try.func50 rfl rfl rfl (Sat.start0 w) ?_
  refine cd_seq ?_
  refine cd_region ?_
  refine st_box (h := 1) rfl rfl rfl rfl (fun b1 => ?_)
  refine st_alloc (h := 2) ty39 rfl rfl rfl (fun b2 => ?_)
  refine op_nil ?_
  refine ax_then ?_
  refine At.regs (L' := [(1, _), (2, _)]) (.cons rfl (.cons rfl (.nil _))) ?_
  refine cd_seq ?_
  refine cd_region ?_
  refine st_bsi (h := 3) (xs := [_]) Try.underlying22 ty5 (by decide) rfl rfl (by decide) rfl rfl (fun b3 => ?_)
  refine st (ev_slice_arr_all Try.underlying39 ty5 rfl) rfl rfl rfl ?_
  refine st_appendi (h := 3) Try.underlying22 Try.underlying22 ty5 rfl rfl rfl rfl (fun w1 sw => rd_blk_all sw (h := 1) rfl (by first | omega | (simp only [List.length_append, List.length_cons, List.length_nil, List.length_set, List.length_replicate, List.length_take, List.length_drop, ints_length, wr_length, sha_len, node_len, recov_len, Ky.named_len, Ky.keyPub_len] <;> omega) | rfl)) (by first | omega | (simp only [List.length_append, List.length_cons, List.length_nil, List.length_set, List.length_replicate, List.length_take, List.length_drop, ints_length, wr_length, sha_len, node_len, recov_len, Ky.named_len, Ky.keyPub_len] <;> omega)) (by decide) rfl rfl (fun v5 => ?_)
  refine st_callv has83 rfl (fun w1 sw => sum_any v5 ([4] ++ r) w1 (by simp only [List.length_append, List.length_cons, List.length_nil]; omega) (sw.own_rd (h := 3) rfl)) rfl rfl ?_
  refine at_eq (i := 6) (v' := .agg (ints .u8 (Ky.named r)).toArray) rfl rfl ?_
  refine st_store_all 2 ty39 rfl rfl rfl rfl (by first | omega | (simp only [List.length_append, List.length_cons, List.length_nil, List.length_set, List.length_replicate, List.length_take, List.length_drop, ints_length, wr_length, sha_len, node_len, recov_len, Ky.named_len, Ky.keyPub_len] <;> omega) | rfl) (ints_one _ _) (by first | omega | (simp only [List.length_append, List.length_cons, List.length_nil, List.length_set, List.length_replicate, List.length_take, List.length_drop, ints_length, wr_length, sha_len, node_len, recov_len, Ky.named_len, Ky.keyPub_len] <;> omega) | rfl) rfl ?_
  refine op_nil ?_
  refine ax_then ?_
  refine At.regs (L' := [(2, _)]) (.cons rfl (.nil _)) ?_
  refine cd_ret ?_
  refine rt_cell (h0 := 2) (.inl rfl) Try.results50 ty39 rfl rfl rfl (by first | omega | (simp only [List.length_append, List.length_cons, List.length_nil, List.length_set, List.length_replicate, List.length_take, List.length_drop, ints_length, wr_length, sha_len, node_len, recov_len, Ky.named_len, Ky.keyPub_len] <;> omega) | rfl) ?_
  exact fun w1 sw => ⟨rfl, sw.gives (.nil _)⟩
set_option maxRecDepth 20000 in
set_option maxHeartbeats 1000000 in
theorem rnamed_any (r : List Int) (w : World) (hr : r.length = 32) : Calls Try.prog 48 #[.agg (ints .u8 (r)).toArray] w (PostV w (.agg (ints .u8 (Ky.named r)).toArray)) := by
  refine calls_at (vs := [.agg (ints .u8 (r)).toArray]) (X := []) (H := []) (F := []) 7 Try.func48 rfl rfl rfl (Sat.start0 w) ?_
  refine cd_seq ?_
  refine cd_region ?_
  refine st_box (h := 1) rfl rfl rfl rfl (fun b1 => ?_)
  refine st_alloc (h := 2) ty39 rfl rfl rfl (fun b2 => ?_)
  refine op_nil ?_
  refine ax_then ?_
  refine At.regs (L' := [(1, _), (2, _)]) (.cons rfl (.cons rfl (.nil _))) ?_
  refine cd_seq ?_
  refine cd_region ?_
  refine st_bsi (h := 3) (xs := [_]) Try.underlying22 ty5 (by decide) rfl rfl (by decide) rfl rfl (fun b3 => ?_)
  refine st (ev_slice_arr_all Try.underlying39 ty5 rfl) rfl rfl rfl ?_
  refine st_appendi (h := 3) Try.underlying22 Try.underlying22 ty5 rfl rfl rfl rfl (fun w1 sw => rd_blk_all sw (h := 1) rfl (by first | omega | (simp only [List.length_append, List.length_cons, List.length_nil, List.length_set, List.length_replicate, List.length_take, List.length_drop, ints_length, wr_length, sha_len, node_len, recov_len, Ky.named_len, Ky.keyPub_len] <;> omega) | rfl)) (by first | omega | (simp only [List.length_append, List.length_cons, List.length_nil, List.length_set, List.length_replicate, List.length_take, List.length_drop, ints_length, wr_length, sha_len, node_len, recov_len, Ky.named_len, Ky.keyPub_len] <;> omega)) (by decide) rfl rfl (fun v5 => ?_)
  refine st_callv has80 rfl (fun w1 sw => rsum_any v5 ([4] ++ r) w1 (by simp only [List.length_append, List.length_cons, List.length_nil]; omega) (sw.own_rd (h := 3) rfl)) rfl rfl ?_
  refine at_eq (i := 6) (v' := .agg (ints .u8 (Ky.named r)).toArray) rfl rfl ?_
  refine st_store_all 2 ty39 rfl rfl rfl rfl (by first | omega | (simp only [List.length_append, List.length_cons, List.length_nil, List.length_set, List.length_replicate, List.length_take, List.length_drop, ints_length, wr_length, sha_len, node_len, recov_len, Ky.named_len, Ky.keyPub_len] <;> omega) | rfl) (ints_one _ _) (by first | omega | (simp only [List.length_append, List.length_cons, List.length_nil, List.length_set, List.length_replicate, List.length_take, List.length_drop, ints_length, wr_length, sha_len, node_len, recov_len, Ky.named_len, Ky.keyPub_len] <;> omega) | rfl) rfl ?_
  refine op_nil ?_
  refine ax_then ?_
  refine At.regs (L' := [(2, _)]) (.cons rfl (.nil _)) ?_
  refine cd_ret ?_
  refine rt_cell (h0 := 2) (.inl rfl) Try.results48 ty39 rfl rfl rfl (by first | omega | (simp only [List.length_append, List.length_cons, List.length_nil, List.length_set, List.length_replicate, List.length_take, List.length_drop, ints_length, wr_length, sha_len, node_len, recov_len, Ky.named_len, Ky.keyPub_len] <;> omega) | rfl) ?_
  exact fun w1 sw => ⟨rfl, sw.gives (.nil _)⟩
set_option maxRecDepth 20000 in
set_option maxHeartbeats 1000000 in
theorem isSig_any (l : Int) (vc vp : Value) (cs ps : List (List Int)) (w : World) (hu : H32 cs) (hu' : H32 ps) (h : Rd w vc 32 (flat cs)) (h' : Rd w vp 32 (flat ps)) : Calls Try.prog 37 #[.agg (List.toArray [.int .i64 l, vc, vp])] w (PostV w (.bool (decide (Ky.isSig l cs ps)))) := by
  refine calls_at (vs := [.agg (List.toArray [.int .i64 l, vc, vp])]) (X := []) (H := []) (F := [(21, .sl vp 32 (flat (ps))), (20, .sl vc 32 (flat (cs)))]) 23 Try.func37 rfl rfl rfl ((Sat.rd0 20 h).more 21 h') ?_
  refine cd_seq ?_
  refine cd_region ?_
  refine st_box (h := 1) rfl rfl rfl rfl (fun b1 => ?_)
  refine st (ev_assign rfl) rfl rfl rfl ?_
  refine op_nil ?_
  refine ax_then ?_
  refine At.regs (L' := [(1, _), (2, _)]) (.cons rfl (.cons rfl (.nil _))) ?_
  refine cd_seq ?_
  refine cd_region ?_
  refine st (ev_fieldAddr (b := _) Try.underlying42 (f := _) rfl ty3 (by decide) rfl) rfl rfl rfl ?_
  refine st (ld_blk1 (h := 1) ty3 rfl rfl rfl rfl) rfl rfl rfl ?_
  refine st (ev_geq rfl rfl) rfl rfl rfl ?_
  refine st (ev_move rfl) rfl rfl rfl ?_
  refine at_split_if (i := 6) rfl (fun hg6 => ?_) (fun hg6 => ?_)
  ·
    refine st (ev_fieldAddr (b := _) Try.underlying42 (f := _) rfl ty3 (by decide) rfl) rfl rfl rfl ?_
    refine st (ld_blk1 (h := 1) ty3 rfl rfl rfl rfl) rfl rfl rfl ?_
    refine st (ev_lss rfl rfl) rfl rfl rfl ?_
    refine st (ev_pick_t rfl rfl) rfl rfl rfl ?_
    refine st (ev_move rfl) rfl rfl rfl ?_
    refine at_split_if (i := 11) rfl (fun hg11 => ?_) (fun hg11 => ?_)
    ·
      refine st (ev_fieldAddr (b := _) Try.underlying42 (f := _) rfl ty26 (by decide) rfl) rfl rfl rfl ?_
      refine st (ld_blk1 (h := 1) ty26 rfl rfl rfl rfl) rfl rfl rfl ?_
      refine st (ev_len_rdh (h := 20) Try.underlying26 rfl rfl (by assumption)) rfl rfl rfl ?_
      refine st (ev_eql rfl rfl) rfl rfl rfl ?_
      refine st (ev_pick_t rfl rfl) rfl rfl rfl ?_
      refine st (ev_move rfl) rfl rfl rfl ?_
      refine at_split_if (i := 17) rfl (fun hg17 => ?_) (fun hg17 => ?_)
      ·
        refine st (ev_fieldAddr (b := _) Try.underlying42 (f := _) rfl ty26 (by decide) rfl) rfl rfl rfl ?_
        refine st (ld_blk1 (h := 1) ty26 rfl rfl rfl rfl) rfl rfl rfl ?_
        refine st (ev_len_rdh (h := 21) Try.underlying26 rfl rfl (by assumption)) rfl rfl rfl ?_
        refine st (ev_eql rfl rfl) rfl rfl rfl ?_
        refine st (ev_pick_t rfl rfl) rfl rfl rfl ?_
        refine st (ev_assign rfl) rfl rfl rfl ?_
        refine op_nil ?_
        refine ax_then ?_
        refine At.regs (L' := [(2, _)]) (.cons rfl (.nil _)) ?_
        refine cd_ret ?_
        refine rt_tmp (.inl rfl) Try.results37 rfl ?_
        exact fun w1 sw => ⟨congrArg (fun b => Ending.returned (Value.bool b)) (by first | exact (decide_eq_false (fun hh => by obtain ⟨a1, a2, a3, a4⟩ := hh; omega)).symm | exact decide_eq_decide.2 ⟨fun h => ⟨by omega, by omega, by omega, by omega⟩, fun h => by obtain ⟨a1, a2, a3, a4⟩ := h; omega⟩), sw.gives (.nil _)⟩
      ·
        refine st_skip rfl rfl rfl ?_
        refine st_skip rfl rfl rfl ?_
        refine st_skip rfl rfl rfl ?_
        refine st_skip rfl rfl rfl ?_
        refine st (ev_pick_f rfl rfl) rfl rfl rfl ?_
        refine st (ev_assign rfl) rfl rfl rfl ?_
        refine op_nil ?_
        refine ax_then ?_
        refine At.regs (L' := [(2, _)]) (.cons rfl (.nil _)) ?_
        refine cd_ret ?_
        refine rt_tmp (.inl rfl) Try.results37 rfl ?_
        exact fun w1 sw => ⟨congrArg (fun b => Ending.returned (Value.bool b)) (by first | exact (decide_eq_false (fun hh => by obtain ⟨a1, a2, a3, a4⟩ := hh; omega)).symm | exact decide_eq_decide.2 ⟨fun h => ⟨by omega, by omega, by omega, by omega⟩, fun h => by obtain ⟨a1, a2, a3, a4⟩ := h; omega⟩), sw.gives (.nil _)⟩
    ·
      refine st_skip rfl rfl rfl ?_
      refine st_skip rfl rfl rfl ?_
      refine st_skip rfl rfl rfl ?_
      refine st_skip rfl rfl rfl ?_
      refine st (ev_pick_f rfl rfl) rfl rfl rfl ?_
      refine st (ev_move rfl) rfl rfl rfl ?_
      refine st_skip rfl rfl rfl ?_
      refine st_skip rfl rfl rfl ?_
      refine st_skip rfl rfl rfl ?_
      refine st_skip rfl rfl rfl ?_
      refine st (ev_pick_f rfl rfl) rfl rfl rfl ?_
      refine st (ev_assign rfl) rfl rfl rfl ?_
      refine op_nil ?_
      refine ax_then ?_
      refine At.regs (L' := [(2, _)]) (.cons rfl (.nil _)) ?_
      refine cd_ret ?_
      refine rt_tmp (.inl rfl) Try.results37 rfl ?_
      exact fun w1 sw => ⟨congrArg (fun b => Ending.returned (Value.bool b)) (by first | exact (decide_eq_false (fun hh => by obtain ⟨a1, a2, a3, a4⟩ := hh; omega)).symm | exact decide_eq_decide.2 ⟨fun h => ⟨by omega, by omega, by omega, by omega⟩, fun h => by obtain ⟨a1, a2, a3, a4⟩ := h; omega⟩), sw.gives (.nil _)⟩
  ·
    refine st_skip rfl rfl rfl ?_
    refine st_skip rfl rfl rfl ?_
    refine st_skip rfl rfl rfl ?_
    refine st (ev_pick_f rfl rfl) rfl rfl rfl ?_
    refine st (ev_move rfl) rfl rfl rfl ?_
    refine st_skip rfl rfl rfl ?_
    refine st_skip rfl rfl rfl ?_
    refine st_skip rfl rfl rfl ?_
    refine st_skip rfl rfl rfl ?_
    refine st (ev_pick_f rfl rfl) rfl rfl rfl ?_
    refine st (ev_move rfl) rfl rfl rfl ?_
    refine st_skip rfl rfl rfl ?_
    refine st_skip rfl rfl rfl ?_
    refine st_skip rfl rfl rfl ?_
    refine st_skip rfl rfl rfl ?_
    refine st (ev_pick_f rfl rfl) rfl rfl rfl ?_
    refine st (ev_assign rfl) rfl rfl rfl ?_
    refine op_nil ?_
    refine ax_then ?_
    refine At.regs (L' := [(2, _)]) (.cons rfl (.nil _)) ?_
    refine cd_ret ?_
    refine rt_tmp (.inl rfl) Try.results37 rfl ?_
    exact fun w1 sw => ⟨congrArg (fun b => Ending.returned (Value.bool b)) (by first | exact (decide_eq_false (fun hh => by obtain ⟨a1, a2, a3, a4⟩ := hh; omega)).symm | exact decide_eq_decide.2 ⟨fun h => ⟨by omega, by omega, by omega, by omega⟩, fun h => by obtain ⟨a1, a2, a3, a4⟩ := h; omega⟩), sw.gives (.nil _)⟩
set_option maxRecDepth 20000 in
set_option maxHeartbeats 1000000 in
theorem risSig_any (l : Int) (vc vp : Value) (cs ps : List (List Int)) (w : World) (hu : H32 cs) (hu' : H32 ps) (h : Rd w vc 32 (flat cs)) (h' : Rd w vp 32 (flat ps)) : Calls Try.prog 34 #[.agg (List.toArray [.int .i64 l, vc, vp])] w (PostV w (.bool (decide (Ky.isSig l cs ps)))) := by
  refine calls_at (vs := [.agg (List.toArray [.int .i64 l, vc, vp])]) (X := []) (H := []) (F := [(21, .sl vp 32 (flat (ps))), (20, .sl vc 32 (flat (cs)))]) 23 Try.func34 rfl rfl rfl ((Sat.rd0 20 h).more 21 h') ?_
  refine cd_seq ?_
  refine cd_region ?_
  refine st_box (h := 1) rfl rfl rfl rfl (fun b1 => ?_)
  refine st (ev_assign rfl) rfl rfl rfl ?_
  refine op_nil ?_
  refine ax_then ?_
  refine At.regs (L' := [(1, _), (2, _)]) (.cons rfl (.cons rfl (.nil _))) ?_
  refine cd_seq ?_
  refine cd_region ?_
  refine st (ev_fieldAddr (b := _) Try.underlying42 (f := _) rfl ty3 (by decide) rfl) rfl rfl rfl ?_
  refine st (ld_blk1 (h := 1) ty3 rfl rfl rfl rfl) rfl rfl rfl ?_
  refine st (ev_geq rfl rfl) rfl rfl rfl ?_
  refine st (ev_move rfl) rfl rfl rfl ?_
  refine at_split_if (i := 6) rfl (fun hg6 => ?_) (fun hg6 => ?_)
  ·
    refine st (ev_fieldAddr (b := _) Try.underlying42 (f := _) rfl ty3 (by decide) rfl) rfl rfl rfl ?_
    refine st (ld_blk1 (h := 1) ty3 rfl rfl rfl rfl) rfl rfl rfl ?_
    refine st (ev_lss rfl rfl) rfl rfl rfl ?_
    refine st (ev_pick_t rfl rfl) rfl rfl rfl ?_
    refine st (ev_move rfl) rfl rfl rfl ?_
    refine at_split_if (i := 11) rfl (fun hg11 => ?_) (fun hg11 => ?_)
    ·
      refine st (ev_fieldAddr (b := _) Try.underlying42 (f := _) rfl ty26 (by decide) rfl) rfl rfl rfl ?_
      refine st (ld_blk1 (h := 1) ty26 rfl rfl rfl rfl) rfl rfl rfl ?_
      refine st (ev_len_rdh (h := 20) Try.underlying26 rfl rfl (by assumption)) rfl rfl rfl ?_
      refine st (ev_eql rfl rfl) rfl rfl rfl ?_
      refine st (ev_pick_t rfl rfl) rfl rfl rfl ?_
      refine st (ev_move rfl) rfl rfl rfl ?_
      refine at_split_if (i := 17) rfl (fun hg17 => ?_) (fun hg17 => ?_)
      ·
        refine st (ev_fieldAddr (b := _) Try.underlying42 (f := _) rfl ty26 (by decide) rfl) rfl rfl rfl ?_
        refine st (ld_blk1 (h := 1) ty26 rfl rfl rfl rfl) rfl rfl rfl ?_
        refine st (ev_len_rdh (h := 21) Try.underlying26 rfl rfl (by assumption)) rfl rfl rfl ?_
        refine st (ev_eql rfl rfl) rfl rfl rfl ?_
        refine st (ev_pick_t rfl rfl) rfl rfl rfl ?_
        refine st (ev_assign rfl) rfl rfl rfl ?_
        refine op_nil ?_
        refine ax_then ?_
        refine At.regs (L' := [(2, _)]) (.cons rfl (.nil _)) ?_
        refine cd_ret ?_
        refine rt_tmp (.inl rfl) Try.results34 rfl ?_
        exact fun w1 sw => ⟨congrArg (fun b => Ending.returned (Value.bool b)) (by first | exact (decide_eq_false (fun hh => by obtain ⟨a1, a2, a3, a4⟩ := hh; omega)).symm | exact decide_eq_decide.2 ⟨fun h => ⟨by omega, by omega, by omega, by omega⟩, fun h => by obtain ⟨a1, a2, a3, a4⟩ := h; omega⟩), sw.gives (.nil _)⟩
      ·
        refine st_skip rfl rfl rfl ?_
        refine st_skip rfl rfl rfl ?_
        refine st_skip rfl rfl rfl ?_
        refine st_skip rfl rfl rfl ?_
        refine st (ev_pick_f rfl rfl) rfl rfl rfl ?_
        refine st (ev_assign rfl) rfl rfl rfl ?_
        refine op_nil ?_
        refine ax_then ?_
        refine At.regs (L' := [(2, _)]) (.cons rfl (.nil _)) ?_
        refine cd_ret ?_
        refine rt_tmp (.inl rfl) Try.results34 rfl ?_
        exact fun w1 sw => ⟨congrArg (fun b => Ending.returned (Value.bool b)) (by first | exact (decide_eq_false (fun hh => by obtain ⟨a1, a2, a3, a4⟩ := hh; omega)).symm | exact decide_eq_decide.2 ⟨fun h => ⟨by omega, by omega, by omega, by omega⟩, fun h => by obtain ⟨a1, a2, a3, a4⟩ := h; omega⟩), sw.gives (.nil _)⟩
    ·
      refine st_skip rfl rfl rfl ?_
      refine st_skip rfl rfl rfl ?_
      refine st_skip rfl rfl rfl ?_
      refine st_skip rfl rfl rfl ?_
      refine st (ev_pick_f rfl rfl) rfl rfl rfl ?_
      refine st (ev_move rfl) rfl rfl rfl ?_
      refine st_skip rfl rfl rfl ?_
      refine st_skip rfl rfl rfl ?_
      refine st_skip rfl rfl rfl ?_
      refine st_skip rfl rfl rfl ?_
      refine st (ev_pick_f rfl rfl) rfl rfl rfl ?_
      refine st (ev_assign rfl) rfl rfl rfl ?_
      refine op_nil ?_
      refine ax_then ?_
      refine At.regs (L' := [(2, _)]) (.cons rfl (.nil _)) ?_
      refine cd_ret ?_
      refine rt_tmp (.inl rfl) Try.results34 rfl ?_
      exact fun w1 sw => ⟨congrArg (fun b => Ending.returned (Value.bool b)) (by first | exact (decide_eq_false (fun hh => by obtain ⟨a1, a2, a3, a4⟩ := hh; omega)).symm | exact decide_eq_decide.2 ⟨fun h => ⟨by omega, by omega, by omega, by omega⟩, fun h => by obtain ⟨a1, a2, a3, a4⟩ := h; omega⟩), sw.gives (.nil _)⟩
  ·
    refine st_skip rfl rfl rfl ?_
    refine st_skip rfl rfl rfl ?_
    refine st_skip rfl rfl rfl ?_
    refine st (ev_pick_f rfl rfl) rfl rfl rfl ?_
    refine st (ev_move rfl) rfl rfl rfl ?_
    refine st_skip rfl rfl rfl ?_
    refine st_skip rfl rfl rfl ?_
    refine st_skip rfl rfl rfl ?_
    refine st_skip rfl rfl rfl ?_
    refine st (ev_pick_f rfl rfl) rfl rfl rfl ?_
    refine st (ev_move rfl) rfl rfl rfl ?_
    refine st_skip rfl rfl rfl ?_
    refine st_skip rfl rfl rfl ?_
    refine st_skip rfl rfl rfl ?_
    refine st_skip rfl rfl rfl ?_
    refine st (ev_pick_f rfl rfl) rfl rfl rfl ?_
    refine st (ev_assign rfl) rfl rfl rfl ?_
    refine op_nil ?_
    refine ax_then ?_
    refine At.regs (L' := [(2, _)]) (.cons rfl (.nil _)) ?_
    refine cd_ret ?_
    refine rt_tmp (.inl rfl) Try.results34 rfl ?_
    exact fun w1 sw => ⟨congrArg (fun b => Ending.returned (Value.bool b)) (by first | exact (decide_eq_false (fun hh => by obtain ⟨a1, a2, a3, a4⟩ := hh; omega)).symm | exact decide_eq_decide.2 ⟨fun h => ⟨by omega, by omega, by omega, by omega⟩, fun h => by obtain ⟨a1, a2, a3, a4⟩ := h; omega⟩), sw.gives (.nil _)⟩
set_option maxRecDepth 20000 in
set_option maxHeartbeats 2000000 in
theorem verify_any (p : List Int) (q : Value) (m : List Int) (l : Int) (vc vp : Value) (cs ps : List (List Int)) (w : World) (hp : p.length = 32) (hm : m.length ≤ 140737488352000) (hu : H32 cs) (hu' : H32 ps) (n1 : cs.length ≤ 140737488352000) (n2 : ps.length ≤ 140737488352000) (h0 : Rd w q 1 (ints .u8 m)) (h : Rd w vc 32 (flat cs)) (h' : Rd w vp 32 (flat ps)) : Calls Try.prog 35 #[.agg (ints .u8 (p)).toArray, q, .agg (List.toArray [.int .i64 l, vc, vp])] w (PostV w (.bool (decide (Ky.verP p m l cs ps)))) := by
  refine calls_at (vs := [.agg (ints .u8 (p)).toArray, q, .agg (List.toArray [.int .i64 l, vc, vp])]) (X := []) (H := []) (F := [(21, .sl vp 32 (flat (ps))), (20, .sl vc 32 (flat (cs))), (1, .sl q 1 (ints .u8 (m)))]) 32 Try.func35 rfl rfl rfl (((Sat.rd0 1 h0).more 20 h).more 21 h') ?_
  refine cd_seq ?_
  refine cd_region ?_
  refine st_box (h := 3) rfl rfl rfl rfl (fun b3 => ?_)
  refine st_box (h := 5) rfl rfl rfl rfl (fun b5 => ?_)
  refine st (ev_assign rfl) rfl rfl rfl ?_
  refine op_nil ?_
  refine ax_then ?_
  refine At.regs (L' := [(1, _), (3, _), (5, _), (6, _)]) (.cons rfl (.cons rfl (.cons rfl (.cons rfl (.nil _))))) ?_
  refine cd_seq ?_
  refine cd_region ?_
  refine st (ev_move rfl) rfl rfl rfl ?_
  refine st (ev_fieldAddr (b := _) Try.underlying42 (f := _) rfl ty26 (by decide) rfl) rfl rfl rfl ?_
  refine st (ld_blk1 (h := 5) ty26 rfl rfl rfl rfl) rfl rfl rfl ?_
  refine st_callv has56 rfl (fun w1 sw => recover_any q vc m cs w1 hm hu n1 (sw.sl_rd (h := 1) rfl) (sw.sl_rd (h := 20) rfl)) rfl rfl ?_
  have hrl := recov_len m cs
  refine st (ev_move rfl) rfl rfl rfl ?_
  refine st (ev_extract rfl rfl) rfl rfl rfl ?_
  refine st (ev_extract rfl rfl) rfl rfl rfl ?_
  refine st_alloc (h := 7) ty39 rfl rfl rfl (fun b7 => ?_)
  refine st_store_all 7 ty39 rfl rfl rfl rfl (by first | omega | (simp only [List.length_append, List.length_cons, List.length_nil, List.length_set, List.length_replicate, List.length_take, List.length_drop, ints_length, wr_length, sha_len, node_len, recov_len, Ky.named_len, Ky.keyPub_len] <;> omega) | rfl) (ints_one _ _) (by first | omega | (simp only [List.length_append, List.length_cons, List.length_nil, List.length_set, List.length_replicate, List.length_take, List.length_drop, ints_length, wr_length, sha_len, node_len, recov_len, Ky.named_len, Ky.keyPub_len] <;> omega) | rfl) rfl ?_
  refine st (ev_assign rfl) rfl rfl rfl ?_
  refine op_nil ?_
  refine ax_then ?_
  refine At.regs (L' := [(3, _), (5, _), (6, _), (7, _), (8, _)]) (.cons rfl (.cons rfl (.cons rfl (.cons rfl (.cons rfl (.nil _)))))) ?_
  refine cd_seq ?_
  refine cd_open hmix (by decide +kernel) ?_
  refine qt (ev_move rfl) rfl rfl rfl ?_
  refine qt (ev_move rfl) rfl rfl rfl ?_
  refine qt_split_if (i := 17) rfl (fun hg17 => ?_) (fun hg17 => ?_)
  ·
    refine qt (ld_blk_all (h := 5) ty42 rfl rfl rfl (by first | omega | (simp only [List.length_append, List.length_cons, List.length_nil, List.length_set, List.length_replicate, List.length_take, List.length_drop, ints_length, wr_length, sha_len, node_len, recov_len, Ky.named_len, Ky.keyPub_len] <;> omega) | rfl)) rfl rfl rfl ?_
    refine qt_callv has37 rfl (fun w1 sw => isSig_any l vc vp cs ps w1 hu hu' (sw.sl_rd (h := 20) rfl) (sw.sl_rd (h := 21) rfl)) rfl rfl ?_
    refine qt (ev_pick_t rfl rfl) rfl rfl rfl ?_
    refine qt (ev_move rfl) rfl rfl rfl ?_
    refine qt_split_if (i := 21) rfl (fun hg21 => ?_) (fun hg21 => ?_)
    ·
      have his := hg21
      refine qt (ld_blk_all (h := 7) ty39 rfl rfl rfl (by first | omega | (simp only [List.length_append, List.length_cons, List.length_nil, List.length_set, List.length_replicate, List.length_take, List.length_drop, ints_length, wr_length, sha_len, node_len, recov_len, Ky.named_len, Ky.keyPub_len] <;> omega) | rfl)) rfl rfl rfl ?_
      refine qt (ev_fieldAddr (b := _) Try.underlying42 (f := _) rfl ty3 (by decide) rfl) rfl rfl rfl ?_
      refine qt (ld_blk1 (h := 5) ty3 rfl rfl rfl rfl) rfl rfl rfl ?_
      refine qt (ev_fieldAddr (b := _) Try.underlying42 (f := _) rfl ty26 (by decide) rfl) rfl rfl rfl ?_
      refine qt (ld_blk1 (h := 5) ty26 rfl rfl rfl rfl) rfl rfl rfl ?_
      refine qt_callv has57 rfl (fun w1 sw => up_any (recov m cs) l vp ps w1 (recov_len _ _) his.1 (by have := his.2.1; omega) hu' n2 (sw.sl_rd (h := 21) rfl)) rfl rfl ?_
      refine qt_callv has50 rfl (fun w1 sw => named_any (up (recov m cs) l ps) w1 (up_len (recov_len _ _) _ _)) rfl rfl ?_
      refine qt (ld_blk_all (h := 3) ty39 rfl rfl rfl (by first | omega | (simp only [List.length_append, List.length_cons, List.length_nil, List.length_set, List.length_replicate, List.length_take, List.length_drop, ints_length, wr_length, sha_len, node_len, recov_len, Ky.named_len, Ky.keyPub_len] <;> omega) | rfl)) rfl rfl rfl ?_
      refine qt (ev_eql_arr Try.underlying39 ty5 eqg39 rfl rfl (by first | omega | (simp only [List.length_append, List.length_cons, List.length_nil, List.length_set, List.length_replicate, List.length_take, List.length_drop, ints_length, wr_length, sha_len, node_len, recov_len, Ky.named_len, Ky.keyPub_len] <;> omega) | rfl) (by first | omega | (simp only [List.length_append, List.length_cons, List.length_nil, List.length_set, List.length_replicate, List.length_take, List.length_drop, ints_length, wr_length, sha_len, node_len, recov_len, Ky.named_len, Ky.keyPub_len] <;> omega) | rfl)) rfl rfl rfl ?_
      refine qt (ev_pick_t rfl rfl) rfl rfl rfl ?_
      refine qt (ev_assign rfl) rfl rfl rfl ?_
      refine qt_end ?_
      refine op_nil ?_
      refine ax_then ?_
      refine At.regs (L' := [(6, _)]) (.cons rfl (.nil _)) ?_
      refine cd_ret ?_
      refine rt_tmp (.inl rfl) Try.results35 rfl ?_
      exact fun w1 sw => ⟨congrArg (fun b => Ending.returned (Value.bool b)) (by first | exact (decide_eq_false (fun hh => hnot hh.1)).symm | exact decide_eq_decide.2 ⟨fun h => ⟨his, h⟩, fun h => h.2⟩), sw.gives (.nil _)⟩
    ·
      have hnot := hg21
      refine qt_skip rfl rfl rfl ?_
      refine qt_skip rfl rfl rfl ?_
      refine qt_skip rfl rfl rfl ?_
      refine qt_skip rfl rfl rfl ?_
      refine qt_skip rfl rfl rfl ?_
      refine qt_skip rfl rfl rfl ?_
      refine qt_skip rfl rfl rfl ?_
      refine qt_skip rfl rfl rfl ?_
      refine qt_skip rfl rfl rfl ?_
      refine qt (ev_pick_f rfl rfl) rfl rfl rfl ?_
      refine qt (ev_assign rfl) rfl rfl rfl ?_
      refine qt_end ?_
      refine op_nil ?_
      refine ax_then ?_
      refine At.regs (L' := [(6, _)]) (.cons rfl (.nil _)) ?_
      refine cd_ret ?_
      refine rt_tmp (.inl rfl) Try.results35 rfl ?_
      exact fun w1 sw => ⟨congrArg (fun b => Ending.returned (Value.bool b)) (by first | exact (decide_eq_false (fun hh => hnot hh.1)).symm | exact decide_eq_decide.2 ⟨fun h => ⟨his, h⟩, fun h => h.2⟩), sw.gives (.nil _)⟩
  ·
    have hnot : ¬ Ky.isSig l cs ps := fun hh => hg17 hh.2.2.1
    refine qt_skip rfl rfl rfl ?_
    refine qt_skip rfl rfl rfl ?_
    refine qt (ev_pick_f rfl rfl) rfl rfl rfl ?_
    refine qt (ev_move rfl) rfl rfl rfl ?_
    refine qt_skip rfl rfl rfl ?_
    refine qt_skip rfl rfl rfl ?_
    refine qt_skip rfl rfl rfl ?_
    refine qt_skip rfl rfl rfl ?_
    refine qt_skip rfl rfl rfl ?_
    refine qt_skip rfl rfl rfl ?_
    refine qt_skip rfl rfl rfl ?_
    refine qt_skip rfl rfl rfl ?_
    refine qt_skip rfl rfl rfl ?_
    refine qt (ev_pick_f rfl rfl) rfl rfl rfl ?_
    refine qt (ev_assign rfl) rfl rfl rfl ?_
    refine qt_end ?_
    refine op_nil ?_
    refine ax_then ?_
    refine At.regs (L' := [(6, _)]) (.cons rfl (.nil _)) ?_
    refine cd_ret ?_
    refine rt_tmp (.inl rfl) Try.results35 rfl ?_
    exact fun w1 sw => ⟨congrArg (fun b => Ending.returned (Value.bool b)) (by first | exact (decide_eq_false (fun hh => hnot hh.1)).symm | exact decide_eq_decide.2 ⟨fun h => ⟨his, h⟩, fun h => h.2⟩), sw.gives (.nil _)⟩
set_option maxRecDepth 20000 in
set_option maxHeartbeats 2000000 in
theorem rverify_any (p : List Int) (q : Value) (m : List Int) (l : Int) (vc vp : Value) (cs ps : List (List Int)) (w : World) (hp : p.length = 32) (hm : m.length ≤ 140737488352000) (hu : H32 cs) (hu' : H32 ps) (n1 : cs.length ≤ 140737488352000) (n2 : ps.length ≤ 140737488352000) (h0 : Rd w q 1 (ints .u8 m)) (h : Rd w vc 32 (flat cs)) (h' : Rd w vp 32 (flat ps)) : Calls Try.prog 36 #[.agg (ints .u8 (p)).toArray, q, .agg (List.toArray [.int .i64 l, vc, vp])] w (PostV w (.bool (decide (Ky.verP p m l cs ps)))) := by
  refine calls_at (vs := [.agg (ints .u8 (p)).toArray, q, .agg (List.toArray [.int .i64 l, vc, vp])]) (X := []) (H := []) (F := [(21, .sl vp 32 (flat (ps))), (20, .sl vc 32 (flat (cs))), (1, .sl q 1 (ints .u8 (m)))]) 28 Try.func36 rfl rfl rfl (((Sat.rd0 1 h0).more 20 h).more 21 h') ?_
  refine cd_seq ?_
  refine cd_region ?_
  refine st_box (h := 3) rfl rfl rfl rfl (fun b3 => ?_)
  refine st_box (h := 5) rfl rfl rfl rfl (fun b5 => ?_)
  refine st (ev_assign rfl) rfl rfl rfl ?_
  refine op_nil ?_
  refine ax_then ?_
  refine At.regs (L' := [(1, _), (3, _), (5, _), (6, _)]) (.cons rfl (.cons rfl (.cons rfl (.cons rfl (.nil _))))) ?_
  refine cd_seq ?_
  refine cd_seq ?_
  refine cd_region ?_
  refine st (ld_blk_all (h := 5) ty42 rfl rfl rfl (by first | omega | (simp only [List.length_append, List.length_cons, List.length_nil, List.length_set, List.length_replicate, List.length_take, List.length_drop, ints_length, wr_length, sha_len, node_len, recov_len, Ky.named_len, Ky.keyPub_len] <;> omega) | rfl)) rfl rfl rfl ?_
  refine st_callv has34 rfl (fun w1 sw => risSig_any l vc vp cs ps w1 hu hu' (sw.sl_rd (h := 20) rfl) (sw.sl_rd (h := 21) rfl)) rfl rfl ?_
  refine st (ev_not_if rfl) rfl rfl rfl ?_
  refine op_nil ?_
  refine ax_then ?_
  refine At.regs (L' := [(1, _), (3, _), (5, _), (6, _), (11, _)]) (.cons rfl (.cons rfl (.cons rfl (.cons rfl (.cons rfl (.nil _)))))) ?_
  refine cd_if rfl (fun hc11 => ?_) (fun hc11 => ?_)
  ·
    have hnot := hc11
    refine cd_seq ?_
    refine cd_region ?_
    refine st (ev_assign rfl) rfl rfl rfl ?_
    refine op_nil ?_
    refine ax_then ?_
    refine At.regs (L' := [(1, _), (3, _), (5, _), (6, _)]) (.cons rfl (.cons rfl (.cons rfl (.cons rfl (.nil _))))) ?_
    refine cd_ret ?_
    refine ax_then_ret ?_
    refine rt_tmp (.inl rfl) Try.results36 rfl ?_
    exact fun w1 sw => ⟨congrArg (fun b => Ending.returned (Value.bool b)) (by first | exact (decide_eq_false (fun hh => hnot hh.1)).symm | exact decide_eq_decide.2 ⟨fun h => ⟨his, h⟩, fun h => h.2⟩), sw.gives (.nil _)⟩
  ·
    have his : Ky.isSig l cs ps := Classical.byContradiction hc11
    refine cd_skip ?_
    refine ax_then ?_
    refine At.regs (L' := [(1, _), (3, _), (5, _), (6, _)]) (.cons rfl (.cons rfl (.cons rfl (.cons rfl (.nil _))))) ?_
    refine cd_seq ?_
    refine cd_region ?_
    refine st (ev_move rfl) rfl rfl rfl ?_
    refine st (ev_fieldAddr (b := _) Try.underlying42 (f := _) rfl ty26 (by decide) rfl) rfl rfl rfl ?_
    refine st (ld_blk1 (h := 5) ty26 rfl rfl rfl rfl) rfl rfl rfl ?_
    refine st_callv has58 rfl (fun w1 sw => rrecover_any q vc m cs w1 hm hu n1 (sw.sl_rd (h := 1) rfl) (sw.sl_rd (h := 20) rfl)) rfl rfl ?_
    have hrl := recov_len m cs
    refine st (ev_move rfl) rfl rfl rfl ?_
    refine st (ev_extract rfl rfl) rfl rfl rfl ?_
    refine st (ev_extract rfl rfl) rfl rfl rfl ?_
    refine st_alloc (h := 7) ty39 rfl rfl rfl (fun b7 => ?_)
    refine st_store_all 7 ty39 rfl rfl rfl rfl (by first | omega | (simp only [List.length_append, List.length_cons, List.length_nil, List.length_set, List.length_replicate, List.length_take, List.length_drop, ints_length, wr_length, sha_len, node_len, recov_len, Ky.named_len, Ky.keyPub_len] <;> omega) | rfl) (ints_one _ _) (by first | omega | (simp only [List.length_append, List.length_cons, List.length_nil, List.length_set, List.length_replicate, List.length_take, List.length_drop, ints_length, wr_length, sha_len, node_len, recov_len, Ky.named_len, Ky.keyPub_len] <;> omega) | rfl) rfl ?_
    refine st (ev_assign rfl) rfl rfl rfl ?_
    refine op_nil ?_
    refine ax_then ?_
    refine At.regs (L' := [(3, _), (5, _), (6, _), (7, _)]) (.cons rfl (.cons rfl (.cons rfl (.cons rfl (.nil _))))) ?_
    refine cd_seq ?_
    refine cd_open hmix (by decide +kernel) ?_
    refine qt (ld_blk_all (h := 7) ty39 rfl rfl rfl (by first | omega | (simp only [List.length_append, List.length_cons, List.length_nil, List.length_set, List.length_replicate, List.length_take, List.length_drop, ints_length, wr_length, sha_len, node_len, recov_len, Ky.named_len, Ky.keyPub_len] <;> omega) | rfl)) rfl rfl rfl ?_
    refine qt (ev_fieldAddr (b := _) Try.underlying42 (f := _) rfl ty3 (by decide) rfl) rfl rfl rfl ?_
    refine qt (ld_blk1 (h := 5) ty3 rfl rfl rfl rfl) rfl rfl rfl ?_
    refine qt (ev_fieldAddr (b := _) Try.underlying42 (f := _) rfl ty26 (by decide) rfl) rfl rfl rfl ?_
    refine qt (ld_blk1 (h := 5) ty26 rfl rfl rfl rfl) rfl rfl rfl ?_
    refine qt_callv has59 rfl (fun w1 sw => rup_any (recov m cs) l vp ps w1 (recov_len _ _) his.1 (by have := his.2.1; omega) hu' n2 (sw.sl_rd (h := 21) rfl)) rfl rfl ?_
    refine qt_callv has48 rfl (fun w1 sw => rnamed_any (up (recov m cs) l ps) w1 (up_len (recov_len _ _) _ _)) rfl rfl ?_
    refine qt (ld_blk_all (h := 3) ty39 rfl rfl rfl (by first | omega | (simp only [List.length_append, List.length_cons, List.length_nil, List.length_set, List.length_replicate, List.length_take, List.length_drop, ints_length, wr_length, sha_len, node_len, recov_len, Ky.named_len, Ky.keyPub_len] <;> omega) | rfl)) rfl rfl rfl ?_
    refine qt (ev_eql_arr Try.underlying39 ty5 eqg39 rfl rfl (by first | omega | (simp only [List.length_append, List.length_cons, List.length_nil, List.length_set, List.length_replicate, List.length_take, List.length_drop, ints_length, wr_length, sha_len, node_len, recov_len, Ky.named_len, Ky.keyPub_len] <;> omega) | rfl) (by first | omega | (simp only [List.length_append, List.length_cons, List.length_nil, List.length_set, List.length_replicate, List.length_take, List.length_drop, ints_length, wr_length, sha_len, node_len, recov_len, Ky.named_len, Ky.keyPub_len] <;> omega) | rfl)) rfl rfl rfl ?_
    refine qt (ev_assign rfl) rfl rfl rfl ?_
    refine qt_end ?_
    refine op_nil ?_
    refine ax_then ?_
    refine At.regs (L' := [(6, _)]) (.cons rfl (.nil _)) ?_
    refine cd_ret ?_
    refine rt_tmp (.inl rfl) Try.results36 rfl ?_
    exact fun w1 sw => ⟨congrArg (fun b => Ending.returned (Value.bool b)) (by first | exact (decide_eq_false (fun hh => hnot hh.1)).symm | exact decide_eq_decide.2 ⟨fun h => ⟨his, h⟩, fun h => h.2⟩), sw.gives (.nil _)⟩
end Go.Proofs.Yteedclmcgifmpaa

namespace Go.Proofs.Yteedclmcgifmpaa
open Go Go.RowKit Fw
set_option linter.unusedVariables false
set_option linter.unusedSimpArgs false
/-- where h stands among the hashes -/
def idx (hs : List (List Int)) (h : List Int) : Int := match (List.range hs.length).find? (fun j => decide (h = hs.getD j [])) with | some j => (j : Int) | none => -1
theorem idx_hit {hs : List (List Int)} {h : List Int} {i : Nat} (hi : i < hs.length) (h1 : ∀ j, j < i → h ≠ hs.getD j []) (h2 : h = hs.getD i []) : idx hs h = i := by
  have : (List.range hs.length).find? (fun j => decide (h = hs.getD j [])) = some i := by
    rw [List.find?_range_eq_some]
    exact ⟨by simpa using h2, by simpa using hi, fun j hj => by simpa using h1 j hj⟩
  rw [idx, this]
theorem idx_miss {hs : List (List Int)} {h : List Int} (h1 : ∀ j, j < hs.length → h ≠ hs.getD j []) : idx hs h = -1 := by
  have : (List.range hs.length).find? (fun j => decide (h = hs.getD j [])) = none := by
    rw [List.find?_eq_none]
    intro j hj
    simpa using h1 j (by simpa using hj)
  rw [idx, this]
theorem idx_neg {hs : List (List Int)} {h : List Int} : ¬ 0 ≤ idx hs h ↔ ∀ j, j < hs.length → h ≠ hs.getD j [] := by
  constructor
  · intro hn j hj
    cases hf : (List.range hs.length).find? (fun j => decide (h = hs.getD j [])) with
    | some k =>
      rw [idx, hf] at hn
      exact absurd (Int.natCast_nonneg k) hn
    | none =>
      have := List.find?_eq_none.1 hf j (by simpa using hj)
      simpa using this
  · intro h1
    rw [idx_miss h1]
    omega
/-- keys that may be -/
def isK (ks : List (List Int)) (need : Int) : Prop := (∀ a, a < ks.length → ¬ 0 ≤ idx (ks.take a) (ks.getD a [])) ∧ 1 ≤ ks.length ∧ ks.length ≤ 4 ∧ 1 ≤ need ∧ need ≤ (ks.length : Int)
instance (ks : List (List Int)) (need : Int) : Decidable (isK ks need) := by unfold isK; infer_instance
set_option maxRecDepth 20000 in
set_option maxHeartbeats 1000000 in
theorem index_any (p : Value) (hs : List (List Int)) (h0 : List Int) (w : World) (hu : H32 hs) (hl : h0.length = 32) (hs0 : hs.length ≤ 140737488352000) (h : Rd w p 32 (flat hs)) : Calls Try.prog 73 #[p, .agg (ints .u8 (h0)).toArray] w (PostV w (.int .i64 (idx hs h0))) := by
  refine calls_at (vs := [p, .agg (ints .u8 (h0)).toArray]) (X := []) (H := []) (F := [(0, .sl p 32 (flat (hs)))]) 19 Try.func73 rfl rfl rfl (Sat.rd0 0 h) ?_
  refine cd_seq ?_
  refine cd_region ?_
  refine st_box (h := 3) rfl rfl rfl rfl (fun b3 => ?_)
  refine st (ev_assign rfl) rfl rfl rfl ?_
  refine op_nil ?_
  refine ax_then ?_
  refine At.regs (L' := [(0, _), (3, _), (4, _)]) (.cons rfl (.cons rfl (.cons rfl (.nil _)))) ?_
  refine cd_seq ?_
  refine cd_seq ?_
  refine cd_region ?_
  refine st (ev_move rfl) rfl rfl rfl ?_
  refine st (ev_len_rdh (h := 0) Try.underlying26 rfl rfl hu) rfl rfl rfl ?_
  refine st (ev_move rfl) rfl rfl rfl ?_
  refine op_nil ?_
  refine ax_then ?_
  refine At.regs (L' := [(0, _), (3, _), (4, _), (7, _), (8, _)]) (.cons rfl (.cons rfl (.cons rfl (.cons rfl (.cons rfl (.nil _)))))) ?_
  refine cd_block ?_
  refine cd_loop (ι := Nat) (fun i => i ≤ hs.length ∧ ∀ j, j < i → h0 ≠ hs.getD j []) (fun i => hs.length - i)
      (fun i => [(0, p), (3, .pointer (some ⟨b3, 0, none⟩)), (7, .int .i64 (hs.length : Nat)), (8, .int .i64 (i : Int))])
      (fun i => [(3, .blk b3 (.cells (ints .u8 h0).toArray 39))])
      (fun i => [(0, .sl p 32 (flat (hs)))])
      0 (⟨by omega, fun j hj => by omega⟩) (.cons rfl (.cons rfl (.cons rfl (.cons rfl (.nil _))))) (.cons rfl (.nil _)) (.cons rfl (.nil _)) (fun i hi => ?_)
  have hi1 := hi.1
  have e0 : (i : Int).toNat = i := by omega
  refine cd_seq ?_
  refine cd_region ?_
  refine st (ev_lss rfl rfl) rfl rfl rfl ?_
  refine op_nil ?_
  refine ax_then ?_
  refine At.regs (L' := [(0, _), (3, _), (7, _), (8, _), (9, _)]) (.cons rfl (.cons rfl (.cons rfl (.cons rfl (.cons rfl (.nil _)))))) ?_
  refine cd_seq ?_
  refine cd_if rfl (fun hc9 => ?_) (fun hc9 => ?_)
  ·
    refine cd_skip ?_
    refine ax_then ?_
    refine At.regs (L' := [(0, _), (3, _), (7, _), (8, _), (9, _)]) (.cons rfl (.cons rfl (.cons rfl (.cons rfl (.cons rfl (.nil _)))))) ?_
    refine cd_seq ?_
    refine cd_block ?_
    refine cd_seq ?_
    refine cd_region ?_
    refine st (ev_move rfl) rfl rfl rfl ?_
    refine st (ev_assign rfl) rfl rfl rfl ?_
    refine op_nil ?_
    refine ax_then ?_
    refine At.regs (L' := [(0, _), (3, _), (5, _), (7, _), (8, _), (9, _), (10, _)]) (.cons rfl (.cons rfl (.cons rfl (.cons rfl (.cons rfl (.cons rfl (.cons rfl (.nil _)))))))) ?_
    refine cd_seq ?_
    refine cd_open hmix (by decide +kernel) ?_
    refine qt (ld_blk_all (h := 3) ty39 rfl rfl rfl (by first | omega | (simp only [List.length_append, List.length_cons, List.length_nil, List.length_set, List.length_replicate, List.length_take, List.length_drop, ints_length, wr_length] <;> omega) | exact H32.get (by assumption) (by omega) | rfl)) rfl rfl rfl ?_
    refine qt (ev_move rfl) rfl rfl rfl ?_
    refine qt (ev_move rfl) rfl rfl rfl ?_
    refine qt (ev_indexAddr_rdh (h := 0) Try.underlying26 ty39 rfl rfl rfl hu (by omega) (by omega)) rfl rfl rfl ?_
    refine qt (ld_rdh (i := (i : Int).toNat) (h := 0) ty39 rfl rfl rfl hu (by omega)) rfl rfl rfl ?_
    refine qt (ev_eql_arr Try.underlying39 ty5 eqg39 rfl rfl (by first | omega | (simp only [List.length_append, List.length_cons, List.length_nil, List.length_set, List.length_replicate, List.length_take, List.length_drop, ints_length, wr_length] <;> omega) | exact H32.get (by assumption) (by omega) | rfl) (by first | omega | (simp only [List.length_append, List.length_cons, List.length_nil, List.length_set, List.length_replicate, List.length_take, List.length_drop, ints_length, wr_length] <;> omega) | exact H32.get (by assumption) (by omega) | rfl)) rfl rfl rfl ?_
    refine qt_end ?_
    refine op_nil ?_
    refine ax_then ?_
    refine At.regs (L' := [(0, _), (3, _), (5, _), (7, _), (8, _), (9, _), (10, _), (11, _), (12, _), (13, _), (14, _), (15, _), (16, _)]) (.cons rfl (.cons rfl (.cons rfl (.cons rfl (.cons rfl (.cons rfl (.cons rfl (.cons rfl (.cons rfl (.cons rfl (.cons rfl (.cons rfl (.cons rfl (.nil _)))))))))))))) ?_
    refine cd_if rfl (fun hc16 => ?_) (fun hc16 => ?_)
    ·
      have hit := hc16
      rw [e0] at hit
      refine cd_seq ?_
      refine cd_region ?_
      refine st (ev_move rfl) rfl rfl rfl ?_
      refine st (ev_assign rfl) rfl rfl rfl ?_
      refine op_nil ?_
      refine ax_then ?_
      refine At.regs (L' := [(0, _), (3, _), (4, _), (5, _), (7, _), (8, _), (9, _), (10, _), (11, _), (12, _), (13, _), (14, _), (15, _), (16, _), (17, _)]) (.cons rfl (.cons rfl (.cons rfl (.cons rfl (.cons rfl (.cons rfl (.cons rfl (.cons rfl (.cons rfl (.cons rfl (.cons rfl (.cons rfl (.cons rfl (.cons rfl (.cons rfl (.nil _)))))))))))))))) ?_
      refine cd_ret ?_
      refine ax_block_ret ?_
      refine ax_then_ret ?_
      refine ax_then_ret ?_
      refine ax_block_ret ?_
      refine ax_then_ret ?_
      refine rt_tmp (.inl rfl) Try.results73 rfl ?_
      exact fun w1 sw => ⟨by rw [idx_hit (by omega) hi.2 hit], sw.gives (.nil _)⟩
    ·
      refine cd_skip ?_
      refine ax_block ?_
      refine ax_then ?_
      refine At.regs (L' := [(0, _), (3, _), (5, _), (7, _), (8, _), (9, _), (10, _), (11, _), (12, _), (13, _), (14, _), (15, _), (16, _)]) (.cons rfl (.cons rfl (.cons rfl (.cons rfl (.cons rfl (.cons rfl (.cons rfl (.cons rfl (.cons rfl (.cons rfl (.cons rfl (.cons rfl (.cons rfl (.nil _)))))))))))))) ?_
      refine cd_region ?_
      refine st (ev_add64 rfl rfl (by omega) (by omega)) rfl rfl rfl ?_
      refine st (ev_move rfl) rfl rfl rfl ?_
      refine op_nil ?_
      exact at_again (i + 1) (⟨by omega, fun j hj => (Nat.lt_succ_iff_lt_or_eq.1 hj).elim (hi.2 j) (fun e => by subst e; simpa using hc16)⟩) (by omega) (.cons rfl (.cons rfl (.cons rfl (.cons rfl (.nil _))))) (.cons rfl (.nil _)) (.cons rfl (.nil _))
  ·
    obtain rfl : i = hs.length := by omega
    refine cd_exit ?_
    refine ax_then_exit ?_
    refine ax_then_exit ?_
    refine ax_block_hit ?_
    refine ax_then ?_
    refine At.regs (L' := []) (.nil _) ?_
    refine cd_seq ?_
    refine cd_region ?_
    refine st (ev_assign rfl) rfl rfl rfl ?_
    refine op_nil ?_
    refine ax_then ?_
    refine At.regs (L' := [(4, _)]) (.cons rfl (.nil _)) ?_
    refine cd_ret ?_
    refine rt_tmp (.inl rfl) Try.results73 rfl ?_
    exact fun w1 sw => ⟨by rw [idx_miss hi.2], sw.gives (.nil _)⟩
set_option maxRecDepth 20000 in
set_option maxHeartbeats 1000000 in
theorem contains_any (p : Value) (hs : List (List Int)) (h0 : List Int) (w : World) (hu : H32 hs) (hl : h0.length = 32) (hs0 : hs.length ≤ 140737488352000) (h : Rd w p 32 (flat hs)) : Calls Try.prog 44 #[p, .agg (ints .u8 (h0)).toArray] w (PostV w (.bool (decide (0 ≤ idx hs h0)))) := by
  refine calls_at (vs := [p, .agg (ints .u8 (h0)).toArray]) (X := []) (H := []) (F := [(0, .sl p 32 (flat (hs)))]) 9 Try.func44 rfl rfl rfl (Sat.rd0 0 h) ?_
  refine cd_seq ?_
  refine cd_region ?_
  refine st_box (h := 3) rfl rfl rfl rfl (fun b3 => ?_)
  refine st (ev_assign rfl) rfl rfl rfl ?_
  refine op_nil ?_
  refine ax_then ?_
  refine At.regs (L' := [(0, _), (3, _), (4, _)]) (.cons rfl (.cons rfl (.cons rfl (.nil _)))) ?_
  refine cd_seq ?_
  refine cd_region ?_
  refine st (ev_move rfl) rfl rfl rfl ?_
  refine st (ld_blk_all (h := 3) ty39 rfl rfl rfl (by first | omega | (simp only [List.length_append, List.length_cons, List.length_nil, List.length_set, List.length_replicate, List.length_take, List.length_drop, ints_length, wr_length] <;> omega) | exact H32.get (by assumption) (by omega) | rfl)) rfl rfl rfl ?_
  refine st_callv has73 rfl (fun w1 sw => index_any p hs h0 w1 hu hl hs0 (sw.sl_rd (h := 0) rfl)) rfl rfl ?_
  refine st (ev_geq rfl rfl) rfl rfl rfl ?_
  refine st (ev_assign rfl) rfl rfl rfl ?_
  refine op_nil ?_
  refine ax_then ?_
  refine At.regs (L' := [(4, _)]) (.cons rfl (.nil _)) ?_
  refine cd_ret ?_
  refine rt_tmp (.inl rfl) Try.results44 rfl ?_
  exact fun w1 sw => ⟨rfl, sw.gives (.nil _)⟩
theorem rd_none {w : World} (sz : Nat) : Rd w (.slice none 0 0) sz (flat []) := ⟨none, 0, 0, rfl, by simp [flat, ints], Nat.le_refl _, fun _ => rfl, fun x hx => by cases hx⟩
/-- of keys that may be, all but their being unlike -/
def bas (ks : List (List Int)) (need : Int) : Prop := 1 ≤ ks.length ∧ ks.length ≤ 4 ∧ 1 ≤ need ∧ need ≤ (ks.length : Int)
instance (ks : List (List Int)) (need : Int) : Decidable (bas ks need) := by unfold bas; infer_instance
def outK (ks : List (List Int)) (need : Int) (i : Nat) : Prop := bas ks need ∧ ∀ a, a < i → ¬ 0 ≤ idx (ks.take a) (ks.getD a [])
instance (ks : List (List Int)) (need : Int) (i : Nat) : Decidable (outK ks need i) := by unfold outK; infer_instance
def innK (ks : List (List Int)) (need : Int) (i j : Nat) : Prop := outK ks need i ∧ ∀ b, b < j → ks.getD i [] ≠ ks.getD b []
instance (ks : List (List Int)) (need : Int) (i j : Nat) : Decidable (innK ks need i j) := by unfold innK; infer_instance
theorem innK_all {ks : List (List Int)} {need : Int} {i : Nat} (hi : i < ks.length) : innK ks need i i ↔ outK ks need (i + 1) := by
  have hx : (¬ 0 ≤ idx (ks.take i) (ks.getD i [])) ↔ ∀ b, b < i → ks.getD i [] ≠ ks.getD b [] := by
    rw [idx_neg, List.length_take, Nat.min_eq_left (by omega)]
    constructor
    · intro h b hb
      have := h b hb
      simpa [List.getD_eq_getElem?_getD, List.getElem?_take, hb] using this
    · intro h b hb
      have := h b hb
      simpa [List.getD_eq_getElem?_getD, List.getElem?_take, hb] using this
  constructor
  · rintro ⟨⟨h1, h2⟩, h3⟩
    refine ⟨h1, fun a ha => ?_⟩
    rcases Nat.lt_succ_iff_lt_or_eq.1 ha with ha | rfl
    · exact h2 a ha
    · exact hx.2 h3
  · rintro ⟨h1, h2⟩
    exact ⟨⟨h1, fun a ha => h2 a (by omega)⟩, hx.1 (h2 i (by omega))⟩
theorem outK_isK {ks : List (List Int)} {need : Int} : isK ks need ↔ outK ks need ks.length := ⟨fun ⟨h1, h2⟩ => ⟨h2, h1⟩, fun ⟨h1, h2⟩ => ⟨h2, h1⟩⟩
set_option maxRecDepth 20000 in
set_option maxHeartbeats 1000000 in
theorem is_any (sv : Value) (ks : List (List Int)) (need : Int) (w : World) (hu : H32 ks) (hs0 : ks.length ≤ 140737488352000) (h : Rd w sv 32 (flat ks)) : Calls Try.prog 21 #[.agg ([sv, .int .i64 need]).toArray] w (PostV w (.bool (decide (isK ks need)))) := by
  refine calls_at (vs := [.agg ([sv, .int .i64 need]).toArray]) (X := []) (H := []) (F := [(20, .sl sv 32 (flat (ks)))]) 43 Try.func21 rfl rfl rfl (Sat.rd0 20 h) ?_
  refine cd_seq ?_
  refine cd_region ?_
  refine st_box (h := 1) rfl rfl rfl rfl (fun b1 => ?_)
  refine st (ev_assign rfl) rfl rfl rfl ?_
  refine op_nil ?_
  refine ax_then ?_
  refine At.regs (L' := [(1, _), (2, _)]) (.cons rfl (.cons rfl (.nil _))) ?_
  refine cd_seq ?_
  refine cd_seq ?_
  refine cd_region ?_
  refine st (ev_fieldAddr (b := _) Try.underlying28 (f := _) rfl ty26 (by decide) rfl) rfl rfl rfl ?_
  refine st (ld_blk1 (h := 1) ty26 rfl rfl rfl rfl) rfl rfl rfl ?_
  refine st (ev_len_rdh (h := 20) Try.underlying26 rfl rfl (by assumption)) rfl rfl rfl ?_
  refine st (ev_move rfl) rfl rfl rfl ?_
  refine op_nil ?_
  refine ax_then ?_
  refine At.regs (L' := [(1, _), (2, _), (6, _), (7, _), (8, _)]) (.cons rfl (.cons rfl (.cons rfl (.cons rfl (.cons rfl (.nil _)))))) ?_
  refine cd_block ?_
  refine cd_loop (ι := Nat) (fun i => i ≤ ks.length ∧ ∀ a, a < i → ¬ 0 ≤ idx (ks.take a) (ks.getD a [])) (fun i => ks.length - i)
      (fun i => [(1, .pointer (some ⟨b1, 0, none⟩)), (6, sv), (7, .int .i64 (ks.length : Nat)), (8, .int .i64 (i : Int))])
      (fun i => [(1, .blk b1 (.cells ([sv, .int .i64 need]).toArray 28))])
      (fun i => [(20, .sl sv 32 (flat (ks)))])
      0 (⟨by omega, fun j hj => by omega⟩) (.cons rfl (.cons rfl (.cons rfl (.cons rfl (.nil _))))) (.cons rfl (.nil _)) (.cons rfl (.nil _)) (fun i hi => ?_)
  have hi1 := hi.1
  have e0 : (i : Int).toNat = i := by omega
  refine cd_seq ?_
  refine cd_region ?_
  refine st (ev_lss rfl rfl) rfl rfl rfl ?_
  refine op_nil ?_
  refine ax_then ?_
  refine At.regs (L' := [(1, _), (6, _), (7, _), (8, _), (9, _)]) (.cons rfl (.cons rfl (.cons rfl (.cons rfl (.cons rfl (.nil _)))))) ?_
  refine cd_seq ?_
  refine cd_if rfl (fun hc9 => ?_) (fun hc9 => ?_)
  ·
    refine cd_skip ?_
    refine ax_then ?_
    refine At.regs (L' := [(1, _), (6, _), (7, _), (8, _), (9, _)]) (.cons rfl (.cons rfl (.cons rfl (.cons rfl (.cons rfl (.nil _)))))) ?_
    refine cd_seq ?_
    refine cd_block ?_
    refine cd_seq ?_
    refine cd_region ?_
    refine st (ev_move rfl) rfl rfl rfl ?_
    refine st (ev_indexAddr_rdh (h := 20) Try.underlying26 ty39 rfl rfl rfl (by assumption) (by omega) (by omega)) rfl rfl rfl ?_
    refine st (ld_rdh (h := 20) ty39 rfl rfl rfl (by assumption) (by omega)) rfl rfl rfl ?_
    refine at_eq (i := 12) (v' := .agg (ints .u8 (ks.getD i [])).toArray) rfl (by rw [e0]) ?_
    have hgl := hu.get (i := i) (by omega)
    refine st_alloc (h := 4) ty39 rfl rfl rfl (fun b4 => ?_)
    refine st (ev_assign rfl) rfl rfl rfl ?_
    refine st_store_all 4 ty39 rfl rfl rfl rfl (by first | omega | (simp only [List.length_append, List.length_cons, List.length_nil, List.length_set, List.length_replicate, List.length_take, List.length_drop, ints_length, wr_length] <;> omega) | exact H32.get (by assumption) (by omega) | rfl) (ints_one _ _) (by first | omega | (simp only [List.length_append, List.length_cons, List.length_nil, List.length_set, List.length_replicate, List.length_take, List.length_drop, ints_length, wr_length] <;> omega) | exact H32.get (by assumption) (by omega) | rfl) rfl ?_
    refine op_nil ?_
    refine ax_then ?_
    refine At.regs (L' := [(1, _), (3, _), (4, _), (6, _), (7, _), (8, _), (9, _), (10, _), (11, _), (12, _)]) (.cons rfl (.cons rfl (.cons rfl (.cons rfl (.cons rfl (.cons rfl (.cons rfl (.cons rfl (.cons rfl (.cons rfl (.nil _))))))))))) ?_
    refine cd_seq ?_
    refine cd_open hmix (by decide +kernel) ?_
    refine qt (ev_fieldAddr (b := _) Try.underlying28 (f := _) rfl ty26 (by decide) rfl) rfl rfl rfl ?_
    refine qt (ld_blk1 (h := 1) ty26 rfl rfl rfl rfl) rfl rfl rfl ?_
    refine qt (ev_move rfl) rfl rfl rfl ?_
    refine qt (ev_sliceh_hi Try.underlying26 ty39 rfl rfl (fun w1 sw => sw.sl_rd (h := 20) rfl) (by assumption) (by omega) (by first | omega | (simp only [List.length_append, List.length_cons, List.length_nil, List.length_set, List.length_replicate, List.length_take, List.length_drop, ints_length, wr_length] <;> omega))) rfl rfl rfl ?_
    refine qt_eq (i := 16) (v' := cutAt 32 sv 0 i) rfl (by rw [e0]) ?_
    refine qt (ld_blk_all (h := 4) ty39 rfl rfl rfl (by first | omega | (simp only [List.length_append, List.length_cons, List.length_nil, List.length_set, List.length_replicate, List.length_take, List.length_drop, ints_length, wr_length] <;> omega) | exact H32.get (by assumption) (by omega) | rfl)) rfl rfl rfl ?_
    refine qt_callv has44 rfl (fun w1 sw => contains_any (cutAt 32 sv 0 i) (ks.take i) (ks.getD i []) w1 (hu.take i) hgl (by rw [List.length_take]; omega) (takeh (sw.sl_rd (h := 20) rfl) hu (by omega))) rfl rfl ?_
    refine qt_end ?_
    refine op_nil ?_
    refine ax_then ?_
    refine At.regs (L' := [(1, _), (3, _), (4, _), (6, _), (7, _), (8, _), (9, _), (10, _), (11, _), (12, _), (13, _), (14, _), (15, _), (16, _), (17, _), (18, _)]) (.cons rfl (.cons rfl (.cons rfl (.cons rfl (.cons rfl (.cons rfl (.cons rfl (.cons rfl (.cons rfl (.cons rfl (.cons rfl (.cons rfl (.cons rfl (.cons rfl (.cons rfl (.cons rfl (.nil _))))))))))))))))) ?_
    refine cd_if rfl (fun hc18 => ?_) (fun hc18 => ?_)
    ·
      refine cd_seq ?_
      refine cd_region ?_
      refine st (ev_assign rfl) rfl rfl rfl ?_
      refine op_nil ?_
      refine ax_then ?_
      refine At.regs (L' := [(1, _), (2, _), (3, _), (4, _), (6, _), (7, _), (8, _), (9, _), (10, _), (11, _), (12, _), (13, _), (14, _), (15, _), (16, _), (17, _), (18, _)]) (.cons rfl (.cons rfl (.cons rfl (.cons rfl (.cons rfl (.cons rfl (.cons rfl (.cons rfl (.cons rfl (.cons rfl (.cons rfl (.cons rfl (.cons rfl (.cons rfl (.cons rfl (.cons rfl (.cons rfl (.nil _)))))))))))))))))) ?_
      refine cd_ret ?_
      refine ax_block_ret ?_
      refine ax_then_ret ?_
      refine ax_then_ret ?_
      refine ax_block_ret ?_
      refine ax_then_ret ?_
      refine rt_tmp (.inl rfl) Try.results21 rfl ?_
      exact fun w1 sw => ⟨congrArg (fun b => Ending.returned (Value.bool b)) (decide_eq_false (fun hh => hh.1 i (by omega) hc18)).symm, sw.gives (.nil _)⟩
    ·
      refine cd_skip ?_
      refine ax_block ?_
      refine ax_then ?_
      refine At.regs (L' := [(1, _), (3, _), (4, _), (6, _), (7, _), (8, _), (9, _), (10, _), (11, _), (12, _), (13, _), (14, _), (15, _), (16, _), (17, _), (18, _)]) (.cons rfl (.cons rfl (.cons rfl (.cons rfl (.cons rfl (.cons rfl (.cons rfl (.cons rfl (.cons rfl (.cons rfl (.cons rfl (.cons rfl (.cons rfl (.cons rfl (.cons rfl (.cons rfl (.nil _))))))))))))))))) ?_
      refine cd_region ?_
      refine st (ev_add64 rfl rfl (by omega) (by omega)) rfl rfl rfl ?_
      refine st (ev_move rfl) rfl rfl rfl ?_
      refine op_nil ?_
      exact at_again (i + 1) (⟨by omega, fun j hj => (Nat.lt_succ_iff_lt_or_eq.1 hj).elim (hi.2 j) (fun e => by subst e; exact hc18)⟩) (by omega) (.cons rfl (.cons rfl (.cons rfl (.cons rfl (.nil _))))) (.cons rfl (.nil _)) (.cons rfl (.nil _))
  ·
    obtain rfl : i = ks.length := by omega
    refine cd_exit ?_
    refine ax_then_exit ?_
    refine ax_then_exit ?_
    refine ax_block_hit ?_
    refine ax_then ?_
    refine At.regs (L' := [(1, _)]) (.cons rfl (.nil _)) ?_
    refine cd_seq ?_
    refine cd_region ?_
    refine st (ev_fieldAddr (b := _) Try.underlying28 (f := _) rfl ty26 (by decide) rfl) rfl rfl rfl ?_
    refine st (ld_blk1 (h := 1) ty26 rfl rfl rfl rfl) rfl rfl rfl ?_
    refine st (ev_len_rdh (h := 20) Try.underlying26 rfl rfl (by assumption)) rfl rfl rfl ?_
    refine st (ev_geq rfl rfl) rfl rfl rfl ?_
    refine st (ev_move rfl) rfl rfl rfl ?_
    refine at_split_if (i := 24) rfl (fun hg24 => ?_) (fun hg24 => ?_)
    ·
      refine st (ev_fieldAddr (b := _) Try.underlying28 (f := _) rfl ty26 (by decide) rfl) rfl rfl rfl ?_
      refine st (ld_blk1 (h := 1) ty26 rfl rfl rfl rfl) rfl rfl rfl ?_
      refine st (ev_len_rdh (h := 20) Try.underlying26 rfl rfl (by assumption)) rfl rfl rfl ?_
      refine st (ev_leq rfl rfl) rfl rfl rfl ?_
      refine st (ev_pick_t rfl rfl) rfl rfl rfl ?_
      refine st (ev_move rfl) rfl rfl rfl ?_
      refine at_split_if (i := 30) rfl (fun hg30 => ?_) (fun hg30 => ?_)
      ·
        refine st (ev_fieldAddr (b := _) Try.underlying28 (f := _) rfl ty3 (by decide) rfl) rfl rfl rfl ?_
        refine st (ld_blk1 (h := 1) ty3 rfl rfl rfl rfl) rfl rfl rfl ?_
        refine st (ev_geq rfl rfl) rfl rfl rfl ?_
        refine st (ev_pick_t rfl rfl) rfl rfl rfl ?_
        refine st (ev_move rfl) rfl rfl rfl ?_
        refine at_split_if (i := 35) rfl (fun hg35 => ?_) (fun hg35 => ?_)
        ·
          refine st (ev_fieldAddr (b := _) Try.underlying28 (f := _) rfl ty3 (by decide) rfl) rfl rfl rfl ?_
          refine st (ld_blk1 (h := 1) ty3 rfl rfl rfl rfl) rfl rfl rfl ?_
          refine st (ev_fieldAddr (b := _) Try.underlying28 (f := _) rfl ty26 (by decide) rfl) rfl rfl rfl ?_
          refine st (ld_blk1 (h := 1) ty26 rfl rfl rfl rfl) rfl rfl rfl ?_
          refine st (ev_len_rdh (h := 20) Try.underlying26 rfl rfl (by assumption)) rfl rfl rfl ?_
          refine st (ev_leq rfl rfl) rfl rfl rfl ?_
          refine st (ev_pick_t rfl rfl) rfl rfl rfl ?_
          refine st (ev_assign rfl) rfl rfl rfl ?_
          refine op_nil ?_
          refine ax_then ?_
          refine At.regs (L' := [(2, _)]) (.cons rfl (.nil _)) ?_
          refine cd_ret ?_
          refine rt_tmp (.inl rfl) Try.results21 rfl ?_
          exact fun w1 sw => ⟨congrArg (fun b => Ending.returned (Value.bool b)) (decide_eq_decide.2 ⟨fun h => ⟨hi.2, by omega, by omega, by omega, by omega⟩, fun h => h.2.2.2.2⟩), sw.gives (.nil _)⟩
        ·
          refine st_skip rfl rfl rfl ?_
          refine st_skip rfl rfl rfl ?_
          refine st_skip rfl rfl rfl ?_
          refine st_skip rfl rfl rfl ?_
          refine st_skip rfl rfl rfl ?_
          refine st_skip rfl rfl rfl ?_
          refine st (ev_pick_f rfl rfl) rfl rfl rfl ?_
          refine st (ev_assign rfl) rfl rfl rfl ?_
          refine op_nil ?_
          refine ax_then ?_
          refine At.regs (L' := [(2, _)]) (.cons rfl (.nil _)) ?_
          refine cd_ret ?_
          refine rt_tmp (.inl rfl) Try.results21 rfl ?_
          exact fun w1 sw => ⟨congrArg (fun b => Ending.returned (Value.bool b)) (decide_eq_false (fun hh => by obtain ⟨_, a1, a2, a3, a4⟩ := hh; omega)).symm, sw.gives (.nil _)⟩
      ·
        refine st_skip rfl rfl rfl ?_
        refine st_skip rfl rfl rfl ?_
        refine st_skip rfl rfl rfl ?_
        refine st (ev_pick_f rfl rfl) rfl rfl rfl ?_
        refine st (ev_move rfl) rfl rfl rfl ?_
        refine st_skip rfl rfl rfl ?_
        refine st_skip rfl rfl rfl ?_
        refine st_skip rfl rfl rfl ?_
        refine st_skip rfl rfl rfl ?_
        refine st_skip rfl rfl rfl ?_
        refine st_skip rfl rfl rfl ?_
        refine st (ev_pick_f rfl rfl) rfl rfl rfl ?_
        refine st (ev_assign rfl) rfl rfl rfl ?_
        refine op_nil ?_
        refine ax_then ?_
        refine At.regs (L' := [(2, _)]) (.cons rfl (.nil _)) ?_
        refine cd_ret ?_
        refine rt_tmp (.inl rfl) Try.results21 rfl ?_
        exact fun w1 sw => ⟨congrArg (fun b => Ending.returned (Value.bool b)) (decide_eq_false (fun hh => by obtain ⟨_, a1, a2, a3, a4⟩ := hh; omega)).symm, sw.gives (.nil _)⟩
    ·
      refine st_skip rfl rfl rfl ?_
      refine st_skip rfl rfl rfl ?_
      refine st_skip rfl rfl rfl ?_
      refine st_skip rfl rfl rfl ?_
      refine st (ev_pick_f rfl rfl) rfl rfl rfl ?_
      refine st (ev_move rfl) rfl rfl rfl ?_
      refine st_skip rfl rfl rfl ?_
      refine st_skip rfl rfl rfl ?_
      refine st_skip rfl rfl rfl ?_
      refine st (ev_pick_f rfl rfl) rfl rfl rfl ?_
      refine st (ev_move rfl) rfl rfl rfl ?_
      refine st_skip rfl rfl rfl ?_
      refine st_skip rfl rfl rfl ?_
      refine st_skip rfl rfl rfl ?_
      refine st_skip rfl rfl rfl ?_
      refine st_skip rfl rfl rfl ?_
      refine st_skip rfl rfl rfl ?_
      refine st (ev_pick_f rfl rfl) rfl rfl rfl ?_
      refine st (ev_assign rfl) rfl rfl rfl ?_
      refine op_nil ?_
      refine ax_then ?_
      refine At.regs (L' := [(2, _)]) (.cons rfl (.nil _)) ?_
      refine cd_ret ?_
      refine rt_tmp (.inl rfl) Try.results21 rfl ?_
      exact fun w1 sw => ⟨congrArg (fun b => Ending.returned (Value.bool b)) (decide_eq_false (fun hh => by obtain ⟨_, a1, a2, a3, a4⟩ := hh; omega)).symm, sw.gives (.nil _)⟩
set_option maxRecDepth 20000 in
set_option maxHeartbeats 1000000 in
theorem known7_any (w : World) : Calls Try.prog 23 #[] w (PostV w (.bool true)) := by
  refine calls_at (vs := []) (X := []) (H := []) (F := []) 10 Try.func23 rfl rfl rfl (Sat.start0 w) ?_
  refine cd_seq ?_
  refine cd_region ?_
  refine st (ev_assign rfl) rfl rfl rfl ?_
  refine op_nil ?_
  refine ax_then ?_
  refine At.regs (L' := [(0, _)]) (.cons rfl (.nil _)) ?_
  refine cd_seq ?_
  refine cd_region ?_
  refine st (ev_build_struct ty28 rfl pl28 rfl rfl) rfl rfl rfl ?_
  refine st_callv has21 rfl (fun w1 sw => is_any (.slice none 0 0) [] 0 w1 H32.nil (by decide) (rd_none 32)) rfl rfl ?_
  refine st (ev_not_if rfl) rfl rfl rfl ?_
  refine st (ev_move rfl) rfl rfl rfl ?_
  refine at_eq (i := 4) (v' := .bool true) rfl (by rw [decide_eq_true (by decide)]) ?_
  refine st (ev_build_array ty39 rfl ty5 rfl rfl) rfl rfl rfl ?_
  refine at_eq (i := 5) (v' := .agg (ints .u8 (1 :: List.replicate 31 0)).toArray) rfl (by kernel_rfl) ?_
  refine st_buildSlice (h := 6) (cells := flat [1 :: List.replicate 31 0]) Try.underlying26 ty39 rfl (by decide) (by kernel_rfl) (by kernel_rfl) rfl rfl (fun b6 => ?_)
  refine st (ev_build_struct ty28 rfl pl28 rfl rfl) rfl rfl rfl ?_
  refine st_callv has21 rfl (fun w1 sw => is_any (.slice (some ⟨b6, 0, none⟩) 1 1) [1 :: List.replicate 31 0] 1 w1 (H32.one rfl) (by decide) (sw.own_rd (h := 6) rfl)) rfl rfl ?_
  refine st (ev_pick_t rfl rfl) rfl rfl rfl ?_
  refine st (ev_assign rfl) rfl rfl rfl ?_
  refine op_nil ?_
  refine ax_then ?_
  refine At.regs (L' := [(0, _)]) (.cons rfl (.nil _)) ?_
  refine cd_ret ?_
  refine rt_tmp (.inl rfl) Try.results23 rfl ?_
  exact fun w1 sw => ⟨congrArg (fun b => Ending.returned (Value.bool b)) (decide_eq_true (by decide)), sw.gives (.nil _)⟩
end Go.Proofs.Yteedclmcgifmpaa

namespace Go.Proofs.Yteedclmcgifmpaa
open Go Go.RowKit Fw
open Sha
open Ots
open Mk
set_option linter.unusedVariables false
set_option linter.unusedSimpArgs false
set_option maxRecDepth 20000 in
set_option maxHeartbeats 2000000 in
theorem whoC_any (x : Qm.Mark) (b8 b2 : Nat) (h body : List Int) (pb mv : Value) (w : World) (hl : h.length = 32) (h8 : Lies w b8 0 (ints .u8 h)) (h2 : Lies w b2 0 [pb, mv]) (hbody : Rd w pb 1 (ints .u8 body)) (hbl : body.length ≤ 140737488352000) (hx : Qm.MOk x) (hr : Qm.MRd w x) : Calls Try.prog 43 #[(.agg (Qm.mcells x).toArray), .pointer (some ⟨b8, 0, none⟩), .pointer (some ⟨b2, 0, none⟩)] w (PostV w (.bool (decide (Qm.hits h body x)))) := by
  have hml := Qm.mcells_len hx
  have hkl := hx.1
  refine calls_at (vs := [(.agg (Qm.mcells x).toArray), .pointer (some ⟨b8, 0, none⟩), .pointer (some ⟨b2, 0, none⟩)]) (X := []) (H := []) (F := [(24, .mem b2 0 [pb, mv]), (23, .mem b8 0 (ints .u8 h)), (22, .sl (pb) 1 (ints .u8 (body))), (21, .sl (x.vp) 32 (flat (x.ps))), (20, .sl (x.vc) 32 (flat (x.cs)))]) 17 Try.func43 rfl rfl rfl (((((Sat.rd0 20 hr.1).more 21 hr.2).more 22 hbody).read (f := .mem b8 0 (ints .u8 h)) 23 h8 off_nil).read (f := .mem b2 0 [pb, mv]) 24 h2 off_nil) ?_
  refine cd_seq ?_
  refine cd_region ?_
  refine st_box (h := 3) rfl rfl rfl rfl (fun b3 => ?_)
  refine st (ev_assign rfl) rfl rfl rfl ?_
  refine op_nil ?_
  refine ax_then ?_
  refine At.regs (L' := [(1, _), (2, _), (3, _), (4, _)]) (.cons rfl (.cons rfl (.cons rfl (.cons rfl (.nil _))))) ?_
  refine cd_seq ?_
  refine cd_region ?_
  refine st (ev_fieldAddr (b := _) Try.underlying44 (f := _) rfl ty39 (by decide) rfl) rfl rfl rfl ?_
  refine st (ld_blk (h := 3) ty39 rfl rfl rfl (by rw [hml]; show 0 + 32 ≤ 35; decide)) rfl rfl rfl ?_
  refine at_eq (i := 6) (v' := .agg (ints .u8 (x.key)).toArray) rfl (congrArg (fun x => Value.agg (List.toArray x)) (Qm.mkey hx)) ?_
  refine st (ld_mem_all (h := 23) ty39 rfl rfl rfl (by first | omega | (simp only [List.length_append, List.length_cons, List.length_nil, List.length_set, List.length_replicate, List.length_take, List.length_drop, ints_length, wr_length, sha_len, node_len, recov_len, Ky.named_len, Ky.keyPub_len] <;> omega) | rfl)) rfl rfl rfl ?_
  refine st (ev_eql_arr Try.underlying39 ty5 eqg39 rfl rfl (by first | omega | (simp only [List.length_append, List.length_cons, List.length_nil, List.length_set, List.length_replicate, List.length_take, List.length_drop, ints_length, wr_length, sha_len, node_len, recov_len, Ky.named_len, Ky.keyPub_len] <;> omega) | rfl) (by first | omega | (simp only [List.length_append, List.length_cons, List.length_nil, List.length_set, List.length_replicate, List.length_take, List.length_drop, ints_length, wr_length, sha_len, node_len, recov_len, Ky.named_len, Ky.keyPub_len] <;> omega) | rfl)) rfl rfl rfl ?_
  refine st (ev_move rfl) rfl rfl rfl ?_
  refine at_split_if (i := 9) rfl (fun hg9 => ?_) (fun hg9 => ?_)
  ·
    refine st (ld_mem_all (h := 23) ty39 rfl rfl rfl (by first | omega | (simp only [List.length_append, List.length_cons, List.length_nil, List.length_set, List.length_replicate, List.length_take, List.length_drop, ints_length, wr_length, sha_len, node_len, recov_len, Ky.named_len, Ky.keyPub_len] <;> omega) | rfl)) rfl rfl rfl ?_
    refine st (ev_fieldAddr (b := _) Try.underlying25 (f := _) rfl ty22 (by decide) rfl) rfl rfl rfl ?_
    refine st (ld_mem1 (h := 24) ty22 rfl rfl rfl (Nat.zero_add _).symm rfl) rfl rfl rfl ?_
    refine st (ev_fieldAddr (b := _) Try.underlying44 (f := _) rfl ty42 (by decide) rfl) rfl rfl rfl ?_
    refine st (ld_blk (h := 3) ty42 rfl rfl rfl (by rw [hml]; show 32 + 3 ≤ 35; decide)) rfl rfl rfl ?_
    refine at_eq (i := 14) (v' := .agg (List.toArray [.int .i64 x.leaf, x.vc, x.vp])) rfl (congrArg (fun x => Value.agg (List.toArray x)) (Qm.msig hx)) ?_
    refine st_callv has35 rfl (fun w1 sw => verify_any h pb body x.leaf x.vc x.vp x.cs x.ps w1 hl hbl hx.2.1 hx.2.2.1 hx.2.2.2.1 hx.2.2.2.2 (sw.sl_rd (h := 22) rfl) (sw.sl_rd (h := 20) rfl) (sw.sl_rd (h := 21) rfl)) rfl rfl ?_
    refine st (ev_pick_t rfl rfl) rfl rfl rfl ?_
    refine st (ev_assign rfl) rfl rfl rfl ?_
    refine op_nil ?_
    refine ax_then ?_
    refine At.regs (L' := [(4, _)]) (.cons rfl (.nil _)) ?_
    refine cd_ret ?_
    refine rt_tmp (.inl rfl) Try.results43 rfl ?_
    exact fun w1 sw => ⟨congrArg (fun b => Ending.returned (Value.bool b)) (by first | exact (decide_eq_false (fun hh => hg9 hh.1)).symm | exact decide_eq_decide.2 ⟨fun hh => ⟨hg9, hh⟩, fun hh => hh.2⟩), sw.gives (.nil _)⟩
  ·
    refine st_skip rfl rfl rfl ?_
    refine st_skip rfl rfl rfl ?_
    refine st_skip rfl rfl rfl ?_
    refine st_skip rfl rfl rfl ?_
    refine st_skip rfl rfl rfl ?_
    refine st_skip rfl rfl rfl ?_
    refine st (ev_pick_f rfl rfl) rfl rfl rfl ?_
    refine st (ev_assign rfl) rfl rfl rfl ?_
    refine op_nil ?_
    refine ax_then ?_
    refine At.regs (L' := [(4, _)]) (.cons rfl (.nil _)) ?_
    refine cd_ret ?_
    refine rt_tmp (.inl rfl) Try.results43 rfl ?_
    exact fun w1 sw => ⟨congrArg (fun b => Ending.returned (Value.bool b)) (by first | exact (decide_eq_false (fun hh => hg9 hh.1)).symm | exact decide_eq_decide.2 ⟨fun hh => ⟨hg9, hh⟩, fun hh => hh.2⟩), sw.gives (.nil _)⟩
set_option maxRecDepth 20000 in
set_option maxHeartbeats 2000000 in
theorem indexF_any (v : Value) (ms : List Qm.Mark) (w : World) (k : Nat) (hk : Has Try.prog k) (vf vc : List Value) (p : Qm.Mark → Bool) (hc : ∀ (w1 : World) (x : Qm.Mark), Qm.Keeps w w1 → x ∈ ms → Calls Try.prog k (vf ++ [Value.agg (Qm.mcells x).toArray] ++ vc).toArray w1 (PostV w1 (.bool (p x)))) (ha : Qm.AOk ms) (hl : ms.length ≤ 1000000) (h : Rd w v 35 (Qm.mflat ms)) : Calls Try.prog 74 #[v, .func (.func k) vf.toArray vc.toArray] w (PostV w (.int .i64 (Qm.firstP p ms))) := by
  refine calls_at (vs := [v, .func (.func k) vf.toArray vc.toArray]) (X := []) (H := []) (F := [(0, .sl (v) 35 (Qm.mflat (ms)))]) 19 Try.func74 rfl rfl rfl (Sat.rd0 0 h) ?_
  refine cd_seq ?_
  refine cd_region ?_
  refine st (ev_assign rfl) rfl rfl rfl ?_
  refine op_nil ?_
  refine ax_then ?_
  refine At.regs (L' := [(0, _), (1, _), (4, _)]) (.cons rfl (.cons rfl (.cons rfl (.nil _)))) ?_
  refine cd_seq ?_
  refine cd_seq ?_
  refine cd_region ?_
  refine st (ev_move rfl) rfl rfl rfl ?_
  refine st (ev_len_rd (h := 0) (n := ms.length) Try.underlying23 rfl rfl (Qm.mflat_len ha) (by decide)) rfl rfl rfl ?_
  refine st (ev_move rfl) rfl rfl rfl ?_
  refine op_nil ?_
  refine ax_then ?_
  refine At.regs (L' := [(0, _), (1, _), (4, _), (7, _), (8, _)]) (.cons rfl (.cons rfl (.cons rfl (.cons rfl (.cons rfl (.nil _)))))) ?_
  refine cd_block ?_
  refine cd_loop (ι := Nat) (fun i => i ≤ ms.length ∧ ∀ j, (hj : j < i) → (hm : j < ms.length) → p ms[j] = false) (fun i => ms.length - i)
      (fun i => [(0, v), (1, .func (.func k) vf.toArray vc.toArray), (7, .int .i64 (ms.length : Nat)), (8, .int .i64 (i : Int))])
      (fun i => [])
      (fun i => [(0, .sl (v) 35 (Qm.mflat (ms)))])
      0 (⟨by omega, fun j hj => by omega⟩) (.cons rfl (.cons rfl (.cons rfl (.cons rfl (.nil _))))) (.nil _) (.cons rfl (.nil _)) (fun i hi => ?_)
  have hi1 := hi.1
  have hfl := Qm.mflat_len ha
  refine cd_seq ?_
  refine cd_region ?_
  refine st (ev_lss rfl rfl) rfl rfl rfl ?_
  refine op_nil ?_
  refine ax_then ?_
  refine At.regs (L' := [(0, _), (1, _), (7, _), (8, _), (9, _)]) (.cons rfl (.cons rfl (.cons rfl (.cons rfl (.cons rfl (.nil _)))))) ?_
  refine cd_seq ?_
  refine cd_if rfl (fun hc9 => ?_) (fun hc9 => ?_)
  ·
    have hlt : i < ms.length := by omega
    refine cd_skip ?_
    refine ax_then ?_
    refine At.regs (L' := [(0, _), (1, _), (7, _), (8, _), (9, _)]) (.cons rfl (.cons rfl (.cons rfl (.cons rfl (.cons rfl (.nil _)))))) ?_
    refine cd_seq ?_
    refine cd_block ?_
    refine cd_seq ?_
    refine cd_region ?_
    refine st (ev_move rfl) rfl rfl rfl ?_
    refine st (ev_assign rfl) rfl rfl rfl ?_
    refine op_nil ?_
    refine ax_then ?_
    refine At.regs (L' := [(0, _), (1, _), (5, _), (7, _), (8, _), (9, _), (10, _)]) (.cons rfl (.cons rfl (.cons rfl (.cons rfl (.cons rfl (.cons rfl (.cons rfl (.nil _)))))))) ?_
    refine cd_seq ?_
    refine cd_region ?_
    refine st (ev_move rfl) rfl rfl rfl ?_
    refine st (ev_move rfl) rfl rfl rfl ?_
    refine st (ev_move rfl) rfl rfl rfl ?_
    refine st (ev_indexAddr_rd (h := 0) (n := ms.length) Try.underlying23 ty44 rfl rfl rfl (Qm.mflat_len ha) (by decide) (by omega) (by omega)) rfl rfl rfl ?_
    refine st (ld_rd (h := 0) ty44 rfl rfl rfl (by decide) (by rw [hfl, Int.toNat_natCast]; omega)) rfl rfl rfl ?_
    refine at_eq (i := 15) (v' := .agg (Qm.mcells ms[i]).toArray) rfl (congrArg (fun x => Value.agg (List.toArray x)) (by rw [Int.toNat_natCast]; exact Qm.mflat_get ha hlt)) ?_
    refine st_callv_fn hk rfl rfl rfl (fun w1 sw => hc w1 ms[i] (Qm.Keeps.of sw) (List.getElem_mem hlt)) rfl rfl ?_
    refine op_nil ?_
    refine ax_then ?_
    refine At.regs (L' := [(0, _), (1, _), (5, _), (7, _), (8, _), (9, _), (10, _), (11, _), (12, _), (13, _), (14, _), (15, _), (16, _)]) (.cons rfl (.cons rfl (.cons rfl (.cons rfl (.cons rfl (.cons rfl (.cons rfl (.cons rfl (.cons rfl (.cons rfl (.cons rfl (.cons rfl (.cons rfl (.nil _)))))))))))))) ?_
    refine cd_cond rfl (fun hc16 => ?_) (fun hc16 => ?_)
    ·
      refine cd_seq ?_
      refine cd_region ?_
      refine st (ev_move rfl) rfl rfl rfl ?_
      refine st (ev_assign rfl) rfl rfl rfl ?_
      refine op_nil ?_
      refine ax_then ?_
      refine At.regs (L' := [(0, _), (1, _), (4, _), (5, _), (7, _), (8, _), (9, _), (10, _), (11, _), (12, _), (13, _), (14, _), (15, _), (16, _), (17, _)]) (.cons rfl (.cons rfl (.cons rfl (.cons rfl (.cons rfl (.cons rfl (.cons rfl (.cons rfl (.cons rfl (.cons rfl (.cons rfl (.cons rfl (.cons rfl (.cons rfl (.cons rfl (.nil _)))))))))))))))) ?_
      refine cd_ret ?_
      refine ax_block_ret ?_
      refine ax_then_ret ?_
      refine ax_then_ret ?_
      refine ax_block_ret ?_
      refine ax_then_ret ?_
      refine rt_tmp (.inl rfl) Try.results74 rfl ?_
      exact fun w1 sw => ⟨by rw [Qm.firstP_hit hlt (fun j hj => hi.2 j hj (by omega)) hc16], sw.gives (.nil _)⟩
    ·
      refine cd_skip ?_
      refine ax_block ?_
      refine ax_then ?_
      refine At.regs (L' := [(0, _), (1, _), (5, _), (7, _), (8, _), (9, _), (10, _), (11, _), (12, _), (13, _), (14, _), (15, _), (16, _)]) (.cons rfl (.cons rfl (.cons rfl (.cons rfl (.cons rfl (.cons rfl (.cons rfl (.cons rfl (.cons rfl (.cons rfl (.cons rfl (.cons rfl (.cons rfl (.nil _)))))))))))))) ?_
      refine cd_region ?_
      refine st (ev_add64 rfl rfl (by omega) (by omega)) rfl rfl rfl ?_
      refine st (ev_move rfl) rfl rfl rfl ?_
      refine op_nil ?_
      exact at_again (i + 1) (⟨by omega, fun j hj hm => (Nat.lt_succ_iff_lt_or_eq.1 hj).elim (fun h => hi.2 j h hm) (fun e => by subst e; exact hc16)⟩) (by omega) (.cons rfl (.cons rfl (.cons rfl (.cons rfl (.nil _))))) (.nil _) (.cons rfl (.nil _))
  ·
    obtain rfl : i = ms.length := by omega
    refine cd_exit ?_
    refine ax_then_exit ?_
    refine ax_then_exit ?_
    refine ax_block_hit ?_
    refine ax_then ?_
    refine At.regs (L' := []) (.nil _) ?_
    refine cd_seq ?_
    refine cd_region ?_
    refine st (ev_assign rfl) rfl rfl rfl ?_
    refine op_nil ?_
    refine ax_then ?_
    refine At.regs (L' := [(4, _)]) (.cons rfl (.nil _)) ?_
    refine cd_ret ?_
    refine rt_tmp (.inl rfl) Try.results74 rfl ?_
    exact fun w1 sw => ⟨by rw [Qm.firstP_miss (fun j hj => hi.2 j hj hj)], sw.gives (.nil _)⟩
set_option maxRecDepth 20000 in
set_option maxHeartbeats 1000000 in
theorem containsF_any (v : Value) (ms : List Qm.Mark) (w : World) (k : Nat) (hk : Has Try.prog k) (vf vc : List Value) (p : Qm.Mark → Bool) (hc : ∀ (w1 : World) (x : Qm.Mark), Qm.Keeps w w1 → x ∈ ms → Calls Try.prog k (vf ++ [Value.agg (Qm.mcells x).toArray] ++ vc).toArray w1 (PostV w1 (.bool (p x)))) (ha : Qm.AOk ms) (hl : ms.length ≤ 1000000) (h : Rd w v 35 (Qm.mflat ms)) : Calls Try.prog 45 #[v, .func (.func k) vf.toArray vc.toArray] w (PostV w (.bool (ms.any p))) := by
  refine calls_at (vs := [v, .func (.func k) vf.toArray vc.toArray]) (X := []) (H := []) (F := [(0, .sl (v) 35 (Qm.mflat (ms)))]) 9 Try.func45 rfl rfl rfl (Sat.rd0 0 h) ?_
  refine cd_seq ?_
  refine cd_region ?_
  refine st (ev_assign rfl) rfl rfl rfl ?_
  refine op_nil ?_
  refine ax_then ?_
  refine At.regs (L' := [(0, _), (1, _), (4, _)]) (.cons rfl (.cons rfl (.cons rfl (.nil _)))) ?_
  refine cd_seq ?_
  refine cd_region ?_
  refine st (ev_move rfl) rfl rfl rfl ?_
  refine st (ev_move rfl) rfl rfl rfl ?_
  refine st_callv has74 rfl (fun w1 sw => indexF_any v ms w1 k hk vf vc p (fun w2 x hk2 hx => hc w2 x (fun b hb => (hk2 b (Nat.lt_of_lt_of_le hb sw.size)).trans (sw.old b hb (by simp))) hx) ha hl (sw.sl_rd (h := 0) rfl)) rfl rfl ?_
  refine st (ev_geq rfl rfl) rfl rfl rfl ?_
  refine st (ev_assign rfl) rfl rfl rfl ?_
  refine op_nil ?_
  refine ax_then ?_
  refine At.regs (L' := [(4, _)]) (.cons rfl (.nil _)) ?_
  refine cd_ret ?_
  refine rt_tmp (.inl rfl) Try.results45 rfl ?_
  exact fun w1 sw => ⟨congrArg (fun b => Ending.returned (Value.bool b)) (Qm.firstP_ge p ms), sw.gives (.nil _)⟩
theorem rd_cutm {w : World} {v : Value} {ms : List Qm.Mark} (ha : Qm.AOk ms) (h : Rd w v 35 (Qm.mflat ms)) {n : Nat} (hn : n ≤ ms.length) : Rd w (cutAt 35 v 0 n) 35 (Qm.mflat (ms.take n)) := by
  have := rd_cut (n := ms.length) (lo := 0) (hi := n) h (by decide) (Qm.mflat_len ha) (Nat.zero_le _) hn
  rw [Nat.zero_mul, List.drop_zero, Nat.sub_zero, Qm.mflat_take n ha] at this
  exact this
theorem idx_mem {hs : List (List Int)} {h : List Int} : (0 ≤ idx hs h) ↔ h ∈ hs := by
  constructor
  · intro h0
    apply Classical.byContradiction
    intro hn
    exact (idx_neg.2 fun j hj e => hn (by rw [e, List.getD_eq_getElem?_getD, List.getElem?_eq_getElem hj]; exact List.getElem_mem hj)) h0
  · intro hm
    apply Classical.byContradiction
    intro hn
    obtain ⟨j, hj, e⟩ := List.getElem_of_mem hm
    exact idx_neg.1 hn j hj (by rw [List.getD_eq_getElem?_getD, List.getElem?_eq_getElem hj]; exact e.symm)
theorem any4 (body : List Int) (ms : List Qm.Mark) (h : List Int) : (ms.take 4).any (fun x => decide (Qm.hits h body x)) = decide (Qm.some4 body ms h) := by
  rw [Bool.eq_iff_iff, List.any_eq_true, decide_eq_true_eq]
  exact ⟨fun ⟨x, hx, hh⟩ => ⟨x, hx, of_decide_eq_true hh⟩, fun ⟨x, hx, hh⟩ => ⟨x, hx, decide_eq_true hh⟩⟩
theorem take_min (ms : List Qm.Mark) : ms.take (min ms.length 4) = ms.take 4 := by
  rcases Nat.le_total ms.length 4 with h | h
  · rw [Nat.min_eq_left h, List.take_length, List.take_of_length_le h]
  · rw [Nat.min_eq_right h]
set_option maxRecDepth 20000 in
set_option maxHeartbeats 4000000 in
theorem who_any (pb mv kv : Value) (need : Int) (body : List Int) (ms : List Qm.Mark) (ks : List (List Int)) (w : World) (hbody : Rd w pb 1 (ints .u8 body)) (hbl : body.length ≤ 140737488352000) (ha : Qm.AOk ms) (hml : ms.length ≤ 1000000) (hm : Rd w mv 35 (Qm.mflat ms)) (hmr : ∀ x, x ∈ ms → Qm.MRd w x) (hu : H32 ks) (hkl : ks.length ≤ 1000000) (hk : Rd w kv 32 (flat ks)) : Calls Try.prog 17 #[.agg (List.toArray [pb, mv]), .agg (List.toArray [kv, .int .i64 need])] w (Post (ι := Value) w [] (fun _ => True) (fun v => v) (fun v => [(0, .own (v) 39 32 (flat (Qm.who body ms ks)))])) := by
  refine calls_at (vs := [.agg (List.toArray [pb, mv]), .agg (List.toArray [kv, .int .i64 need])]) (X := []) (H := []) (F := [(22, .sl (pb) 1 (ints .u8 (body))), (21, .sl (mv) 35 (Qm.mflat (ms))), (20, .sl (kv) 32 (flat (ks)))]) 40 Try.func17 rfl rfl rfl (((Sat.rd0 20 hk).more 21 hm).more 22 hbody) ?_
  refine cd_seq ?_
  refine cd_region ?_
  refine st_box (h := 2) rfl rfl rfl rfl (fun b2 => ?_)
  refine st_box (h := 3) rfl rfl rfl rfl (fun b3 => ?_)
  refine st (ev_assign rfl) rfl rfl rfl ?_
  refine at_own_nil 4 39 32 ?_
  refine at_heq (i := 4) (v' := .own (.slice none 0 0) 39 32 (flat [])) rfl rfl ?_
  have hu4 := H32.nil
  refine op_nil ?_
  refine ax_then ?_
  refine At.regs (L' := [(2, _), (3, _), (4, _)]) (.cons rfl (.cons rfl (.cons rfl (.nil _)))) ?_
  refine cd_seq ?_
  refine cd_region ?_
  refine st (ev_fieldAddr (b := _) Try.underlying25 (f := _) rfl ty23 (by decide) rfl) rfl rfl rfl ?_
  refine st (ld_blk1 (h := 2) ty23 rfl rfl rfl rfl) rfl rfl rfl ?_
  refine st (ev_fieldAddr (b := _) Try.underlying25 (f := _) rfl ty23 (by decide) rfl) rfl rfl rfl ?_
  refine st (ld_blk1 (h := 2) ty23 rfl rfl rfl rfl) rfl rfl rfl ?_
  refine st (ev_len_rd (h := 21) (n := ms.length) Try.underlying23 rfl rfl (Qm.mflat_len ha) (by decide)) rfl rfl rfl ?_
  refine st (ev_min2 rfl rfl) rfl rfl rfl ?_
  refine st (ev_slice_rd_hi (n := ms.length) Try.underlying23 ty44 rfl rfl (fun w1 sw => sw.sl_rd (h := 21) rfl) (by decide) (Qm.mflat_len ha) (by omega) (by omega)) rfl rfl rfl ?_
  refine at_eq (i := 16) (v' := cutAt 35 mv 0 (min ms.length 4)) rfl (by congr 1; omega) ?_
  refine st (ev_assign rfl) rfl rfl rfl ?_
  refine op_nil ?_
  refine ax_then ?_
  refine At.regs (L' := [(2, _), (3, _), (4, _), (5, _)]) (.cons rfl (.cons rfl (.cons rfl (.cons rfl (.nil _))))) ?_
  refine cd_seq ?_
  refine cd_region ?_
  refine st (ev_assign rfl) rfl rfl rfl ?_
  refine at_own_nil 6 39 32 ?_
  refine at_heq (i := 6) (v' := .own (.slice none 0 0) 39 32 (flat [])) rfl rfl ?_
  have hu6 := H32.nil
  refine op_nil ?_
  refine ax_then ?_
  refine At.regs (L' := [(2, _), (3, _), (4, _), (5, _), (6, _)]) (.cons rfl (.cons rfl (.cons rfl (.cons rfl (.cons rfl (.nil _)))))) ?_
  refine cd_seq ?_
  refine cd_seq ?_
  refine cd_region ?_
  refine st (ev_fieldAddr (b := _) Try.underlying28 (f := _) rfl ty26 (by decide) rfl) rfl rfl rfl ?_
  refine st (ld_blk1 (h := 3) ty26 rfl rfl rfl rfl) rfl rfl rfl ?_
  refine st (ev_len_rdh (h := 20) Try.underlying26 rfl rfl (by assumption)) rfl rfl rfl ?_
  refine st (ev_move rfl) rfl rfl rfl ?_
  refine op_nil ?_
  refine ax_then ?_
  refine At.regs (L' := [(2, _), (4, _), (5, _), (6, _), (18, _), (19, _), (20, _)]) (.cons rfl (.cons rfl (.cons rfl (.cons rfl (.cons rfl (.cons rfl (.cons rfl (.nil _)))))))) ?_
  refine cd_block ?_
  refine cd_loop (ι := Nat × Value) (fun x => x.1 ≤ ks.length) (fun x => ks.length - x.1)
      (fun x => [(2, .pointer (some ⟨b2, 0, none⟩)), (5, cutAt 35 mv 0 (min ms.length 4)), (6, x.2), (18, kv), (19, .int .i64 (ks.length : Nat)), (20, .int .i64 (x.1 : Int))])
      (fun x => [(2, .blk (b2) (.cells ([pb, mv]).toArray 25)), (3, .blk (b3) (.cells ([kv, .int .i64 need]).toArray 28)), (6, .own (x.2) 39 32 (flat (Qm.who body ms (ks.take (x.1)))))])
      (fun x => [(20, .sl (kv) 32 (flat (ks))), (21, .sl (mv) 35 (Qm.mflat (ms))), (22, .sl (pb) 1 (ints .u8 (body)))])
      (0, .slice none 0 0) (by omega) (.cons rfl (.cons rfl (.cons rfl (.cons rfl (.cons rfl (.cons rfl (.nil _))))))) (.cons rfl (.cons rfl (.cons rfl (.nil _)))) (.cons rfl (.cons rfl (.cons rfl (.nil _)))) (fun x hi => ?_)
  have e0 : (x.1 : Int).toNat = x.1 := by omega
  have hwu := Qm.who_h32 body ms (hu.take x.1)
  have hwl := hwu.2
  have hw32 := hwu.1
  have htl : (ks.take x.1).length ≤ ks.length := by rw [List.length_take]; omega
  have hgx : x.1 < ks.length → (ks.getD x.1 []).length = 32 := fun hh => hu.get hh
  have hgx2 : x.1 < ks.length → (ks.getD (x.1 : Int).toNat []).length = 32 := fun hh => by rw [e0]; exact hu.get hh
  have hst : x.1 < ks.length → ks.take (x.1 + 1) = ks.take x.1 ++ [ks.getD x.1 []] := fun hh => by rw [List.take_succ_eq_append_getElem hh, List.getD_eq_getElem?_getD, List.getElem?_eq_getElem hh]; rfl
  refine cd_seq ?_
  refine cd_region ?_
  refine st (ev_lss rfl rfl) rfl rfl rfl ?_
  refine op_nil ?_
  refine ax_then ?_
  refine At.regs (L' := [(2, _), (5, _), (6, _), (18, _), (19, _), (20, _), (21, _)]) (.cons rfl (.cons rfl (.cons rfl (.cons rfl (.cons rfl (.cons rfl (.cons rfl (.nil _)))))))) ?_
  refine cd_seq ?_
  refine cd_if rfl (fun hc21 => ?_) (fun hc21 => ?_)
  ·
    have hg := hgx (by omega)
    have hg2 := hgx2 (by omega)
    refine cd_skip ?_
    refine ax_then ?_
    refine At.regs (L' := [(2, _), (5, _), (6, _), (18, _), (19, _), (20, _), (21, _)]) (.cons rfl (.cons rfl (.cons rfl (.cons rfl (.cons rfl (.cons rfl (.cons rfl (.nil _)))))))) ?_
    refine cd_join (ι := Value) (fun y => True) (fun y => [(2, .pointer (some ⟨b2, 0, none⟩)), (5, cutAt 35 mv 0 (min ms.length 4)), (6, y), (18, kv), (19, .int .i64 (ks.length : Nat)), (20, .int .i64 (x.1 : Int))]) (fun y => [(2, .blk (b2) (.cells ([pb, mv]).toArray 25)), (3, .blk (b3) (.cells ([kv, .int .i64 need]).toArray 28)), (6, .own (y) 39 32 (flat (Qm.who body ms (ks.take (x.1 + 1)))))]) (fun y => [(20, .sl (kv) 32 (flat (ks))), (21, .sl (mv) 35 (Qm.mflat (ms))), (22, .sl (pb) 1 (ints .u8 (body)))]) ?_ (fun y hj => ?_)
    ·
      refine cd_block ?_
      refine cd_seq ?_
      refine cd_region ?_
      refine st (ev_indexAddr_rdh (h := 20) Try.underlying26 ty39 rfl rfl rfl (by assumption) (by omega) (by omega)) rfl rfl rfl ?_
      refine st (ld_rdh (h := 20) ty39 rfl rfl rfl (by assumption) (by omega)) rfl rfl rfl ?_
      refine at_eq (i := 23) (v' := .agg (ints .u8 (ks.getD x.1 [])).toArray) rfl (by rw [e0]) ?_
      refine st_alloc (h := 8) ty39 rfl rfl rfl (fun b8 => ?_)
      refine st_store_all 8 ty39 rfl rfl rfl rfl (by first | omega | (simp only [List.length_append, List.length_cons, List.length_nil, List.length_set, List.length_replicate, List.length_take, List.length_drop, ints_length, wr_length, sha_len, node_len, recov_len, Ky.named_len, Ky.keyPub_len] <;> omega) | rfl) (ints_one _ _) (by first | omega | (simp only [List.length_append, List.length_cons, List.length_nil, List.length_set, List.length_replicate, List.length_take, List.length_drop, ints_length, wr_length, sha_len, node_len, recov_len, Ky.named_len, Ky.keyPub_len] <;> omega) | rfl) rfl ?_
      refine op_nil ?_
      refine ax_then ?_
      refine At.regs (L' := [(2, _), (5, _), (6, _), (8, _), (18, _), (19, _), (20, _), (21, _), (22, _), (23, _)]) (.cons rfl (.cons rfl (.cons rfl (.cons rfl (.cons rfl (.cons rfl (.cons rfl (.cons rfl (.cons rfl (.cons rfl (.nil _))))))))))) ?_
      refine cd_seq ?_
      refine cd_region ?_
      refine st (ev_func rfl rfl) rfl rfl rfl ?_
      refine st (ev_assign rfl) rfl rfl rfl ?_
      refine op_nil ?_
      refine ax_then ?_
      refine At.regs (L' := [(2, _), (5, _), (6, _), (8, _), (9, _), (18, _), (19, _), (20, _), (21, _), (22, _), (23, _), (24, _)]) (.cons rfl (.cons rfl (.cons rfl (.cons rfl (.cons rfl (.cons rfl (.cons rfl (.cons rfl (.cons rfl (.cons rfl (.cons rfl (.cons rfl (.nil _))))))))))))) ?_
      refine cd_seq ?_
      refine cd_region ?_
      refine st (ev_move rfl) rfl rfl rfl ?_
      refine st (ld_blk_all (h := 8) ty39 rfl rfl rfl (by first | omega | (simp only [List.length_append, List.length_cons, List.length_nil, List.length_set, List.length_replicate, List.length_take, List.length_drop, ints_length, wr_length, sha_len, node_len, recov_len, Ky.named_len, Ky.keyPub_len] <;> omega) | rfl)) rfl rfl rfl ?_
      refine st_callv has44 rfl (fun w1 sw => contains_any x.2 (Qm.who body ms (ks.take (x.1))) (ks.getD x.1 []) w1 hw32 hg (by omega) (sw.own_rd (h := 6) rfl)) rfl rfl ?_
      refine at_eq (i := 27) (v' := .bool (decide (ks.getD x.1 [] ∈ Qm.who body ms (ks.take (x.1))))) rfl (congrArg Value.bool (decide_eq_decide.2 idx_mem)) ?_
      refine st (ev_not_if rfl) rfl rfl rfl ?_
      refine st (ev_move rfl) rfl rfl rfl ?_
      refine at_split_if (i := 29) rfl (fun hg29 => ?_) (fun hg29 => ?_)
      ·
        refine st (ev_move rfl) rfl rfl rfl ?_
        refine st (ev_move rfl) rfl rfl rfl ?_
        refine st_callv has45 rfl (fun w1 sw => containsF_any (cutAt 35 mv 0 (min ms.length 4)) (ms.take (min ms.length 4)) w1 43 has43 [] [.pointer (some ⟨b8, 0, none⟩), .pointer (some ⟨b2, 0, none⟩)] (fun y => decide (Qm.hits (ks.getD x.1 []) body y)) (fun w2 y hk2 hy => whoC_any y b8 b2 (ks.getD x.1 []) body pb mv w2 hg (hk2.lies (lies_blk (sw.blk_eq (h := 8) rfl))) (hk2.lies (lies_blk (sw.blk_eq (h := 2) rfl))) (hk2.rd (sw.sl_rd (h := 22) rfl)) hbl (ha y (List.mem_of_mem_take hy)) (hk2.mrd ((Qm.Keeps.of sw).mrd (hmr y (List.mem_of_mem_take hy))))) (ha.take _) (by rw [List.length_take]; omega) (rd_cutm ha (sw.sl_rd (h := 21) rfl) (by omega))) rfl rfl ?_
        refine at_eq (i := 32) (v' := .bool (decide (Qm.some4 body ms (ks.getD x.1 [])))) rfl (by rw [take_min, any4]) ?_
        refine st (ev_pick_t rfl rfl) rfl rfl rfl ?_
        refine op_nil ?_
        refine ax_then ?_
        refine At.regs (L' := [(2, _), (5, _), (6, _), (8, _), (9, _), (18, _), (19, _), (20, _), (21, _), (22, _), (23, _), (24, _), (25, _), (26, _), (27, _), (28, _), (29, _), (30, _), (31, _), (32, _), (33, _)]) (.cons rfl (.cons rfl (.cons rfl (.cons rfl (.cons rfl (.cons rfl (.cons rfl (.cons rfl (.cons rfl (.cons rfl (.cons rfl (.cons rfl (.cons rfl (.cons rfl (.cons rfl (.cons rfl (.cons rfl (.cons rfl (.cons rfl (.cons rfl (.cons rfl (.nil _)))))))))))))))))))))) ?_
        refine cd_if rfl (fun hc33 => ?_) (fun hc33 => ?_)
        ·
          refine cd_region ?_
          refine st (ev_move rfl) rfl rfl rfl ?_
          refine st (ld_blk_all (h := 8) ty39 rfl rfl rfl (by first | omega | (simp only [List.length_append, List.length_cons, List.length_nil, List.length_set, List.length_replicate, List.length_take, List.length_drop, ints_length, wr_length, sha_len, node_len, recov_len, Ky.named_len, Ky.keyPub_len] <;> omega) | rfl)) rfl rfl rfl ?_
          refine st_bsh1 (h := 36) Try.underlying26 ty39 rfl (by first | assumption | omega) rfl rfl (fun b36 hu36 => ?_)
          refine st_appendh (h := 6) Try.underlying26 Try.underlying26 ty39 rfl rfl rfl rfl (fun w1 sw => sw.own_rd (h := 36) rfl) (by assumption) (by assumption) (by first | omega | (simp only [List.length_append, List.length_cons, List.length_nil, List.length_set, List.length_replicate, List.length_take, List.length_drop, ints_length, wr_length, sha_len, node_len, recov_len, Ky.named_len, Ky.keyPub_len] <;> omega)) (by decide) rfl rfl (fun v37 hu37 => ?_)
          refine st (ev_assign rfl) rfl rfl rfl ?_
          refine op_nil ?_
          refine ax_block ?_
          refine ax_heq (i := 6) (v' := .own (v37) 39 32 (flat (Qm.who body ms (ks.take (x.1 + 1))))) rfl (by rw [hst (by omega), Qm.who_snoc, if_pos ⟨hg29, hc33⟩]) ?_
          exact at_met (v37) (trivial) (.cons rfl (.cons rfl (.cons rfl (.cons rfl (.cons rfl (.cons rfl (.nil _))))))) (.cons rfl (.cons rfl (.cons rfl (.nil _)))) (.cons rfl (.cons rfl (.cons rfl (.nil _))))
        ·
          refine cd_skip ?_
          refine ax_block ?_
          refine ax_heq (i := 6) (v' := .own (x.2) 39 32 (flat (Qm.who body ms (ks.take (x.1 + 1))))) rfl (by rw [hst (by omega), Qm.who_snoc, if_neg (fun hh => hc33 hh.2)]) ?_
          exact at_met (x.2) (trivial) (.cons rfl (.cons rfl (.cons rfl (.cons rfl (.cons rfl (.cons rfl (.nil _))))))) (.cons rfl (.cons rfl (.cons rfl (.nil _)))) (.cons rfl (.cons rfl (.cons rfl (.nil _))))
      ·
        refine st_skip rfl rfl rfl ?_
        refine st_skip rfl rfl rfl ?_
        refine st_skip rfl rfl rfl ?_
        refine st (ev_pick_f rfl rfl) rfl rfl rfl ?_
        refine op_nil ?_
        refine ax_then ?_
        refine At.regs (L' := [(2, _), (5, _), (6, _), (8, _), (9, _), (18, _), (19, _), (20, _), (21, _), (22, _), (23, _), (24, _), (25, _), (26, _), (27, _), (28, _), (29, _), (30, _), (31, _), (32, _), (33, _)]) (.cons rfl (.cons rfl (.cons rfl (.cons rfl (.cons rfl (.cons rfl (.cons rfl (.cons rfl (.cons rfl (.cons rfl (.cons rfl (.cons rfl (.cons rfl (.cons rfl (.cons rfl (.cons rfl (.cons rfl (.cons rfl (.cons rfl (.cons rfl (.cons rfl (.nil _)))))))))))))))))))))) ?_
        refine cd_false rfl ?_
        refine cd_skip ?_
        refine ax_block ?_
        refine ax_heq (i := 6) (v' := .own (x.2) 39 32 (flat (Qm.who body ms (ks.take (x.1 + 1))))) rfl (by rw [hst (by omega), Qm.who_snoc, if_neg (fun hh => hg29 hh.1)]) ?_
        exact at_met (x.2) (trivial) (.cons rfl (.cons rfl (.cons rfl (.cons rfl (.cons rfl (.cons rfl (.nil _))))))) (.cons rfl (.cons rfl (.cons rfl (.nil _)))) (.cons rfl (.cons rfl (.cons rfl (.nil _))))
    ·
      refine cd_region ?_
      refine st (ev_add64 rfl rfl (by omega) (by omega)) rfl rfl rfl ?_
      refine st (ev_move rfl) rfl rfl rfl ?_
      refine op_nil ?_
      exact at_again ((x.1 + 1, y)) (by show x.1 + 1 ≤ ks.length; omega) (by omega) (.cons rfl (.cons rfl (.cons rfl (.cons rfl (.cons rfl (.cons rfl (.nil _))))))) (.cons rfl (.cons rfl (.cons rfl (.nil _)))) (.cons rfl (.cons rfl (.cons rfl (.nil _))))
  ·
    obtain ⟨j, u⟩ := x
    dsimp only at hi hc21 ⊢
    obtain rfl : j = ks.length := by omega
    refine at_heq (i := 6) (v' := .own (u) 39 32 (flat (Qm.who body ms ks))) rfl (by rw [List.take_length]) ?_
    refine cd_exit ?_
    refine ax_then_exit ?_
    refine ax_then_exit ?_
    refine ax_block_hit ?_
    refine ax_then ?_
    refine At.regs (L' := [(6, _)]) (.cons rfl (.nil _)) ?_
    refine cd_seq ?_
    refine cd_region ?_
    refine st (ev_move rfl) rfl rfl rfl ?_
    refine st (ev_assign rfl) rfl rfl rfl ?_
    refine op_nil ?_
    refine ax_then ?_
    refine At.regs (L' := [(4, _)]) (.cons rfl (.nil _)) ?_
    refine cd_ret ?_
    refine rt_tmp (.inl rfl) Try.results17 rfl ?_
    exact fun w1 sw => ⟨u, trivial, rfl, (sw.gives (N := [(6, _)]) (.cons rfl (.nil _))).rn 0⟩
end Go.Proofs.Yteedclmcgifmpaa

namespace Go.Proofs.Yteedclmcgifmpaa
open Go Go.RowKit Fw
open Sha
open Ots
open Mk
set_option linter.unusedVariables false
set_option linter.unusedSimpArgs false
def meets (body : List Int) (ms : List Qm.Mark) (ks : List (List Int)) (need : Int) : Prop := isK ks need ∧ ((Qm.who body ms ks).length : Int) ≥ need
instance (body : List Int) (ms : List Qm.Mark) (ks : List (List Int)) (need : Int) : Decidable (meets body ms ks need) := by unfold meets; infer_instance
set_option maxRecDepth 20000 in
set_option maxHeartbeats 2000000 in
theorem meets_any (pb mv kv : Value) (need : Int) (body : List Int) (ms : List Qm.Mark) (ks : List (List Int)) (w : World) (hbody : Rd w pb 1 (ints .u8 body)) (hbl : body.length ≤ 140737488352000) (ha : Qm.AOk ms) (hml : ms.length ≤ 1000000) (hm : Rd w mv 35 (Qm.mflat ms)) (hmr : ∀ x, x ∈ ms → Qm.MRd w x) (hu : H32 ks) (hkl : ks.length ≤ 1000000) (hk : Rd w kv 32 (flat ks)) : Calls Try.prog 19 #[.agg (List.toArray [pb, mv]), .agg (List.toArray [kv, .int .i64 need])] w (PostV w (.bool (decide (meets body ms ks need)))) := by
  refine calls_at (vs := [.agg (List.toArray [pb, mv]), .agg (List.toArray [kv, .int .i64 need])]) (X := []) (H := []) (F := [(22, .sl (pb) 1 (ints .u8 (body))), (21, .sl (mv) 35 (Qm.mflat (ms))), (20, .sl (kv) 32 (flat (ks)))]) 16 Try.func19 rfl rfl rfl (((Sat.rd0 20 hk).more 21 hm).more 22 hbody) ?_
  refine cd_seq ?_
  refine cd_region ?_
  refine st_box (h := 2) rfl rfl rfl rfl (fun b2 => ?_)
  refine st_box (h := 3) rfl rfl rfl rfl (fun b3 => ?_)
  refine st (ev_assign rfl) rfl rfl rfl ?_
  refine op_nil ?_
  refine ax_then ?_
  refine At.regs (L' := [(2, _), (3, _), (4, _)]) (.cons rfl (.cons rfl (.cons rfl (.nil _)))) ?_
  refine cd_seq ?_
  refine at_freeze_blk (h := 2) (H' := [(3, _)]) 2 rfl (.cons rfl (.nil _)) rfl ?_
  refine at_freeze_blk (h := 3) (H' := []) 3 rfl (.nil _) rfl ?_
  refine cd_mix hmix ?_
  refine mx (i := 0) rfl (by decide +kernel) (by decide +kernel) (by decide +kernel) rfl (fun w0 => ld_mem_all (h := 3) ty28 rfl rfl rfl (by first | omega | (simp only [List.length_append, List.length_cons, List.length_nil, List.length_set, List.length_replicate, List.length_take, List.length_drop, ints_length, wr_length, sha_len, node_len, recov_len, Ky.named_len, Ky.keyPub_len] <;> omega) | rfl)) rfl rfl (Sub.refl _) ?_
  refine mx_one (i := 1) (by decide +kernel) (Sub.refl _) ?_
  refine wo (i := 1) rfl ?_
  refine st_callv has21 rfl (fun w1 sw => is_any kv ks need w1 hu (by omega) (sw.sl_rd (h := 20) rfl)) rfl rfl ?_
  refine op_nil ?_
  refine ax_then ?_
  refine mx (i := 2) rfl (by decide +kernel) (by decide +kernel) (by decide +kernel) rfl (fun w0 => ev_move rfl) rfl rfl (Sub.refl _) ?_
  refine at_split_if (i := 7) rfl (fun hg7 => ?_) (fun hg7 => ?_)
  ·
    refine mx (i := 3) rfl (by decide +kernel) (by decide +kernel) (by decide +kernel) rfl (fun w0 => ld_mem_all (h := 2) ty25 rfl rfl rfl (by first | omega | (simp only [List.length_append, List.length_cons, List.length_nil, List.length_set, List.length_replicate, List.length_take, List.length_drop, ints_length, wr_length, sha_len, node_len, recov_len, Ky.named_len, Ky.keyPub_len] <;> omega) | rfl)) rfl rfl (Sub.refl _) ?_
    refine mx (i := 4) rfl (by decide +kernel) (by decide +kernel) (by decide +kernel) rfl (fun w0 => ld_mem_all (h := 3) ty28 rfl rfl rfl (by first | omega | (simp only [List.length_append, List.length_cons, List.length_nil, List.length_set, List.length_replicate, List.length_take, List.length_drop, ints_length, wr_length, sha_len, node_len, recov_len, Ky.named_len, Ky.keyPub_len] <;> omega) | rfl)) rfl rfl (Sub.refl _) ?_
    refine mx (i := 7) rfl (by decide +kernel) (by decide +kernel) (by decide +kernel) rfl (fun w0 => ev_fieldAddr (b := _) Try.underlying28 (f := _) rfl ty3 (by decide) rfl) rfl rfl (Sub.refl _) ?_
    refine mx (i := 8) rfl (by decide +kernel) (by decide +kernel) (by decide +kernel) rfl (fun w0 => ld_mem1 (h := 3) ty3 rfl rfl rfl (Nat.zero_add _).symm rfl) rfl rfl (Sub.refl _) ?_
    refine mx_one (i := 5) (by decide +kernel) (Sub.refl _) ?_
    refine wo (i := 5) rfl ?_
    refine st_call has17 rfl (fun w1 sw => rn 10 (who_any pb mv kv need body ms ks w1 (sw.sl_rd (h := 22) rfl) hbl ha hml (sw.sl_rd (h := 21) rfl) (fun x hx => (Qm.Keeps.of sw).mrd (hmr x hx)) hu hkl (sw.sl_rd (h := 20) rfl))) nil_all rfl rfl (fun v10 _ => ?_)
    have hwu := Qm.who_h32 body ms hu
    have hw32 := hwu.1
    refine op_nil ?_
    refine ax_then ?_
    refine mx_one (i := 6) (by decide +kernel) (Sub.refl _) ?_
    refine wo (i := 6) rfl ?_
    refine st (ev_len_ownh (h := 10) Try.underlying26 rfl rfl (by assumption)) rfl rfl rfl ?_
    refine op_nil ?_
    refine ax_then ?_
    refine mx (i := 9) rfl (by decide +kernel) (by decide +kernel) (by decide +kernel) rfl (fun w0 => ev_geq rfl rfl) rfl rfl (Sub.refl _) ?_
    refine mx (i := 10) rfl (by decide +kernel) (by decide +kernel) (by decide +kernel) rfl (fun w0 => ev_pick_t rfl rfl) rfl rfl (Sub.refl _) ?_
    refine mx (i := 11) rfl (by decide +kernel) (by decide +kernel) (by decide +kernel) rfl (fun w0 => ev_assign rfl) rfl rfl (Sub.refl _) ?_
    refine mx_done (by decide +kernel) (Sub.refl _) ?_
    refine ax_then ?_
    refine At.regs (L' := [(4, _)]) (.cons rfl (.nil _)) ?_
    refine cd_ret ?_
    refine rt_tmp (.inl rfl) Try.results19 rfl ?_
    exact fun w1 sw => ⟨congrArg (fun b => Ending.returned (Value.bool b)) (by first | exact (decide_eq_false (fun hh => hg7 hh.1)).symm | exact decide_eq_decide.2 ⟨fun hh => ⟨hg7, hh⟩, fun hh => hh.2⟩), sw.gives (.nil _)⟩
  ·
    refine mx_skip (i := 3) rfl (by decide +kernel) (by decide +kernel) (by decide +kernel) rfl rfl rfl (Sub.refl _) ?_
    refine mx_skip (i := 4) rfl (by decide +kernel) (by decide +kernel) (by decide +kernel) rfl rfl rfl (Sub.refl _) ?_
    refine mx_skip (i := 5) rfl (by decide +kernel) (by decide +kernel) (by decide +kernel) rfl rfl rfl (Sub.refl _) ?_
    refine mx_skip (i := 6) rfl (by decide +kernel) (by decide +kernel) (by decide +kernel) rfl rfl rfl (Sub.refl _) ?_
    refine mx_skip (i := 7) rfl (by decide +kernel) (by decide +kernel) (by decide +kernel) rfl rfl rfl (Sub.refl _) ?_
    refine mx_skip (i := 8) rfl (by decide +kernel) (by decide +kernel) (by decide +kernel) rfl rfl rfl (Sub.refl _) ?_
    refine mx_skip (i := 9) rfl (by decide +kernel) (by decide +kernel) (by decide +kernel) rfl rfl rfl (Sub.refl _) ?_
    refine mx (i := 10) rfl (by decide +kernel) (by decide +kernel) (by decide +kernel) rfl (fun w0 => ev_pick_f rfl rfl) rfl rfl (Sub.refl _) ?_
    refine mx (i := 11) rfl (by decide +kernel) (by decide +kernel) (by decide +kernel) rfl (fun w0 => ev_assign rfl) rfl rfl (Sub.refl _) ?_
    refine mx_done (by decide +kernel) (Sub.refl _) ?_
    refine ax_then ?_
    refine At.regs (L' := [(4, _)]) (.cons rfl (.nil _)) ?_
    refine cd_ret ?_
    refine rt_tmp (.inl rfl) Try.results19 rfl ?_
    exact fun w1 sw => ⟨congrArg (fun b => Ending.returned (Value.bool b)) (by first | exact (decide_eq_false (fun hh => hg7 hh.1)).symm | exact decide_eq_decide.2 ⟨fun hh => ⟨hg7, hh⟩, fun hh => hh.2⟩), sw.gives (.nil _)⟩
end Go.Proofs.Yteedclmcgifmpaa

namespace Go.Proofs.Yteedclmcgifmpaa
open Go Go.RowKit Fw
open Sha
open Ots
open Mk
set_option linter.unusedVariables false
set_option linter.unusedSimpArgs false
theorem rkey_new {s : List Int} (hl : s.length = 32) (n : Int) : wr (wr (ints .u8 (List.replicate 32 0) ++ ([.slice none 0 0] ++ (ints .u8 (List.replicate 32 0) ++ [.int .i64 0]))) 0 (ints .u8 s)) 65 [.int .i64 n] = Ky.rcells s (.slice none 0 0) (List.replicate 32 0) n := by
  have h1 : wr (ints .u8 (List.replicate 32 0) ++ ([Value.slice none 0 0] ++ (ints .u8 (List.replicate 32 0) ++ [.int .i64 0]))) 0 (ints .u8 s) = Ky.rcells s (.slice none 0 0) (List.replicate 32 0) 0 := by
    rw [wr, List.take_zero, List.nil_append, ints_length, hl, Nat.zero_add, List.drop_left' (by simp [ints_length])]
    rfl
  rw [h1, wr_one (by rw [Ky.rcells_len hl (by simp)]; decide), Ky.rcells_set65 hl (by simp)]
set_option maxRecDepth 20000 in
set_option maxHeartbeats 4000000 in
theorem rnew_any (s : List Int) (u : Int) (w : World) (hl : s.length = 32) : Calls Try.prog 27 #[.agg (ints .u8 (s)).toArray, .int .i64 u] w (Post (ι := Nat × Value) w [] (fun _ => True) (fun x => .pointer (some ⟨x.1, 0, none⟩)) (fun x => [(0, .blk (x.1) (.cells (Ky.rcells s x.2 (Ky.keyPub s) (Ky.clamp u)).toArray 55)), (1, .own (x.2) 39 32 (flat (Ky.leaves s 16)))])) := by
  refine calls_at (vs := [.agg (ints .u8 (s)).toArray, .int .i64 u]) (X := []) (H := []) (F := []) 39 Try.func27 rfl rfl rfl (Sat.start0 w) ?_
  refine cd_seq ?_
  refine cd_region ?_
  refine st_box (h := 2) rfl rfl rfl rfl (fun b2 => ?_)
  refine st (ev_assign rfl) rfl rfl rfl ?_
  refine op_nil ?_
  refine ax_then ?_
  refine At.regs (L' := [(1, _), (2, _), (4, _)]) (.cons rfl (.cons rfl (.cons rfl (.nil _)))) ?_
  refine cd_seq ?_
  refine cd_region ?_
  refine st (ld_blk_all (h := 2) ty39 rfl rfl rfl (by first | omega | (simp only [List.length_append, List.length_cons, List.length_nil, List.length_set, List.length_replicate, List.length_take, List.length_drop, ints_length, wr_length, sha_len, node_len, recov_len, Ky.named_len, Ky.keyPub_len] <;> omega) | rfl)) rfl rfl rfl ?_
  refine st (ev_move rfl) rfl rfl rfl ?_
  refine st (ev_max2 rfl rfl) rfl rfl rfl ?_
  refine st (ev_min2 rfl rfl) rfl rfl rfl ?_
  refine at_eq (i := 10) (v' := .int .i64 (Ky.clamp u)) rfl rfl ?_
  refine st (ev_build_struct ty55 rfl pl55 rfl ((fill_put (i := 0) (off := 0) (n := 32) (vs := ints .u8 s) rfl rfl (by rw [ints_length, hl]) (Nat.le_of_ble_eq_true rfl)).trans ((fill_put (i := 3) (off := 65) (n := 1) (vs := [.int .i64 (Ky.clamp u)]) rfl rfl rfl (by rw [wr_length (by rw [ints_length, hl]; exact Nat.le_of_ble_eq_true rfl)]; exact Nat.le_of_ble_eq_true rfl)).trans fill_nil))) rfl rfl rfl ?_
  refine at_eq (i := 11) (v' := .agg (Ky.rcells s (.slice none 0 0) (List.replicate 32 0) (Ky.clamp u)).toArray) rfl (congrArg (fun x => Value.agg (List.toArray x)) (rkey_new hl _)) ?_
  refine st_box (h := 12) rfl rfl rfl rfl (fun b12 => ?_)
  refine st (ev_assign rfl) rfl rfl rfl ?_
  refine op_nil ?_
  refine ax_then ?_
  refine At.regs (L' := [(2, _), (4, _), (5, _)]) (.cons rfl (.cons rfl (.cons rfl (.nil _)))) ?_
  refine cd_seq ?_
  refine cd_seq ?_
  refine cd_region ?_
  refine st (ev_assign rfl) rfl rfl rfl ?_
  refine op_nil ?_
  refine ax_then ?_
  refine At.regs (L' := [(2, _), (4, _), (5, _), (6, _)]) (.cons rfl (.cons rfl (.cons rfl (.cons rfl (.nil _))))) ?_
  refine cd_block ?_
  refine at_freeze_blk (h := 2) (H' := [(12, _)]) 2 rfl (.cons rfl (.nil _)) rfl ?_
  refine at_own_nil 20 39 32 ?_
  refine at_heq (i := 20) (v' := .own (.slice none 0 0) 39 32 (flat (Ky.leaves s 0))) rfl rfl ?_
  refine cd_loop (ι := Nat × Value) (fun x => x.1 ≤ 16) (fun x => 16 - x.1)
      (fun x => [(2, .pointer (some ⟨b2, 0, none⟩)), (5, .pointer (some ⟨b12, 0, none⟩)), (6, .int .i64 (x.1 : Int))])
      (fun x => [(12, .blk (b12) (.cells (Ky.rcells s x.2 (List.replicate 32 0) (Ky.clamp u)).toArray 55)), (20, .own (x.2) 39 32 (flat (Ky.leaves s x.1)))])
      (fun x => [(2, .mem b2 0 (ints .u8 s))])
      (0, .slice none 0 0) (by omega) (.cons rfl (.cons rfl (.cons rfl (.nil _)))) (.cons rfl (.cons rfl (.nil _))) (.cons rfl (.nil _)) (fun x hi => ?_)
  have hlu := Ky.leaves_h32 s x.1
  have hln := Ky.leaves_len s x.1
  have hpl : (pub s x.1).length = 32 := sha_len _
  refine cd_seq ?_
  refine cd_seq ?_
  refine cd_region ?_
  refine st (ev_move rfl) rfl rfl rfl ?_
  refine st (ev_lss rfl rfl) rfl rfl rfl ?_
  refine op_nil ?_
  refine ax_then ?_
  refine At.regs (L' := [(2, _), (5, _), (6, _), (13, _), (14, _)]) (.cons rfl (.cons rfl (.cons rfl (.cons rfl (.cons rfl (.nil _)))))) ?_
  refine cd_if rfl (fun hc14 => ?_) (fun hc14 => ?_)
  ·
    refine cd_skip ?_
    refine ax_then ?_
    refine At.regs (L' := [(2, _), (5, _), (6, _), (13, _), (14, _)]) (.cons rfl (.cons rfl (.cons rfl (.cons rfl (.cons rfl (.nil _)))))) ?_
    refine cd_seq ?_
    refine cd_block ?_
    refine cd_mix hmix ?_
    refine mx (i := 0) rfl (by decide +kernel) (by decide +kernel) (by decide +kernel) rfl (fun w0 => ev_move rfl) rfl rfl (Sub.refl _) ?_
    refine mx (i := 1) rfl (by decide +kernel) (by decide +kernel) (by decide +kernel) rfl (fun w0 => ev_move rfl) rfl rfl (Sub.refl _) ?_
    refine mx (i := 2) rfl (by decide +kernel) (by decide +kernel) (by decide +kernel) rfl (fun w0 => ev_nilCheck rfl) rfl rfl (Sub.refl _) ?_
    refine mx (i := 3) rfl (by decide +kernel) (by decide +kernel) (by decide +kernel) rfl (fun w0 => ev_fieldAddr (b := _) Try.underlying55 (f := _) rfl ty26 (by decide) rfl) rfl rfl (Sub.refl _) ?_
    refine mx (i := 5) rfl (by decide +kernel) (by decide +kernel) (by decide +kernel) rfl (fun w0 => ld_mem_all (h := 2) ty39 rfl rfl rfl (by first | omega | (simp only [List.length_append, List.length_cons, List.length_nil, List.length_set, List.length_replicate, List.length_take, List.length_drop, ints_length, wr_length, sha_len, node_len, recov_len, Ky.named_len, Ky.keyPub_len] <;> omega) | rfl)) rfl rfl (Sub.refl _) ?_
    refine mx (i := 6) rfl (by decide +kernel) (by decide +kernel) (by decide +kernel) rfl (fun w0 => ev_move rfl) rfl rfl (Sub.refl _) ?_
    refine mx_two (i := 4) (j := 7) (by decide +kernel) (Sub.refl _) ?_ ?_
    ·
      refine wo (i := 4) rfl ?_
      refine st (ld_blk1 (h := 12) ty26 rfl rfl rfl (Ky.rcells_32 hl _ _)) rfl rfl rfl ?_
      refine op_nil ?_
      refine ax_then ?_
      refine mx_one (i := 7) (by decide +kernel) (Sub.refl _) ?_
      refine wo (i := 7) rfl ?_
      refine st_callv has47 rfl (fun w1 sw => rpublic_any s x.1 w1 hl) rfl rfl ?_
      refine op_nil ?_
      refine ax_then ?_
      refine mx_one (i := 8) (by decide +kernel) (Sub.refl _) ?_
      refine wo (i := 8) rfl ?_
      refine st_bsh1 (h := 25) Try.underlying26 ty39 rfl (by first | assumption | omega) rfl rfl (fun b25 hu25 => ?_)
      refine op_nil ?_
      refine ax_then ?_
      refine mx_one (i := 9) (by decide +kernel) (Sub.refl _) ?_
      refine wo (i := 9) rfl ?_
      refine st_appendh (h := 20) Try.underlying26 Try.underlying26 ty39 rfl rfl rfl rfl (fun w1 sw => sw.own_rd (h := 25) rfl) (by assumption) (by assumption) (by first | omega | (simp only [List.length_append, List.length_cons, List.length_nil, List.length_set, List.length_replicate, List.length_take, List.length_drop, ints_length, wr_length, sha_len, node_len, recov_len, Ky.named_len, Ky.keyPub_len] <;> omega)) (by decide) rfl rfl (fun v26 hu26 => ?_)
      refine at_own_shape (h := 20) rfl (fun hs26 => ?_)
      refine op_nil ?_
      refine ax_then ?_
      refine mx (i := 10) rfl (by decide +kernel) (by decide +kernel) (by decide +kernel) rfl (fun w0 => ev_nilCheck rfl) rfl rfl (Sub.refl _) ?_
      refine mx (i := 11) rfl (by decide +kernel) (by decide +kernel) (by decide +kernel) rfl (fun w0 => ev_fieldAddr (b := _) Try.underlying55 (f := _) rfl ty26 (by decide) rfl) rfl rfl (Sub.refl _) ?_
      refine mx_one (i := 12) (by decide +kernel) (Sub.refl _) ?_
      refine wo (i := 12) rfl ?_
      refine st_store1 12 ty26 rfl rfl rfl hs26.2 (by rw [Ky.rcells_len hl (by simp)]; decide) rfl ?_
      refine at_heq (i := 12) (v' := .blk (b12) (.cells (Ky.rcells s v26 (List.replicate 32 0) (Ky.clamp u)).toArray 55)) rfl (congrArg (fun l : List Value => Ent.blk b12 (.cells l.toArray 55)) (Ky.rcells_set32 hl _ _ _)) ?_
      refine op_nil ?_
      refine ax_then ?_
      refine mx_done (by decide +kernel) (Sub.refl _) ?_
      refine ax_block ?_
      refine ax_then ?_
      refine At.regs (L' := [(2, _), (5, _), (6, _), (13, _), (14, _), (17, _), (18, _), (19, _), (20, _), (21, _), (22, _), (23, _), (24, _), (25, _), (26, _), (27, _), (28, _)]) (.cons rfl (.cons rfl (.cons rfl (.cons rfl (.cons rfl (.cons rfl (.cons rfl (.cons rfl (.cons rfl (.cons rfl (.cons rfl (.cons rfl (.cons rfl (.cons rfl (.cons rfl (.cons rfl (.cons rfl (.nil _)))))))))))))))))) ?_
      refine cd_region ?_
      refine st (ev_move rfl) rfl rfl rfl ?_
      refine st (ev_add64 rfl rfl (by omega) (by omega)) rfl rfl rfl ?_
      refine st (ev_assign rfl) rfl rfl rfl ?_
      refine op_nil ?_
      refine ax_heq (i := 20) (v' := .own (v26) 39 32 (flat (Ky.leaves s (x.1 + 1)))) rfl (by rw [Ky.leaves_snoc]) ?_
      exact at_again ((x.1 + 1, v26)) (by show x.1 + 1 ≤ 16; omega) (by omega) (.cons rfl (.cons rfl (.cons rfl (.nil _)))) (.cons rfl (.cons rfl (.nil _))) (.cons rfl (.nil _))
    ·
      refine wo (i := 7) rfl ?_
      refine st_callv has47 rfl (fun w1 sw => rpublic_any s x.1 w1 hl) rfl rfl ?_
      refine op_nil ?_
      refine ax_then ?_
      refine mx_two (i := 4) (j := 8) (by decide +kernel) (Sub.refl _) ?_ ?_
      ·
        refine wo (i := 4) rfl ?_
        refine st (ld_blk1 (h := 12) ty26 rfl rfl rfl (Ky.rcells_32 hl _ _)) rfl rfl rfl ?_
        refine op_nil ?_
        refine ax_then ?_
        refine mx_one (i := 8) (by decide +kernel) (Sub.refl _) ?_
        refine wo (i := 8) rfl ?_
        refine st_bsh1 (h := 25) Try.underlying26 ty39 rfl (by first | assumption | omega) rfl rfl (fun b25 hu25 => ?_)
        refine op_nil ?_
        refine ax_then ?_
        refine mx_one (i := 9) (by decide +kernel) (Sub.refl _) ?_
        refine wo (i := 9) rfl ?_
        refine st_appendh (h := 20) Try.underlying26 Try.underlying26 ty39 rfl rfl rfl rfl (fun w1 sw => sw.own_rd (h := 25) rfl) (by assumption) (by assumption) (by first | omega | (simp only [List.length_append, List.length_cons, List.length_nil, List.length_set, List.length_replicate, List.length_take, List.length_drop, ints_length, wr_length, sha_len, node_len, recov_len, Ky.named_len, Ky.keyPub_len] <;> omega)) (by decide) rfl rfl (fun v26 hu26 => ?_)
        refine at_own_shape (h := 20) rfl (fun hs26 => ?_)
        refine op_nil ?_
        refine ax_then ?_
        refine mx (i := 10) rfl (by decide +kernel) (by decide +kernel) (by decide +kernel) rfl (fun w0 => ev_nilCheck rfl) rfl rfl (Sub.refl _) ?_
        refine mx (i := 11) rfl (by decide +kernel) (by decide +kernel) (by decide +kernel) rfl (fun w0 => ev_fieldAddr (b := _) Try.underlying55 (f := _) rfl ty26 (by decide) rfl) rfl rfl (Sub.refl _) ?_
        refine mx_one (i := 12) (by decide +kernel) (Sub.refl _) ?_
        refine wo (i := 12) rfl ?_
        refine st_store1 12 ty26 rfl rfl rfl hs26.2 (by rw [Ky.rcells_len hl (by simp)]; decide) rfl ?_
        refine at_heq (i := 12) (v' := .blk (b12) (.cells (Ky.rcells s v26 (List.replicate 32 0) (Ky.clamp u)).toArray 55)) rfl (congrArg (fun l : List Value => Ent.blk b12 (.cells l.toArray 55)) (Ky.rcells_set32 hl _ _ _)) ?_
        refine op_nil ?_
        refine ax_then ?_
        refine mx_done (by decide +kernel) (Sub.refl _) ?_
        refine ax_block ?_
        refine ax_then ?_
        refine At.regs (L' := [(2, _), (5, _), (6, _), (13, _), (14, _), (17, _), (18, _), (19, _), (20, _), (21, _), (22, _), (23, _), (24, _), (25, _), (26, _), (27, _), (28, _)]) (.cons rfl (.cons rfl (.cons rfl (.cons rfl (.cons rfl (.cons rfl (.cons rfl (.cons rfl (.cons rfl (.cons rfl (.cons rfl (.cons rfl (.cons rfl (.cons rfl (.cons rfl (.cons rfl (.cons rfl (.nil _)))))))))))))))))) ?_
        refine cd_region ?_
        refine st (ev_move rfl) rfl rfl rfl ?_
        refine st (ev_add64 rfl rfl (by omega) (by omega)) rfl rfl rfl ?_
        refine st (ev_assign rfl) rfl rfl rfl ?_
        refine op_nil ?_
        refine ax_heq (i := 20) (v' := .own (v26) 39 32 (flat (Ky.leaves s (x.1 + 1)))) rfl (by rw [Ky.leaves_snoc]) ?_
        exact at_again ((x.1 + 1, v26)) (by show x.1 + 1 ≤ 16; omega) (by omega) (.cons rfl (.cons rfl (.cons rfl (.nil _)))) (.cons rfl (.cons rfl (.nil _))) (.cons rfl (.nil _))
      ·
        refine wo (i := 8) rfl ?_
        refine st_bsh1 (h := 25) Try.underlying26 ty39 rfl (by first | assumption | omega) rfl rfl (fun b25 hu25 => ?_)
        refine op_nil ?_
        refine ax_then ?_
        refine mx_one (i := 4) (by decide +kernel) (Sub.refl _) ?_
        refine wo (i := 4) rfl ?_
        refine st (ld_blk1 (h := 12) ty26 rfl rfl rfl (Ky.rcells_32 hl _ _)) rfl rfl rfl ?_
        refine op_nil ?_
        refine ax_then ?_
        refine mx_one (i := 9) (by decide +kernel) (Sub.refl _) ?_
        refine wo (i := 9) rfl ?_
        refine st_appendh (h := 20) Try.underlying26 Try.underlying26 ty39 rfl rfl rfl rfl (fun w1 sw => sw.own_rd (h := 25) rfl) (by assumption) (by assumption) (by first | omega | (simp only [List.length_append, List.length_cons, List.length_nil, List.length_set, List.length_replicate, List.length_take, List.length_drop, ints_length, wr_length, sha_len, node_len, recov_len, Ky.named_len, Ky.keyPub_len] <;> omega)) (by decide) rfl rfl (fun v26 hu26 => ?_)
        refine at_own_shape (h := 20) rfl (fun hs26 => ?_)
        refine op_nil ?_
        refine ax_then ?_
        refine mx (i := 10) rfl (by decide +kernel) (by decide +kernel) (by decide +kernel) rfl (fun w0 => ev_nilCheck rfl) rfl rfl (Sub.refl _) ?_
        refine mx (i := 11) rfl (by decide +kernel) (by decide +kernel) (by decide +kernel) rfl (fun w0 => ev_fieldAddr (b := _) Try.underlying55 (f := _) rfl ty26 (by decide) rfl) rfl rfl (Sub.refl _) ?_
        refine mx_one (i := 12) (by decide +kernel) (Sub.refl _) ?_
        refine wo (i := 12) rfl ?_
        refine st_store1 12 ty26 rfl rfl rfl hs26.2 (by rw [Ky.rcells_len hl (by simp)]; decide) rfl ?_
        refine at_heq (i := 12) (v' := .blk (b12) (.cells (Ky.rcells s v26 (List.replicate 32 0) (Ky.clamp u)).toArray 55)) rfl (congrArg (fun l : List Value => Ent.blk b12 (.cells l.toArray 55)) (Ky.rcells_set32 hl _ _ _)) ?_
        refine op_nil ?_
        refine ax_then ?_
        refine mx_done (by decide +kernel) (Sub.refl _) ?_
        refine ax_block ?_
        refine ax_then ?_
        refine At.regs (L' := [(2, _), (5, _), (6, _), (13, _), (14, _), (17, _), (18, _), (19, _), (20, _), (21, _), (22, _), (23, _), (24, _), (25, _), (26, _), (27, _), (28, _)]) (.cons rfl (.cons rfl (.cons rfl (.cons rfl (.cons rfl (.cons rfl (.cons rfl (.cons rfl (.cons rfl (.cons rfl (.cons rfl (.cons rfl (.cons rfl (.cons rfl (.cons rfl (.cons rfl (.cons rfl (.nil _)))))))))))))))))) ?_
        refine cd_region ?_
        refine st (ev_move rfl) rfl rfl rfl ?_
        refine st (ev_add64 rfl rfl (by omega) (by omega)) rfl rfl rfl ?_
        refine st (ev_assign rfl) rfl rfl rfl ?_
        refine op_nil ?_
        refine ax_heq (i := 20) (v' := .own (v26) 39 32 (flat (Ky.leaves s (x.1 + 1)))) rfl (by rw [Ky.leaves_snoc]) ?_
        exact at_again ((x.1 + 1, v26)) (by show x.1 + 1 ≤ 16; omega) (by omega) (.cons rfl (.cons rfl (.cons rfl (.nil _)))) (.cons rfl (.cons rfl (.nil _))) (.cons rfl (.nil _))
  ·
    obtain ⟨j, v⟩ := x
    dsimp only at hi hc14 ⊢
    obtain rfl : j = 16 := by omega
    have hlu := Ky.leaves_h32 s 16
    have hll := Ky.leaves_len s 16
    refine cd_exit ?_
    refine ax_then_exit ?_
    refine ax_then_exit ?_
    refine ax_block_hit ?_
    refine ax_then ?_
    refine At.regs (L' := [(5, _)]) (.cons rfl (.nil _)) ?_
    refine cd_seq ?_
    refine cd_region ?_
    refine st (ev_move rfl) rfl rfl rfl ?_
    refine st (ev_move rfl) rfl rfl rfl ?_
    refine st (ev_nilCheck rfl) rfl rfl rfl ?_
    refine st (ev_fieldAddr (b := _) Try.underlying55 (f := _) rfl ty26 (by decide) rfl) rfl rfl rfl ?_
    refine st (ld_blk1 (h := 12) ty26 rfl rfl rfl (Ky.rcells_32 hl _ _)) rfl rfl rfl ?_
    refine st_callv has49 rfl (fun w1 sw => rroot_any v (Ky.leaves s 16) w1 hlu (by rw [hll]; decide) (sw.own_rd (h := 20) rfl)) rfl rfl ?_
    refine st_callv has48 rfl (fun w1 sw => rnamed_any (root (Ky.leaves s 16)) w1 (root_len hlu)) rfl rfl ?_
    refine at_eq (i := 35) (v' := .agg (ints .u8 (Ky.keyPub s)).toArray) rfl rfl ?_
    refine st (ev_nilCheck rfl) rfl rfl rfl ?_
    refine st (ev_fieldAddr (b := _) Try.underlying55 (f := _) rfl ty39 (by decide) rfl) rfl rfl rfl ?_
    refine st_store 12 ty39 rfl rfl rfl rfl (by rw [ints_length, Ky.keyPub_len]) (ints_one _ _) (by rw [Ky.rcells_len hl (by simp)]; decide) rfl ?_
    refine at_heq (i := 12) (v' := .blk (b12) (.cells (Ky.rcells s v (Ky.keyPub s) (Ky.clamp u)).toArray 55)) rfl (congrArg (fun l : List Value => Ent.blk b12 (.cells l.toArray 55)) (Ky.rcells_wr hl (by simp) (Ky.keyPub_len s) _ _)) ?_
    refine op_nil ?_
    refine ax_then ?_
    refine At.regs (L' := [(5, _)]) (.cons rfl (.nil _)) ?_
    refine cd_seq ?_
    refine cd_region ?_
    refine st (ev_move rfl) rfl rfl rfl ?_
    refine st (ev_assign rfl) rfl rfl rfl ?_
    refine op_nil ?_
    refine ax_then ?_
    refine At.regs (L' := [(4, _)]) (.cons rfl (.nil _)) ?_
    refine cd_ret ?_
    refine rt_tmp (.inl rfl) Try.results27 rfl ?_
    exact fun w1 sw => ⟨(b12, v), trivial, rfl, (sw.gives (N := [(12, _), (20, _)]) (.cons rfl (.cons rfl (.nil _)))).rn2 (by decide) 0 1⟩
set_option maxRecDepth 20000 in
set_option maxHeartbeats 4000000 in
theorem rsignk_any (b : Nat) (v q : Value) (s m : List Int) (n : Nat) (w : World) (hl : s.length = 32) (hn : n < 16) (hm : m.length ≤ 140737488352000) (hb : w.heap[b]? = some (.cells (Ky.rcells s v (Ky.keyPub s) ((n : Int))).toArray 55)) (h : Rd w v 32 (flat (Ky.leaves s 16))) (hbv : FE.off b (.sl (v) 32 (flat (Ky.leaves s 16)))) (h' : Rd w q 1 (ints .u8 m)) (hbq : FE.off b (.sl (q) 1 (ints .u8 (m)))) : Calls Try.prog 30 #[.pointer (some ⟨b, 0, none⟩), q] w (Post (ι := Value × Value) w [b] (fun _ => True) (fun x => .tuple #[.agg (List.toArray [.int .i64 (n : Int), x.1, x.2]), .int .i64 0]) (fun x => [(0, .blk (b) (.cells (Ky.rcells s v (Ky.keyPub s) (((n + 1 : Nat) : Int))).toArray 55)), (1, .own (x.1) 39 32 (flat (sign s n m 36))), (2, .own (x.2) 39 32 (flat (path (Ky.leaves s 16) n)))])) := by
  have hlu := Ky.leaves_h32 s 16
  have hll := Ky.leaves_len s 16
  refine calls_at (vs := [.pointer (some ⟨b, 0, none⟩), q]) (X := [b]) (H := [(0, .blk (b) (.cells (Ky.rcells s v (Ky.keyPub s) ((n : Int))).toArray 55))]) (F := [(2, .sl (q) 1 (ints .u8 (m))), (1, .sl (v) 32 (flat (Ky.leaves s 16)))]) 45 Try.func30 rfl rfl rfl (((Sat.blkX 0 hb).readb (f := .sl (v) 32 (flat (Ky.leaves s 16))) 1 h hbv).readb (f := .sl (q) 1 (ints .u8 (m))) 2 h' hbq) ?_
  refine cd_seq ?_
  refine cd_region ?_
  refine st_alloc (h := 4) ty42 rfl rfl rfl (fun b4 => ?_)
  refine st (ev_assign rfl) rfl rfl rfl ?_
  refine op_nil ?_
  refine ax_then ?_
  refine At.regs (L' := [(0, _), (1, _), (4, _), (5, _)]) (.cons rfl (.cons rfl (.cons rfl (.cons rfl (.nil _))))) ?_
  refine cd_seq ?_
  refine cd_seq ?_
  refine cd_region ?_
  refine st (ev_move rfl) rfl rfl rfl ?_
  refine st (ev_nilCheck rfl) rfl rfl rfl ?_
  refine st (ev_fieldAddr (b := _) Try.underlying55 (f := _) rfl ty3 (by decide) rfl) rfl rfl rfl ?_
  refine st (ld_blk1 (h := 0) ty3 rfl rfl rfl (Ky.rcells_65 hl (Ky.keyPub_len s) _ _)) rfl rfl rfl ?_
  refine st (ev_geq rfl rfl) rfl rfl rfl ?_
  refine op_nil ?_
  refine ax_then ?_
  refine At.regs (L' := [(0, _), (1, _), (4, _), (5, _), (11, _)]) (.cons rfl (.cons rfl (.cons rfl (.cons rfl (.cons rfl (.nil _)))))) ?_
  refine cd_if_f rfl (by omega) ?_
  refine cd_skip ?_
  refine ax_then ?_
  refine At.regs (L' := [(0, _), (1, _), (4, _), (5, _)]) (.cons rfl (.cons rfl (.cons rfl (.cons rfl (.nil _))))) ?_
  refine cd_join (ι := Nat × Value × Value) (fun x => ((x.2.1.cells = #[x.2.1] ∧ x.2.1.oneCell' = true) ∧ (x.2.2.cells = #[x.2.2] ∧ x.2.2.oneCell' = true))) (fun x => [(0, .pointer (some ⟨b, 0, none⟩)), (4, .pointer (some ⟨b4, 0, none⟩)), (6, .pointer (some ⟨x.1, 0, none⟩))]) (fun x => [(0, .blk (b) (.cells (Ky.rcells s v (Ky.keyPub s) ((n : Int))).toArray 55)), (4, .blk (b4) (.cells ([.int .i64 0, .slice none 0 0, .slice none 0 0]).toArray 42)), (6, .blk (x.1) (.cells ([.int .i64 (n : Int), x.2.1, x.2.2]).toArray 42)), (26, .own (x.2.1) 39 32 (flat (sign s n m 36))), (35, .own (x.2.2) 39 32 (flat (path (Ky.leaves s 16) n)))]) (fun x => [(1, .sl (v) 32 (flat (Ky.leaves s 16))), (2, .sl (q) 1 (ints .u8 (m)))]) ?_ (fun x hj => ?_)
  ·
    refine cd_mixp [(300, .mem b 0 (Ky.rcells s v (Ky.keyPub s) ((n : Int)))), (2, .sl (q) 1 (ints .u8 (m))), (1, .sl (v) 32 (flat (Ky.leaves s 16)))] hmix ?_
    refine mxp (i := 0) rfl (by decide +kernel) (by decide +kernel) (by decide +kernel) rfl (fun w0 => ev_move rfl) rfl rfl (fun w sw => CF.cons (lies_blk (sw.blk_eq (h := 0) rfl)) (sw.cf (.refl _))) ?_
    refine mxp (i := 1) rfl (by decide +kernel) (by decide +kernel) (by decide +kernel) rfl (fun w0 => ev_nilCheck rfl) rfl rfl (fun w sw => CF.cons (lies_blk (sw.blk_eq (h := 0) rfl)) (sw.cf (.refl _))) ?_
    refine mxp (i := 2) rfl (by decide +kernel) (by decide +kernel) (by decide +kernel) rfl (fun w0 => ev_fieldAddr (b := _) Try.underlying55 (f := _) rfl ty3 (by decide) rfl) rfl rfl (fun w sw => CF.cons (lies_blk (sw.blk_eq (h := 0) rfl)) (sw.cf (.refl _))) ?_
    refine mxp (i := 3) rfl (by decide +kernel) (by decide +kernel) (by decide +kernel) rfl (fun w0 => ld_mem1 (h := 300) ty3 rfl rfl rfl (Nat.zero_add _).symm (Ky.rcells_65 hl (Ky.keyPub_len s) _ _)) rfl rfl (fun w sw => CF.cons (lies_blk (sw.blk_eq (h := 0) rfl)) (sw.cf (.refl _))) ?_
    refine mxp (i := 4) rfl (by decide +kernel) (by decide +kernel) (by decide +kernel) rfl (fun w0 => ev_move rfl) rfl rfl (fun w sw => CF.cons (lies_blk (sw.blk_eq (h := 0) rfl)) (sw.cf (.refl _))) ?_
    refine mxp (i := 5) rfl (by decide +kernel) (by decide +kernel) (by decide +kernel) rfl (fun w0 => ev_nilCheck rfl) rfl rfl (fun w sw => CF.cons (lies_blk (sw.blk_eq (h := 0) rfl)) (sw.cf (.refl _))) ?_
    refine mxp (i := 6) rfl (by decide +kernel) (by decide +kernel) (by decide +kernel) rfl (fun w0 => ev_fieldAddr (b := _) Try.underlying55 (f := _) rfl ty39 (by decide) rfl) rfl rfl (fun w sw => CF.cons (lies_blk (sw.blk_eq (h := 0) rfl)) (sw.cf (.refl _))) ?_
    refine mxp (i := 7) rfl (by decide +kernel) (by decide +kernel) (by decide +kernel) rfl (fun w0 => ld_mem (h := 300) (k := 0) ty39 rfl rfl rfl rfl (by rw [Ky.rcells_len hl (Ky.keyPub_len s)]; decide)) rfl rfl (fun w sw => CF.cons (lies_blk (sw.blk_eq (h := 0) rfl)) (sw.cf (.refl _))) ?_
    refine at_eq (i := 20) (v' := .agg (ints .u8 (s)).toArray) rfl (congrArg (fun x => Value.agg (List.toArray x)) (Ky.rcells_seed hl _ _)) ?_
    refine mxp (i := 8) rfl (by decide +kernel) (by decide +kernel) (by decide +kernel) rfl (fun w0 => ev_move rfl) rfl rfl (fun w sw => CF.cons (lies_blk (sw.blk_eq (h := 0) rfl)) (sw.cf (.refl _))) ?_
    refine mxp (i := 9) rfl (by decide +kernel) (by decide +kernel) (by decide +kernel) rfl (fun w0 => ev_nilCheck rfl) rfl rfl (fun w sw => CF.cons (lies_blk (sw.blk_eq (h := 0) rfl)) (sw.cf (.refl _))) ?_
    refine mxp (i := 10) rfl (by decide +kernel) (by decide +kernel) (by decide +kernel) rfl (fun w0 => ev_fieldAddr (b := _) Try.underlying55 (f := _) rfl ty3 (by decide) rfl) rfl rfl (fun w sw => CF.cons (lies_blk (sw.blk_eq (h := 0) rfl)) (sw.cf (.refl _))) ?_
    refine mxp (i := 11) rfl (by decide +kernel) (by decide +kernel) (by decide +kernel) rfl (fun w0 => ld_mem1 (h := 300) ty3 rfl rfl rfl (Nat.zero_add _).symm (Ky.rcells_65 hl (Ky.keyPub_len s) _ _)) rfl rfl (fun w sw => CF.cons (lies_blk (sw.blk_eq (h := 0) rfl)) (sw.cf (.refl _))) ?_
    refine mxp (i := 12) rfl (by decide +kernel) (by decide +kernel) (by decide +kernel) rfl (fun w0 => ev_move rfl) rfl rfl (fun w sw => CF.cons (lies_blk (sw.blk_eq (h := 0) rfl)) (sw.cf (.refl _))) ?_
    refine mxp (i := 14) rfl (by decide +kernel) (by decide +kernel) (by decide +kernel) rfl (fun w0 => ev_move rfl) rfl rfl (fun w sw => CF.cons (lies_blk (sw.blk_eq (h := 0) rfl)) (sw.cf (.refl _))) ?_
    refine mxp (i := 15) rfl (by decide +kernel) (by decide +kernel) (by decide +kernel) rfl (fun w0 => ev_nilCheck rfl) rfl rfl (fun w sw => CF.cons (lies_blk (sw.blk_eq (h := 0) rfl)) (sw.cf (.refl _))) ?_
    refine mxp (i := 16) rfl (by decide +kernel) (by decide +kernel) (by decide +kernel) rfl (fun w0 => ev_fieldAddr (b := _) Try.underlying55 (f := _) rfl ty26 (by decide) rfl) rfl rfl (fun w sw => CF.cons (lies_blk (sw.blk_eq (h := 0) rfl)) (sw.cf (.refl _))) ?_
    refine mxp (i := 17) rfl (by decide +kernel) (by decide +kernel) (by decide +kernel) rfl (fun w0 => ld_mem1 (h := 300) ty26 rfl rfl rfl (Nat.zero_add _).symm (Ky.rcells_32 hl _ _)) rfl rfl (fun w sw => CF.cons (lies_blk (sw.blk_eq (h := 0) rfl)) (sw.cf (.refl _))) ?_
    refine mxp (i := 18) rfl (by decide +kernel) (by decide +kernel) (by decide +kernel) rfl (fun w0 => ev_move rfl) rfl rfl (fun w sw => CF.cons (lies_blk (sw.blk_eq (h := 0) rfl)) (sw.cf (.refl _))) ?_
    refine mxp (i := 19) rfl (by decide +kernel) (by decide +kernel) (by decide +kernel) rfl (fun w0 => ev_nilCheck rfl) rfl rfl (fun w sw => CF.cons (lies_blk (sw.blk_eq (h := 0) rfl)) (sw.cf (.refl _))) ?_
    refine mxp (i := 20) rfl (by decide +kernel) (by decide +kernel) (by decide +kernel) rfl (fun w0 => ev_fieldAddr (b := _) Try.underlying55 (f := _) rfl ty3 (by decide) rfl) rfl rfl (fun w sw => CF.cons (lies_blk (sw.blk_eq (h := 0) rfl)) (sw.cf (.refl _))) ?_
    refine mxp (i := 21) rfl (by decide +kernel) (by decide +kernel) (by decide +kernel) rfl (fun w0 => ld_mem1 (h := 300) ty3 rfl rfl rfl (Nat.zero_add _).symm (Ky.rcells_65 hl (Ky.keyPub_len s) _ _)) rfl rfl (fun w sw => CF.cons (lies_blk (sw.blk_eq (h := 0) rfl)) (sw.cf (.refl _))) ?_
    refine mxp_two (i := 13) (j := 24) (by decide +kernel) (fun w sw => CF.cons (lies_blk (sw.blk_eq (h := 0) rfl)) (sw.cf (.refl _))) ?_ ?_
    ·
      refine wo (i := 13) rfl ?_
      refine st_call has54 rfl (fun w1 sw => rn 26 (rsign_any s n q m w1 (by first | rfl | assumption) (by first | decide | omega) (sw.sl_rd (h := 2) rfl))) nil_all rfl rfl (fun v26 _ => ?_)
      have hsu26 := sign_h32 s n m 36
      have hsn26 := sign_len s n m 36
      refine at_own_shape (h := 26) rfl (fun hs26 => ?_)
      refine op_nil ?_
      refine ax_then ?_
      refine mxp_two (i := 22) (j := 24) (by decide +kernel) (fun w sw => CF.cons (lies_blk (sw.blk_eq (h := 0) rfl)) (sw.cf (.refl _))) ?_ ?_
      ·
        refine wo (i := 22) rfl ?_
        refine st_call has55 rfl (fun w1 sw => rn 35 (rpath_any v (Ky.leaves s 16) (n : Int) w1 hlu (by rw [hll]; decide) (by omega) (sw.sl_rd (h := 1) rfl))) nil_all rfl rfl (fun v35 _ => ?_)
        refine at_own_shape (h := 35) rfl (fun hs35 => ?_)
        refine op_nil ?_
        refine ax_then ?_
        refine mxp (i := 23) rfl (by decide +kernel) (by decide +kernel) (by decide +kernel) rfl (fun w0 => ev_build_struct ty42 rfl pl42 rfl ((fill_put (i := 0) (off := 0) (n := 1) (vs := [.int .i64 (n : Int)]) rfl rfl rfl (Nat.le_of_ble_eq_true rfl)).trans ((fill_put (i := 1) (off := 1) (n := 1) (vs := [v26]) rfl hs26.1 rfl (Nat.le_of_ble_eq_true rfl)).trans ((fill_put (i := 2) (off := 2) (n := 1) (vs := [v35]) rfl hs35.1 rfl (Nat.le_of_ble_eq_true rfl)).trans fill_nil)))) rfl rfl (fun w sw => CF.cons (lies_blk (sw.blk_eq (h := 0) rfl)) (sw.cf (.refl _))) ?_
        refine at_eq (i := 36) (v' := .agg (List.toArray [.int .i64 (n : Int), v26, v35])) rfl rfl ?_
        refine mxp_one (i := 24) (by decide +kernel) (fun w sw => CF.cons (lies_blk (sw.blk_eq (h := 0) rfl)) (sw.cf (.refl _))) ?_
        refine wo (i := 24) rfl ?_
        refine st_alloc (h := 6) ty42 rfl rfl rfl (fun b6 => ?_)
        refine op_nil ?_
        refine ax_then ?_
        refine mxp_one (i := 25) (by decide +kernel) (fun w sw => CF.cons (lies_blk (sw.blk_eq (h := 0) rfl)) (sw.cf (.refl _))) ?_
        refine wo (i := 25) rfl ?_
        refine st_store_all 6 ty42 rfl rfl rfl rfl rfl (by intro u hu; simp at hu; rcases hu with rfl | rfl | rfl; rfl; exact hs26.2; exact hs35.2) rfl rfl ?_
        refine op_nil ?_
        refine ax_then ?_
        refine mxp_done (by decide +kernel) (fun w sw => CF.cons (lies_blk (sw.blk_eq (h := 0) rfl)) (sw.cf (.refl _))) ?_
        exact at_met ((b6, v26, v35)) (⟨hs26, hs35⟩) (.cons rfl (.cons rfl (.cons rfl (.nil _)))) (.cons rfl (.cons rfl (.cons rfl (.cons rfl (.cons rfl (.nil _)))))) (.cons rfl (.cons rfl (.nil _)))
      ·
        refine wo (i := 24) rfl ?_
        refine st_alloc (h := 6) ty42 rfl rfl rfl (fun b6 => ?_)
        refine op_nil ?_
        refine ax_then ?_
        refine mxp_one (i := 22) (by decide +kernel) (fun w sw => CF.cons (lies_blk (sw.blk_eq (h := 0) rfl)) (sw.cf (.refl _))) ?_
        refine wo (i := 22) rfl ?_
        refine st_call has55 rfl (fun w1 sw => rn 35 (rpath_any v (Ky.leaves s 16) (n : Int) w1 hlu (by rw [hll]; decide) (by omega) (sw.sl_rd (h := 1) rfl))) nil_all rfl rfl (fun v35 _ => ?_)
        refine at_own_shape (h := 35) rfl (fun hs35 => ?_)
        refine op_nil ?_
        refine ax_then ?_
        refine mxp (i := 23) rfl (by decide +kernel) (by decide +kernel) (by decide +kernel) rfl (fun w0 => ev_build_struct ty42 rfl pl42 rfl ((fill_put (i := 0) (off := 0) (n := 1) (vs := [.int .i64 (n : Int)]) rfl rfl rfl (Nat.le_of_ble_eq_true rfl)).trans ((fill_put (i := 1) (off := 1) (n := 1) (vs := [v26]) rfl hs26.1 rfl (Nat.le_of_ble_eq_true rfl)).trans ((fill_put (i := 2) (off := 2) (n := 1) (vs := [v35]) rfl hs35.1 rfl (Nat.le_of_ble_eq_true rfl)).trans fill_nil)))) rfl rfl (fun w sw => CF.cons (lies_blk (sw.blk_eq (h := 0) rfl)) (sw.cf (.refl _))) ?_
        refine at_eq (i := 36) (v' := .agg (List.toArray [.int .i64 (n : Int), v26, v35])) rfl rfl ?_
        refine mxp_one (i := 25) (by decide +kernel) (fun w sw => CF.cons (lies_blk (sw.blk_eq (h := 0) rfl)) (sw.cf (.refl _))) ?_
        refine wo (i := 25) rfl ?_
        refine st_store_all 6 ty42 rfl rfl rfl rfl rfl (by intro u hu; simp at hu; rcases hu with rfl | rfl | rfl; rfl; exact hs26.2; exact hs35.2) rfl rfl ?_
        refine op_nil ?_
        refine ax_then ?_
        refine mxp_done (by decide +kernel) (fun w sw => CF.cons (lies_blk (sw.blk_eq (h := 0) rfl)) (sw.cf (.refl _))) ?_
        exact at_met ((b6, v26, v35)) (⟨hs26, hs35⟩) (.cons rfl (.cons rfl (.cons rfl (.nil _)))) (.cons rfl (.cons rfl (.cons rfl (.cons rfl (.cons rfl (.nil _)))))) (.cons rfl (.cons rfl (.nil _)))
    ·
      refine wo (i := 24) rfl ?_
      refine st_alloc (h := 6) ty42 rfl rfl rfl (fun b6 => ?_)
      refine op_nil ?_
      refine ax_then ?_
      refine mxp_one (i := 13) (by decide +kernel) (fun w sw => CF.cons (lies_blk (sw.blk_eq (h := 0) rfl)) (sw.cf (.refl _))) ?_
      refine wo (i := 13) rfl ?_
      refine st_call has54 rfl (fun w1 sw => rn 26 (rsign_any s n q m w1 (by first | rfl | assumption) (by first | decide | omega) (sw.sl_rd (h := 2) rfl))) nil_all rfl rfl (fun v26 _ => ?_)
      have hsu26 := sign_h32 s n m 36
      have hsn26 := sign_len s n m 36
      refine at_own_shape (h := 26) rfl (fun hs26 => ?_)
      refine op_nil ?_
      refine ax_then ?_
      refine mxp_one (i := 22) (by decide +kernel) (fun w sw => CF.cons (lies_blk (sw.blk_eq (h := 0) rfl)) (sw.cf (.refl _))) ?_
      refine wo (i := 22) rfl ?_
      refine st_call has55 rfl (fun w1 sw => rn 35 (rpath_any v (Ky.leaves s 16) (n : Int) w1 hlu (by rw [hll]; decide) (by omega) (sw.sl_rd (h := 1) rfl))) nil_all rfl rfl (fun v35 _ => ?_)
      refine at_own_shape (h := 35) rfl (fun hs35 => ?_)
      refine op_nil ?_
      refine ax_then ?_
      refine mxp (i := 23) rfl (by decide +kernel) (by decide +kernel) (by decide +kernel) rfl (fun w0 => ev_build_struct ty42 rfl pl42 rfl ((fill_put (i := 0) (off := 0) (n := 1) (vs := [.int .i64 (n : Int)]) rfl rfl rfl (Nat.le_of_ble_eq_true rfl)).trans ((fill_put (i := 1) (off := 1) (n := 1) (vs := [v26]) rfl hs26.1 rfl (Nat.le_of_ble_eq_true rfl)).trans ((fill_put (i := 2) (off := 2) (n := 1) (vs := [v35]) rfl hs35.1 rfl (Nat.le_of_ble_eq_true rfl)).trans fill_nil)))) rfl rfl (fun w sw => CF.cons (lies_blk (sw.blk_eq (h := 0) rfl)) (sw.cf (.refl _))) ?_
      refine at_eq (i := 36) (v' := .agg (List.toArray [.int .i64 (n : Int), v26, v35])) rfl rfl ?_
      refine mxp_one (i := 25) (by decide +kernel) (fun w sw => CF.cons (lies_blk (sw.blk_eq (h := 0) rfl)) (sw.cf (.refl _))) ?_
      refine wo (i := 25) rfl ?_
      refine st_store_all 6 ty42 rfl rfl rfl rfl rfl (by intro u hu; simp at hu; rcases hu with rfl | rfl | rfl; rfl; exact hs26.2; exact hs35.2) rfl rfl ?_
      refine op_nil ?_
      refine ax_then ?_
      refine mxp_done (by decide +kernel) (fun w sw => CF.cons (lies_blk (sw.blk_eq (h := 0) rfl)) (sw.cf (.refl _))) ?_
      exact at_met ((b6, v26, v35)) (⟨hs26, hs35⟩) (.cons rfl (.cons rfl (.cons rfl (.nil _)))) (.cons rfl (.cons rfl (.cons rfl (.cons rfl (.cons rfl (.nil _)))))) (.cons rfl (.cons rfl (.nil _)))
  ·
    obtain ⟨b6, v26, v35⟩ := x
    dsimp only at hj ⊢
    obtain ⟨hs26, hs35⟩ := hj
    refine cd_seq ?_
    refine cd_region ?_
    refine st (ev_move rfl) rfl rfl rfl ?_
    refine st (ev_nilCheck rfl) rfl rfl rfl ?_
    refine st (ev_fieldAddr (b := _) Try.underlying55 (f := _) rfl ty3 (by decide) rfl) rfl rfl rfl ?_
    refine st (ld_blk1 (h := 0) ty3 rfl rfl rfl (Ky.rcells_65 hl (Ky.keyPub_len s) _ _)) rfl rfl rfl ?_
    refine st (ev_add64 rfl rfl (by omega) (by omega)) rfl rfl rfl ?_
    refine st (ev_nilCheck rfl) rfl rfl rfl ?_
    refine st (ev_fieldAddr (b := _) Try.underlying55 (f := _) rfl ty3 (by decide) rfl) rfl rfl rfl ?_
    refine st_store1 0 ty3 rfl rfl rfl rfl (by rw [Ky.rcells_len hl (Ky.keyPub_len s)]; decide) rfl ?_
    refine at_heq (i := 0) (v' := .blk (b) (.cells (Ky.rcells s v (Ky.keyPub s) (((n + 1 : Nat) : Int))).toArray 55)) rfl (congrArg (fun l : List Value => Ent.blk b (.cells l.toArray 55)) (Ky.rcells_set65 hl (Ky.keyPub_len s) _ _ _)) ?_
    refine op_nil ?_
    refine ax_then ?_
    refine At.regs (L' := [(4, _), (6, _)]) (.cons rfl (.cons rfl (.nil _))) ?_
    refine cd_seq ?_
    refine cd_region ?_
    refine st (ld_blk_all (h := 6) ty42 rfl rfl rfl (by first | omega | (simp only [List.length_append, List.length_cons, List.length_nil, List.length_set, List.length_replicate, List.length_take, List.length_drop, ints_length, wr_length, sha_len, node_len, recov_len, Ky.named_len, Ky.keyPub_len] <;> omega) | rfl)) rfl rfl rfl ?_
    refine st_store_all 4 ty42 rfl rfl rfl rfl rfl (by intro u hu; simp at hu; rcases hu with rfl | rfl | rfl; rfl; exact hs26.2; exact hs35.2) rfl rfl ?_
    refine st (ev_assign rfl) rfl rfl rfl ?_
    refine op_nil ?_
    refine ax_then ?_
    refine At.regs (L' := [(4, _), (5, _)]) (.cons rfl (.cons rfl (.nil _))) ?_
    refine cd_ret ?_
    refine rt_cell_tmp (h0 := 4) (.inl rfl) Try.results30 ty42 rfl rfl rfl (by first | omega | (simp only [List.length_append, List.length_cons, List.length_nil, List.length_set, List.length_replicate, List.length_take, List.length_drop, ints_length, wr_length, sha_len, node_len, recov_len, Ky.named_len, Ky.keyPub_len] <;> omega) | rfl) rfl ?_
    exact fun w1 sw => ⟨(v26, v35), trivial, rfl, (sw.gives (N := [(0, _), (26, _), (35, _)]) (.cons rfl (.cons rfl (.cons rfl (.nil _))))).rn3 (by decide) (by decide) (by decide) 0 1 2⟩
end Go.Proofs.Yteedclmcgifmpaa

/- The statement's proof, part 6: what its walks and its plain laws need. -/
import Derived.Test.YteedclmcgifmpaaRows
import Derived.Tactics
import Derived.Deep.Quiet
import Derived.StillTail
import Derived.Laws.World
import Derived.Laws.Sem
import Derived.Laws.Entries
import Derived.Below
import Derived.Deep.LoopGhost
import Derived.Laws.BytesString
import Derived.Laws.IdiomStrings
import Derived.KernelRfl
import Derived.Carry
import Derived.OpenShut
import Derived.ProofKit
import Derived.ChangeSame
import Derived.HandedShaped
import Derived.SizedLaws
import Derived.Test.YteedclmcgifmpaaProg
import Derived.Test.YteedclmcgifmpaaXo5
namespace Go.Proofs.Yteedclmcgifmpaa.Qm
open Go Fw Sha Ots Mk Go.Proofs.Yteedclmcgifmpaa
set_option linter.unusedSimpArgs false
set_option linter.unusedVariables false
theorem mem_who (body : List Int) (ms : List Mark) (ks : List (List Int)) (h : List Int) : h ∈ who body ms ks ↔ h ∈ ks ∧ some4 body ms h := by
  have key : ∀ n, n ≤ ks.length → (h ∈ who body ms (ks.take n) ↔ h ∈ ks.take n ∧ some4 body ms h) := by
    intro n
    induction n with
    | zero => intro _; rw [List.take_zero]; exact ⟨fun hh => (by cases hh), fun hh => (by cases hh.1)⟩
    | succ n ih =>
      intro hn
      have ih := ih (by omega)
      rw [List.take_succ_eq_append_getElem (by omega), who_snoc]
      split
      · next hc =>
        rw [List.mem_append, List.mem_append, List.mem_singleton, ih]
        constructor
        · rintro (hh | rfl)
          · exact ⟨.inl hh.1, hh.2⟩
          · exact ⟨.inr rfl, hc.2⟩
        · rintro ⟨hh | hh, h2⟩
          · exact .inl ⟨hh, h2⟩
          · exact .inr hh
      · next hc =>
        rw [List.mem_append, List.mem_singleton, ih]
        constructor
        · rintro ⟨h1, h2⟩; exact ⟨.inl h1, h2⟩
        · rintro ⟨hh | rfl, h2⟩
          · exact ⟨hh, h2⟩
          · have h3 := Classical.byContradiction fun h4 => hc ⟨h4, h2⟩
            exact ih.1 h3
  have := key ks.length (Nat.le_refl _)
  rwa [List.take_length] at this
def someN (body : List Int) (ms : List Mark) (h : List Int) (n : Nat) : Prop := ∃ x, x ∈ ms.take n ∧ hits h body x
instance (body : List Int) (ms : List Mark) (h : List Int) (n : Nat) : Decidable (someN body ms h n) := by unfold someN; infer_instance
theorem someN_succ (body : List Int) {ms : List Mark} (h : List Int) {n : Nat} (hn : n < ms.length) : someN body ms h (n + 1) ↔ someN body ms h n ∨ hits h body ms[n] := by
  unfold someN
  rw [List.take_succ_eq_append_getElem hn]
  constructor
  · rintro ⟨x, hx, hh⟩
    rcases List.mem_append.1 hx with hx | hx
    · exact .inl ⟨x, hx, hh⟩
    · rw [List.mem_singleton.1 hx] at hh; exact .inr hh
  · rintro (⟨x, hx, hh⟩ | hh)
    · exact ⟨x, List.mem_append_left _ hx, hh⟩
    · exact ⟨_, List.mem_append_right _ (List.mem_singleton.2 rfl), hh⟩
theorem someN_zero (body : List Int) (ms : List Mark) (h : List Int) : ¬ someN body ms h 0 := by
  rintro ⟨x, hx, _⟩
  rw [List.take_zero] at hx
  cases hx
def fnd (body : List Int) (ms : List Mark) (ks : List (List Int)) (i j : Nat) : Prop := ks.getD i [] ∈ ks.take i ∨ someN body ms (ks.getD i []) j
instance (body : List Int) (ms : List Mark) (ks : List (List Int)) (i j : Nat) : Decidable (fnd body ms ks i j) := by unfold fnd; infer_instance
def lw (body : List Int) (ms : List Mark) (ks : List (List Int)) (i j : Nat) : List (List Int) := if ks.getD i [] ∉ ks.take i ∧ someN body ms (ks.getD i []) j then who body ms (ks.take i) ++ [ks.getD i []] else who body ms (ks.take i)
theorem lw_zero (body : List Int) (ms : List Mark) (ks : List (List Int)) (i : Nat) : lw body ms ks i 0 = who body ms (ks.take i) := by
  rw [lw, if_neg fun hh => someN_zero _ _ _ hh.2]
theorem fnd_zero (body : List Int) (ms : List Mark) (ks : List (List Int)) (i : Nat) : fnd body ms ks i 0 ↔ ks.getD i [] ∈ ks.take i := ⟨fun h => h.resolve_right (someN_zero _ _ _), .inl⟩
theorem lw_hit {body : List Int} {ms : List Mark} {ks : List (List Int)} {i j : Nat} (hn : ¬ fnd body ms ks i j) (hj : j < ms.length) (hh : hits (ks.getD i []) body ms[j]) : lw body ms ks i (j + 1) = lw body ms ks i j ++ [ks.getD i []] ∧ fnd body ms ks i (j + 1) := by
  have h1 := (someN_succ body (ks.getD i []) hj).2 (.inr hh)
  have h2 : ks.getD i [] ∉ ks.take i := fun h => hn (.inl h)
  have h3 : ¬ someN body ms (ks.getD i []) j := fun h => hn (.inr h)
  exact ⟨by rw [lw, if_pos ⟨h2, h1⟩, lw, if_neg fun h => h3 h.2], .inr h1⟩
theorem lw_miss {body : List Int} {ms : List Mark} {ks : List (List Int)} {i j : Nat} (hj : j < ms.length) (hh : ¬ hits (ks.getD i []) body ms[j]) : lw body ms ks i (j + 1) = lw body ms ks i j ∧ (fnd body ms ks i (j + 1) ↔ fnd body ms ks i j) := by
  have h1 : someN body ms (ks.getD i []) (j + 1) ↔ someN body ms (ks.getD i []) j := (someN_succ body (ks.getD i []) hj).trans ⟨fun h => h.resolve_right hh, .inl⟩
  refine ⟨?_, by rw [fnd, fnd, h1]⟩
  rw [lw, lw]
  by_cases h2 : ks.getD i [] ∉ ks.take i ∧ someN body ms (ks.getD i []) j
  · rw [if_pos h2, if_pos ⟨h2.1, h1.2 h2.2⟩]
  · rw [if_neg h2, if_neg fun h => h2 ⟨h.1, h1.1 h.2⟩]
theorem lw_end {body : List Int} {ms : List Mark} {ks : List (List Int)} {i j : Nat} (hi : i < ks.length) (h4 : j ≤ 4) (h : ms.length ≤ j ∨ 4 ≤ j ∨ fnd body ms ks i j) : lw body ms ks i j = who body ms (ks.take (i + 1)) := by
  have hg : ks[i] = ks.getD i [] := by rw [List.getD_eq_getElem?_getD, List.getElem?_eq_getElem hi]; rfl
  rw [List.take_succ_eq_append_getElem hi, who_snoc, hg, lw]
  have up : someN body ms (ks.getD i []) j → some4 body ms (ks.getD i []) := by
    rintro ⟨x, hx, hh⟩
    refine ⟨x, ?_, hh⟩
    have : ms.take j = (ms.take 4).take j := by rw [List.take_take, Nat.min_eq_left h4]
    rw [this] at hx
    exact List.mem_of_mem_take hx
  by_cases hm : ks.getD i [] ∈ ks.take i
  · rw [if_neg fun hh => hh.1 hm, if_neg]
    rintro ⟨h1, h2⟩
    exact h1 ((mem_who _ _ _ _).2 ⟨hm, h2⟩)
  · have h1 : ks.getD i [] ∉ who body ms (ks.take i) := fun hh => hm ((mem_who _ _ _ _).1 hh).1
    have h2 : someN body ms (ks.getD i []) j ↔ some4 body ms (ks.getD i []) := by
      refine ⟨up, fun hs => ?_⟩
      rcases h with h | h | h
      · obtain ⟨x, hx, hh⟩ := hs
        exact ⟨x, by rw [List.take_of_length_le h]; exact List.mem_of_mem_take hx, hh⟩
      · obtain rfl : j = 4 := by omega
        exact hs
      · exact h.resolve_left hm
    by_cases h3 : some4 body ms (ks.getD i [])
    · rw [if_pos ⟨hm, h2.2 h3⟩, if_pos ⟨h1, h3⟩]
    · rw [if_neg fun hh => h3 (h2.1 hh.2), if_neg fun hh => h3 hh.2]
theorem mem_take_succ {ks : List (List Int)} {j : Nat} (hj : j < ks.length) (h : List Int) : h ∈ ks.take (j + 1) ↔ h ∈ ks.take j ∨ ks.getD j [] = h := by
  have hg : ks[j] = ks.getD j [] := by rw [List.getD_eq_getElem?_getD, List.getElem?_eq_getElem hj]; rfl
  rw [List.take_succ_eq_append_getElem hj, List.mem_append, List.mem_singleton, hg]
  exact or_congr Iff.rfl ⟨Eq.symm, Eq.symm⟩
theorem lw_h32 {body : List Int} {ms : List Mark} {ks : List (List Int)} (hu : H32 ks) {i j : Nat} (hi : i < ks.length) : H32 (lw body ms ks i j) ∧ (lw body ms ks i j).length ≤ i + 1 := by
  have hw := who_h32 body ms (hu.take i)
  have h1 : (ks.take i).length ≤ i := by rw [List.length_take]; omega
  rw [lw]
  split
  · exact ⟨hw.1.snoc (hu.get hi), by rw [List.length_append]; simp; omega⟩
  · exact ⟨hw.1, by omega⟩
theorem eqK_not {ks : List (List Int)} {need : Int} {i j : Nat} (hj : j < i) (hi : i < ks.length) (h : ks.getD i [] = ks.getD j []) : ¬ isK ks need := fun hh => by
  have h1 : outK ks need (i + 1) := ⟨hh.2, fun a ha => hh.1 a (by omega)⟩
  exact ((innK_all hi).2 h1).2 j hj h
theorem mflat_key {ms : List Mark} {i : Nat} (h : AOk ms) (hi : i < ms.length) : ((mflat ms).drop (i * 35 + 0)).take 32 = ints .u8 ms[i].key := by
  have h1 := mflat_get h hi
  have h2 := mkey (h ms[i] (List.getElem_mem hi))
  rw [← h1, List.drop_take, List.take_take, List.drop_drop] at h2
  exact h2
theorem mflat_sig {ms : List Mark} {i : Nat} (h : AOk ms) (hi : i < ms.length) : ((mflat ms).drop (i * 35 + 32)).take 3 = [.int .i64 ms[i].leaf, ms[i].vc, ms[i].vp] := by
  have h1 := mflat_get h hi
  have h2 := msig (h ms[i] (List.getElem_mem hi))
  rw [← h1, List.drop_take, List.take_take, List.drop_drop] at h2
  exact h2
end Go.Proofs.Yteedclmcgifmpaa.Qm

namespace Go.Proofs.Yteedclmcgifmpaa.Qm
open Go Fw Sha Ots Mk Go.Proofs.Yteedclmcgifmpaa
set_option linter.unusedSimpArgs false
set_option linter.unusedVariables false
theorem bits3 : bit 3 0 ∧ bit 3 1 ∧ ¬ bit 3 2 := by decide +kernel
theorem two_of {body : List Int} {ms : List Mark} (h : ms.map strip = expd body 3 false 3) : ∃ m0 m1, ms = [m0, m1] ∧ strip m0 = exp1 body 0 0 ∧ strip m1 = exp1 body 1 0 := by
  have e : expd body 3 false 3 = [exp1 body 0 0, exp1 body 1 0] := by
    simp only [expd, step, if_pos bits3.1, if_pos bits3.2.1, if_neg bits3.2.2]
    simp
  rw [e] at h
  have hl : ms.length = 2 := by have := congrArg List.length h; simpa using this
  match ms, hl, h with
  | [m0, m1], _, h =>
    simp only [List.map_cons, List.map_nil, List.cons.injEq, and_true] at h
    exact ⟨m0, m1, rfl, h.1, h.2⟩
theorem meets_two {body : List Int} {ms : List Mark} (h : ms.map strip = expd body 3 false 3) : meets body ms (keysK 3) 1 := by
  rw [meets_cnt unlike h (by decide) (by decide)]
  have : cnt 3 = 2 := by simp only [cnt, if_pos bits3.1, if_pos bits3.2.1, if_neg bits3.2.2]
  rw [this]
  decide
/-- under the other's name -/
def asK (k : List Int) (m : Mark) : Mark := ⟨k, m.leaf, m.vc, m.vp, m.cs, m.ps⟩
theorem who_as {body : List Int} {m0 m1 : Mark} (h0 : strip m0 = exp1 body 0 0) (h1 : strip m1 = exp1 body 1 0) : who body [asK (Ky.keyPub (sd 1)) m0, asK (Ky.keyPub (sd 0)) m1] (keysK 3) = [] := by
  have key : ∀ (i j : Nat) (m : Mark), i < 3 → j < 3 → i ≠ j → strip m = exp1 body i 0 → ¬ hits (Ky.keyPub (sd j)) body (asK (Ky.keyPub (sd j)) m) := by
    intro i j m hi hj hne hm hh
    simp only [strip, exp1, Prod.mk.injEq] at hm
    have h2 : Ky.verP (Ky.keyPub (sd j)) body m.leaf m.cs m.ps := hh.2
    rw [hm.2.1, hm.2.2.1, hm.2.2.2] at h2
    have h3 := Ky.ver_sign (sd i) body (n := 0) (by decide)
    exact hne (unlike i j hi hj (h3.2.symm.trans h2.2))
  rw [List.eq_nil_iff_forall_not_mem]
  intro h hh
  obtain ⟨_, x, hx, hx2⟩ := (mem_who _ _ _ _).1 hh
  have hx := List.mem_of_mem_take hx
  simp only [List.mem_cons, List.not_mem_nil, or_false] at hx
  rcases hx with rfl | rfl
  · have e : Ky.keyPub (sd 1) = h := hx2.1
    subst e
    exact key 0 1 m0 (by decide) (by decide) (by decide) h0 hx2
  · have e : Ky.keyPub (sd 0) = h := hx2.1
    subst e
    exact key 1 0 m1 (by decide) (by decide) (by decide) h1 hx2
theorem aok_as {m : Mark} {k : List Int} (hk : k.length = 32) (h : MOk m) : MOk (asK k m) := ⟨hk, h.2⟩
end Go.Proofs.Yteedclmcgifmpaa.Qm

namespace Go.Proofs.Yteedclmcgifmpaa
open Go Go.RowKit Fw
open Sha
open Ots
open Mk
set_option linter.unusedVariables false
set_option linter.unusedSimpArgs false
set_option maxRecDepth 20000 in
set_option maxHeartbeats 2000000 in
theorem riskeys_any (sv : Value) (ks : List (List Int)) (need : Int) (w : World) (hu : H32 ks) (hs0 : ks.length ≤ 140737488352000) (h : Rd w sv 32 (flat ks)) : Calls Try.prog 22 #[.agg (List.toArray [sv, .int .i64 need])] w (PostV w (.bool (decide (isK ks need)))) := by
  refine calls_at (vs := [.agg (List.toArray [sv, .int .i64 need])]) (X := []) (H := []) (F := [(20, .sl (sv) 32 (flat (ks)))]) 51 Try.func22 rfl rfl rfl (Sat.rd0 20 h) ?_
  refine cd_seq ?_
  refine cd_region ?_
  refine st_box (h := 1) rfl rfl rfl rfl (fun b1 => ?_)
  refine st (ev_assign rfl) rfl rfl rfl ?_
  refine op_nil ?_
  refine ax_then ?_
  refine At.regs (L' := [(1, _), (2, _)]) (.cons rfl (.cons rfl (.nil _))) ?_
  refine cd_seq ?_
  refine cd_seq ?_
  refine cd_region ?_
  refine st (ev_fieldAddr (b := _) Try.underlying28 (f := _) rfl ty26 (by decide) rfl) rfl rfl rfl ?_
  refine st (ld_blk1 (h := 1) ty26 rfl rfl rfl rfl) rfl rfl rfl ?_
  refine st (ev_len_rdh (h := 20) Try.underlying26 rfl rfl (by assumption)) rfl rfl rfl ?_
  refine st (ev_lss rfl rfl) rfl rfl rfl ?_
  refine st (ev_move rfl) rfl rfl rfl ?_
  refine at_split_if (i := 9) rfl (fun hg9 => ?_) (fun hg9 => ?_)
  ·
    refine st_skip rfl rfl rfl ?_
    refine st_skip rfl rfl rfl ?_
    refine st_skip rfl rfl rfl ?_
    refine st_skip rfl rfl rfl ?_
    refine st (ev_pick_t rfl rfl) rfl rfl rfl ?_
    refine st (ev_move rfl) rfl rfl rfl ?_
    refine st_skip rfl rfl rfl ?_
    refine st_skip rfl rfl rfl ?_
    refine st_skip rfl rfl rfl ?_
    refine st (ev_pick_t rfl rfl) rfl rfl rfl ?_
    refine st (ev_move rfl) rfl rfl rfl ?_
    refine st_skip rfl rfl rfl ?_
    refine st_skip rfl rfl rfl ?_
    refine st_skip rfl rfl rfl ?_
    refine st_skip rfl rfl rfl ?_
    refine st_skip rfl rfl rfl ?_
    refine st_skip rfl rfl rfl ?_
    refine st (ev_pick_t rfl rfl) rfl rfl rfl ?_
    refine op_nil ?_
    refine ax_then ?_
    refine At.regs (L' := [(1, _), (2, _), (27, _)]) (.cons rfl (.cons rfl (.cons rfl (.nil _)))) ?_
    refine cd_true rfl ?_
    refine cd_seq ?_
    refine cd_region ?_
    refine st (ev_assign rfl) rfl rfl rfl ?_
    refine op_nil ?_
    refine ax_then ?_
    refine At.regs (L' := [(1, _), (2, _)]) (.cons rfl (.cons rfl (.nil _))) ?_
    refine cd_ret ?_
    refine ax_then_ret ?_
    refine rt_tmp (.inl rfl) Try.results22 rfl ?_
    exact fun w1 sw => ⟨congrArg (fun b => Ending.returned (Value.bool b)) (decide_eq_false (fun hh => by obtain ⟨_, a1, a2, a3, a4⟩ := hh; omega)).symm, sw.gives (.nil _)⟩
  ·
    refine st (ev_fieldAddr (b := _) Try.underlying28 (f := _) rfl ty26 (by decide) rfl) rfl rfl rfl ?_
    refine st (ld_blk1 (h := 1) ty26 rfl rfl rfl rfl) rfl rfl rfl ?_
    refine st (ev_len_rdh (h := 20) Try.underlying26 rfl rfl (by assumption)) rfl rfl rfl ?_
    refine st (ev_gtr rfl rfl) rfl rfl rfl ?_
    refine st (ev_pick_f rfl rfl) rfl rfl rfl ?_
    refine st (ev_move rfl) rfl rfl rfl ?_
    refine at_split_if (i := 15) rfl (fun hg15 => ?_) (fun hg15 => ?_)
    ·
      refine st_skip rfl rfl rfl ?_
      refine st_skip rfl rfl rfl ?_
      refine st_skip rfl rfl rfl ?_
      refine st (ev_pick_t rfl rfl) rfl rfl rfl ?_
      refine st (ev_move rfl) rfl rfl rfl ?_
      refine st_skip rfl rfl rfl ?_
      refine st_skip rfl rfl rfl ?_
      refine st_skip rfl rfl rfl ?_
      refine st_skip rfl rfl rfl ?_
      refine st_skip rfl rfl rfl ?_
      refine st_skip rfl rfl rfl ?_
      refine st (ev_pick_t rfl rfl) rfl rfl rfl ?_
      refine op_nil ?_
      refine ax_then ?_
      refine At.regs (L' := [(1, _), (2, _), (27, _)]) (.cons rfl (.cons rfl (.cons rfl (.nil _)))) ?_
      refine cd_true rfl ?_
      refine cd_seq ?_
      refine cd_region ?_
      refine st (ev_assign rfl) rfl rfl rfl ?_
      refine op_nil ?_
      refine ax_then ?_
      refine At.regs (L' := [(1, _), (2, _)]) (.cons rfl (.cons rfl (.nil _))) ?_
      refine cd_ret ?_
      refine ax_then_ret ?_
      refine rt_tmp (.inl rfl) Try.results22 rfl ?_
      exact fun w1 sw => ⟨congrArg (fun b => Ending.returned (Value.bool b)) (decide_eq_false (fun hh => by obtain ⟨_, a1, a2, a3, a4⟩ := hh; omega)).symm, sw.gives (.nil _)⟩
    ·
      refine st (ev_fieldAddr (b := _) Try.underlying28 (f := _) rfl ty3 (by decide) rfl) rfl rfl rfl ?_
      refine st (ld_blk1 (h := 1) ty3 rfl rfl rfl rfl) rfl rfl rfl ?_
      refine st (ev_lss rfl rfl) rfl rfl rfl ?_
      refine st (ev_pick_f rfl rfl) rfl rfl rfl ?_
      refine st (ev_move rfl) rfl rfl rfl ?_
      refine at_split_if (i := 20) rfl (fun hg20 => ?_) (fun hg20 => ?_)
      ·
        refine st_skip rfl rfl rfl ?_
        refine st_skip rfl rfl rfl ?_
        refine st_skip rfl rfl rfl ?_
        refine st_skip rfl rfl rfl ?_
        refine st_skip rfl rfl rfl ?_
        refine st_skip rfl rfl rfl ?_
        refine st (ev_pick_t rfl rfl) rfl rfl rfl ?_
        refine op_nil ?_
        refine ax_then ?_
        refine At.regs (L' := [(1, _), (2, _), (27, _)]) (.cons rfl (.cons rfl (.cons rfl (.nil _)))) ?_
        refine cd_true rfl ?_
        refine cd_seq ?_
        refine cd_region ?_
        refine st (ev_assign rfl) rfl rfl rfl ?_
        refine op_nil ?_
        refine ax_then ?_
        refine At.regs (L' := [(1, _), (2, _)]) (.cons rfl (.cons rfl (.nil _))) ?_
        refine cd_ret ?_
        refine ax_then_ret ?_
        refine rt_tmp (.inl rfl) Try.results22 rfl ?_
        exact fun w1 sw => ⟨congrArg (fun b => Ending.returned (Value.bool b)) (decide_eq_false (fun hh => by obtain ⟨_, a1, a2, a3, a4⟩ := hh; omega)).symm, sw.gives (.nil _)⟩
      ·
        refine st (ev_fieldAddr (b := _) Try.underlying28 (f := _) rfl ty3 (by decide) rfl) rfl rfl rfl ?_
        refine st (ld_blk1 (h := 1) ty3 rfl rfl rfl rfl) rfl rfl rfl ?_
        refine st (ev_fieldAddr (b := _) Try.underlying28 (f := _) rfl ty26 (by decide) rfl) rfl rfl rfl ?_
        refine st (ld_blk1 (h := 1) ty26 rfl rfl rfl rfl) rfl rfl rfl ?_
        refine st (ev_len_rdh (h := 20) Try.underlying26 rfl rfl (by assumption)) rfl rfl rfl ?_
        refine st (ev_gtr rfl rfl) rfl rfl rfl ?_
        refine st (ev_pick_f rfl rfl) rfl rfl rfl ?_
        refine op_nil ?_
        refine ax_then ?_
        refine At.regs (L' := [(1, _), (2, _), (27, _)]) (.cons rfl (.cons rfl (.cons rfl (.nil _)))) ?_
        refine cd_if rfl (fun hc27 => ?_) (fun hc27 => ?_)
        ·
          refine cd_seq ?_
          refine cd_region ?_
          refine st (ev_assign rfl) rfl rfl rfl ?_
          refine op_nil ?_
          refine ax_then ?_
          refine At.regs (L' := [(1, _), (2, _)]) (.cons rfl (.cons rfl (.nil _))) ?_
          refine cd_ret ?_
          refine ax_then_ret ?_
          refine rt_tmp (.inl rfl) Try.results22 rfl ?_
          exact fun w1 sw => ⟨congrArg (fun b => Ending.returned (Value.bool b)) (decide_eq_false (fun hh => by obtain ⟨_, a1, a2, a3, a4⟩ := hh; omega)).symm, sw.gives (.nil _)⟩
        ·
          have hbas : bas ks need := ⟨by omega, by omega, by omega, by omega⟩
          refine cd_skip ?_
          refine ax_then ?_
          refine At.regs (L' := [(1, _), (2, _)]) (.cons rfl (.cons rfl (.nil _))) ?_
          refine cd_seq ?_
          refine cd_seq ?_
          refine cd_region ?_
          refine st (ev_assign rfl) rfl rfl rfl ?_
          refine op_nil ?_
          refine ax_then ?_
          refine At.regs (L' := [(1, _), (2, _), (3, _)]) (.cons rfl (.cons rfl (.cons rfl (.nil _)))) ?_
          refine cd_block ?_
          refine cd_loop (ι := Nat) (fun i => i ≤ ks.length ∧ outK ks need i) (fun i => ks.length - i)
              (fun i => [(1, .pointer (some ⟨b1, 0, none⟩)), (3, .int .i64 (i : Int))])
              (fun i => [(1, .blk b1 (.cells ([sv, .int .i64 need]).toArray 28))])
              (fun i => [(20, .sl (sv) 32 (flat (ks)))])
              0 (⟨by omega, hbas, fun a ha => by omega⟩) (.cons rfl (.cons rfl (.nil _))) (.cons rfl (.nil _)) (.cons rfl (.nil _)) (fun i hi => ?_)
          have hi1 := hi
          have e0 : (i : Int).toNat = i := by omega
          have hi2 := hi.1
          refine cd_seq ?_
          refine cd_seq ?_
          refine cd_region ?_
          refine st (ev_move rfl) rfl rfl rfl ?_
          refine st (ev_fieldAddr (b := _) Try.underlying28 (f := _) rfl ty26 (by decide) rfl) rfl rfl rfl ?_
          refine st (ld_blk1 (h := 1) ty26 rfl rfl rfl rfl) rfl rfl rfl ?_
          refine st (ev_len_rdh (h := 20) Try.underlying26 rfl rfl (by assumption)) rfl rfl rfl ?_
          refine st (ev_lss rfl rfl) rfl rfl rfl ?_
          refine op_nil ?_
          refine ax_then ?_
          refine At.regs (L' := [(1, _), (3, _), (28, _), (29, _), (30, _), (31, _), (32, _)]) (.cons rfl (.cons rfl (.cons rfl (.cons rfl (.cons rfl (.cons rfl (.cons rfl (.nil _)))))))) ?_
          refine cd_if rfl (fun hc32 => ?_) (fun hc32 => ?_)
          ·
            refine cd_skip ?_
            refine ax_then ?_
            refine At.regs (L' := [(1, _), (3, _), (28, _), (29, _), (30, _), (31, _), (32, _)]) (.cons rfl (.cons rfl (.cons rfl (.cons rfl (.cons rfl (.cons rfl (.cons rfl (.nil _)))))))) ?_
            refine cd_seq ?_
            refine cd_block ?_
            refine cd_seq ?_
            refine cd_region ?_
            refine st (ev_assign rfl) rfl rfl rfl ?_
            refine op_nil ?_
            refine ax_then ?_
            refine At.regs (L' := [(1, _), (3, _), (4, _), (28, _), (29, _), (30, _), (31, _), (32, _)]) (.cons rfl (.cons rfl (.cons rfl (.cons rfl (.cons rfl (.cons rfl (.cons rfl (.cons rfl (.nil _))))))))) ?_
            refine cd_block ?_
            refine cd_loop (ι := Nat) (fun j => j ≤ i ∧ ∀ b, b < j → ks.getD i [] ≠ ks.getD b []) (fun j => i - j)
                (fun j => [(1, .pointer (some ⟨b1, 0, none⟩)), (3, .int .i64 (i : Int)), (4, .int .i64 (j : Int))])
                (fun j => [(1, .blk b1 (.cells ([sv, .int .i64 need]).toArray 28))])
                (fun j => [(20, .sl (sv) 32 (flat (ks)))])
                0 (⟨by omega, fun b hb => by omega⟩) (.cons rfl (.cons rfl (.cons rfl (.nil _)))) (.cons rfl (.nil _)) (.cons rfl (.nil _)) (fun j hi => ?_)
            have e1 : (j : Int).toNat = j := by omega
            have hj2 := hi.1
            have hgi := hu.get (i := (i : Int).toNat) (by omega)
            have hgj : j < i → (ks.getD (j : Int).toNat []).length = 32 := fun hj => hu.get (by omega)
            refine cd_seq ?_
            refine cd_seq ?_
            refine cd_region ?_
            refine st (ev_move rfl) rfl rfl rfl ?_
            refine st (ev_move rfl) rfl rfl rfl ?_
            refine st (ev_lss rfl rfl) rfl rfl rfl ?_
            refine op_nil ?_
            refine ax_then ?_
            refine At.regs (L' := [(1, _), (3, _), (4, _), (35, _), (36, _), (37, _)]) (.cons rfl (.cons rfl (.cons rfl (.cons rfl (.cons rfl (.cons rfl (.nil _))))))) ?_
            refine cd_if rfl (fun hc37 => ?_) (fun hc37 => ?_)
            ·
              refine cd_skip ?_
              refine ax_then ?_
              refine At.regs (L' := [(1, _), (3, _), (4, _), (35, _), (36, _), (37, _)]) (.cons rfl (.cons rfl (.cons rfl (.cons rfl (.cons rfl (.cons rfl (.nil _))))))) ?_
              refine cd_seq ?_
              refine cd_block ?_
              refine cd_seq ?_
              have hgj2 := hgj (by omega)
              refine cd_open hmix (by decide +kernel) ?_
              refine qt (ev_fieldAddr (b := _) Try.underlying28 (f := _) rfl ty26 (by decide) rfl) rfl rfl rfl ?_
              refine qt (ld_blk1 (h := 1) ty26 rfl rfl rfl rfl) rfl rfl rfl ?_
              refine qt (ev_move rfl) rfl rfl rfl ?_
              refine qt (ev_indexAddr_rdh (h := 20) Try.underlying26 ty39 rfl rfl rfl (by assumption) (by omega) (by omega)) rfl rfl rfl ?_
              refine qt (ld_rdh (h := 20) ty39 rfl rfl rfl (by assumption) (by omega)) rfl rfl rfl ?_
              refine qt (ev_fieldAddr (b := _) Try.underlying28 (f := _) rfl ty26 (by decide) rfl) rfl rfl rfl ?_
              refine qt (ld_blk1 (h := 1) ty26 rfl rfl rfl rfl) rfl rfl rfl ?_
              refine qt (ev_move rfl) rfl rfl rfl ?_
              refine qt (ev_indexAddr_rdh (h := 20) Try.underlying26 ty39 rfl rfl rfl (by assumption) (by omega) (by omega)) rfl rfl rfl ?_
              refine qt (ld_rdh (h := 20) ty39 rfl rfl rfl (by assumption) (by omega)) rfl rfl rfl ?_
              refine qt (ev_eql_arr Try.underlying39 ty5 eqg39 rfl rfl (by first | omega | (simp only [List.length_append, List.length_cons, List.length_nil, List.length_set, List.length_replicate, List.length_take, List.length_drop, ints_length, wr_length, sha_len, node_len, recov_len, Ky.named_len, Ky.keyPub_len] <;> omega) | rfl) (by first | omega | (simp only [List.length_append, List.length_cons, List.length_nil, List.length_set, List.length_replicate, List.length_take, List.length_drop, ints_length, wr_length, sha_len, node_len, recov_len, Ky.named_len, Ky.keyPub_len] <;> omega) | rfl)) rfl rfl rfl ?_
              refine qt_end ?_
              refine op_nil ?_
              refine ax_then ?_
              refine At.regs (L' := [(1, _), (3, _), (4, _), (35, _), (36, _), (37, _), (40, _), (41, _), (42, _), (43, _), (44, _), (45, _), (46, _), (47, _), (48, _), (49, _), (50, _)]) (.cons rfl (.cons rfl (.cons rfl (.cons rfl (.cons rfl (.cons rfl (.cons rfl (.cons rfl (.cons rfl (.cons rfl (.cons rfl (.cons rfl (.cons rfl (.cons rfl (.cons rfl (.cons rfl (.cons rfl (.nil _)))))))))))))))))) ?_
              refine cd_if rfl (fun hc50 => ?_) (fun hc50 => ?_)
              ·
                refine cd_seq ?_
                refine cd_region ?_
                refine st (ev_assign rfl) rfl rfl rfl ?_
                refine op_nil ?_
                refine ax_then ?_
                refine At.regs (L' := [(1, _), (2, _), (3, _), (4, _), (35, _), (36, _), (37, _), (40, _), (41, _), (42, _), (43, _), (44, _), (45, _), (46, _), (47, _), (48, _), (49, _), (50, _)]) (.cons rfl (.cons rfl (.cons rfl (.cons rfl (.cons rfl (.cons rfl (.cons rfl (.cons rfl (.cons rfl (.cons rfl (.cons rfl (.cons rfl (.cons rfl (.cons rfl (.cons rfl (.cons rfl (.cons rfl (.cons rfl (.nil _))))))))))))))))))) ?_
                refine cd_ret ?_
                refine ax_block_ret ?_
                refine ax_then_ret ?_
                refine ax_then_ret ?_
                refine ax_block_ret ?_
                refine ax_block_ret ?_
                refine ax_then_ret ?_
                refine ax_then_ret ?_
                refine ax_block_ret ?_
                refine ax_then_ret ?_
                refine rt_tmp (.inl rfl) Try.results22 rfl ?_
                exact fun w1 sw => ⟨congrArg (fun b => Ending.returned (Value.bool b)) (decide_eq_false (Qm.eqK_not (i := i) (j := j) (by omega) (by omega) (by rw [e0, e1] at hc50; exact hc50))).symm, sw.gives (.nil _)⟩
              ·
                refine cd_skip ?_
                refine ax_block ?_
                refine ax_then ?_
                refine At.regs (L' := [(1, _), (3, _), (4, _), (35, _), (36, _), (37, _), (40, _), (41, _), (42, _), (43, _), (44, _), (45, _), (46, _), (47, _), (48, _), (49, _), (50, _)]) (.cons rfl (.cons rfl (.cons rfl (.cons rfl (.cons rfl (.cons rfl (.cons rfl (.cons rfl (.cons rfl (.cons rfl (.cons rfl (.cons rfl (.cons rfl (.cons rfl (.cons rfl (.cons rfl (.cons rfl (.nil _)))))))))))))))))) ?_
                refine cd_region ?_
                refine st (ev_move rfl) rfl rfl rfl ?_
                refine st (ev_add64 rfl rfl (by omega) (by omega)) rfl rfl rfl ?_
                refine st (ev_assign rfl) rfl rfl rfl ?_
                refine op_nil ?_
                exact at_again (j + 1) (⟨by omega, fun b hb => (Nat.lt_succ_iff_lt_or_eq.1 hb).elim (hi.2 b) (fun e => by subst e; rw [← e0, ← e1]; exact hc50)⟩) (by omega) (.cons rfl (.cons rfl (.cons rfl (.nil _)))) (.cons rfl (.nil _)) (.cons rfl (.nil _))
            ·
              obtain rfl : i = j := by omega
              refine cd_exit ?_
              refine ax_then_exit ?_
              refine ax_then_exit ?_
              refine ax_block_hit ?_
              refine ax_block ?_
              refine ax_then ?_
              refine At.regs (L' := [(1, _), (3, _), (4, _), (35, _), (36, _), (37, _)]) (.cons rfl (.cons rfl (.cons rfl (.cons rfl (.cons rfl (.cons rfl (.nil _))))))) ?_
              refine cd_region ?_
              refine st (ev_move rfl) rfl rfl rfl ?_
              refine st (ev_add64 rfl rfl (by omega) (by omega)) rfl rfl rfl ?_
              refine st (ev_assign rfl) rfl rfl rfl ?_
              refine op_nil ?_
              exact at_again (i + 1) (⟨by omega, (innK_all (by omega)).1 ⟨hi1.2, hi.2⟩⟩) (by omega) (.cons rfl (.cons rfl (.nil _))) (.cons rfl (.nil _)) (.cons rfl (.nil _))
          ·
            obtain rfl : i = ks.length := by omega
            refine cd_exit ?_
            refine ax_then_exit ?_
            refine ax_then_exit ?_
            refine ax_block_hit ?_
            refine ax_then ?_
            refine At.regs (L' := []) (.nil _) ?_
            refine cd_seq ?_
            refine cd_region ?_
            refine st (ev_assign rfl) rfl rfl rfl ?_
            refine op_nil ?_
            refine ax_then ?_
            refine At.regs (L' := [(2, _)]) (.cons rfl (.nil _)) ?_
            refine cd_ret ?_
            refine rt_tmp (.inl rfl) Try.results22 rfl ?_
            exact fun w1 sw => ⟨congrArg (fun b => Ending.returned (Value.bool b)) (decide_eq_true (outK_isK.2 hi1.2)).symm, sw.gives (.nil _)⟩
set_option maxRecDepth 20000 in
set_option maxHeartbeats 4000000 in
theorem rwho_any (pb mv kv : Value) (need : Int) (body : List Int) (ms : List Qm.Mark) (ks : List (List Int)) (w : World) (hbody : Rd w pb 1 (ints .u8 body)) (hbl : body.length ≤ 140737488352000) (ha : Qm.AOk ms) (hml : ms.length ≤ 1000000) (hm : Rd w mv 35 (Qm.mflat ms)) (hmr : ∀ x, x ∈ ms → Qm.MRd w x) (hu : H32 ks) (hkl : ks.length ≤ 1000000) (hk : Rd w kv 32 (flat ks)) : Calls Try.prog 18 #[.agg (List.toArray [pb, mv]), .agg (List.toArray [kv, .int .i64 need])] w (Post (ι := Value) w [] (fun _ => True) (fun v => v) (fun v => [(0, .own (v) 39 32 (flat (Qm.who body ms ks)))])) := by
  have hmf := Qm.mflat_len ha
  refine calls_at (vs := [.agg (List.toArray [pb, mv]), .agg (List.toArray [kv, .int .i64 need])]) (X := []) (H := []) (F := [(22, .sl (pb) 1 (ints .u8 (body))), (21, .sl (mv) 35 (Qm.mflat (ms))), (20, .sl (kv) 32 (flat (ks)))]) 88 Try.func18 rfl rfl rfl (((Sat.rd0 20 hk).more 21 hm).more 22 hbody) ?_
  refine cd_seq ?_
  refine cd_region ?_
  refine st_box (h := 2) rfl rfl rfl rfl (fun b2 => ?_)
  refine st_box (h := 3) rfl rfl rfl rfl (fun b3 => ?_)
  refine st (ev_assign rfl) rfl rfl rfl ?_
  refine at_own_nil 4 39 32 ?_
  refine at_heq (i := 4) (v' := .own (.slice none 0 0) 39 32 (flat [])) rfl rfl ?_
  have hu4 := H32.nil
  refine op_nil ?_
  refine ax_then ?_
  refine At.regs (L' := [(2, _), (3, _), (4, _)]) (.cons rfl (.cons rfl (.cons rfl (.nil _)))) ?_
  refine cd_seq ?_
  refine at_freeze_blk (h := 2) (H' := [(3, _)]) 2 rfl (.cons rfl (.nil _)) rfl ?_
  refine at_freeze_blk (h := 3) (H' := []) 3 rfl (.nil _) rfl ?_
  refine cd_region ?_
  refine st (ev_assign rfl) rfl rfl rfl ?_
  refine at_own_nil 5 39 32 ?_
  refine at_heq (i := 5) (v' := .own (.slice none 0 0) 39 32 (flat [])) rfl rfl ?_
  have hu5 := H32.nil
  refine op_nil ?_
  refine ax_then ?_
  refine At.regs (L' := [(2, _), (3, _), (4, _), (5, _)]) (.cons rfl (.cons rfl (.cons rfl (.cons rfl (.nil _))))) ?_
  refine cd_seq ?_
  refine cd_seq ?_
  refine cd_region ?_
  refine st (ev_assign rfl) rfl rfl rfl ?_
  refine op_nil ?_
  refine ax_then ?_
  refine At.regs (L' := [(2, _), (3, _), (4, _), (5, _), (6, _)]) (.cons rfl (.cons rfl (.cons rfl (.cons rfl (.cons rfl (.nil _)))))) ?_
  refine cd_block ?_
  refine cd_loop (ι := Nat × Value) (fun x => x.1 ≤ ks.length) (fun x => ks.length - x.1)
      (fun x => [(2, .pointer (some ⟨b2, 0, none⟩)), (3, .pointer (some ⟨b3, 0, none⟩)), (5, x.2), (6, .int .i64 (x.1 : Int))])
      (fun x => [(5, .own (x.2) 39 32 (flat (Qm.who body ms (ks.take (x.1)))))])
      (fun x => [(2, .mem b2 0 [pb, mv]), (3, .mem b3 0 [kv, .int .i64 need]), (20, .sl (kv) 32 (flat (ks))), (21, .sl (mv) 35 (Qm.mflat (ms))), (22, .sl (pb) 1 (ints .u8 (body)))])
      (0, .slice none 0 0) (by omega) (.cons rfl (.cons rfl (.cons rfl (.cons rfl (.nil _))))) (.cons rfl (.nil _)) (.cons rfl (.cons rfl (.cons rfl (.cons rfl (.cons rfl (.nil _)))))) (fun x hi => ?_)
  obtain ⟨i, u⟩ := x
  dsimp only at hi ⊢
  have hi1 := hi
  have e0 : (i : Int).toNat = i := by omega
  have hgi : i < ks.length → (ks.getD i []).length = 32 := fun hh => hu.get hh
  have hgi2 : i < ks.length → (ks.getD (i : Int).toNat []).length = 32 := fun hh => by rw [e0]; exact hu.get hh
  refine cd_seq ?_
  refine cd_seq ?_
  refine cd_region ?_
  refine st (ev_move rfl) rfl rfl rfl ?_
  refine st (ev_fieldAddr (b := _) Try.underlying28 (f := _) rfl ty26 (by decide) rfl) rfl rfl rfl ?_
  refine st (ld_mem1 (h := 3) ty26 rfl rfl rfl (Nat.zero_add _).symm rfl) rfl rfl rfl ?_
  refine st (ev_len_rdh (h := 20) Try.underlying26 rfl rfl (by assumption)) rfl rfl rfl ?_
  refine st (ev_lss rfl rfl) rfl rfl rfl ?_
  refine op_nil ?_
  refine ax_then ?_
  refine At.regs (L' := [(2, _), (3, _), (5, _), (6, _), (10, _), (11, _), (12, _), (13, _), (14, _)]) (.cons rfl (.cons rfl (.cons rfl (.cons rfl (.cons rfl (.cons rfl (.cons rfl (.cons rfl (.cons rfl (.nil _)))))))))) ?_
  refine cd_if rfl (fun hc14 => ?_) (fun hc14 => ?_)
  ·
    have hlt1 : i < ks.length := by omega
    have hgi3 := hgi hlt1
    have hgi4 := hgi2 hlt1
    refine cd_skip ?_
    refine ax_then ?_
    refine At.regs (L' := [(2, _), (3, _), (5, _), (6, _), (10, _), (11, _), (12, _), (13, _), (14, _)]) (.cons rfl (.cons rfl (.cons rfl (.cons rfl (.cons rfl (.cons rfl (.cons rfl (.cons rfl (.cons rfl (.nil _)))))))))) ?_
    refine cd_seq ?_
    refine cd_block ?_
    refine cd_seq ?_
    refine cd_region ?_
    refine st (ev_assign rfl) rfl rfl rfl ?_
    refine op_nil ?_
    refine ax_then ?_
    refine At.regs (L' := [(2, _), (3, _), (5, _), (6, _), (7, _), (10, _), (11, _), (12, _), (13, _), (14, _)]) (.cons rfl (.cons rfl (.cons rfl (.cons rfl (.cons rfl (.cons rfl (.cons rfl (.cons rfl (.cons rfl (.cons rfl (.nil _))))))))))) ?_
    refine cd_seq ?_
    refine cd_seq ?_
    refine cd_region ?_
    refine st (ev_assign rfl) rfl rfl rfl ?_
    refine op_nil ?_
    refine ax_then ?_
    refine At.regs (L' := [(2, _), (3, _), (5, _), (6, _), (7, _), (8, _), (10, _), (11, _), (12, _), (13, _), (14, _)]) (.cons rfl (.cons rfl (.cons rfl (.cons rfl (.cons rfl (.cons rfl (.cons rfl (.cons rfl (.cons rfl (.cons rfl (.cons rfl (.nil _)))))))))))) ?_
    refine cd_block ?_
    refine at_eq (i := 7) (v' := .bool (decide (ks.getD i [] ∈ ks.take (0)))) rfl (congrArg Value.bool ((decide_eq_false (by rw [List.take_zero]; exact List.not_mem_nil)).symm)) ?_
    refine cd_loop (ι := Nat) (fun j => j ≤ i) (fun j => i - j)
        (fun j => [(2, .pointer (some ⟨b2, 0, none⟩)), (3, .pointer (some ⟨b3, 0, none⟩)), (5, u), (6, .int .i64 (i : Int)), (7, .bool (decide (ks.getD i [] ∈ ks.take (j)))), (8, .int .i64 (j : Int))])
        (fun j => [(5, .own (u) 39 32 (flat (Qm.who body ms (ks.take (i)))))])
        (fun j => [(2, .mem b2 0 [pb, mv]), (3, .mem b3 0 [kv, .int .i64 need]), (20, .sl (kv) 32 (flat (ks))), (21, .sl (mv) 35 (Qm.mflat (ms))), (22, .sl (pb) 1 (ints .u8 (body)))])
        0 (by omega) (.cons rfl (.cons rfl (.cons rfl (.cons rfl (.cons rfl (.cons rfl (.nil _))))))) (.cons rfl (.nil _)) (.cons rfl (.cons rfl (.cons rfl (.cons rfl (.cons rfl (.nil _)))))) (fun j hi => ?_)
    have hi2 := hi
    have e1 : (j : Int).toNat = j := by omega
    have hgj : j < i → (ks.getD (j : Int).toNat []).length = 32 := fun hj => hu.get (by omega)
    refine cd_seq ?_
    refine cd_seq ?_
    refine cd_region ?_
    refine st (ev_move rfl) rfl rfl rfl ?_
    refine st (ev_move rfl) rfl rfl rfl ?_
    refine st (ev_lss rfl rfl) rfl rfl rfl ?_
    refine op_nil ?_
    refine ax_then ?_
    refine At.regs (L' := [(2, _), (3, _), (5, _), (6, _), (7, _), (8, _), (17, _), (18, _), (19, _)]) (.cons rfl (.cons rfl (.cons rfl (.cons rfl (.cons rfl (.cons rfl (.cons rfl (.cons rfl (.cons rfl (.nil _)))))))))) ?_
    refine cd_if rfl (fun hc19 => ?_) (fun hc19 => ?_)
    ·
      refine cd_skip ?_
      refine ax_then ?_
      refine At.regs (L' := [(2, _), (3, _), (5, _), (6, _), (7, _), (8, _), (17, _), (18, _), (19, _)]) (.cons rfl (.cons rfl (.cons rfl (.cons rfl (.cons rfl (.cons rfl (.cons rfl (.cons rfl (.cons rfl (.nil _)))))))))) ?_
      refine cd_join (ι := Unit) (fun _ => True) (fun _ => [(2, .pointer (some ⟨b2, 0, none⟩)), (3, .pointer (some ⟨b3, 0, none⟩)), (5, u), (6, .int .i64 (i : Int)), (7, .bool (decide (ks.getD i [] ∈ ks.take (j + 1)))), (8, .int .i64 (j : Int))]) (fun _ => [(5, .own (u) 39 32 (flat (Qm.who body ms (ks.take (i)))))]) (fun _ => [(2, .mem b2 0 [pb, mv]), (3, .mem b3 0 [kv, .int .i64 need]), (20, .sl (kv) 32 (flat (ks))), (21, .sl (mv) 35 (Qm.mflat (ms))), (22, .sl (pb) 1 (ints .u8 (body)))]) ?_ (fun _ hj => ?_)
      ·
        refine cd_block ?_
        have hgj2 := hgj (by omega)
        refine cd_open hmix (by decide +kernel) ?_
        refine qt (ev_move rfl) rfl rfl rfl ?_
        refine qt (ev_move rfl) rfl rfl rfl ?_
        refine qt_split_if (i := 23) rfl (fun hg23 => ?_) (fun hg23 => ?_)
        ·
          refine qt_skip rfl rfl rfl ?_
          refine qt_skip rfl rfl rfl ?_
          refine qt_skip rfl rfl rfl ?_
          refine qt_skip rfl rfl rfl ?_
          refine qt_skip rfl rfl rfl ?_
          refine qt_skip rfl rfl rfl ?_
          refine qt_skip rfl rfl rfl ?_
          refine qt_skip rfl rfl rfl ?_
          refine qt_skip rfl rfl rfl ?_
          refine qt_skip rfl rfl rfl ?_
          refine qt_skip rfl rfl rfl ?_
          refine qt (ev_pick_t rfl rfl) rfl rfl rfl ?_
          refine qt (ev_assign rfl) rfl rfl rfl ?_
          refine qt_end ?_
          refine op_nil ?_
          refine ax_block ?_
          refine ax_eq (i := 7) (v' := .bool (decide (ks.getD i [] ∈ ks.take (j + 1)))) rfl (congrArg Value.bool ((decide_eq_true ((Qm.mem_take_succ (by omega) _).2 (.inl hg23))).symm)) ?_
          exact at_met (()) (trivial) (.cons rfl (.cons rfl (.cons rfl (.cons rfl (.cons rfl (.cons rfl (.nil _))))))) (.cons rfl (.nil _)) (.cons rfl (.cons rfl (.cons rfl (.cons rfl (.cons rfl (.nil _))))))
        ·
          refine qt (ev_fieldAddr (b := _) Try.underlying28 (f := _) rfl ty26 (by decide) rfl) rfl rfl rfl ?_
          refine qt (ld_mem1 (h := 3) ty26 rfl rfl rfl (Nat.zero_add _).symm rfl) rfl rfl rfl ?_
          refine qt (ev_move rfl) rfl rfl rfl ?_
          refine qt (ev_indexAddr_rdh (h := 20) Try.underlying26 ty39 rfl rfl rfl (by assumption) (by omega) (by omega)) rfl rfl rfl ?_
          refine qt (ld_rdh (h := 20) ty39 rfl rfl rfl (by assumption) (by omega)) rfl rfl rfl ?_
          refine qt (ev_fieldAddr (b := _) Try.underlying28 (f := _) rfl ty26 (by decide) rfl) rfl rfl rfl ?_
          refine qt (ld_mem1 (h := 3) ty26 rfl rfl rfl (Nat.zero_add _).symm rfl) rfl rfl rfl ?_
          refine qt (ev_move rfl) rfl rfl rfl ?_
          refine qt (ev_indexAddr_rdh (h := 20) Try.underlying26 ty39 rfl rfl rfl (by assumption) (by omega) (by omega)) rfl rfl rfl ?_
          refine qt (ld_rdh (h := 20) ty39 rfl rfl rfl (by assumption) (by omega)) rfl rfl rfl ?_
          refine qt (ev_eql_arr Try.underlying39 ty5 eqg39 rfl rfl (by first | omega | (simp only [List.length_append, List.length_cons, List.length_nil, List.length_set, List.length_replicate, List.length_take, List.length_drop, ints_length, wr_length, sha_len, node_len, recov_len, Ky.named_len, Ky.keyPub_len] <;> omega) | rfl) (by first | omega | (simp only [List.length_append, List.length_cons, List.length_nil, List.length_set, List.length_replicate, List.length_take, List.length_drop, ints_length, wr_length, sha_len, node_len, recov_len, Ky.named_len, Ky.keyPub_len] <;> omega) | rfl)) rfl rfl rfl ?_
          refine qt (ev_pick_f rfl rfl) rfl rfl rfl ?_
          refine qt (ev_assign rfl) rfl rfl rfl ?_
          refine qt_end ?_
          refine op_nil ?_
          refine ax_block ?_
          refine ax_eq (i := 7) (v' := .bool (decide (ks.getD i [] ∈ ks.take (j + 1)))) rfl (congrArg Value.bool (by simp only [e0, e1]; exact decide_eq_decide.2 ⟨fun h => (Qm.mem_take_succ (by omega) _).2 (.inr h), fun h => ((Qm.mem_take_succ (by omega) _).1 h).resolve_left hg23⟩)) ?_
          exact at_met (()) (trivial) (.cons rfl (.cons rfl (.cons rfl (.cons rfl (.cons rfl (.cons rfl (.nil _))))))) (.cons rfl (.nil _)) (.cons rfl (.cons rfl (.cons rfl (.cons rfl (.cons rfl (.nil _))))))
      ·
        refine cd_region ?_
        refine st (ev_move rfl) rfl rfl rfl ?_
        refine st (ev_add64 rfl rfl (by omega) (by omega)) rfl rfl rfl ?_
        refine st (ev_assign rfl) rfl rfl rfl ?_
        refine op_nil ?_
        exact at_again (j + 1) (by omega) (by omega) (.cons rfl (.cons rfl (.cons rfl (.cons rfl (.cons rfl (.cons rfl (.nil _))))))) (.cons rfl (.nil _)) (.cons rfl (.cons rfl (.cons rfl (.cons rfl (.cons rfl (.nil _))))))
    ·
      obtain rfl : i = j := by omega
      refine cd_exit ?_
      refine ax_then_exit ?_
      refine ax_then_exit ?_
      refine ax_block_hit ?_
      refine ax_then ?_
      refine At.regs (L' := [(2, _), (3, _), (5, _), (6, _), (7, _), (8, _), (17, _), (18, _), (19, _)]) (.cons rfl (.cons rfl (.cons rfl (.cons rfl (.cons rfl (.cons rfl (.cons rfl (.cons rfl (.cons rfl (.nil _)))))))))) ?_
      refine cd_seq ?_
      refine cd_region ?_
      refine st (ev_assign rfl) rfl rfl rfl ?_
      refine op_nil ?_
      refine ax_then ?_
      refine At.regs (L' := [(2, _), (3, _), (5, _), (6, _), (7, _), (8, _), (9, _), (17, _), (18, _), (19, _)]) (.cons rfl (.cons rfl (.cons rfl (.cons rfl (.cons rfl (.cons rfl (.cons rfl (.cons rfl (.cons rfl (.cons rfl (.nil _))))))))))) ?_
      refine cd_block ?_
      refine at_eq (i := 7) (v' := .bool (decide (Qm.fnd body ms ks i (0)))) rfl (congrArg Value.bool (decide_eq_decide.2 (Qm.fnd_zero body ms ks i).symm)) ?_
      refine at_heq (i := 5) (v' := .own (u) 39 32 (flat (Qm.lw body ms ks (i) (0)))) rfl (by rw [Qm.lw_zero]) ?_
      refine cd_loop (ι := Nat × Value) (fun y => y.1 ≤ ms.length ∧ y.1 ≤ 4) (fun y => ms.length - y.1)
          (fun y => [(2, .pointer (some ⟨b2, 0, none⟩)), (3, .pointer (some ⟨b3, 0, none⟩)), (5, y.2), (6, .int .i64 (i : Int)), (7, .bool (decide (Qm.fnd body ms ks i (y.1)))), (9, .int .i64 (y.1 : Int))])
          (fun y => [(5, .own (y.2) 39 32 (flat (Qm.lw body ms ks (i) (y.1))))])
          (fun y => [(2, .mem b2 0 [pb, mv]), (3, .mem b3 0 [kv, .int .i64 need]), (20, .sl (kv) 32 (flat (ks))), (21, .sl (mv) 35 (Qm.mflat (ms))), (22, .sl (pb) 1 (ints .u8 (body)))])
          (0, u) (⟨by show 0 ≤ ms.length; omega, by show 0 ≤ 4; omega⟩) (.cons rfl (.cons rfl (.cons rfl (.cons rfl (.cons rfl (.cons rfl (.nil _))))))) (.cons rfl (.nil _)) (.cons rfl (.cons rfl (.cons rfl (.cons rfl (.cons rfl (.nil _)))))) (fun y hi => ?_)
      obtain ⟨j, v⟩ := y
      dsimp only at hi ⊢
      have hi3 := hi
      have e1 : (j : Int).toNat = j := by omega
      have hlw := Qm.lw_h32 (body := body) (ms := ms) (j := j) hu hlt1
      have hl32 := hlw.1
      have hll := hlw.2
      refine cd_seq ?_
      refine cd_seq ?_
      refine cd_region ?_
      refine st (ev_move rfl) rfl rfl rfl ?_
      refine st (ev_fieldAddr (b := _) Try.underlying25 (f := _) rfl ty23 (by decide) rfl) rfl rfl rfl ?_
      refine st (ld_mem1 (h := 2) ty23 rfl rfl rfl (Nat.zero_add _).symm rfl) rfl rfl rfl ?_
      refine st (ev_len_rd (h := 21) (n := ms.length) Try.underlying23 rfl rfl (Qm.mflat_len ha) (by decide)) rfl rfl rfl ?_
      refine st (ev_lss rfl rfl) rfl rfl rfl ?_
      refine st (ev_move rfl) rfl rfl rfl ?_
      refine at_split_if (i := 41) rfl (fun hg41 => ?_) (fun hg41 => ?_)
      ·
        refine st (ev_move rfl) rfl rfl rfl ?_
        refine st (ev_lss rfl rfl) rfl rfl rfl ?_
        refine st (ev_pick_t rfl rfl) rfl rfl rfl ?_
        refine st (ev_move rfl) rfl rfl rfl ?_
        refine at_split_if (i := 45) rfl (fun hg45 => ?_) (fun hg45 => ?_)
        ·
          refine st (ev_move rfl) rfl rfl rfl ?_
          refine st (ev_not_if rfl) rfl rfl rfl ?_
          refine st (ev_pick_t rfl rfl) rfl rfl rfl ?_
          refine op_nil ?_
          refine ax_then ?_
          refine At.regs (L' := [(2, _), (3, _), (5, _), (6, _), (7, _), (9, _), (36, _), (37, _), (38, _), (39, _), (40, _), (41, _), (42, _), (43, _), (44, _), (45, _), (46, _), (47, _), (48, _)]) (.cons rfl (.cons rfl (.cons rfl (.cons rfl (.cons rfl (.cons rfl (.cons rfl (.cons rfl (.cons rfl (.cons rfl (.cons rfl (.cons rfl (.cons rfl (.cons rfl (.cons rfl (.cons rfl (.cons rfl (.cons rfl (.cons rfl (.nil _)))))))))))))))))))) ?_
          refine cd_if rfl (fun hc48 => ?_) (fun hc48 => ?_)
          ·
            have hnf : ¬ Qm.fnd body ms ks i j := hc48
            have hlt : j < ms.length := by omega
            have hxo := ha ms[j] (List.getElem_mem hlt)
            have hxk := hxo.1
            refine cd_skip ?_
            refine ax_then ?_
            refine At.regs (L' := [(2, _), (3, _), (5, _), (6, _), (7, _), (9, _), (36, _), (37, _), (38, _), (39, _), (40, _), (41, _), (42, _), (43, _), (44, _), (45, _), (46, _), (47, _), (48, _)]) (.cons rfl (.cons rfl (.cons rfl (.cons rfl (.cons rfl (.cons rfl (.cons rfl (.cons rfl (.cons rfl (.cons rfl (.cons rfl (.cons rfl (.cons rfl (.cons rfl (.cons rfl (.cons rfl (.cons rfl (.cons rfl (.cons rfl (.nil _)))))))))))))))))))) ?_
            refine cd_join (ι := Value) (fun z => True) (fun z => [(2, .pointer (some ⟨b2, 0, none⟩)), (3, .pointer (some ⟨b3, 0, none⟩)), (5, z), (6, .int .i64 (i : Int)), (7, .bool (decide (Qm.fnd body ms ks i (j + 1)))), (9, .int .i64 (j : Int))]) (fun z => [(5, .own (z) 39 32 (flat (Qm.lw body ms ks (i) (j + 1))))]) (fun z => [(2, .mem b2 0 [pb, mv]), (3, .mem b3 0 [kv, .int .i64 need]), (20, .sl (kv) 32 (flat (ks))), (21, .sl (mv) 35 (Qm.mflat (ms))), (22, .sl (pb) 1 (ints .u8 (body)))]) ?_ (fun z hj => ?_)
            ·
              refine cd_block ?_
              refine cd_seq ?_
              refine cd_mix hmix ?_
              refine mx (i := 0) rfl (by decide +kernel) (by decide +kernel) (by decide +kernel) rfl (fun w0 => ev_fieldAddr (b := _) Try.underlying25 (f := _) rfl ty23 (by decide) rfl) rfl rfl (Sub.refl _) ?_
              refine mx (i := 1) rfl (by decide +kernel) (by decide +kernel) (by decide +kernel) rfl (fun w0 => ld_mem1 (h := 2) ty23 rfl rfl rfl (Nat.zero_add _).symm rfl) rfl rfl (Sub.refl _) ?_
              refine mx (i := 2) rfl (by decide +kernel) (by decide +kernel) (by decide +kernel) rfl (fun w0 => ev_move rfl) rfl rfl (Sub.refl _) ?_
              refine mx (i := 3) rfl (by decide +kernel) (by decide +kernel) (by decide +kernel) rfl (fun w0 => ev_indexAddr_rd (h := 21) (n := ms.length) Try.underlying23 ty44 rfl rfl rfl (Qm.mflat_len ha) (by decide) (by omega) (by omega)) rfl rfl (Sub.refl _) ?_
              refine mx (i := 4) rfl (by decide +kernel) (by decide +kernel) (by decide +kernel) rfl (fun w0 => ev_fieldIn (n := 0) (k := (j : Int).toNat * 35) Try.underlying44 rfl rfl rfl (fun w1 sw => sw.sl_rd (h := 21) rfl) (by rw [hmf, e1]; omega) (fun b off hx => ev_fieldAddr (b := _) Try.underlying44 (f := _) rfl ty39 (by decide) hx)) rfl rfl (Sub.refl _) ?_
              refine mx (i := 5) rfl (by decide +kernel) (by decide +kernel) (by decide +kernel) rfl (fun w0 => ld_rd (k := (j : Int).toNat * 35 + 0) (h := 21) ty39 rfl rfl rfl (by decide) (by rw [hmf, e1]; omega)) rfl rfl (Sub.refl _) ?_
              refine at_eq (i := 56) (v' := .agg (ints .u8 (ms[j].key)).toArray) rfl (congrArg (fun x => Value.agg (List.toArray x)) (by rw [e1]; exact Qm.mflat_key ha hlt)) ?_
              refine mx (i := 6) rfl (by decide +kernel) (by decide +kernel) (by decide +kernel) rfl (fun w0 => ev_fieldAddr (b := _) Try.underlying28 (f := _) rfl ty26 (by decide) rfl) rfl rfl (Sub.refl _) ?_
              refine mx (i := 7) rfl (by decide +kernel) (by decide +kernel) (by decide +kernel) rfl (fun w0 => ld_mem1 (h := 3) ty26 rfl rfl rfl (Nat.zero_add _).symm rfl) rfl rfl (Sub.refl _) ?_
              refine mx (i := 8) rfl (by decide +kernel) (by decide +kernel) (by decide +kernel) rfl (fun w0 => ev_move rfl) rfl rfl (Sub.refl _) ?_
              refine mx (i := 9) rfl (by decide +kernel) (by decide +kernel) (by decide +kernel) rfl (fun w0 => ev_indexAddr_rdh (h := 20) Try.underlying26 ty39 rfl rfl rfl (by assumption) (by omega) (by omega)) rfl rfl (Sub.refl _) ?_
              refine mx (i := 10) rfl (by decide +kernel) (by decide +kernel) (by decide +kernel) rfl (fun w0 => ld_rdh (h := 20) ty39 rfl rfl rfl (by assumption) (by omega)) rfl rfl (Sub.refl _) ?_
              refine at_eq (i := 61) (v' := .agg (ints .u8 (ks.getD i [])).toArray) rfl (by rw [e0]) ?_
              refine mx (i := 11) rfl (by decide +kernel) (by decide +kernel) (by decide +kernel) rfl (fun w0 => ev_eql_arr Try.underlying39 ty5 eqg39 rfl rfl (by first | omega | (simp only [List.length_append, List.length_cons, List.length_nil, List.length_set, List.length_replicate, List.length_take, List.length_drop, ints_length, wr_length, sha_len, node_len, recov_len, Ky.named_len, Ky.keyPub_len] <;> omega) | rfl) (by first | omega | (simp only [List.length_append, List.length_cons, List.length_nil, List.length_set, List.length_replicate, List.length_take, List.length_drop, ints_length, wr_length, sha_len, node_len, recov_len, Ky.named_len, Ky.keyPub_len] <;> omega) | rfl)) rfl rfl (Sub.refl _) ?_
              refine mx (i := 12) rfl (by decide +kernel) (by decide +kernel) (by decide +kernel) rfl (fun w0 => ev_move rfl) rfl rfl (Sub.refl _) ?_
              refine at_split_if (i := 63) rfl (fun hg63 => ?_) (fun hg63 => ?_)
              ·
                refine mx (i := 13) rfl (by decide +kernel) (by decide +kernel) (by decide +kernel) rfl (fun w0 => ev_fieldAddr (b := _) Try.underlying28 (f := _) rfl ty26 (by decide) rfl) rfl rfl (Sub.refl _) ?_
                refine mx (i := 14) rfl (by decide +kernel) (by decide +kernel) (by decide +kernel) rfl (fun w0 => ld_mem1 (h := 3) ty26 rfl rfl rfl (Nat.zero_add _).symm rfl) rfl rfl (Sub.refl _) ?_
                refine mx (i := 15) rfl (by decide +kernel) (by decide +kernel) (by decide +kernel) rfl (fun w0 => ev_move rfl) rfl rfl (Sub.refl _) ?_
                refine mx (i := 16) rfl (by decide +kernel) (by decide +kernel) (by decide +kernel) rfl (fun w0 => ev_indexAddr_rdh (h := 20) Try.underlying26 ty39 rfl rfl rfl (by assumption) (by omega) (by omega)) rfl rfl (Sub.refl _) ?_
                refine mx (i := 17) rfl (by decide +kernel) (by decide +kernel) (by decide +kernel) rfl (fun w0 => ld_rdh (h := 20) ty39 rfl rfl rfl (by assumption) (by omega)) rfl rfl (Sub.refl _) ?_
                refine at_eq (i := 68) (v' := .agg (ints .u8 (ks.getD i [])).toArray) rfl (by rw [e0]) ?_
                refine mx (i := 18) rfl (by decide +kernel) (by decide +kernel) (by decide +kernel) rfl (fun w0 => ev_fieldAddr (b := _) Try.underlying25 (f := _) rfl ty22 (by decide) rfl) rfl rfl (Sub.refl _) ?_
                refine mx (i := 19) rfl (by decide +kernel) (by decide +kernel) (by decide +kernel) rfl (fun w0 => ld_mem1 (h := 2) ty22 rfl rfl rfl (Nat.zero_add _).symm rfl) rfl rfl (Sub.refl _) ?_
                refine mx (i := 20) rfl (by decide +kernel) (by decide +kernel) (by decide +kernel) rfl (fun w0 => ev_fieldAddr (b := _) Try.underlying25 (f := _) rfl ty23 (by decide) rfl) rfl rfl (Sub.refl _) ?_
                refine mx (i := 21) rfl (by decide +kernel) (by decide +kernel) (by decide +kernel) rfl (fun w0 => ld_mem1 (h := 2) ty23 rfl rfl rfl (Nat.zero_add _).symm rfl) rfl rfl (Sub.refl _) ?_
                refine mx (i := 22) rfl (by decide +kernel) (by decide +kernel) (by decide +kernel) rfl (fun w0 => ev_move rfl) rfl rfl (Sub.refl _) ?_
                refine mx (i := 23) rfl (by decide +kernel) (by decide +kernel) (by decide +kernel) rfl (fun w0 => ev_indexAddr_rd (h := 21) (n := ms.length) Try.underlying23 ty44 rfl rfl rfl (Qm.mflat_len ha) (by decide) (by omega) (by omega)) rfl rfl (Sub.refl _) ?_
                refine mx (i := 24) rfl (by decide +kernel) (by decide +kernel) (by decide +kernel) rfl (fun w0 => ev_fieldIn (n := 0) (k := (j : Int).toNat * 35) Try.underlying44 rfl rfl rfl (fun w1 sw => sw.sl_rd (h := 21) rfl) (by rw [hmf, e1]; omega) (fun b off hx => ev_fieldAddr (b := _) Try.underlying44 (f := _) rfl ty42 (by decide) hx)) rfl rfl (Sub.refl _) ?_
                refine mx (i := 25) rfl (by decide +kernel) (by decide +kernel) (by decide +kernel) rfl (fun w0 => ld_rd (k := (j : Int).toNat * 35 + 32) (h := 21) ty42 rfl rfl rfl (by decide) (by rw [hmf, e1]; omega)) rfl rfl (Sub.refl _) ?_
                refine at_eq (i := 76) (v' := .agg (List.toArray [.int .i64 ms[j].leaf, ms[j].vc, ms[j].vp])) rfl (congrArg (fun x => Value.agg (List.toArray x)) (by rw [e1]; exact Qm.mflat_sig ha hlt)) ?_
                refine mx_one (i := 26) (by decide +kernel) (Sub.refl _) ?_
                refine wo (i := 26) rfl ?_
                refine st_callv has36 rfl (fun w1 sw => rverify_any (ks.getD i []) pb body ms[j].leaf ms[j].vc ms[j].vp ms[j].cs ms[j].ps w1 (by omega) hbl hxo.2.1 hxo.2.2.1 hxo.2.2.2.1 hxo.2.2.2.2 (sw.sl_rd (h := 22) rfl) ((Qm.Keeps.of sw).mrd (hmr ms[j] (List.getElem_mem hlt))).1 ((Qm.Keeps.of sw).mrd (hmr ms[j] (List.getElem_mem hlt))).2) rfl rfl ?_
                refine op_nil ?_
                refine ax_then ?_
                refine mx (i := 27) rfl (by decide +kernel) (by decide +kernel) (by decide +kernel) rfl (fun w0 => ev_pick_t rfl rfl) rfl rfl (Sub.refl _) ?_
                refine mx_done (by decide +kernel) (Sub.refl _) ?_
                refine ax_then ?_
                refine At.regs (L' := [(2, _), (3, _), (5, _), (6, _), (7, _), (9, _), (36, _), (37, _), (38, _), (39, _), (40, _), (41, _), (42, _), (43, _), (44, _), (45, _), (46, _), (47, _), (48, _), (51, _), (52, _), (53, _), (54, _), (55, _), (56, _), (57, _), (58, _), (59, _), (60, _), (61, _), (62, _), (63, _), (64, _), (65, _), (66, _), (67, _), (68, _), (69, _), (70, _), (71, _), (72, _), (73, _), (74, _), (75, _), (76, _), (77, _), (78, _)]) (.cons rfl (.cons rfl (.cons rfl (.cons rfl (.cons rfl (.cons rfl (.cons rfl (.cons rfl (.cons rfl (.cons rfl (.cons rfl (.cons rfl (.cons rfl (.cons rfl (.cons rfl (.cons rfl (.cons rfl (.cons rfl (.cons rfl (.cons rfl (.cons rfl (.cons rfl (.cons rfl (.cons rfl (.cons rfl (.cons rfl (.cons rfl (.cons rfl (.cons rfl (.cons rfl (.cons rfl (.cons rfl (.cons rfl (.cons rfl (.cons rfl (.cons rfl (.cons rfl (.cons rfl (.cons rfl (.cons rfl (.cons rfl (.cons rfl (.cons rfl (.cons rfl (.cons rfl (.cons rfl (.cons rfl (.nil _)))))))))))))))))))))))))))))))))))))))))))))))) ?_
                refine cd_if rfl (fun hc78 => ?_) (fun hc78 => ?_)
                ·
                  refine cd_seq ?_
                  refine cd_region ?_
                  refine st (ev_move rfl) rfl rfl rfl ?_
                  refine st (ev_fieldAddr (b := _) Try.underlying28 (f := _) rfl ty26 (by decide) rfl) rfl rfl rfl ?_
                  refine st (ld_mem1 (h := 3) ty26 rfl rfl rfl (Nat.zero_add _).symm rfl) rfl rfl rfl ?_
                  refine st (ev_move rfl) rfl rfl rfl ?_
                  refine st (ev_indexAddr_rdh (h := 20) Try.underlying26 ty39 rfl rfl rfl (by assumption) (by omega) (by omega)) rfl rfl rfl ?_
                  refine st (ld_rdh (h := 20) ty39 rfl rfl rfl (by assumption) (by omega)) rfl rfl rfl ?_
                  refine at_eq (i := 84) (v' := .agg (ints .u8 (ks.getD i [])).toArray) rfl (by rw [e0]) ?_
                  refine st_bsh1 (h := 85) Try.underlying26 ty39 rfl (by first | assumption | omega) rfl rfl (fun b85 hu85 => ?_)
                  refine st_appendh (h := 5) Try.underlying26 Try.underlying26 ty39 rfl rfl rfl rfl (fun w1 sw => sw.own_rd (h := 85) rfl) (by assumption) (by assumption) (by first | omega | (simp only [List.length_append, List.length_cons, List.length_nil, List.length_set, List.length_replicate, List.length_take, List.length_drop, ints_length, wr_length, sha_len, node_len, recov_len, Ky.named_len, Ky.keyPub_len] <;> omega)) (by decide) rfl rfl (fun v86 hu86 => ?_)
                  refine st (ev_assign rfl) rfl rfl rfl ?_
                  refine op_nil ?_
                  refine ax_then ?_
                  refine At.regs (L' := [(2, _), (3, _), (5, _), (6, _), (7, _), (9, _), (36, _), (37, _), (38, _), (39, _), (40, _), (41, _), (42, _), (43, _), (44, _), (45, _), (46, _), (47, _), (48, _), (51, _), (52, _), (53, _), (54, _), (55, _), (56, _), (57, _), (58, _), (59, _), (60, _), (61, _), (62, _), (63, _), (64, _), (65, _), (66, _), (67, _), (68, _), (69, _), (70, _), (71, _), (72, _), (73, _), (74, _), (75, _), (76, _), (77, _), (78, _), (79, _), (80, _), (81, _), (82, _), (83, _), (84, _), (85, _), (86, _)]) (.cons rfl (.cons rfl (.cons rfl (.cons rfl (.cons rfl (.cons rfl (.cons rfl (.cons rfl (.cons rfl (.cons rfl (.cons rfl (.cons rfl (.cons rfl (.cons rfl (.cons rfl (.cons rfl (.cons rfl (.cons rfl (.cons rfl (.cons rfl (.cons rfl (.cons rfl (.cons rfl (.cons rfl (.cons rfl (.cons rfl (.cons rfl (.cons rfl (.cons rfl (.cons rfl (.cons rfl (.cons rfl (.cons rfl (.cons rfl (.cons rfl (.cons rfl (.cons rfl (.cons rfl (.cons rfl (.cons rfl (.cons rfl (.cons rfl (.cons rfl (.cons rfl (.cons rfl (.cons rfl (.cons rfl (.cons rfl (.cons rfl (.cons rfl (.cons rfl (.cons rfl (.cons rfl (.cons rfl (.cons rfl (.nil _)))))))))))))))))))))))))))))))))))))))))))))))))))))))) ?_
                  refine cd_region ?_
                  refine st (ev_assign rfl) rfl rfl rfl ?_
                  refine op_nil ?_
                  refine ax_block ?_
                  have hh := Qm.lw_hit hnf hlt ⟨hg63, hc78⟩
                  refine ax_heq (i := 5) (v' := .own (v86) 39 32 (flat (Qm.lw body ms ks (i) (j + 1)))) rfl (by rw [hh.1]) ?_
                  refine ax_eq (i := 7) (v' := .bool (decide (Qm.fnd body ms ks i (j + 1)))) rfl (congrArg Value.bool ((decide_eq_true hh.2).symm)) ?_
                  exact at_met (v86) (trivial) (.cons rfl (.cons rfl (.cons rfl (.cons rfl (.cons rfl (.cons rfl (.nil _))))))) (.cons rfl (.nil _)) (.cons rfl (.cons rfl (.cons rfl (.cons rfl (.cons rfl (.nil _))))))
                ·
                  refine cd_skip ?_
                  refine ax_block ?_
                  have hh := Qm.lw_miss (body := body) (ks := ks) (i := i) hlt (fun hx => hc78 hx.2)
                  refine ax_heq (i := 5) (v' := .own (v) 39 32 (flat (Qm.lw body ms ks (i) (j + 1)))) rfl (by rw [hh.1]) ?_
                  refine ax_eq (i := 7) (v' := .bool (decide (Qm.fnd body ms ks i (j + 1)))) rfl (congrArg Value.bool (decide_eq_decide.2 hh.2.symm)) ?_
                  exact at_met (v) (trivial) (.cons rfl (.cons rfl (.cons rfl (.cons rfl (.cons rfl (.cons rfl (.nil _))))))) (.cons rfl (.nil _)) (.cons rfl (.cons rfl (.cons rfl (.cons rfl (.cons rfl (.nil _))))))
              ·
                refine mx_skip (i := 13) rfl (by decide +kernel) (by decide +kernel) (by decide +kernel) rfl rfl rfl (Sub.refl _) ?_
                refine mx_skip (i := 14) rfl (by decide +kernel) (by decide +kernel) (by decide +kernel) rfl rfl rfl (Sub.refl _) ?_
                refine mx_skip (i := 15) rfl (by decide +kernel) (by decide +kernel) (by decide +kernel) rfl rfl rfl (Sub.refl _) ?_
                refine mx_skip (i := 16) rfl (by decide +kernel) (by decide +kernel) (by decide +kernel) rfl rfl rfl (Sub.refl _) ?_
                refine mx_skip (i := 17) rfl (by decide +kernel) (by decide +kernel) (by decide +kernel) rfl rfl rfl (Sub.refl _) ?_
                refine mx_skip (i := 18) rfl (by decide +kernel) (by decide +kernel) (by decide +kernel) rfl rfl rfl (Sub.refl _) ?_
                refine mx_skip (i := 19) rfl (by decide +kernel) (by decide +kernel) (by decide +kernel) rfl rfl rfl (Sub.refl _) ?_
                refine mx_skip (i := 20) rfl (by decide +kernel) (by decide +kernel) (by decide +kernel) rfl rfl rfl (Sub.refl _) ?_
                refine mx_skip (i := 21) rfl (by decide +kernel) (by decide +kernel) (by decide +kernel) rfl rfl rfl (Sub.refl _) ?_
                refine mx_skip (i := 22) rfl (by decide +kernel) (by decide +kernel) (by decide +kernel) rfl rfl rfl (Sub.refl _) ?_
                refine mx_skip (i := 23) rfl (by decide +kernel) (by decide +kernel) (by decide +kernel) rfl rfl rfl (Sub.refl _) ?_
                refine mx_skip (i := 24) rfl (by decide +kernel) (by decide +kernel) (by decide +kernel) rfl rfl rfl (Sub.refl _) ?_
                refine mx_skip (i := 25) rfl (by decide +kernel) (by decide +kernel) (by decide +kernel) rfl rfl rfl (Sub.refl _) ?_
                refine mx_skip (i := 26) rfl (by decide +kernel) (by decide +kernel) (by decide +kernel) rfl rfl rfl (Sub.refl _) ?_
                refine mx (i := 27) rfl (by decide +kernel) (by decide +kernel) (by decide +kernel) rfl (fun w0 => ev_pick_f rfl rfl) rfl rfl (Sub.refl _) ?_
                refine mx_done (by decide +kernel) (Sub.refl _) ?_
                refine ax_then ?_
                refine At.regs (L' := [(2, _), (3, _), (5, _), (6, _), (7, _), (9, _), (36, _), (37, _), (38, _), (39, _), (40, _), (41, _), (42, _), (43, _), (44, _), (45, _), (46, _), (47, _), (48, _), (51, _), (52, _), (53, _), (54, _), (55, _), (56, _), (57, _), (58, _), (59, _), (60, _), (61, _), (62, _), (63, _), (64, _), (65, _), (66, _), (67, _), (68, _), (69, _), (70, _), (71, _), (72, _), (73, _), (74, _), (75, _), (76, _), (77, _), (78, _)]) (.cons rfl (.cons rfl (.cons rfl (.cons rfl (.cons rfl (.cons rfl (.cons rfl (.cons rfl (.cons rfl (.cons rfl (.cons rfl (.cons rfl (.cons rfl (.cons rfl (.cons rfl (.cons rfl (.cons rfl (.cons rfl (.cons rfl (.cons rfl (.cons rfl (.cons rfl (.cons rfl (.cons rfl (.cons rfl (.cons rfl (.cons rfl (.cons rfl (.cons rfl (.cons rfl (.cons rfl (.cons rfl (.cons rfl (.cons rfl (.cons rfl (.cons rfl (.cons rfl (.cons rfl (.cons rfl (.cons rfl (.cons rfl (.cons rfl (.cons rfl (.cons rfl (.cons rfl (.cons rfl (.cons rfl (.nil _)))))))))))))))))))))))))))))))))))))))))))))))) ?_
                refine cd_false rfl ?_
                refine cd_skip ?_
                refine ax_block ?_
                have hh := Qm.lw_miss (body := body) (ks := ks) (i := i) hlt (fun hx => hg63 hx.1)
                refine ax_heq (i := 5) (v' := .own (v) 39 32 (flat (Qm.lw body ms ks (i) (j + 1)))) rfl (by rw [hh.1]) ?_
                refine ax_eq (i := 7) (v' := .bool (decide (Qm.fnd body ms ks i (j + 1)))) rfl (congrArg Value.bool (decide_eq_decide.2 hh.2.symm)) ?_
                exact at_met (v) (trivial) (.cons rfl (.cons rfl (.cons rfl (.cons rfl (.cons rfl (.cons rfl (.nil _))))))) (.cons rfl (.nil _)) (.cons rfl (.cons rfl (.cons rfl (.cons rfl (.cons rfl (.nil _))))))
            ·
              refine cd_region ?_
              refine st (ev_move rfl) rfl rfl rfl ?_
              refine st (ev_add64 rfl rfl (by omega) (by omega)) rfl rfl rfl ?_
              refine st (ev_assign rfl) rfl rfl rfl ?_
              refine op_nil ?_
              exact at_again ((j + 1, z)) (⟨by show j + 1 ≤ ms.length; omega, by show j + 1 ≤ 4; omega⟩) (by omega) (.cons rfl (.cons rfl (.cons rfl (.cons rfl (.cons rfl (.cons rfl (.nil _))))))) (.cons rfl (.nil _)) (.cons rfl (.cons rfl (.cons rfl (.cons rfl (.cons rfl (.nil _))))))
          ·
            refine cd_exit ?_
            refine ax_then_exit ?_
            refine ax_then_exit ?_
            refine ax_block_hit ?_
            refine ax_block ?_
            refine ax_then ?_
            refine At.regs (L' := [(2, _), (3, _), (5, _), (6, _), (7, _), (9, _), (36, _), (37, _), (38, _), (39, _), (40, _), (41, _), (42, _), (43, _), (44, _), (45, _), (46, _), (47, _), (48, _)]) (.cons rfl (.cons rfl (.cons rfl (.cons rfl (.cons rfl (.cons rfl (.cons rfl (.cons rfl (.cons rfl (.cons rfl (.cons rfl (.cons rfl (.cons rfl (.cons rfl (.cons rfl (.cons rfl (.cons rfl (.cons rfl (.cons rfl (.nil _)))))))))))))))))))) ?_
            refine cd_region ?_
            refine st (ev_move rfl) rfl rfl rfl ?_
            refine st (ev_add64 rfl rfl (by omega) (by omega)) rfl rfl rfl ?_
            refine st (ev_assign rfl) rfl rfl rfl ?_
            refine op_nil ?_
            refine ax_heq (i := 5) (v' := .own (v) 39 32 (flat (Qm.who body ms (ks.take (i + 1))))) rfl (by rw [Qm.lw_end hlt1 hi3.2 (by first | exact .inl (by omega) | exact .inr (.inl (by omega)) | exact .inr (.inr (Classical.not_not.1 hc48)))]) ?_
            exact at_again ((i + 1, v)) (by show i + 1 ≤ ks.length; omega) (by omega) (.cons rfl (.cons rfl (.cons rfl (.cons rfl (.nil _))))) (.cons rfl (.nil _)) (.cons rfl (.cons rfl (.cons rfl (.cons rfl (.cons rfl (.nil _))))))
        ·
          refine st_skip rfl rfl rfl ?_
          refine st_skip rfl rfl rfl ?_
          refine st (ev_pick_f rfl rfl) rfl rfl rfl ?_
          refine op_nil ?_
          refine ax_then ?_
          refine At.regs (L' := [(2, _), (3, _), (5, _), (6, _), (7, _), (9, _), (36, _), (37, _), (38, _), (39, _), (40, _), (41, _), (42, _), (43, _), (44, _), (45, _), (46, _), (47, _), (48, _)]) (.cons rfl (.cons rfl (.cons rfl (.cons rfl (.cons rfl (.cons rfl (.cons rfl (.cons rfl (.cons rfl (.cons rfl (.cons rfl (.cons rfl (.cons rfl (.cons rfl (.cons rfl (.cons rfl (.cons rfl (.cons rfl (.cons rfl (.nil _)))))))))))))))))))) ?_
          refine cd_false rfl ?_
          refine cd_exit ?_
          refine ax_then_exit ?_
          refine ax_then_exit ?_
          refine ax_block_hit ?_
          refine ax_block ?_
          refine ax_then ?_
          refine At.regs (L' := [(2, _), (3, _), (5, _), (6, _), (7, _), (9, _), (36, _), (37, _), (38, _), (39, _), (40, _), (41, _), (42, _), (43, _), (44, _), (45, _), (46, _), (47, _), (48, _)]) (.cons rfl (.cons rfl (.cons rfl (.cons rfl (.cons rfl (.cons rfl (.cons rfl (.cons rfl (.cons rfl (.cons rfl (.cons rfl (.cons rfl (.cons rfl (.cons rfl (.cons rfl (.cons rfl (.cons rfl (.cons rfl (.cons rfl (.nil _)))))))))))))))))))) ?_
          refine cd_region ?_
          refine st (ev_move rfl) rfl rfl rfl ?_
          refine st (ev_add64 rfl rfl (by omega) (by omega)) rfl rfl rfl ?_
          refine st (ev_assign rfl) rfl rfl rfl ?_
          refine op_nil ?_
          refine ax_heq (i := 5) (v' := .own (v) 39 32 (flat (Qm.who body ms (ks.take (i + 1))))) rfl (by rw [Qm.lw_end hlt1 hi3.2 (by first | exact .inl (by omega) | exact .inr (.inl (by omega)) | exact .inr (.inr (Classical.not_not.1 hc48)))]) ?_
          exact at_again ((i + 1, v)) (by show i + 1 ≤ ks.length; omega) (by omega) (.cons rfl (.cons rfl (.cons rfl (.cons rfl (.nil _))))) (.cons rfl (.nil _)) (.cons rfl (.cons rfl (.cons rfl (.cons rfl (.cons rfl (.nil _))))))
      ·
        refine st_skip rfl rfl rfl ?_
        refine st_skip rfl rfl rfl ?_
        refine st (ev_pick_f rfl rfl) rfl rfl rfl ?_
        refine st (ev_move rfl) rfl rfl rfl ?_
        refine st_skip rfl rfl rfl ?_
        refine st_skip rfl rfl rfl ?_
        refine st (ev_pick_f rfl rfl) rfl rfl rfl ?_
        refine op_nil ?_
        refine ax_then ?_
        refine At.regs (L' := [(2, _), (3, _), (5, _), (6, _), (7, _), (9, _), (36, _), (37, _), (38, _), (39, _), (40, _), (41, _), (42, _), (43, _), (44, _), (45, _), (46, _), (47, _), (48, _)]) (.cons rfl (.cons rfl (.cons rfl (.cons rfl (.cons rfl (.cons rfl (.cons rfl (.cons rfl (.cons rfl (.cons rfl (.cons rfl (.cons rfl (.cons rfl (.cons rfl (.cons rfl (.cons rfl (.cons rfl (.cons rfl (.cons rfl (.nil _)))))))))))))))))))) ?_
        refine cd_false rfl ?_
        refine cd_exit ?_
        refine ax_then_exit ?_
        refine ax_then_exit ?_
        refine ax_block_hit ?_
        refine ax_block ?_
        refine ax_then ?_
        refine At.regs (L' := [(2, _), (3, _), (5, _), (6, _), (7, _), (9, _), (36, _), (37, _), (38, _), (39, _), (40, _), (41, _), (42, _), (43, _), (44, _), (45, _), (46, _), (47, _), (48, _)]) (.cons rfl (.cons rfl (.cons rfl (.cons rfl (.cons rfl (.cons rfl (.cons rfl (.cons rfl (.cons rfl (.cons rfl (.cons rfl (.cons rfl (.cons rfl (.cons rfl (.cons rfl (.cons rfl (.cons rfl (.cons rfl (.cons rfl (.nil _)))))))))))))))))))) ?_
        refine cd_region ?_
        refine st (ev_move rfl) rfl rfl rfl ?_
        refine st (ev_add64 rfl rfl (by omega) (by omega)) rfl rfl rfl ?_
        refine st (ev_assign rfl) rfl rfl rfl ?_
        refine op_nil ?_
        refine ax_heq (i := 5) (v' := .own (v) 39 32 (flat (Qm.who body ms (ks.take (i + 1))))) rfl (by rw [Qm.lw_end hlt1 hi3.2 (by first | exact .inl (by omega) | exact .inr (.inl (by omega)) | exact .inr (.inr (Classical.not_not.1 hc48)))]) ?_
        exact at_again ((i + 1, v)) (by show i + 1 ≤ ks.length; omega) (by omega) (.cons rfl (.cons rfl (.cons rfl (.cons rfl (.nil _))))) (.cons rfl (.nil _)) (.cons rfl (.cons rfl (.cons rfl (.cons rfl (.cons rfl (.nil _))))))
  ·
    obtain rfl : i = ks.length := by omega
    refine at_heq (i := 5) (v' := .own (u) 39 32 (flat (Qm.who body ms ks))) rfl (by rw [List.take_length]) ?_
    refine cd_exit ?_
    refine ax_then_exit ?_
    refine ax_then_exit ?_
    refine ax_block_hit ?_
    refine ax_then ?_
    refine At.regs (L' := [(5, _)]) (.cons rfl (.nil _)) ?_
    refine cd_seq ?_
    refine cd_region ?_
    refine st (ev_move rfl) rfl rfl rfl ?_
    refine st (ev_assign rfl) rfl rfl rfl ?_
    refine op_nil ?_
    refine ax_then ?_
    refine At.regs (L' := [(4, _)]) (.cons rfl (.nil _)) ?_
    refine cd_ret ?_
    refine rt_tmp (.inl rfl) Try.results18 rfl ?_
    exact fun w1 sw => ⟨u, trivial, rfl, (sw.gives (N := [(5, _)]) (.cons rfl (.nil _))).rn 0⟩
set_option maxRecDepth 20000 in
set_option maxHeartbeats 2000000 in
theorem rmeets_any (pb mv kv : Value) (need : Int) (body : List Int) (ms : List Qm.Mark) (ks : List (List Int)) (w : World) (hbody : Rd w pb 1 (ints .u8 body)) (hbl : body.length ≤ 140737488352000) (ha : Qm.AOk ms) (hml : ms.length ≤ 1000000) (hm : Rd w mv 35 (Qm.mflat ms)) (hmr : ∀ x, x ∈ ms → Qm.MRd w x) (hu : H32 ks) (hkl : ks.length ≤ 1000000) (hk : Rd w kv 32 (flat ks)) : Calls Try.prog 20 #[.agg (List.toArray [pb, mv]), .agg (List.toArray [kv, .int .i64 need])] w (PostV w (.bool (decide (meets body ms ks need)))) := by
  refine calls_at (vs := [.agg (List.toArray [pb, mv]), .agg (List.toArray [kv, .int .i64 need])]) (X := []) (H := []) (F := [(22, .sl (pb) 1 (ints .u8 (body))), (21, .sl (mv) 35 (Qm.mflat (ms))), (20, .sl (kv) 32 (flat (ks)))]) 16 Try.func20 rfl rfl rfl (((Sat.rd0 20 hk).more 21 hm).more 22 hbody) ?_
  refine cd_seq ?_
  refine cd_region ?_
  refine st_box (h := 2) rfl rfl rfl rfl (fun b2 => ?_)
  refine st_box (h := 3) rfl rfl rfl rfl (fun b3 => ?_)
  refine st (ev_assign rfl) rfl rfl rfl ?_
  refine op_nil ?_
  refine ax_then ?_
  refine At.regs (L' := [(2, _), (3, _), (4, _)]) (.cons rfl (.cons rfl (.cons rfl (.nil _)))) ?_
  refine cd_seq ?_
  refine at_freeze_blk (h := 2) (H' := [(3, _)]) 2 rfl (.cons rfl (.nil _)) rfl ?_
  refine at_freeze_blk (h := 3) (H' := []) 3 rfl (.nil _) rfl ?_
  refine cd_mix hmix ?_
  refine mx (i := 0) rfl (by decide +kernel) (by decide +kernel) (by decide +kernel) rfl (fun w0 => ld_mem_all (h := 3) ty28 rfl rfl rfl (by first | omega | (simp only [List.length_append, List.length_cons, List.length_nil, List.length_set, List.length_replicate, List.length_take, List.length_drop, ints_length, wr_length, sha_len, node_len, recov_len, Ky.named_len, Ky.keyPub_len] <;> omega) | rfl)) rfl rfl (Sub.refl _) ?_
  refine mx_one (i := 1) (by decide +kernel) (Sub.refl _) ?_
  refine wo (i := 1) rfl ?_
  refine st_callv has22 rfl (fun w1 sw => riskeys_any kv ks need w1 hu (by omega) (sw.sl_rd (h := 20) rfl)) rfl rfl ?_
  refine op_nil ?_
  refine ax_then ?_
  refine mx (i := 2) rfl (by decide +kernel) (by decide +kernel) (by decide +kernel) rfl (fun w0 => ev_move rfl) rfl rfl (Sub.refl _) ?_
  refine at_split_if (i := 7) rfl (fun hg7 => ?_) (fun hg7 => ?_)
  ·
    refine mx (i := 3) rfl (by decide +kernel) (by decide +kernel) (by decide +kernel) rfl (fun w0 => ld_mem_all (h := 2) ty25 rfl rfl rfl (by first | omega | (simp only [List.length_append, List.length_cons, List.length_nil, List.length_set, List.length_replicate, List.length_take, List.length_drop, ints_length, wr_length, sha_len, node_len, recov_len, Ky.named_len, Ky.keyPub_len] <;> omega) | rfl)) rfl rfl (Sub.refl _) ?_
    refine mx (i := 4) rfl (by decide +kernel) (by decide +kernel) (by decide +kernel) rfl (fun w0 => ld_mem_all (h := 3) ty28 rfl rfl rfl (by first | omega | (simp only [List.length_append, List.length_cons, List.length_nil, List.length_set, List.length_replicate, List.length_take, List.length_drop, ints_length, wr_length, sha_len, node_len, recov_len, Ky.named_len, Ky.keyPub_len] <;> omega) | rfl)) rfl rfl (Sub.refl _) ?_
    refine mx (i := 7) rfl (by decide +kernel) (by decide +kernel) (by decide +kernel) rfl (fun w0 => ev_fieldAddr (b := _) Try.underlying28 (f := _) rfl ty3 (by decide) rfl) rfl rfl (Sub.refl _) ?_
    refine mx (i := 8) rfl (by decide +kernel) (by decide +kernel) (by decide +kernel) rfl (fun w0 => ld_mem1 (h := 3) ty3 rfl rfl rfl (Nat.zero_add _).symm rfl) rfl rfl (Sub.refl _) ?_
    refine mx_one (i := 5) (by decide +kernel) (Sub.refl _) ?_
    refine wo (i := 5) rfl ?_
    refine st_call has18 rfl (fun w1 sw => rn 10 (rwho_any pb mv kv need body ms ks w1 (sw.sl_rd (h := 22) rfl) hbl ha hml (sw.sl_rd (h := 21) rfl) (fun x hx => (Qm.Keeps.of sw).mrd (hmr x hx)) hu hkl (sw.sl_rd (h := 20) rfl))) nil_all rfl rfl (fun v10 _ => ?_)
    have hwu := Qm.who_h32 body ms hu
    have hw32 := hwu.1
    refine op_nil ?_
    refine ax_then ?_
    refine mx_one (i := 6) (by decide +kernel) (Sub.refl _) ?_
    refine wo (i := 6) rfl ?_
    refine st (ev_len_ownh (h := 10) Try.underlying26 rfl rfl (by assumption)) rfl rfl rfl ?_
    refine op_nil ?_
    refine ax_then ?_
    refine mx (i := 9) rfl (by decide +kernel) (by decide +kernel) (by decide +kernel) rfl (fun w0 => ev_geq rfl rfl) rfl rfl (Sub.refl _) ?_
    refine mx (i := 10) rfl (by decide +kernel) (by decide +kernel) (by decide +kernel) rfl (fun w0 => ev_pick_t rfl rfl) rfl rfl (Sub.refl _) ?_
    refine mx (i := 11) rfl (by decide +kernel) (by decide +kernel) (by decide +kernel) rfl (fun w0 => ev_assign rfl) rfl rfl (Sub.refl _) ?_
    refine mx_done (by decide +kernel) (Sub.refl _) ?_
    refine ax_then ?_
    refine At.regs (L' := [(4, _)]) (.cons rfl (.nil _)) ?_
    refine cd_ret ?_
    refine rt_tmp (.inl rfl) Try.results20 rfl ?_
    exact fun w1 sw => ⟨congrArg (fun b => Ending.returned (Value.bool b)) (by first | exact (decide_eq_false (fun hh => hg7 hh.1)).symm | exact decide_eq_decide.2 ⟨fun hh => ⟨hg7, hh⟩, fun hh => hh.2⟩), sw.gives (.nil _)⟩
  ·
    refine mx_skip (i := 3) rfl (by decide +kernel) (by decide +kernel) (by decide +kernel) rfl rfl rfl (Sub.refl _) ?_
    refine mx_skip (i := 4) rfl (by decide +kernel) (by decide +kernel) (by decide +kernel) rfl rfl rfl (Sub.refl _) ?_
    refine mx_skip (i := 5) rfl (by decide +kernel) (by decide +kernel) (by decide +kernel) rfl rfl rfl (Sub.refl _) ?_
    refine mx_skip (i := 6) rfl (by decide +kernel) (by decide +kernel) (by decide +kernel) rfl rfl rfl (Sub.refl _) ?_
    refine mx_skip (i := 7) rfl (by decide +kernel) (by decide +kernel) (by decide +kernel) rfl rfl rfl (Sub.refl _) ?_
    refine mx_skip (i := 8) rfl (by decide +kernel) (by decide +kernel) (by decide +kernel) rfl rfl rfl (Sub.refl _) ?_
    refine mx_skip (i := 9) rfl (by decide +kernel) (by decide +kernel) (by decide +kernel) rfl rfl rfl (Sub.refl _) ?_
    refine mx (i := 10) rfl (by decide +kernel) (by decide +kernel) (by decide +kernel) rfl (fun w0 => ev_pick_f rfl rfl) rfl rfl (Sub.refl _) ?_
    refine mx (i := 11) rfl (by decide +kernel) (by decide +kernel) (by decide +kernel) rfl (fun w0 => ev_assign rfl) rfl rfl (Sub.refl _) ?_
    refine mx_done (by decide +kernel) (Sub.refl _) ?_
    refine ax_then ?_
    refine At.regs (L' := [(4, _)]) (.cons rfl (.nil _)) ?_
    refine cd_ret ?_
    refine rt_tmp (.inl rfl) Try.results20 rfl ?_
    exact fun w1 sw => ⟨congrArg (fun b => Ending.returned (Value.bool b)) (by first | exact (decide_eq_false (fun hh => hg7 hh.1)).symm | exact decide_eq_decide.2 ⟨fun hh => ⟨hg7, hh⟩, fun hh => hh.2⟩), sw.gives (.nil _)⟩
end Go.Proofs.Yteedclmcgifmpaa

namespace Go.Proofs.Yteedclmcgifmpaa
open Go Go.RowKit Fw
open Sha
open Ots
open Mk
set_option linter.unusedVariables false
set_option linter.unusedSimpArgs false
set_option maxRecDepth 20000 in
set_option maxHeartbeats 8000000 in
theorem quorumOther_any (pb : Value) (body : List Int) (a y : Int) (w : World) (hb0 : body.length ≤ 140737488351232) (hbody : Rd w pb 1 (ints .u8 body)) : Calls Try.prog 5 #[pb, .int .i64 a, .int .u8 y] w (PostV w (.bool true)) := by
  have hsb := rd_shape hbody
  refine calls_at (vs := [pb, .int .i64 a, .int .u8 y]) (X := []) (H := []) (F := [(400, .sl (pb) 1 (ints .u8 (body)))]) 98 Try.func5 rfl rfl rfl (Sat.rd0 400 hbody) ?_
  refine cd_seq ?_
  refine cd_region ?_
  refine st (ev_assign rfl) rfl rfl rfl ?_
  refine op_nil ?_
  refine ax_then ?_
  refine At.regs (L' := [(0, _), (1, _), (2, _), (6, _)]) (.cons rfl (.cons rfl (.cons rfl (.cons rfl (.nil _))))) ?_
  refine cd_seq ?_
  refine cd_seq ?_
  refine cd_region ?_
  refine st (ev_move rfl) rfl rfl rfl ?_
  refine st (ev_len_rdi (h := 400) Try.underlying22 rfl rfl) rfl rfl rfl ?_
  refine st (ev_lss rfl rfl) rfl rfl rfl ?_
  refine st (ev_move rfl) rfl rfl rfl ?_
  refine at_split_if (i := 14) rfl (fun hg14 => ?_) (fun hg14 => ?_)
  ·
    refine st_skip rfl rfl rfl ?_
    refine st_skip rfl rfl rfl ?_
    refine st_skip rfl rfl rfl ?_
    refine st (ev_pick_t rfl rfl) rfl rfl rfl ?_
    refine st (ev_move rfl) rfl rfl rfl ?_
    refine st_skip rfl rfl rfl ?_
    refine st_skip rfl rfl rfl ?_
    refine st (ev_pick_t rfl rfl) rfl rfl rfl ?_
    refine op_nil ?_
    refine ax_then ?_
    refine At.regs (L' := [(0, _), (1, _), (2, _), (6, _), (22, _)]) (.cons rfl (.cons rfl (.cons rfl (.cons rfl (.cons rfl (.nil _)))))) ?_
    refine cd_true rfl ?_
    refine cd_seq ?_
    refine cd_region ?_
    refine st (ev_assign rfl) rfl rfl rfl ?_
    refine op_nil ?_
    refine ax_then ?_
    refine At.regs (L' := [(0, _), (1, _), (2, _), (6, _)]) (.cons rfl (.cons rfl (.cons rfl (.cons rfl (.nil _))))) ?_
    refine cd_ret ?_
    refine ax_then_ret ?_
    refine rt_tmp (.inl rfl) Try.results5 rfl ?_
    exact fun w1 sw => ⟨rfl, sw.gives (.nil _)⟩
  ·
    refine st (ev_move rfl) rfl rfl rfl ?_
    refine st (ev_len_rdi (h := 400) Try.underlying22 rfl rfl) rfl rfl rfl ?_
    refine st (ev_gtr rfl rfl) rfl rfl rfl ?_
    refine st (ev_pick_f rfl rfl) rfl rfl rfl ?_
    refine st (ev_move rfl) rfl rfl rfl ?_
    refine at_split_if (i := 19) rfl (fun hg19 => ?_) (fun hg19 => ?_)
    ·
      refine st_skip rfl rfl rfl ?_
      refine st_skip rfl rfl rfl ?_
      refine st (ev_pick_t rfl rfl) rfl rfl rfl ?_
      refine op_nil ?_
      refine ax_then ?_
      refine At.regs (L' := [(0, _), (1, _), (2, _), (6, _), (22, _)]) (.cons rfl (.cons rfl (.cons rfl (.cons rfl (.cons rfl (.nil _)))))) ?_
      refine cd_true rfl ?_
      refine cd_seq ?_
      refine cd_region ?_
      refine st (ev_assign rfl) rfl rfl rfl ?_
      refine op_nil ?_
      refine ax_then ?_
      refine At.regs (L' := [(0, _), (1, _), (2, _), (6, _)]) (.cons rfl (.cons rfl (.cons rfl (.cons rfl (.nil _))))) ?_
      refine cd_ret ?_
      refine ax_then_ret ?_
      refine rt_tmp (.inl rfl) Try.results5 rfl ?_
      exact fun w1 sw => ⟨rfl, sw.gives (.nil _)⟩
    ·
      refine st (ev_move rfl) rfl rfl rfl ?_
      refine st (ev_eql rfl rfl) rfl rfl rfl ?_
      refine st (ev_pick_f rfl rfl) rfl rfl rfl ?_
      refine op_nil ?_
      refine ax_then ?_
      refine At.regs (L' := [(0, _), (1, _), (2, _), (6, _), (22, _)]) (.cons rfl (.cons rfl (.cons rfl (.cons rfl (.cons rfl (.nil _)))))) ?_
      refine cd_if rfl (fun hc22 => ?_) (fun hc22 => ?_)
      ·
        refine cd_seq ?_
        refine cd_region ?_
        refine st (ev_assign rfl) rfl rfl rfl ?_
        refine op_nil ?_
        refine ax_then ?_
        refine At.regs (L' := [(0, _), (1, _), (2, _), (6, _)]) (.cons rfl (.cons rfl (.cons rfl (.cons rfl (.nil _))))) ?_
        refine cd_ret ?_
        refine ax_then_ret ?_
        refine rt_tmp (.inl rfl) Try.results5 rfl ?_
        exact fun w1 sw => ⟨rfl, sw.gives (.nil _)⟩
      ·
        refine cd_skip ?_
        refine ax_then ?_
        refine At.regs (L' := [(0, _), (1, _), (2, _), (6, _)]) (.cons rfl (.cons rfl (.cons rfl (.cons rfl (.nil _))))) ?_
        refine cd_seq ?_
        refine cd_region ?_
        refine st (ev_move rfl) rfl rfl rfl ?_
        refine st_callR 200 has24 rfl (fun w1 sw => signed_any pb body 3 false w1 (sw.sl_rd (h := 400) rfl) (by omega)) rfl rfl (fun x25 hx hfr => ?_)
        obtain ⟨mv, kv, ms, R⟩ := x25
        dsimp only at hx hfr ⊢
        obtain ⟨hms, hcov⟩ := hx
        refine at_own_shape (h := 0) rfl (fun hsm => ?_)
        refine at_own_shape (h := 1) rfl (fun hsk => ?_)
        have ha := Qm.aok_of hms
        have hku := Qm.keysK_h32 3
        have hkn := Qm.keysK_len 3
        have hmt := Qm.meets_two hms
        obtain ⟨m0, m1, rfl, s0, s1⟩ := Qm.two_of hms
        have hmf := Qm.mflat_len ha
        have hok0 := ha m0 (by simp)
        have hok1 := ha m1 (by simp)
        have haa0 := Qm.aok_as (k := Ky.keyPub (Qm.sd 1)) (Ky.keyPub_len _) hok0
        have haa1 := Qm.aok_as (k := Ky.keyPub (Qm.sd 0)) (Ky.keyPub_len _) hok1
        have hnil : H32 [] := H32.nil
        refine st (ev_move rfl) rfl rfl rfl ?_
        refine st (ev_extract rfl rfl) rfl rfl rfl ?_
        refine st (ev_extract rfl rfl) rfl rfl rfl ?_
        refine st_alloc (h := 7) ty25 rfl rfl rfl (fun b7 => ?_)
        refine st_alloc (h := 8) ty28 rfl rfl rfl (fun b8 => ?_)
        refine st_store_all 7 ty25 rfl rfl rfl rfl rfl (by intro u hu; simp at hu; rcases hu with rfl | rfl; exact hsb.2; exact hsm.2) rfl rfl ?_
        refine st_store_all 8 ty28 rfl rfl rfl rfl rfl (by intro u hu; simp at hu; rcases hu with rfl | rfl; exact hsk.2; rfl) rfl rfl ?_
        refine op_nil ?_
        refine ax_then ?_
        refine At.regs (L' := [(0, _), (1, _), (2, _), (6, _), (7, _), (8, _)]) (.cons rfl (.cons rfl (.cons rfl (.cons rfl (.cons rfl (.cons rfl (.nil _))))))) ?_
        refine cd_seq ?_
        refine cd_region ?_
        refine st (ev_fieldAddr (b := _) Try.underlying28 (f := _) rfl ty3 (by decide) rfl) rfl rfl rfl ?_
        refine st_store1 8 ty3 rfl rfl rfl rfl (show 1 < 2 from by decide) rfl ?_
        refine at_heq (i := 8) (v' := .blk (b8) (.cells ([kv, .int .i64 1]).toArray 28)) rfl rfl ?_
        refine op_nil ?_
        refine ax_then ?_
        refine At.regs (L' := [(0, _), (1, _), (2, _), (6, _), (7, _), (8, _)]) (.cons rfl (.cons rfl (.cons rfl (.cons rfl (.cons rfl (.cons rfl (.nil _))))))) ?_
        refine cd_seq ?_
        refine cd_seq ?_
        refine cd_region ?_
        refine st (ev_fieldAddr (b := _) Try.underlying25 (f := _) rfl ty23 (by decide) rfl) rfl rfl rfl ?_
        refine st (ld_blk1 (h := 7) ty23 rfl rfl rfl rfl) rfl rfl rfl ?_
        refine st (ev_len_own (h := 0) (n := 2) Try.underlying23 rfl rfl hmf (by decide)) rfl rfl rfl ?_
        refine st (ev_neq rfl rfl) rfl rfl rfl ?_
        refine op_nil ?_
        refine ax_then ?_
        refine At.regs (L' := [(0, _), (1, _), (2, _), (6, _), (7, _), (8, _), (32, _)]) (.cons rfl (.cons rfl (.cons rfl (.cons rfl (.cons rfl (.cons rfl (.cons rfl (.nil _)))))))) ?_
        refine cd_if_f rfl (fun h => h rfl) ?_
        refine cd_skip ?_
        refine ax_then ?_
        refine At.regs (L' := [(0, _), (1, _), (2, _), (6, _), (7, _), (8, _)]) (.cons rfl (.cons rfl (.cons rfl (.cons rfl (.cons rfl (.cons rfl (.nil _))))))) ?_
        refine cd_seq ?_
        refine at_freeze (h := 0) (H' := [(1, _), (7, _), (8, _)]) 300 rfl (.cons rfl (.cons rfl (.cons rfl (.nil _)))) rfl ?_
        refine at_freeze (h := 1) (H' := [(7, _), (8, _)]) 301 rfl (.cons rfl (.cons rfl (.nil _))) rfl ?_
        refine at_freeze_blk (h := 7) (H' := [(8, _)]) 7 rfl (.cons rfl (.nil _)) rfl ?_
        refine at_freeze_blk (h := 8) (H' := []) 8 rfl (.nil _) rfl ?_
        refine cd_mix hmix ?_
        refine mx (i := 1) rfl (by decide +kernel) (by decide +kernel) (by decide +kernel) rfl (fun w0 => ev_move rfl) rfl rfl (Sub.refl _) ?_
        refine mx (i := 3) rfl (by decide +kernel) (by decide +kernel) (by decide +kernel) rfl (fun w0 => ev_fieldAddr (b := _) Try.underlying25 (f := _) rfl ty23 (by decide) rfl) rfl rfl (Sub.refl _) ?_
        refine mx (i := 4) rfl (by decide +kernel) (by decide +kernel) (by decide +kernel) rfl (fun w0 => ld_mem1 (h := 7) ty23 rfl rfl rfl (Nat.zero_add _).symm rfl) rfl rfl (Sub.refl _) ?_
        refine mx_two (i := 0) (j := 6) (by decide +kernel) (Sub.refl _) ?_ ?_
        ·
          refine wo (i := 0) rfl ?_
          refine st_bsi (h := 33) (xs := []) Try.underlying22 ty5 (by decide) rfl rfl (by decide) rfl rfl (fun b33 => ?_)
          refine op_nil ?_
          refine ax_then ?_
          refine mx_two (i := 2) (j := 6) (by decide +kernel) (Sub.refl _) ?_ ?_
          ·
            refine wo (i := 2) rfl ?_
            refine st_appendi (h := 33) Try.underlying22 Try.underlying22 ty5 rfl rfl rfl rfl (fun w1 sw => sw.sl_rd (h := 400) rfl) (by first | omega | (simp only [List.length_append, List.length_cons, List.length_nil, List.length_set, List.length_replicate, List.length_take, List.length_drop, ints_length, wr_length, sha_len, node_len, recov_len, Ky.named_len, Ky.keyPub_len] <;> omega)) (by decide) rfl rfl (fun v35 => ?_)
            refine at_heq (i := 33) (v' := .own (v35) 5 1 (ints .u8 (body))) rfl (by rw [List.nil_append]) ?_
            refine at_own_shape (h := 33) rfl (fun hs35 => ?_)
            refine op_nil ?_
            refine ax_then ?_
            refine mx (i := 5) rfl (by decide +kernel) (by decide +kernel) (by decide +kernel) rfl (fun w0 => ev_build_struct ty25 rfl pl25 rfl ((fill_put (i := 0) (off := 0) (n := 1) (vs := [v35]) rfl hs35.1 rfl (Nat.le_of_ble_eq_true rfl)).trans ((fill_put (i := 1) (off := 1) (n := 1) (vs := [mv]) rfl hsm.1 rfl (Nat.le_of_ble_eq_true rfl)).trans fill_nil))) rfl rfl (Sub.refl _) ?_
            refine at_eq (i := 38) (v' := .agg (List.toArray [v35, mv])) rfl rfl ?_
            refine mx_one (i := 6) (by decide +kernel) (Sub.refl _) ?_
            refine wo (i := 6) rfl ?_
            refine st_alloc (h := 9) ty25 rfl rfl rfl (fun b9 => ?_)
            refine op_nil ?_
            refine ax_then ?_
            refine mx_one (i := 7) (by decide +kernel) (Sub.refl _) ?_
            refine wo (i := 7) rfl ?_
            refine st_store_all 9 ty25 rfl rfl rfl rfl rfl (by intro u hu; simp at hu; rcases hu with rfl | rfl; exact hs35.2; exact hsm.2) rfl rfl ?_
            refine op_nil ?_
            refine ax_then ?_
            refine mx_done (by decide +kernel) (Sub.refl _) ?_
            refine ax_then ?_
            refine At.regs (L' := [(0, _), (1, _), (2, _), (6, _), (7, _), (8, _), (9, _)]) (.cons rfl (.cons rfl (.cons rfl (.cons rfl (.cons rfl (.cons rfl (.cons rfl (.nil _)))))))) ?_
            refine cd_seq ?_
            refine at_freeze_blk (h := 9) (H' := [(33, _)]) 9 rfl (.cons rfl (.nil _)) rfl ?_
            refine cd_open_tail 11 hmix (by decide +kernel) ?_
            refine qt (ev_fieldAddr (b := _) Try.underlying25 (f := _) rfl ty22 (by decide) rfl) rfl rfl rfl ?_
            refine qt (ld_mem1 (h := 9) ty22 rfl rfl rfl (Nat.zero_add _).symm rfl) rfl rfl rfl ?_
            refine qt (ev_move rfl) rfl rfl rfl ?_
            refine qt (ev_and rfl rfl) rfl rfl rfl ?_
            have hmk := mask_range a (m := 65535) (by decide) (by decide)
            refine qt (ev_move rfl) rfl rfl rfl ?_
            refine qt (ev_len_rdi (h := 400) Try.underlying22 rfl rfl) rfl rfl rfl ?_
            refine qt (ev_rem64 rfl rfl (by omega) (by omega)) rfl rfl rfl ?_
            obtain ⟨g, hg⟩ : ∃ g : Int, g = iand .i64 a 65535 % (body.length : Nat) := ⟨_, rfl⟩
            have hg0 : 0 ≤ g ∧ g < (body.length : Nat) := ⟨by rw [hg]; exact Int.emod_nonneg _ (by omega), by rw [hg]; exact Int.emod_lt_of_pos _ (by omega)⟩
            refine qt_eq (i := 45) (v' := .int .i64 g) rfl (by rw [hg]) ?_
            refine qt (ev_indexAddr_owni (h := 33) Try.underlying22 ty5 rfl rfl rfl (by omega) (by first | omega | (simp only [List.length_append, List.length_cons, List.length_nil, List.length_set, List.length_replicate, List.length_take, List.length_drop, ints_length, wr_length, sha_len, node_len, recov_len, Ky.named_len, Ky.keyPub_len] <;> omega))) rfl rfl rfl ?_
            refine qt (ld_own1 (h := 33) ty5 rfl rfl rfl (ints_get _ _ _ (by first | omega | (simp only [List.length_append, List.length_cons, List.length_nil, List.length_set, List.length_replicate, List.length_take, List.length_drop, ints_length, wr_length, sha_len, node_len, recov_len, Ky.named_len, Ky.keyPub_len] <;> omega) | rfl))) rfl rfl rfl ?_
            refine qt (ev_move rfl) rfl rfl rfl ?_
            refine qt (ev_xor rfl rfl) rfl rfl rfl ?_
            refine qt_end ?_
            refine st (ev_indexAddr_owni (h := 33) Try.underlying22 ty5 rfl rfl rfl (by omega) (by first | omega | (simp only [List.length_append, List.length_cons, List.length_nil, List.length_set, List.length_replicate, List.length_take, List.length_drop, ints_length, wr_length, sha_len, node_len, recov_len, Ky.named_len, Ky.keyPub_len] <;> omega))) rfl rfl rfl ?_
            refine st_store_own (vl := ints .u8 [_]) 33 ty5 rfl rfl rfl rfl (by first | omega | (simp only [List.length_append, List.length_cons, List.length_nil, List.length_set, List.length_replicate, List.length_take, List.length_drop, ints_length, wr_length, sha_len, node_len, recov_len, Ky.named_len, Ky.keyPub_len] <;> omega) | rfl) (ints_one _ _) (by first | omega | (simp only [List.length_append, List.length_cons, List.length_nil, List.length_set, List.length_replicate, List.length_take, List.length_drop, ints_length, wr_length, sha_len, node_len, recov_len, Ky.named_len, Ky.keyPub_len] <;> omega) | rfl) (by decide) rfl ?_
            refine at_heq (i := 33) rfl (by rw [ints_wr]) ?_
            obtain ⟨z, hz⟩ : ∃ z, z = body.take g.toNat ++ [ixor .u8 (body.getD g.toNat 0) y] ++ body.drop (g.toNat + 1) := ⟨_, rfl⟩
            refine at_heq (i := 33) (v' := .own (v35) 5 1 (ints .u8 (z))) rfl (by rw [hz]; rfl) ?_
            have hzl : z.length = body.length := by rw [hz]; simp; omega
            refine op_nil ?_
            refine ax_then ?_
            refine At.regs (L' := [(0, _), (6, _), (7, _), (8, _), (9, _)]) (.cons rfl (.cons rfl (.cons rfl (.cons rfl (.cons rfl (.nil _)))))) ?_
            refine cd_seq ?_
            refine cd_mix hmix ?_
            refine mx (i := 0) rfl (by decide +kernel) (by decide +kernel) (by decide +kernel) rfl (fun w0 => ev_move rfl) rfl rfl (Sub.refl _) ?_
            refine mx (i := 1) rfl (by decide +kernel) (by decide +kernel) (by decide +kernel) rfl (fun w0 => ev_fieldAddr (b := _) Try.underlying28 (f := _) rfl ty26 (by decide) rfl) rfl rfl (Sub.refl _) ?_
            refine mx (i := 2) rfl (by decide +kernel) (by decide +kernel) (by decide +kernel) rfl (fun w0 => ld_mem1 (h := 8) ty26 rfl rfl rfl (Nat.zero_add _).symm rfl) rfl rfl (Sub.refl _) ?_
            refine mx (i := 3) rfl (by decide +kernel) (by decide +kernel) (by decide +kernel) rfl (fun w0 => ev_indexAddr_rdh (h := 301) Try.underlying26 ty39 rfl rfl rfl (by assumption) (by omega) (by omega)) rfl rfl (Sub.refl _) ?_
            refine mx (i := 4) rfl (by decide +kernel) (by decide +kernel) (by decide +kernel) rfl (fun w0 => ld_rdh (h := 301) ty39 rfl rfl rfl (by assumption) (by omega)) rfl rfl (Sub.refl _) ?_
            refine at_eq (i := 55) (v' := .agg (ints .u8 (Ky.keyPub (Qm.sd 1))).toArray) rfl (congrArg (fun x => Value.agg (ints .u8 x).toArray) (Qm.keysK_get (n := 3) (i := 1) (by decide))) ?_
            refine mx (i := 5) rfl (by decide +kernel) (by decide +kernel) (by decide +kernel) rfl (fun w0 => ev_fieldAddr (b := _) Try.underlying25 (f := _) rfl ty23 (by decide) rfl) rfl rfl (Sub.refl _) ?_
            refine mx (i := 6) rfl (by decide +kernel) (by decide +kernel) (by decide +kernel) rfl (fun w0 => ld_mem1 (h := 7) ty23 rfl rfl rfl (Nat.zero_add _).symm rfl) rfl rfl (Sub.refl _) ?_
            refine mx (i := 7) rfl (by decide +kernel) (by decide +kernel) (by decide +kernel) rfl (fun w0 => ev_indexAddr_rd (h := 300) (n := 2) Try.underlying23 ty44 rfl rfl rfl hmf (by decide) (by decide) (by decide)) rfl rfl (Sub.refl _) ?_
            refine mx (i := 8) rfl (by decide +kernel) (by decide +kernel) (by decide +kernel) rfl (fun w0 => ev_fieldIn (n := 0) (k := (0 : Int).toNat * 35) Try.underlying44 rfl rfl rfl (fun w1 sw => sw.sl_rd (h := 300) rfl) (by rw [hmf]; simp only [List.length_cons, List.length_nil]; omega) (fun b off hx => ev_fieldAddr (b := _) Try.underlying44 (f := _) rfl ty42 (by decide) hx)) rfl rfl (Sub.refl _) ?_
            refine mx (i := 9) rfl (by decide +kernel) (by decide +kernel) (by decide +kernel) rfl (fun w0 => ld_rd (k := (0 : Int).toNat * 35 + 32) (h := 300) ty42 rfl rfl rfl (by decide) (by rw [hmf]; simp only [List.length_cons, List.length_nil]; omega)) rfl rfl (Sub.refl _) ?_
            refine at_eq (i := 60) (v' := .agg (List.toArray [.int .i64 m0.leaf, m0.vc, m0.vp])) rfl (congrArg (fun x => Value.agg (List.toArray x)) (Qm.mflat_sig ha (i := 0) (by simp))) ?_
            refine mx (i := 10) rfl (by decide +kernel) (by decide +kernel) (by decide +kernel) rfl (fun w0 => ev_build_struct ty44 rfl pl44 rfl ((fill_put (i := 0) (off := 0) (n := 32) (vs := ints .u8 (Ky.keyPub (Qm.sd 1))) rfl rfl (by rw [ints_length, Ky.keyPub_len]) (Nat.le_of_ble_eq_true rfl)).trans ((fill_put (i := 1) (off := 32) (n := 3) (vs := [.int .i64 m0.leaf, m0.vc, m0.vp]) rfl rfl rfl (by rw [wr_length (by rw [ints_length, Ky.keyPub_len]; exact Nat.le_of_ble_eq_true rfl)]; exact Nat.le_of_ble_eq_true rfl)).trans fill_nil))) rfl rfl (Sub.refl _) ?_
            refine at_eq (i := 61) (v' := .agg (Qm.mcells (Qm.asK (Ky.keyPub (Qm.sd 1)) m0)).toArray) rfl (congrArg (fun x => Value.agg (List.toArray x)) (Qm.mark_new (Ky.keyPub_len _) _ _ _)) ?_
            refine mx (i := 11) rfl (by decide +kernel) (by decide +kernel) (by decide +kernel) rfl (fun w0 => ev_fieldAddr (b := _) Try.underlying28 (f := _) rfl ty26 (by decide) rfl) rfl rfl (Sub.refl _) ?_
            refine mx (i := 12) rfl (by decide +kernel) (by decide +kernel) (by decide +kernel) rfl (fun w0 => ld_mem1 (h := 8) ty26 rfl rfl rfl (Nat.zero_add _).symm rfl) rfl rfl (Sub.refl _) ?_
            refine mx (i := 13) rfl (by decide +kernel) (by decide +kernel) (by decide +kernel) rfl (fun w0 => ev_indexAddr_rdh (h := 301) Try.underlying26 ty39 rfl rfl rfl (by assumption) (by omega) (by omega)) rfl rfl (Sub.refl _) ?_
            refine mx (i := 14) rfl (by decide +kernel) (by decide +kernel) (by decide +kernel) rfl (fun w0 => ld_rdh (h := 301) ty39 rfl rfl rfl (by assumption) (by omega)) rfl rfl (Sub.refl _) ?_
            refine at_eq (i := 65) (v' := .agg (ints .u8 (Ky.keyPub (Qm.sd 0))).toArray) rfl (congrArg (fun x => Value.agg (ints .u8 x).toArray) (Qm.keysK_get (n := 3) (i := 0) (by decide))) ?_
            refine mx (i := 15) rfl (by decide +kernel) (by decide +kernel) (by decide +kernel) rfl (fun w0 => ev_fieldAddr (b := _) Try.underlying25 (f := _) rfl ty23 (by decide) rfl) rfl rfl (Sub.refl _) ?_
            refine mx (i := 16) rfl (by decide +kernel) (by decide +kernel) (by decide +kernel) rfl (fun w0 => ld_mem1 (h := 7) ty23 rfl rfl rfl (Nat.zero_add _).symm rfl) rfl rfl (Sub.refl _) ?_
            refine mx (i := 17) rfl (by decide +kernel) (by decide +kernel) (by decide +kernel) rfl (fun w0 => ev_indexAddr_rd (h := 300) (n := 2) Try.underlying23 ty44 rfl rfl rfl hmf (by decide) (by decide) (by decide)) rfl rfl (Sub.refl _) ?_
            refine mx (i := 18) rfl (by decide +kernel) (by decide +kernel) (by decide +kernel) rfl (fun w0 => ev_fieldIn (n := 0) (k := (1 : Int).toNat * 35) Try.underlying44 rfl rfl rfl (fun w1 sw => sw.sl_rd (h := 300) rfl) (by rw [hmf]; simp only [List.length_cons, List.length_nil]; omega) (fun b off hx => ev_fieldAddr (b := _) Try.underlying44 (f := _) rfl ty42 (by decide) hx)) rfl rfl (Sub.refl _) ?_
            refine mx (i := 19) rfl (by decide +kernel) (by decide +kernel) (by decide +kernel) rfl (fun w0 => ld_rd (k := (1 : Int).toNat * 35 + 32) (h := 300) ty42 rfl rfl rfl (by decide) (by rw [hmf]; simp only [List.length_cons, List.length_nil]; omega)) rfl rfl (Sub.refl _) ?_
            refine at_eq (i := 70) (v' := .agg (List.toArray [.int .i64 m1.leaf, m1.vc, m1.vp])) rfl (congrArg (fun x => Value.agg (List.toArray x)) (Qm.mflat_sig ha (i := 1) (by simp))) ?_
            refine mx (i := 20) rfl (by decide +kernel) (by decide +kernel) (by decide +kernel) rfl (fun w0 => ev_build_struct ty44 rfl pl44 rfl ((fill_put (i := 0) (off := 0) (n := 32) (vs := ints .u8 (Ky.keyPub (Qm.sd 0))) rfl rfl (by rw [ints_length, Ky.keyPub_len]) (Nat.le_of_ble_eq_true rfl)).trans ((fill_put (i := 1) (off := 32) (n := 3) (vs := [.int .i64 m1.leaf, m1.vc, m1.vp]) rfl rfl rfl (by rw [wr_length (by rw [ints_length, Ky.keyPub_len]; exact Nat.le_of_ble_eq_true rfl)]; exact Nat.le_of_ble_eq_true rfl)).trans fill_nil))) rfl rfl (Sub.refl _) ?_
            refine at_eq (i := 71) (v' := .agg (Qm.mcells (Qm.asK (Ky.keyPub (Qm.sd 0)) m1)).toArray) rfl (congrArg (fun x => Value.agg (List.toArray x)) (Qm.mark_new (Ky.keyPub_len _) _ _ _)) ?_
            refine mx_two (i := 21) (j := 23) (by decide +kernel) (Sub.refl _) ?_ ?_
            ·
              refine wo (i := 21) rfl ?_
              refine st_bs2 (h := 72) Try.underlying23 ty44 rfl rfl rfl (Qm.mcells_len haa0) (Qm.mcells_len haa1) (by decide) (by decide) rfl rfl (fun b72 => ?_)
              refine at_heq (i := 72) (v' := .own ((.slice (some ⟨b72, 0, none⟩) 2 2)) 44 35 (Qm.mflat ([Qm.asK (Ky.keyPub (Qm.sd 1)) m0, Qm.asK (Ky.keyPub (Qm.sd 0)) m1]))) rfl (by simp [Qm.mflat]) ?_
              refine op_nil ?_
              refine ax_then ?_
              refine mx (i := 22) rfl (by decide +kernel) (by decide +kernel) (by decide +kernel) rfl (fun w0 => ev_build_struct ty25 rfl pl25 rfl ((fill_put (i := 0) (off := 0) (n := 1) (vs := [pb]) rfl hsb.1 rfl (Nat.le_of_ble_eq_true rfl)).trans ((fill_put (i := 1) (off := 1) (n := 1) (vs := [(.slice (some ⟨b72, 0, none⟩) 2 2)]) rfl rfl rfl (Nat.le_of_ble_eq_true rfl)).trans fill_nil))) rfl rfl (Sub.refl _) ?_
              refine at_eq (i := 73) (v' := .agg (List.toArray [pb, (.slice (some ⟨b72, 0, none⟩) 2 2)])) rfl rfl ?_
              refine mx_one (i := 23) (by decide +kernel) (Sub.refl _) ?_
              refine wo (i := 23) rfl ?_
              refine st_alloc (h := 10) ty25 rfl rfl rfl (fun b10 => ?_)
              refine op_nil ?_
              refine ax_then ?_
              refine mx_one (i := 24) (by decide +kernel) (Sub.refl _) ?_
              refine wo (i := 24) rfl ?_
              refine st_store_all 10 ty25 rfl rfl rfl rfl rfl (by intro u hu; simp at hu; rcases hu with rfl | rfl; exact hsb.2; rfl) rfl rfl ?_
              refine op_nil ?_
              refine ax_then ?_
              refine mx_done (by decide +kernel) (Sub.refl _) ?_
              refine ax_then ?_
              refine At.regs (L' := [(6, _), (7, _), (8, _), (9, _), (10, _)]) (.cons rfl (.cons rfl (.cons rfl (.cons rfl (.cons rfl (.nil _)))))) ?_
              refine cd_seq ?_
              refine at_freeze (h := 72) (H' := [(10, _), (33, _)]) 302 rfl (.cons rfl (.cons rfl (.nil _))) rfl ?_
              refine at_freeze (h := 33) (H' := [(10, _)]) 303 rfl (.cons rfl (.nil _)) rfl ?_
              refine at_freeze_blk (h := 10) (H' := []) 10 rfl (.nil _) rfl ?_
              refine cd_region ?_
              refine st (ld_mem_all (h := 7) ty25 rfl rfl rfl (by first | omega | (simp only [List.length_append, List.length_cons, List.length_nil, List.length_set, List.length_replicate, List.length_take, List.length_drop, ints_length, wr_length, sha_len, node_len, recov_len, Ky.named_len, Ky.keyPub_len] <;> omega) | rfl)) rfl rfl rfl ?_
              refine st (ld_mem_all (h := 8) ty28 rfl rfl rfl (by first | omega | (simp only [List.length_append, List.length_cons, List.length_nil, List.length_set, List.length_replicate, List.length_take, List.length_drop, ints_length, wr_length, sha_len, node_len, recov_len, Ky.named_len, Ky.keyPub_len] <;> omega) | rfl)) rfl rfl rfl ?_
              refine st_callv has19 rfl (fun w1 sw => meets_any pb mv kv 1 body [m0, m1] (Qm.keysK 3) w1 (sw.sl_rd (h := 400) rfl) (by omega) ha (by simp) (sw.sl_rd (h := 300) rfl) (fun x hx => ⟨sw.row (i := 200) rfl (hcov x hx).1, sw.row (i := 200) rfl (hcov x hx).2⟩) hku (by rw [hkn]; decide) (sw.sl_rd (h := 301) rfl)) rfl rfl ?_
              refine st (ev_move rfl) rfl rfl rfl ?_
              refine at_eq (i := 77) (v' := .bool true) rfl (by simp only [Value.bool.injEq, decide_eq_true_eq, decide_eq_false_iff_not]; exact hmt) ?_
              refine st (ld_mem_all (h := 9) ty25 rfl rfl rfl (by first | omega | (simp only [List.length_append, List.length_cons, List.length_nil, List.length_set, List.length_replicate, List.length_take, List.length_drop, ints_length, wr_length, sha_len, node_len, recov_len, Ky.named_len, Ky.keyPub_len] <;> omega) | rfl)) rfl rfl rfl ?_
              refine st (ld_mem_all (h := 8) ty28 rfl rfl rfl (by first | omega | (simp only [List.length_append, List.length_cons, List.length_nil, List.length_set, List.length_replicate, List.length_take, List.length_drop, ints_length, wr_length, sha_len, node_len, recov_len, Ky.named_len, Ky.keyPub_len] <;> omega) | rfl)) rfl rfl rfl ?_
              refine st_callv has19 rfl (fun w1 sw => meets_any v35 mv kv 1 z [m0, m1] (Qm.keysK 3) w1 (sw.sl_rd (h := 303) rfl) (by omega) ha (by simp) (sw.sl_rd (h := 300) rfl) (fun x hx => ⟨sw.row (i := 200) rfl (hcov x hx).1, sw.row (i := 200) rfl (hcov x hx).2⟩) hku (by rw [hkn]; decide) (sw.sl_rd (h := 301) rfl)) rfl rfl ?_
              refine st (ev_not_if rfl) rfl rfl rfl ?_
              refine st (ev_move rfl) rfl rfl rfl ?_
              refine at_split_if (i := 82) rfl (fun hg82 => ?_) (fun hg82 => ?_)
              ·
                refine st_skip rfl rfl rfl ?_
                refine st_skip rfl rfl rfl ?_
                refine st_skip rfl rfl rfl ?_
                refine st (ev_pick_t rfl rfl) rfl rfl rfl ?_
                refine st (ev_pick_t rfl rfl) rfl rfl rfl ?_
                refine st (ev_move rfl) rfl rfl rfl ?_
                refine st (ld_mem_all (h := 10) ty25 rfl rfl rfl (by first | omega | (simp only [List.length_append, List.length_cons, List.length_nil, List.length_set, List.length_replicate, List.length_take, List.length_drop, ints_length, wr_length, sha_len, node_len, recov_len, Ky.named_len, Ky.keyPub_len] <;> omega) | rfl)) rfl rfl rfl ?_
                refine st (ld_mem_all (h := 8) ty28 rfl rfl rfl (by first | omega | (simp only [List.length_append, List.length_cons, List.length_nil, List.length_set, List.length_replicate, List.length_take, List.length_drop, ints_length, wr_length, sha_len, node_len, recov_len, Ky.named_len, Ky.keyPub_len] <;> omega) | rfl)) rfl rfl rfl ?_
                refine st_call has17 rfl (fun w1 sw => rn 91 (who_any pb (.slice (some ⟨b72, 0, none⟩) 2 2) kv 1 body [Qm.asK (Ky.keyPub (Qm.sd 1)) m0, Qm.asK (Ky.keyPub (Qm.sd 0)) m1] (Qm.keysK 3) w1 (sw.sl_rd (h := 400) rfl) (by omega) (fun x hx => by
                    simp only [List.mem_cons, List.not_mem_nil, or_false] at hx
                    rcases hx with rfl | rfl
                    · exact haa0
                    · exact haa1) (by simp) (sw.sl_rd (h := 302) rfl) (fun x hx => by
                    simp only [List.mem_cons, List.not_mem_nil, or_false] at hx
                    rcases hx with rfl | rfl
                    · exact ⟨sw.row (i := 200) rfl (hcov m0 (by simp)).1, sw.row (i := 200) rfl (hcov m0 (by simp)).2⟩
                    · exact ⟨sw.row (i := 200) rfl (hcov m1 (by simp)).1, sw.row (i := 200) rfl (hcov m1 (by simp)).2⟩) hku (by rw [hkn]; decide) (sw.sl_rd (h := 301) rfl))) nil_all rfl rfl (fun v91 _ => ?_)
                refine at_heq (i := 91) (v' := .own (v91) 39 32 (flat ([]))) rfl (by rw [Qm.who_as s0 s1]) ?_
                refine st (ev_len_ownh (h := 91) Try.underlying26 rfl rfl (by assumption)) rfl rfl rfl ?_
                refine st (ev_eql rfl rfl) rfl rfl rfl ?_
                refine st (ev_pick_t rfl rfl) rfl rfl rfl ?_
                refine st (ev_move rfl) rfl rfl rfl ?_
                refine at_eq (i := 95) (v' := .bool true) rfl (by simp only [Value.bool.injEq, decide_eq_true_eq, decide_eq_false_iff_not]; rfl) ?_
                refine st_callv has23 rfl (fun w1 sw => known7_any w1) rfl rfl ?_
                refine st (ev_pick_t rfl rfl) rfl rfl rfl ?_
                refine st (ev_assign rfl) rfl rfl rfl ?_
                refine op_nil ?_
                refine ax_then ?_
                refine At.regs (L' := [(6, _)]) (.cons rfl (.nil _)) ?_
                refine cd_ret ?_
                refine rt_tmp (.inl rfl) Try.results5 rfl ?_
                exact fun w1 sw => ⟨rfl, sw.gives (.nil _)⟩
              ·
                refine st (ld_mem_all (h := 9) ty25 rfl rfl rfl (by first | omega | (simp only [List.length_append, List.length_cons, List.length_nil, List.length_set, List.length_replicate, List.length_take, List.length_drop, ints_length, wr_length, sha_len, node_len, recov_len, Ky.named_len, Ky.keyPub_len] <;> omega) | rfl)) rfl rfl rfl ?_
                refine st (ld_mem_all (h := 8) ty28 rfl rfl rfl (by first | omega | (simp only [List.length_append, List.length_cons, List.length_nil, List.length_set, List.length_replicate, List.length_take, List.length_drop, ints_length, wr_length, sha_len, node_len, recov_len, Ky.named_len, Ky.keyPub_len] <;> omega) | rfl)) rfl rfl rfl ?_
                refine st_callv has20 rfl (fun w1 sw => rmeets_any v35 mv kv 1 z [m0, m1] (Qm.keysK 3) w1 (sw.sl_rd (h := 303) rfl) (by omega) ha (by simp) (sw.sl_rd (h := 300) rfl) (fun x hx => ⟨sw.row (i := 200) rfl (hcov x hx).1, sw.row (i := 200) rfl (hcov x hx).2⟩) hku (by rw [hkn]; decide) (sw.sl_rd (h := 301) rfl)) rfl rfl ?_
                refine st (ev_pick_f rfl rfl) rfl rfl rfl ?_
                refine st (ev_pick_t rfl rfl) rfl rfl rfl ?_
                refine st (ev_move rfl) rfl rfl rfl ?_
                refine at_eq (i := 88) (v' := .bool true) rfl (by simp only [Value.bool.injEq, decide_eq_true_eq, decide_eq_false_iff_not]; exact Classical.not_not.1 hg82) ?_
                refine st (ld_mem_all (h := 10) ty25 rfl rfl rfl (by first | omega | (simp only [List.length_append, List.length_cons, List.length_nil, List.length_set, List.length_replicate, List.length_take, List.length_drop, ints_length, wr_length, sha_len, node_len, recov_len, Ky.named_len, Ky.keyPub_len] <;> omega) | rfl)) rfl rfl rfl ?_
                refine st (ld_mem_all (h := 8) ty28 rfl rfl rfl (by first | omega | (simp only [List.length_append, List.length_cons, List.length_nil, List.length_set, List.length_replicate, List.length_take, List.length_drop, ints_length, wr_length, sha_len, node_len, recov_len, Ky.named_len, Ky.keyPub_len] <;> omega) | rfl)) rfl rfl rfl ?_
                refine st_call has17 rfl (fun w1 sw => rn 91 (who_any pb (.slice (some ⟨b72, 0, none⟩) 2 2) kv 1 body [Qm.asK (Ky.keyPub (Qm.sd 1)) m0, Qm.asK (Ky.keyPub (Qm.sd 0)) m1] (Qm.keysK 3) w1 (sw.sl_rd (h := 400) rfl) (by omega) (fun x hx => by
                    simp only [List.mem_cons, List.not_mem_nil, or_false] at hx
                    rcases hx with rfl | rfl
                    · exact haa0
                    · exact haa1) (by simp) (sw.sl_rd (h := 302) rfl) (fun x hx => by
                    simp only [List.mem_cons, List.not_mem_nil, or_false] at hx
                    rcases hx with rfl | rfl
                    · exact ⟨sw.row (i := 200) rfl (hcov m0 (by simp)).1, sw.row (i := 200) rfl (hcov m0 (by simp)).2⟩
                    · exact ⟨sw.row (i := 200) rfl (hcov m1 (by simp)).1, sw.row (i := 200) rfl (hcov m1 (by simp)).2⟩) hku (by rw [hkn]; decide) (sw.sl_rd (h := 301) rfl))) nil_all rfl rfl (fun v91 _ => ?_)
                refine at_heq (i := 91) (v' := .own (v91) 39 32 (flat ([]))) rfl (by rw [Qm.who_as s0 s1]) ?_
                refine st (ev_len_ownh (h := 91) Try.underlying26 rfl rfl (by assumption)) rfl rfl rfl ?_
                refine st (ev_eql rfl rfl) rfl rfl rfl ?_
                refine st (ev_pick_t rfl rfl) rfl rfl rfl ?_
                refine st (ev_move rfl) rfl rfl rfl ?_
                refine at_eq (i := 95) (v' := .bool true) rfl (by simp only [Value.bool.injEq, decide_eq_true_eq, decide_eq_false_iff_not]; rfl) ?_
                refine st_callv has23 rfl (fun w1 sw => known7_any w1) rfl rfl ?_
                refine st (ev_pick_t rfl rfl) rfl rfl rfl ?_
                refine st (ev_assign rfl) rfl rfl rfl ?_
                refine op_nil ?_
                refine ax_then ?_
                refine At.regs (L' := [(6, _)]) (.cons rfl (.nil _)) ?_
                refine cd_ret ?_
                refine rt_tmp (.inl rfl) Try.results5 rfl ?_
                exact fun w1 sw => ⟨rfl, sw.gives (.nil _)⟩
            ·
              refine wo (i := 23) rfl ?_
              refine st_alloc (h := 10) ty25 rfl rfl rfl (fun b10 => ?_)
              refine op_nil ?_
              refine ax_then ?_
              refine mx_one (i := 21) (by decide +kernel) (Sub.refl _) ?_
              refine wo (i := 21) rfl ?_
              refine st_bs2 (h := 72) Try.underlying23 ty44 rfl rfl rfl (Qm.mcells_len haa0) (Qm.mcells_len haa1) (by decide) (by decide) rfl rfl (fun b72 => ?_)
              refine at_heq (i := 72) (v' := .own ((.slice (some ⟨b72, 0, none⟩) 2 2)) 44 35 (Qm.mflat ([Qm.asK (Ky.keyPub (Qm.sd 1)) m0, Qm.asK (Ky.keyPub (Qm.sd 0)) m1]))) rfl (by simp [Qm.mflat]) ?_
              refine op_nil ?_
              refine ax_then ?_
              refine mx (i := 22) rfl (by decide +kernel) (by decide +kernel) (by decide +kernel) rfl (fun w0 => ev_build_struct ty25 rfl pl25 rfl ((fill_put (i := 0) (off := 0) (n := 1) (vs := [pb]) rfl hsb.1 rfl (Nat.le_of_ble_eq_true rfl)).trans ((fill_put (i := 1) (off := 1) (n := 1) (vs := [(.slice (some ⟨b72, 0, none⟩) 2 2)]) rfl rfl rfl (Nat.le_of_ble_eq_true rfl)).trans fill_nil))) rfl rfl (Sub.refl _) ?_
              refine at_eq (i := 73) (v' := .agg (List.toArray [pb, (.slice (some ⟨b72, 0, none⟩) 2 2)])) rfl rfl ?_
              refine mx_one (i := 24) (by decide +kernel) (Sub.refl _) ?_
              refine wo (i := 24) rfl ?_
              refine st_store_all 10 ty25 rfl rfl rfl rfl rfl (by intro u hu; simp at hu; rcases hu with rfl | rfl; exact hsb.2; rfl) rfl rfl ?_
              refine op_nil ?_
              refine ax_then ?_
              refine mx_done (by decide +kernel) (Sub.refl _) ?_
              refine ax_then ?_
              refine At.regs (L' := [(6, _), (7, _), (8, _), (9, _), (10, _)]) (.cons rfl (.cons rfl (.cons rfl (.cons rfl (.cons rfl (.nil _)))))) ?_
              refine cd_seq ?_
              refine at_freeze (h := 72) (H' := [(10, _), (33, _)]) 302 rfl (.cons rfl (.cons rfl (.nil _))) rfl ?_
              refine at_freeze (h := 33) (H' := [(10, _)]) 303 rfl (.cons rfl (.nil _)) rfl ?_
              refine at_freeze_blk (h := 10) (H' := []) 10 rfl (.nil _) rfl ?_
              refine cd_region ?_
              refine st (ld_mem_all (h := 7) ty25 rfl rfl rfl (by first | omega | (simp only [List.length_append, List.length_cons, List.length_nil, List.length_set, List.length_replicate, List.length_take, List.length_drop, ints_length, wr_length, sha_len, node_len, recov_len, Ky.named_len, Ky.keyPub_len] <;> omega) | rfl)) rfl rfl rfl ?_
              refine st (ld_mem_all (h := 8) ty28 rfl rfl rfl (by first | omega | (simp only [List.length_append, List.length_cons, List.length_nil, List.length_set, List.length_replicate, List.length_take, List.length_drop, ints_length, wr_length, sha_len, node_len, recov_len, Ky.named_len, Ky.keyPub_len] <;> omega) | rfl)) rfl rfl rfl ?_
              refine st_callv has19 rfl (fun w1 sw => meets_any pb mv kv 1 body [m0, m1] (Qm.keysK 3) w1 (sw.sl_rd (h := 400) rfl) (by omega) ha (by simp) (sw.sl_rd (h := 300) rfl) (fun x hx => ⟨sw.row (i := 200) rfl (hcov x hx).1, sw.row (i := 200) rfl (hcov x hx).2⟩) hku (by rw [hkn]; decide) (sw.sl_rd (h := 301) rfl)) rfl rfl ?_
              refine st (ev_move rfl) rfl rfl rfl ?_
              refine at_eq (i := 77) (v' := .bool true) rfl (by simp only [Value.bool.injEq, decide_eq_true_eq, decide_eq_false_iff_not]; exact hmt) ?_
              refine st (ld_mem_all (h := 9) ty25 rfl rfl rfl (by first | omega | (simp only [List.length_append, List.length_cons, List.length_nil, List.length_set, List.length_replicate, List.length_take, List.length_drop, ints_length, wr_length, sha_len, node_len, recov_len, Ky.named_len, Ky.keyPub_len] <;> omega) | rfl)) rfl rfl rfl ?_
              refine st (ld_mem_all (h := 8) ty28 rfl rfl rfl (by first | omega | (simp only [List.length_append, List.length_cons, List.length_nil, List.length_set, List.length_replicate, List.length_take, List.length_drop, ints_length, wr_length, sha_len, node_len, recov_len, Ky.named_len, Ky.keyPub_len] <;> omega) | rfl)) rfl rfl rfl ?_
              refine st_callv has19 rfl (fun w1 sw => meets_any v35 mv kv 1 z [m0, m1] (Qm.keysK 3) w1 (sw.sl_rd (h := 303) rfl) (by omega) ha (by simp) (sw.sl_rd (h := 300) rfl) (fun x hx => ⟨sw.row (i := 200) rfl (hcov x hx).1, sw.row (i := 200) rfl (hcov x hx).2⟩) hku (by rw [hkn]; decide) (sw.sl_rd (h := 301) rfl)) rfl rfl ?_
              refine st (ev_not_if rfl) rfl rfl rfl ?_
              refine st (ev_move rfl) rfl rfl rfl ?_
              refine at_split_if (i := 82) rfl (fun hg82 => ?_) (fun hg82 => ?_)
              ·
                refine st_skip rfl rfl rfl ?_
                refine st_skip rfl rfl rfl ?_
                refine st_skip rfl rfl rfl ?_
                refine st (ev_pick_t rfl rfl) rfl rfl rfl ?_
                refine st (ev_pick_t rfl rfl) rfl rfl rfl ?_
                refine st (ev_move rfl) rfl rfl rfl ?_
                refine st (ld_mem_all (h := 10) ty25 rfl rfl rfl (by first | omega | (simp only [List.length_append, List.length_cons, List.length_nil, List.length_set, List.length_replicate, List.length_take, List.length_drop, ints_length, wr_length, sha_len, node_len, recov_len, Ky.named_len, Ky.keyPub_len] <;> omega) | rfl)) rfl rfl rfl ?_
                refine st (ld_mem_all (h := 8) ty28 rfl rfl rfl (by first | omega | (simp only [List.length_append, List.length_cons, List.length_nil, List.length_set, List.length_replicate, List.length_take, List.length_drop, ints_length, wr_length, sha_len, node_len, recov_len, Ky.named_len, Ky.keyPub_len] <;> omega) | rfl)) rfl rfl rfl ?_
                refine st_call has17 rfl (fun w1 sw => rn 91 (who_any pb (.slice (some ⟨b72, 0, none⟩) 2 2) kv 1 body [Qm.asK (Ky.keyPub (Qm.sd 1)) m0, Qm.asK (Ky.keyPub (Qm.sd 0)) m1] (Qm.keysK 3) w1 (sw.sl_rd (h := 400) rfl) (by omega) (fun x hx => by
                    simp only [List.mem_cons, List.not_mem_nil, or_false] at hx
                    rcases hx with rfl | rfl
                    · exact haa0
                    · exact haa1) (by simp) (sw.sl_rd (h := 302) rfl) (fun x hx => by
                    simp only [List.mem_cons, List.not_mem_nil, or_false] at hx
                    rcases hx with rfl | rfl
                    · exact ⟨sw.row (i := 200) rfl (hcov m0 (by simp)).1, sw.row (i := 200) rfl (hcov m0 (by simp)).2⟩
                    · exact ⟨sw.row (i := 200) rfl (hcov m1 (by simp)).1, sw.row (i := 200) rfl (hcov m1 (by simp)).2⟩) hku (by rw [hkn]; decide) (sw.sl_rd (h := 301) rfl))) nil_all rfl rfl (fun v91 _ => ?_)
                refine at_heq (i := 91) (v' := .own (v91) 39 32 (flat ([]))) rfl (by rw [Qm.who_as s0 s1]) ?_
                refine st (ev_len_ownh (h := 91) Try.underlying26 rfl rfl (by assumption)) rfl rfl rfl ?_
                refine st (ev_eql rfl rfl) rfl rfl rfl ?_
                refine st (ev_pick_t rfl rfl) rfl rfl rfl ?_
                refine st (ev_move rfl) rfl rfl rfl ?_
                refine at_eq (i := 95) (v' := .bool true) rfl (by simp only [Value.bool.injEq, decide_eq_true_eq, decide_eq_false_iff_not]; rfl) ?_
                refine st_callv has23 rfl (fun w1 sw => known7_any w1) rfl rfl ?_
                refine st (ev_pick_t rfl rfl) rfl rfl rfl ?_
                refine st (ev_assign rfl) rfl rfl rfl ?_
                refine op_nil ?_
                refine ax_then ?_
                refine At.regs (L' := [(6, _)]) (.cons rfl (.nil _)) ?_
                refine cd_ret ?_
                refine rt_tmp (.inl rfl) Try.results5 rfl ?_
                exact fun w1 sw => ⟨rfl, sw.gives (.nil _)⟩
              ·
                refine st (ld_mem_all (h := 9) ty25 rfl rfl rfl (by first | omega | (simp only [List.length_append, List.length_cons, List.length_nil, List.length_set, List.length_replicate, List.length_take, List.length_drop, ints_length, wr_length, sha_len, node_len, recov_len, Ky.named_len, Ky.keyPub_len] <;> omega) | rfl)) rfl rfl rfl ?_
                refine st (ld_mem_all (h := 8) ty28 rfl rfl rfl (by first | omega | (simp only [List.length_append, List.length_cons, List.length_nil, List.length_set, List.length_replicate, List.length_take, List.length_drop, ints_length, wr_length, sha_len, node_len, recov_len, Ky.named_len, Ky.keyPub_len] <;> omega) | rfl)) rfl rfl rfl ?_
                refine st_callv has20 rfl (fun w1 sw => rmeets_any v35 mv kv 1 z [m0, m1] (Qm.keysK 3) w1 (sw.sl_rd (h := 303) rfl) (by omega) ha (by simp) (sw.sl_rd (h := 300) rfl) (fun x hx => ⟨sw.row (i := 200) rfl (hcov x hx).1, sw.row (i := 200) rfl (hcov x hx).2⟩) hku (by rw [hkn]; decide) (sw.sl_rd (h := 301) rfl)) rfl rfl ?_
                refine st (ev_pick_f rfl rfl) rfl rfl rfl ?_
                refine st (ev_pick_t rfl rfl) rfl rfl rfl ?_
                refine st (ev_move rfl) rfl rfl rfl ?_
                refine at_eq (i := 88) (v' := .bool true) rfl (by simp only [Value.bool.injEq, decide_eq_true_eq, decide_eq_false_iff_not]; exact Classical.not_not.1 hg82) ?_
                refine st (ld_mem_all (h := 10) ty25 rfl rfl rfl (by first | omega | (simp only [List.length_append, List.length_cons, List.length_nil, List.length_set, List.length_replicate, List.length_take, List.length_drop, ints_length, wr_length, sha_len, node_len, recov_len, Ky.named_len, Ky.keyPub_len] <;> omega) | rfl)) rfl rfl rfl ?_
                refine st (ld_mem_all (h := 8) ty28 rfl rfl rfl (by first | omega | (simp only [List.length_append, List.length_cons, List.length_nil, List.length_set, List.length_replicate, List.length_take, List.length_drop, ints_length, wr_length, sha_len, node_len, recov_len, Ky.named_len, Ky.keyPub_len] <;> omega) | rfl)) rfl rfl rfl ?_
                refine st_call has17 rfl (fun w1 sw => rn 91 (who_any pb (.slice (some ⟨b72, 0, none⟩) 2 2) kv 1 body [Qm.asK (Ky.keyPub (Qm.sd 1)) m0, Qm.asK (Ky.keyPub (Qm.sd 0)) m1] (Qm.keysK 3) w1 (sw.sl_rd (h := 400) rfl) (by omega) (fun x hx => by
                    simp only [List.mem_cons, List.not_mem_nil, or_false] at hx
                    rcases hx with rfl | rfl
                    · exact haa0
                    · exact haa1) (by simp) (sw.sl_rd (h := 302) rfl) (fun x hx => by
                    simp only [List.mem_cons, List.not_mem_nil, or_false] at hx
                    rcases hx with rfl | rfl
                    · exact ⟨sw.row (i := 200) rfl (hcov m0 (by simp)).1, sw.row (i := 200) rfl (hcov m0 (by simp)).2⟩
                    · exact ⟨sw.row (i := 200) rfl (hcov m1 (by simp)).1, sw.row (i := 200) rfl (hcov m1 (by simp)).2⟩) hku (by rw [hkn]; decide) (sw.sl_rd (h := 301) rfl))) nil_all rfl rfl (fun v91 _ => ?_)
                refine at_heq (i := 91) (v' := .own (v91) 39 32 (flat ([]))) rfl (by rw [Qm.who_as s0 s1]) ?_
                refine st (ev_len_ownh (h := 91) Try.underlying26 rfl rfl (by assumption)) rfl rfl rfl ?_
                refine st (ev_eql rfl rfl) rfl rfl rfl ?_
                refine st (ev_pick_t rfl rfl) rfl rfl rfl ?_
                refine st (ev_move rfl) rfl rfl rfl ?_
                refine at_eq (i := 95) (v' := .bool true) rfl (by simp only [Value.bool.injEq, decide_eq_true_eq, decide_eq_false_iff_not]; rfl) ?_
                refine st_callv has23 rfl (fun w1 sw => known7_any w1) rfl rfl ?_
                refine st (ev_pick_t rfl rfl) rfl rfl rfl ?_
                refine st (ev_assign rfl) rfl rfl rfl ?_
                refine op_nil ?_
                refine ax_then ?_
                refine At.regs (L' := [(6, _)]) (.cons rfl (.nil _)) ?_
                refine cd_ret ?_
                refine rt_tmp (.inl rfl) Try.results5 rfl ?_
                exact fun w1 sw => ⟨rfl, sw.gives (.nil _)⟩
          ·
            refine wo (i := 6) rfl ?_
            refine st_alloc (h := 9) ty25 rfl rfl rfl (fun b9 => ?_)
            refine op_nil ?_
            refine ax_then ?_
            refine mx_one (i := 2) (by decide +kernel) (Sub.refl _) ?_
            refine wo (i := 2) rfl ?_
            refine st_appendi (h := 33) Try.underlying22 Try.underlying22 ty5 rfl rfl rfl rfl (fun w1 sw => sw.sl_rd (h := 400) rfl) (by first | omega | (simp only [List.length_append, List.length_cons, List.length_nil, List.length_set, List.length_replicate, List.length_take, List.length_drop, ints_length, wr_length, sha_len, node_len, recov_len, Ky.named_len, Ky.keyPub_len] <;> omega)) (by decide) rfl rfl (fun v35 => ?_)
            refine at_heq (i := 33) (v' := .own (v35) 5 1 (ints .u8 (body))) rfl (by rw [List.nil_append]) ?_
            refine at_own_shape (h := 33) rfl (fun hs35 => ?_)
            refine op_nil ?_
            refine ax_then ?_
            refine mx (i := 5) rfl (by decide +kernel) (by decide +kernel) (by decide +kernel) rfl (fun w0 => ev_build_struct ty25 rfl pl25 rfl ((fill_put (i := 0) (off := 0) (n := 1) (vs := [v35]) rfl hs35.1 rfl (Nat.le_of_ble_eq_true rfl)).trans ((fill_put (i := 1) (off := 1) (n := 1) (vs := [mv]) rfl hsm.1 rfl (Nat.le_of_ble_eq_true rfl)).trans fill_nil))) rfl rfl (Sub.refl _) ?_
            refine at_eq (i := 38) (v' := .agg (List.toArray [v35, mv])) rfl rfl ?_
            refine mx_one (i := 7) (by decide +kernel) (Sub.refl _) ?_
            refine wo (i := 7) rfl ?_
            refine st_store_all 9 ty25 rfl rfl rfl rfl rfl (by intro u hu; simp at hu; rcases hu with rfl | rfl; exact hs35.2; exact hsm.2) rfl rfl ?_
            refine op_nil ?_
            refine ax_then ?_
            refine mx_done (by decide +kernel) (Sub.refl _) ?_
            refine ax_then ?_
            refine At.regs (L' := [(0, _), (1, _), (2, _), (6, _), (7, _), (8, _), (9, _)]) (.cons rfl (.cons rfl (.cons rfl (.cons rfl (.cons rfl (.cons rfl (.cons rfl (.nil _)))))))) ?_
            refine cd_seq ?_
            refine at_freeze_blk (h := 9) (H' := [(33, _)]) 9 rfl (.cons rfl (.nil _)) rfl ?_
            refine cd_open_tail 11 hmix (by decide +kernel) ?_
            refine qt (ev_fieldAddr (b := _) Try.underlying25 (f := _) rfl ty22 (by decide) rfl) rfl rfl rfl ?_
            refine qt (ld_mem1 (h := 9) ty22 rfl rfl rfl (Nat.zero_add _).symm rfl) rfl rfl rfl ?_
            refine qt (ev_move rfl) rfl rfl rfl ?_
            refine qt (ev_and rfl rfl) rfl rfl rfl ?_
            have hmk := mask_range a (m := 65535) (by decide) (by decide)
            refine qt (ev_move rfl) rfl rfl rfl ?_
            refine qt (ev_len_rdi (h := 400) Try.underlying22 rfl rfl) rfl rfl rfl ?_
            refine qt (ev_rem64 rfl rfl (by omega) (by omega)) rfl rfl rfl ?_
            obtain ⟨g, hg⟩ : ∃ g : Int, g = iand .i64 a 65535 % (body.length : Nat) := ⟨_, rfl⟩
            have hg0 : 0 ≤ g ∧ g < (body.length : Nat) := ⟨by rw [hg]; exact Int.emod_nonneg _ (by omega), by rw [hg]; exact Int.emod_lt_of_pos _ (by omega)⟩
            refine qt_eq (i := 45) (v' := .int .i64 g) rfl (by rw [hg]) ?_
            refine qt (ev_indexAddr_owni (h := 33) Try.underlying22 ty5 rfl rfl rfl (by omega) (by first | omega | (simp only [List.length_append, List.length_cons, List.length_nil, List.length_set, List.length_replicate, List.length_take, List.length_drop, ints_length, wr_length, sha_len, node_len, recov_len, Ky.named_len, Ky.keyPub_len] <;> omega))) rfl rfl rfl ?_
            refine qt (ld_own1 (h := 33) ty5 rfl rfl rfl (ints_get _ _ _ (by first | omega | (simp only [List.length_append, List.length_cons, List.length_nil, List.length_set, List.length_replicate, List.length_take, List.length_drop, ints_length, wr_length, sha_len, node_len, recov_len, Ky.named_len, Ky.keyPub_len] <;> omega) | rfl))) rfl rfl rfl ?_
            refine qt (ev_move rfl) rfl rfl rfl ?_
            refine qt (ev_xor rfl rfl) rfl rfl rfl ?_
            refine qt_end ?_
            refine st (ev_indexAddr_owni (h := 33) Try.underlying22 ty5 rfl rfl rfl (by omega) (by first | omega | (simp only [List.length_append, List.length_cons, List.length_nil, List.length_set, List.length_replicate, List.length_take, List.length_drop, ints_length, wr_length, sha_len, node_len, recov_len, Ky.named_len, Ky.keyPub_len] <;> omega))) rfl rfl rfl ?_
            refine st_store_own (vl := ints .u8 [_]) 33 ty5 rfl rfl rfl rfl (by first | omega | (simp only [List.length_append, List.length_cons, List.length_nil, List.length_set, List.length_replicate, List.length_take, List.length_drop, ints_length, wr_length, sha_len, node_len, recov_len, Ky.named_len, Ky.keyPub_len] <;> omega) | rfl) (ints_one _ _) (by first | omega | (simp only [List.length_append, List.length_cons, List.length_nil, List.length_set, List.length_replicate, List.length_take, List.length_drop, ints_length, wr_length, sha_len, node_len, recov_len, Ky.named_len, Ky.keyPub_len] <;> omega) | rfl) (by decide) rfl ?_
            refine at_heq (i := 33) rfl (by rw [ints_wr]) ?_
            obtain ⟨z, hz⟩ : ∃ z, z = body.take g.toNat ++ [ixor .u8 (body.getD g.toNat 0) y] ++ body.drop (g.toNat + 1) := ⟨_, rfl⟩
            refine at_heq (i := 33) (v' := .own (v35) 5 1 (ints .u8 (z))) rfl (by rw [hz]; rfl) ?_
            have hzl : z.length = body.length := by rw [hz]; simp; omega
            refine op_nil ?_
            refine ax_then ?_
            refine At.regs (L' := [(0, _), (6, _), (7, _), (8, _), (9, _)]) (.cons rfl (.cons rfl (.cons rfl (.cons rfl (.cons rfl (.nil _)))))) ?_
            refine cd_seq ?_
            refine cd_mix hmix ?_
            refine mx (i := 0) rfl (by decide +kernel) (by decide +kernel) (by decide +kernel) rfl (fun w0 => ev_move rfl) rfl rfl (Sub.refl _) ?_
            refine mx (i := 1) rfl (by decide +kernel) (by decide +kernel) (by decide +kernel) rfl (fun w0 => ev_fieldAddr (b := _) Try.underlying28 (f := _) rfl ty26 (by decide) rfl) rfl rfl (Sub.refl _) ?_
            refine mx (i := 2) rfl (by decide +kernel) (by decide +kernel) (by decide +kernel) rfl (fun w0 => ld_mem1 (h := 8) ty26 rfl rfl rfl (Nat.zero_add _).symm rfl) rfl rfl (Sub.refl _) ?_
            refine mx (i := 3) rfl (by decide +kernel) (by decide +kernel) (by decide +kernel) rfl (fun w0 => ev_indexAddr_rdh (h := 301) Try.underlying26 ty39 rfl rfl rfl (by assumption) (by omega) (by omega)) rfl rfl (Sub.refl _) ?_
            refine mx (i := 4) rfl (by decide +kernel) (by decide +kernel) (by decide +kernel) rfl (fun w0 => ld_rdh (h := 301) ty39 rfl rfl rfl (by assumption) (by omega)) rfl rfl (Sub.refl _) ?_
            refine at_eq (i := 55) (v' := .agg (ints .u8 (Ky.keyPub (Qm.sd 1))).toArray) rfl (congrArg (fun x => Value.agg (ints .u8 x).toArray) (Qm.keysK_get (n := 3) (i := 1) (by decide))) ?_
            refine mx (i := 5) rfl (by decide +kernel) (by decide +kernel) (by decide +kernel) rfl (fun w0 => ev_fieldAddr (b := _) Try.underlying25 (f := _) rfl ty23 (by decide) rfl) rfl rfl (Sub.refl _) ?_
            refine mx (i := 6) rfl (by decide +kernel) (by decide +kernel) (by decide +kernel) rfl (fun w0 => ld_mem1 (h := 7) ty23 rfl rfl rfl (Nat.zero_add _).symm rfl) rfl rfl (Sub.refl _) ?_
            refine mx (i := 7) rfl (by decide +kernel) (by decide +kernel) (by decide +kernel) rfl (fun w0 => ev_indexAddr_rd (h := 300) (n := 2) Try.underlying23 ty44 rfl rfl rfl hmf (by decide) (by decide) (by decide)) rfl rfl (Sub.refl _) ?_
            refine mx (i := 8) rfl (by decide +kernel) (by decide +kernel) (by decide +kernel) rfl (fun w0 => ev_fieldIn (n := 0) (k := (0 : Int).toNat * 35) Try.underlying44 rfl rfl rfl (fun w1 sw => sw.sl_rd (h := 300) rfl) (by rw [hmf]; simp only [List.length_cons, List.length_nil]; omega) (fun b off hx => ev_fieldAddr (b := _) Try.underlying44 (f := _) rfl ty42 (by decide) hx)) rfl rfl (Sub.refl _) ?_
            refine mx (i := 9) rfl (by decide +kernel) (by decide +kernel) (by decide +kernel) rfl (fun w0 => ld_rd (k := (0 : Int).toNat * 35 + 32) (h := 300) ty42 rfl rfl rfl (by decide) (by rw [hmf]; simp only [List.length_cons, List.length_nil]; omega)) rfl rfl (Sub.refl _) ?_
            refine at_eq (i := 60) (v' := .agg (List.toArray [.int .i64 m0.leaf, m0.vc, m0.vp])) rfl (congrArg (fun x => Value.agg (List.toArray x)) (Qm.mflat_sig ha (i := 0) (by simp))) ?_
            refine mx (i := 10) rfl (by decide +kernel) (by decide +kernel) (by decide +kernel) rfl (fun w0 => ev_build_struct ty44 rfl pl44 rfl ((fill_put (i := 0) (off := 0) (n := 32) (vs := ints .u8 (Ky.keyPub (Qm.sd 1))) rfl rfl (by rw [ints_length, Ky.keyPub_len]) (Nat.le_of_ble_eq_true rfl)).trans ((fill_put (i := 1) (off := 32) (n := 3) (vs := [.int .i64 m0.leaf, m0.vc, m0.vp]) rfl rfl rfl (by rw [wr_length (by rw [ints_length, Ky.keyPub_len]; exact Nat.le_of_ble_eq_true rfl)]; exact Nat.le_of_ble_eq_true rfl)).trans fill_nil))) rfl rfl (Sub.refl _) ?_
            refine at_eq (i := 61) (v' := .agg (Qm.mcells (Qm.asK (Ky.keyPub (Qm.sd 1)) m0)).toArray) rfl (congrArg (fun x => Value.agg (List.toArray x)) (Qm.mark_new (Ky.keyPub_len _) _ _ _)) ?_
            refine mx (i := 11) rfl (by decide +kernel) (by decide +kernel) (by decide +kernel) rfl (fun w0 => ev_fieldAddr (b := _) Try.underlying28 (f := _) rfl ty26 (by decide) rfl) rfl rfl (Sub.refl _) ?_
            refine mx (i := 12) rfl (by decide +kernel) (by decide +kernel) (by decide +kernel) rfl (fun w0 => ld_mem1 (h := 8) ty26 rfl rfl rfl (Nat.zero_add _).symm rfl) rfl rfl (Sub.refl _) ?_
            refine mx (i := 13) rfl (by decide +kernel) (by decide +kernel) (by decide +kernel) rfl (fun w0 => ev_indexAddr_rdh (h := 301) Try.underlying26 ty39 rfl rfl rfl (by assumption) (by omega) (by omega)) rfl rfl (Sub.refl _) ?_
            refine mx (i := 14) rfl (by decide +kernel) (by decide +kernel) (by decide +kernel) rfl (fun w0 => ld_rdh (h := 301) ty39 rfl rfl rfl (by assumption) (by omega)) rfl rfl (Sub.refl _) ?_
            refine at_eq (i := 65) (v' := .agg (ints .u8 (Ky.keyPub (Qm.sd 0))).toArray) rfl (congrArg (fun x => Value.agg (ints .u8 x).toArray) (Qm.keysK_get (n := 3) (i := 0) (by decide))) ?_
            refine mx (i := 15) rfl (by decide +kernel) (by decide +kernel) (by decide +kernel) rfl (fun w0 => ev_fieldAddr (b := _) Try.underlying25 (f := _) rfl ty23 (by decide) rfl) rfl rfl (Sub.refl _) ?_
            refine mx (i := 16) rfl (by decide +kernel) (by decide +kernel) (by decide +kernel) rfl (fun w0 => ld_mem1 (h := 7) ty23 rfl rfl rfl (Nat.zero_add _).symm rfl) rfl rfl (Sub.refl _) ?_
            refine mx (i := 17) rfl (by decide +kernel) (by decide +kernel) (by decide +kernel) rfl (fun w0 => ev_indexAddr_rd (h := 300) (n := 2) Try.underlying23 ty44 rfl rfl rfl hmf (by decide) (by decide) (by decide)) rfl rfl (Sub.refl _) ?_
            refine mx (i := 18) rfl (by decide +kernel) (by decide +kernel) (by decide +kernel) rfl (fun w0 => ev_fieldIn (n := 0) (k := (1 : Int).toNat * 35) Try.underlying44 rfl rfl rfl (fun w1 sw => sw.sl_rd (h := 300) rfl) (by rw [hmf]; simp only [List.length_cons, List.length_nil]; omega) (fun b off hx => ev_fieldAddr (b := _) Try.underlying44 (f := _) rfl ty42 (by decide) hx)) rfl rfl (Sub.refl _) ?_
            refine mx (i := 19) rfl (by decide +kernel) (by decide +kernel) (by decide +kernel) rfl (fun w0 => ld_rd (k := (1 : Int).toNat * 35 + 32) (h := 300) ty42 rfl rfl rfl (by decide) (by rw [hmf]; simp only [List.length_cons, List.length_nil]; omega)) rfl rfl (Sub.refl _) ?_
            refine at_eq (i := 70) (v' := .agg (List.toArray [.int .i64 m1.leaf, m1.vc, m1.vp])) rfl (congrArg (fun x => Value.agg (List.toArray x)) (Qm.mflat_sig ha (i := 1) (by simp))) ?_
            refine mx (i := 20) rfl (by decide +kernel) (by decide +kernel) (by decide +kernel) rfl (fun w0 => ev_build_struct ty44 rfl pl44 rfl ((fill_put (i := 0) (off := 0) (n := 32) (vs := ints .u8 (Ky.keyPub (Qm.sd 0))) rfl rfl (by rw [ints_length, Ky.keyPub_len]) (Nat.le_of_ble_eq_true rfl)).trans ((fill_put (i := 1) (off := 32) (n := 3) (vs := [.int .i64 m1.leaf, m1.vc, m1.vp]) rfl rfl rfl (by rw [wr_length (by rw [ints_length, Ky.keyPub_len]; exact Nat.le_of_ble_eq_true rfl)]; exact Nat.le_of_ble_eq_true rfl)).trans fill_nil))) rfl rfl (Sub.refl _) ?_
            refine at_eq (i := 71) (v' := .agg (Qm.mcells (Qm.asK (Ky.keyPub (Qm.sd 0)) m1)).toArray) rfl (congrArg (fun x => Value.agg (List.toArray x)) (Qm.mark_new (Ky.keyPub_len _) _ _ _)) ?_
            refine mx_two (i := 21) (j := 23) (by decide +kernel) (Sub.refl _) ?_ ?_
            ·
              refine wo (i := 21) rfl ?_
              refine st_bs2 (h := 72) Try.underlying23 ty44 rfl rfl rfl (Qm.mcells_len haa0) (Qm.mcells_len haa1) (by decide) (by decide) rfl rfl (fun b72 => ?_)
              refine at_heq (i := 72) (v' := .own ((.slice (some ⟨b72, 0, none⟩) 2 2)) 44 35 (Qm.mflat ([Qm.asK (Ky.keyPub (Qm.sd 1)) m0, Qm.asK (Ky.keyPub (Qm.sd 0)) m1]))) rfl (by simp [Qm.mflat]) ?_
              refine op_nil ?_
              refine ax_then ?_
              refine mx (i := 22) rfl (by decide +kernel) (by decide +kernel) (by decide +kernel) rfl (fun w0 => ev_build_struct ty25 rfl pl25 rfl ((fill_put (i := 0) (off := 0) (n := 1) (vs := [pb]) rfl hsb.1 rfl (Nat.le_of_ble_eq_true rfl)).trans ((fill_put (i := 1) (off := 1) (n := 1) (vs := [(.slice (some ⟨b72, 0, none⟩) 2 2)]) rfl rfl rfl (Nat.le_of_ble_eq_true rfl)).trans fill_nil))) rfl rfl (Sub.refl _) ?_
              refine at_eq (i := 73) (v' := .agg (List.toArray [pb, (.slice (some ⟨b72, 0, none⟩) 2 2)])) rfl rfl ?_
              refine mx_one (i := 23) (by decide +kernel) (Sub.refl _) ?_
              refine wo (i := 23) rfl ?_
              refine st_alloc (h := 10) ty25 rfl rfl rfl (fun b10 => ?_)
              refine op_nil ?_
              refine ax_then ?_
              refine mx_one (i := 24) (by decide +kernel) (Sub.refl _) ?_
              refine wo (i := 24) rfl ?_
              refine st_store_all 10 ty25 rfl rfl rfl rfl rfl (by intro u hu; simp at hu; rcases hu with rfl | rfl; exact hsb.2; rfl) rfl rfl ?_
              refine op_nil ?_
              refine ax_then ?_
              refine mx_done (by decide +kernel) (Sub.refl _) ?_
              refine ax_then ?_
              refine At.regs (L' := [(6, _), (7, _), (8, _), (9, _), (10, _)]) (.cons rfl (.cons rfl (.cons rfl (.cons rfl (.cons rfl (.nil _)))))) ?_
              refine cd_seq ?_
              refine at_freeze (h := 72) (H' := [(10, _), (33, _)]) 302 rfl (.cons rfl (.cons rfl (.nil _))) rfl ?_
              refine at_freeze (h := 33) (H' := [(10, _)]) 303 rfl (.cons rfl (.nil _)) rfl ?_
              refine at_freeze_blk (h := 10) (H' := []) 10 rfl (.nil _) rfl ?_
              refine cd_region ?_
              refine st (ld_mem_all (h := 7) ty25 rfl rfl rfl (by first | omega | (simp only [List.length_append, List.length_cons, List.length_nil, List.length_set, List.length_replicate, List.length_take, List.length_drop, ints_length, wr_length, sha_len, node_len, recov_len, Ky.named_len, Ky.keyPub_len] <;> omega) | rfl)) rfl rfl rfl ?_
              refine st (ld_mem_all (h := 8) ty28 rfl rfl rfl (by first | omega | (simp only [List.length_append, List.length_cons, List.length_nil, List.length_set, List.length_replicate, List.length_take, List.length_drop, ints_length, wr_length, sha_len, node_len, recov_len, Ky.named_len, Ky.keyPub_len] <;> omega) | rfl)) rfl rfl rfl ?_
              refine st_callv has19 rfl (fun w1 sw => meets_any pb mv kv 1 body [m0, m1] (Qm.keysK 3) w1 (sw.sl_rd (h := 400) rfl) (by omega) ha (by simp) (sw.sl_rd (h := 300) rfl) (fun x hx => ⟨sw.row (i := 200) rfl (hcov x hx).1, sw.row (i := 200) rfl (hcov x hx).2⟩) hku (by rw [hkn]; decide) (sw.sl_rd (h := 301) rfl)) rfl rfl ?_
              refine st (ev_move rfl) rfl rfl rfl ?_
              refine at_eq (i := 77) (v' := .bool true) rfl (by simp only [Value.bool.injEq, decide_eq_true_eq, decide_eq_false_iff_not]; exact hmt) ?_
              refine st (ld_mem_all (h := 9) ty25 rfl rfl rfl (by first | omega | (simp only [List.length_append, List.length_cons, List.length_nil, List.length_set, List.length_replicate, List.length_take, List.length_drop, ints_length, wr_length, sha_len, node_len, recov_len, Ky.named_len, Ky.keyPub_len] <;> omega) | rfl)) rfl rfl rfl ?_
              refine st (ld_mem_all (h := 8) ty28 rfl rfl rfl (by first | omega | (simp only [List.length_append, List.length_cons, List.length_nil, List.length_set, List.length_replicate, List.length_take, List.length_drop, ints_length, wr_length, sha_len, node_len, recov_len, Ky.named_len, Ky.keyPub_len] <;> omega) | rfl)) rfl rfl rfl ?_
              refine st_callv has19 rfl (fun w1 sw => meets_any v35 mv kv 1 z [m0, m1] (Qm.keysK 3) w1 (sw.sl_rd (h := 303) rfl) (by omega) ha (by simp) (sw.sl_rd (h := 300) rfl) (fun x hx => ⟨sw.row (i := 200) rfl (hcov x hx).1, sw.row (i := 200) rfl (hcov x hx).2⟩) hku (by rw [hkn]; decide) (sw.sl_rd (h := 301) rfl)) rfl rfl ?_
              refine st (ev_not_if rfl) rfl rfl rfl ?_
              refine st (ev_move rfl) rfl rfl rfl ?_
              refine at_split_if (i := 82) rfl (fun hg82 => ?_) (fun hg82 => ?_)
              ·
                refine st_skip rfl rfl rfl ?_
                refine st_skip rfl rfl rfl ?_
                refine st_skip rfl rfl rfl ?_
                refine st (ev_pick_t rfl rfl) rfl rfl rfl ?_
                refine st (ev_pick_t rfl rfl) rfl rfl rfl ?_
                refine st (ev_move rfl) rfl rfl rfl ?_
                refine st (ld_mem_all (h := 10) ty25 rfl rfl rfl (by first | omega | (simp only [List.length_append, List.length_cons, List.length_nil, List.length_set, List.length_replicate, List.length_take, List.length_drop, ints_length, wr_length, sha_len, node_len, recov_len, Ky.named_len, Ky.keyPub_len] <;> omega) | rfl)) rfl rfl rfl ?_
                refine st (ld_mem_all (h := 8) ty28 rfl rfl rfl (by first | omega | (simp only [List.length_append, List.length_cons, List.length_nil, List.length_set, List.length_replicate, List.length_take, List.length_drop, ints_length, wr_length, sha_len, node_len, recov_len, Ky.named_len, Ky.keyPub_len] <;> omega) | rfl)) rfl rfl rfl ?_
                refine st_call has17 rfl (fun w1 sw => rn 91 (who_any pb (.slice (some ⟨b72, 0, none⟩) 2 2) kv 1 body [Qm.asK (Ky.keyPub (Qm.sd 1)) m0, Qm.asK (Ky.keyPub (Qm.sd 0)) m1] (Qm.keysK 3) w1 (sw.sl_rd (h := 400) rfl) (by omega) (fun x hx => by
                    simp only [List.mem_cons, List.not_mem_nil, or_false] at hx
                    rcases hx with rfl | rfl
                    · exact haa0
                    · exact haa1) (by simp) (sw.sl_rd (h := 302) rfl) (fun x hx => by
                    simp only [List.mem_cons, List.not_mem_nil, or_false] at hx
                    rcases hx with rfl | rfl
                    · exact ⟨sw.row (i := 200) rfl (hcov m0 (by simp)).1, sw.row (i := 200) rfl (hcov m0 (by simp)).2⟩
                    · exact ⟨sw.row (i := 200) rfl (hcov m1 (by simp)).1, sw.row (i := 200) rfl (hcov m1 (by simp)).2⟩) hku (by rw [hkn]; decide) (sw.sl_rd (h := 301) rfl))) nil_all rfl rfl (fun v91 _ => ?_)
                refine at_heq (i := 91) (v' := .own (v91) 39 32 (flat ([]))) rfl (by rw [Qm.who_as s0 s1]) ?_
                refine st (ev_len_ownh (h := 91) Try.underlying26 rfl rfl (by assumption)) rfl rfl rfl ?_
                refine st (ev_eql rfl rfl) rfl rfl rfl ?_
                refine st (ev_pick_t rfl rfl) rfl rfl rfl ?_
                refine st (ev_move rfl) rfl rfl rfl ?_
                refine at_eq (i := 95) (v' := .bool true) rfl (by simp only [Value.bool.injEq, decide_eq_true_eq, decide_eq_false_iff_not]; rfl) ?_
                refine st_callv has23 rfl (fun w1 sw => known7_any w1) rfl rfl ?_
                refine st (ev_pick_t rfl rfl) rfl rfl rfl ?_
                refine st (ev_assign rfl) rfl rfl rfl ?_
                refine op_nil ?_
                refine ax_then ?_
                refine At.regs (L' := [(6, _)]) (.cons rfl (.nil _)) ?_
                refine cd_ret ?_
                refine rt_tmp (.inl rfl) Try.results5 rfl ?_
                exact fun w1 sw => ⟨rfl, sw.gives (.nil _)⟩
              ·
                refine st (ld_mem_all (h := 9) ty25 rfl rfl rfl (by first | omega | (simp only [List.length_append, List.length_cons, List.length_nil, List.length_set, List.length_replicate, List.length_take, List.length_drop, ints_length, wr_length, sha_len, node_len, recov_len, Ky.named_len, Ky.keyPub_len] <;> omega) | rfl)) rfl rfl rfl ?_
                refine st (ld_mem_all (h := 8) ty28 rfl rfl rfl (by first | omega | (simp only [List.length_append, List.length_cons, List.length_nil, List.length_set, List.length_replicate, List.length_take, List.length_drop, ints_length, wr_length, sha_len, node_len, recov_len, Ky.named_len, Ky.keyPub_len] <;> omega) | rfl)) rfl rfl rfl ?_
                refine st_callv has20 rfl (fun w1 sw => rmeets_any v35 mv kv 1 z [m0, m1] (Qm.keysK 3) w1 (sw.sl_rd (h := 303) rfl) (by omega) ha (by simp) (sw.sl_rd (h := 300) rfl) (fun x hx => ⟨sw.row (i := 200) rfl (hcov x hx).1, sw.row (i := 200) rfl (hcov x hx).2⟩) hku (by rw [hkn]; decide) (sw.sl_rd (h := 301) rfl)) rfl rfl ?_
                refine st (ev_pick_f rfl rfl) rfl rfl rfl ?_
                refine st (ev_pick_t rfl rfl) rfl rfl rfl ?_
                refine st (ev_move rfl) rfl rfl rfl ?_
                refine at_eq (i := 88) (v' := .bool true) rfl (by simp only [Value.bool.injEq, decide_eq_true_eq, decide_eq_false_iff_not]; exact Classical.not_not.1 hg82) ?_
                refine st (ld_mem_all (h := 10) ty25 rfl rfl rfl (by first | omega | (simp only [List.length_append, List.length_cons, List.length_nil, List.length_set, List.length_replicate, List.length_take, List.length_drop, ints_length, wr_length, sha_len, node_len, recov_len, Ky.named_len, Ky.keyPub_len] <;> omega) | rfl)) rfl rfl rfl ?_
                refine st (ld_mem_all (h := 8) ty28 rfl rfl rfl (by first | omega | (simp only [List.length_append, List.length_cons, List.length_nil, List.length_set, List.length_replicate, List.length_take, List.length_drop, ints_length, wr_length, sha_len, node_len, recov_len, Ky.named_len, Ky.keyPub_len] <;> omega) | rfl)) rfl rfl rfl ?_
                refine st_call has17 rfl (fun w1 sw => rn 91 (who_any pb (.slice (some ⟨b72, 0, none⟩) 2 2) kv 1 body [Qm.asK (Ky.keyPub (Qm.sd 1)) m0, Qm.asK (Ky.keyPub (Qm.sd 0)) m1] (Qm.keysK 3) w1 (sw.sl_rd (h := 400) rfl) (by omega) (fun x hx => by
                    simp only [List.mem_cons, List.not_mem_nil, or_false] at hx
                    rcases hx with rfl | rfl
                    · exact haa0
                    · exact haa1) (by simp) (sw.sl_rd (h := 302) rfl) (fun x hx => by
                    simp only [List.mem_cons, List.not_mem_nil, or_false] at hx
                    rcases hx with rfl | rfl
                    · exact ⟨sw.row (i := 200) rfl (hcov m0 (by simp)).1, sw.row (i := 200) rfl (hcov m0 (by simp)).2⟩
                    · exact ⟨sw.row (i := 200) rfl (hcov m1 (by simp)).1, sw.row (i := 200) rfl (hcov m1 (by simp)).2⟩) hku (by rw [hkn]; decide) (sw.sl_rd (h := 301) rfl))) nil_all rfl rfl (fun v91 _ => ?_)
                refine at_heq (i := 91) (v' := .own (v91) 39 32 (flat ([]))) rfl (by rw [Qm.who_as s0 s1]) ?_
                refine st (ev_len_ownh (h := 91) Try.underlying26 rfl rfl (by assumption)) rfl rfl rfl ?_
                refine st (ev_eql rfl rfl) rfl rfl rfl ?_
                refine st (ev_pick_t rfl rfl) rfl rfl rfl ?_
                refine st (ev_move rfl) rfl rfl rfl ?_
                refine at_eq (i := 95) (v' := .bool true) rfl (by simp only [Value.bool.injEq, decide_eq_true_eq, decide_eq_false_iff_not]; rfl) ?_
                refine st_callv has23 rfl (fun w1 sw => known7_any w1) rfl rfl ?_
                refine st (ev_pick_t rfl rfl) rfl rfl rfl ?_
                refine st (ev_assign rfl) rfl rfl rfl ?_
                refine op_nil ?_
                refine ax_then ?_
                refine At.regs (L' := [(6, _)]) (.cons rfl (.nil _)) ?_
                refine cd_ret ?_
                refine rt_tmp (.inl rfl) Try.results5 rfl ?_
                exact fun w1 sw => ⟨rfl, sw.gives (.nil _)⟩
            ·
              refine wo (i := 23) rfl ?_
              refine st_alloc (h := 10) ty25 rfl rfl rfl (fun b10 => ?_)
              refine op_nil ?_
              refine ax_then ?_
              refine mx_one (i := 21) (by decide +kernel) (Sub.refl _) ?_
              refine wo (i := 21) rfl ?_
              refine st_bs2 (h := 72) Try.underlying23 ty44 rfl rfl rfl (Qm.mcells_len haa0) (Qm.mcells_len haa1) (by decide) (by decide) rfl rfl (fun b72 => ?_)
              refine at_heq (i := 72) (v' := .own ((.slice (some ⟨b72, 0, none⟩) 2 2)) 44 35 (Qm.mflat ([Qm.asK (Ky.keyPub (Qm.sd 1)) m0, Qm.asK (Ky.keyPub (Qm.sd 0)) m1]))) rfl (by simp [Qm.mflat]) ?_
              refine op_nil ?_
              refine ax_then ?_
              refine mx (i := 22) rfl (by decide +kernel) (by decide +kernel) (by decide +kernel) rfl (fun w0 => ev_build_struct ty25 rfl pl25 rfl ((fill_put (i := 0) (off := 0) (n := 1) (vs := [pb]) rfl hsb.1 rfl (Nat.le_of_ble_eq_true rfl)).trans ((fill_put (i := 1) (off := 1) (n := 1) (vs := [(.slice (some ⟨b72, 0, none⟩) 2 2)]) rfl rfl rfl (Nat.le_of_ble_eq_true rfl)).trans fill_nil))) rfl rfl (Sub.refl _) ?_
              refine at_eq (i := 73) (v' := .agg (List.toArray [pb, (.slice (some ⟨b72, 0, none⟩) 2 2)])) rfl rfl ?_
              refine mx_one (i := 24) (by decide +kernel) (Sub.refl _) ?_
              refine wo (i := 24) rfl ?_
              refine st_store_all 10 ty25 rfl rfl rfl rfl rfl (by intro u hu; simp at hu; rcases hu with rfl | rfl; exact hsb.2; rfl) rfl rfl ?_
              refine op_nil ?_
              refine ax_then ?_
              refine mx_done (by decide +kernel) (Sub.refl _) ?_
              refine ax_then ?_
              refine At.regs (L' := [(6, _), (7, _), (8, _), (9, _), (10, _)]) (.cons rfl (.cons rfl (.cons rfl (.cons rfl (.cons rfl (.nil _)))))) ?_
              refine cd_seq ?_
              refine at_freeze (h := 72) (H' := [(10, _), (33, _)]) 302 rfl (.cons rfl (.cons rfl (.nil _))) rfl ?_
              refine at_freeze (h := 33) (H' := [(10, _)]) 303 rfl (.cons rfl (.nil _)) rfl ?_
              refine at_freeze_blk (h := 10) (H' := []) 10 rfl (.nil _) rfl ?_
              refine cd_region ?_
              refine st (ld_mem_all (h := 7) ty25 rfl rfl rfl (by first | omega | (simp only [List.length_append, List.length_cons, List.length_nil, List.length_set, List.length_replicate, List.length_take, List.length_drop, ints_length, wr_length, sha_len, node_len, recov_len, Ky.named_len, Ky.keyPub_len] <;> omega) | rfl)) rfl rfl rfl ?_
              refine st (ld_mem_all (h := 8) ty28 rfl rfl rfl (by first | omega | (simp only [List.length_append, List.length_cons, List.length_nil, List.length_set, List.length_replicate, List.length_take, List.length_drop, ints_length, wr_length, sha_len, node_len, recov_len, Ky.named_len, Ky.keyPub_len] <;> omega) | rfl)) rfl rfl rfl ?_
              refine st_callv has19 rfl (fun w1 sw => meets_any pb mv kv 1 body [m0, m1] (Qm.keysK 3) w1 (sw.sl_rd (h := 400) rfl) (by omega) ha (by simp) (sw.sl_rd (h := 300) rfl) (fun x hx => ⟨sw.row (i := 200) rfl (hcov x hx).1, sw.row (i := 200) rfl (hcov x hx).2⟩) hku (by rw [hkn]; decide) (sw.sl_rd (h := 301) rfl)) rfl rfl ?_
              refine st (ev_move rfl) rfl rfl rfl ?_
              refine at_eq (i := 77) (v' := .bool true) rfl (by simp only [Value.bool.injEq, decide_eq_true_eq, decide_eq_false_iff_not]; exact hmt) ?_
              refine st (ld_mem_all (h := 9) ty25 rfl rfl rfl (by first | omega | (simp only [List.length_append, List.length_cons, List.length_nil, List.length_set, List.length_replicate, List.length_take, List.length_drop, ints_length, wr_length, sha_len, node_len, recov_len, Ky.named_len, Ky.keyPub_len] <;> omega) | rfl)) rfl rfl rfl ?_
              refine st (ld_mem_all (h := 8) ty28 rfl rfl rfl (by first | omega | (simp only [List.length_append, List.length_cons, List.length_nil, List.length_set, List.length_replicate, List.length_take, List.length_drop, ints_length, wr_length, sha_len, node_len, recov_len, Ky.named_len, Ky.keyPub_len] <;> omega) | rfl)) rfl rfl rfl ?_
              refine st_callv has19 rfl (fun w1 sw => meets_any v35 mv kv 1 z [m0, m1] (Qm.keysK 3) w1 (sw.sl_rd (h := 303) rfl) (by omega) ha (by simp) (sw.sl_rd (h := 300) rfl) (fun x hx => ⟨sw.row (i := 200) rfl (hcov x hx).1, sw.row (i := 200) rfl (hcov x hx).2⟩) hku (by rw [hkn]; decide) (sw.sl_rd (h := 301) rfl)) rfl rfl ?_
              refine st (ev_not_if rfl) rfl rfl rfl ?_
              refine st (ev_move rfl) rfl rfl rfl ?_
              refine at_split_if (i := 82) rfl (fun hg82 => ?_) (fun hg82 => ?_)
              ·
                refine st_skip rfl rfl rfl ?_
                refine st_skip rfl rfl rfl ?_
                refine st_skip rfl rfl rfl ?_
                refine st (ev_pick_t rfl rfl) rfl rfl rfl ?_
                refine st (ev_pick_t rfl rfl) rfl rfl rfl ?_
                refine st (ev_move rfl) rfl rfl rfl ?_
                refine st (ld_mem_all (h := 10) ty25 rfl rfl rfl (by first | omega | (simp only [List.length_append, List.length_cons, List.length_nil, List.length_set, List.length_replicate, List.length_take, List.length_drop, ints_length, wr_length, sha_len, node_len, recov_len, Ky.named_len, Ky.keyPub_len] <;> omega) | rfl)) rfl rfl rfl ?_
                refine st (ld_mem_all (h := 8) ty28 rfl rfl rfl (by first | omega | (simp only [List.length_append, List.length_cons, List.length_nil, List.length_set, List.length_replicate, List.length_take, List.length_drop, ints_length, wr_length, sha_len, node_len, recov_len, Ky.named_len, Ky.keyPub_len] <;> omega) | rfl)) rfl rfl rfl ?_
                refine st_call has17 rfl (fun w1 sw => rn 91 (who_any pb (.slice (some ⟨b72, 0, none⟩) 2 2) kv 1 body [Qm.asK (Ky.keyPub (Qm.sd 1)) m0, Qm.asK (Ky.keyPub (Qm.sd 0)) m1] (Qm.keysK 3) w1 (sw.sl_rd (h := 400) rfl) (by omega) (fun x hx => by
                    simp only [List.mem_cons, List.not_mem_nil, or_false] at hx
                    rcases hx with rfl | rfl
                    · exact haa0
                    · exact haa1) (by simp) (sw.sl_rd (h := 302) rfl) (fun x hx => by
                    simp only [List.mem_cons, List.not_mem_nil, or_false] at hx
                    rcases hx with rfl | rfl
                    · exact ⟨sw.row (i := 200) rfl (hcov m0 (by simp)).1, sw.row (i := 200) rfl (hcov m0 (by simp)).2⟩
                    · exact ⟨sw.row (i := 200) rfl (hcov m1 (by simp)).1, sw.row (i := 200) rfl (hcov m1 (by simp)).2⟩) hku (by rw [hkn]; decide) (sw.sl_rd (h := 301) rfl))) nil_all rfl rfl (fun v91 _ => ?_)
                refine at_heq (i := 91) (v' := .own (v91) 39 32 (flat ([]))) rfl (by rw [Qm.who_as s0 s1]) ?_
                refine st (ev_len_ownh (h := 91) Try.underlying26 rfl rfl (by assumption)) rfl rfl rfl ?_
                refine st (ev_eql rfl rfl) rfl rfl rfl ?_
                refine st (ev_pick_t rfl rfl) rfl rfl rfl ?_
                refine st (ev_move rfl) rfl rfl rfl ?_
                refine at_eq (i := 95) (v' := .bool true) rfl (by simp only [Value.bool.injEq, decide_eq_true_eq, decide_eq_false_iff_not]; rfl) ?_
                refine st_callv has23 rfl (fun w1 sw => known7_any w1) rfl rfl ?_
                refine st (ev_pick_t rfl rfl) rfl rfl rfl ?_
                refine st (ev_assign rfl) rfl rfl rfl ?_
                refine op_nil ?_
                refine ax_then ?_
                refine At.regs (L' := [(6, _)]) (.cons rfl (.nil _)) ?_
                refine cd_ret ?_
                refine rt_tmp (.inl rfl) Try.results5 rfl ?_
                exact fun w1 sw => ⟨rfl, sw.gives (.nil _)⟩
              ·
                refine st (ld_mem_all (h := 9) ty25 rfl rfl rfl (by first | omega | (simp only [List.length_append, List.length_cons, List.length_nil, List.length_set, List.length_replicate, List.length_take, List.length_drop, ints_length, wr_length, sha_len, node_len, recov_len, Ky.named_len, Ky.keyPub_len] <;> omega) | rfl)) rfl rfl rfl ?_
                refine st (ld_mem_all (h := 8) ty28 rfl rfl rfl (by first | omega | (simp only [List.length_append, List.length_cons, List.length_nil, List.length_set, List.length_replicate, List.length_take, List.length_drop, ints_length, wr_length, sha_len, node_len, recov_len, Ky.named_len, Ky.keyPub_len] <;> omega) | rfl)) rfl rfl rfl ?_
                refine st_callv has20 rfl (fun w1 sw => rmeets_any v35 mv kv 1 z [m0, m1] (Qm.keysK 3) w1 (sw.sl_rd (h := 303) rfl) (by omega) ha (by simp) (sw.sl_rd (h := 300) rfl) (fun x hx => ⟨sw.row (i := 200) rfl (hcov x hx).1, sw.row (i := 200) rfl (hcov x hx).2⟩) hku (by rw [hkn]; decide) (sw.sl_rd (h := 301) rfl)) rfl rfl ?_
                refine st (ev_pick_f rfl rfl) rfl rfl rfl ?_
                refine st (ev_pick_t rfl rfl) rfl rfl rfl ?_
                refine st (ev_move rfl) rfl rfl rfl ?_
                refine at_eq (i := 88) (v' := .bool true) rfl (by simp only [Value.bool.injEq, decide_eq_true_eq, decide_eq_false_iff_not]; exact Classical.not_not.1 hg82) ?_
                refine st (ld_mem_all (h := 10) ty25 rfl rfl rfl (by first | omega | (simp only [List.length_append, List.length_cons, List.length_nil, List.length_set, List.length_replicate, List.length_take, List.length_drop, ints_length, wr_length, sha_len, node_len, recov_len, Ky.named_len, Ky.keyPub_len] <;> omega) | rfl)) rfl rfl rfl ?_
                refine st (ld_mem_all (h := 8) ty28 rfl rfl rfl (by first | omega | (simp only [List.length_append, List.length_cons, List.length_nil, List.length_set, List.length_replicate, List.length_take, List.length_drop, ints_length, wr_length, sha_len, node_len, recov_len, Ky.named_len, Ky.keyPub_len] <;> omega) | rfl)) rfl rfl rfl ?_
                refine st_call has17 rfl (fun w1 sw => rn 91 (who_any pb (.slice (some ⟨b72, 0, none⟩) 2 2) kv 1 body [Qm.asK (Ky.keyPub (Qm.sd 1)) m0, Qm.asK (Ky.keyPub (Qm.sd 0)) m1] (Qm.keysK 3) w1 (sw.sl_rd (h := 400) rfl) (by omega) (fun x hx => by
                    simp only [List.mem_cons, List.not_mem_nil, or_false] at hx
                    rcases hx with rfl | rfl
                    · exact haa0
                    · exact haa1) (by simp) (sw.sl_rd (h := 302) rfl) (fun x hx => by
                    simp only [List.mem_cons, List.not_mem_nil, or_false] at hx
                    rcases hx with rfl | rfl
                    · exact ⟨sw.row (i := 200) rfl (hcov m0 (by simp)).1, sw.row (i := 200) rfl (hcov m0 (by simp)).2⟩
                    · exact ⟨sw.row (i := 200) rfl (hcov m1 (by simp)).1, sw.row (i := 200) rfl (hcov m1 (by simp)).2⟩) hku (by rw [hkn]; decide) (sw.sl_rd (h := 301) rfl))) nil_all rfl rfl (fun v91 _ => ?_)
                refine at_heq (i := 91) (v' := .own (v91) 39 32 (flat ([]))) rfl (by rw [Qm.who_as s0 s1]) ?_
                refine st (ev_len_ownh (h := 91) Try.underlying26 rfl rfl (by assumption)) rfl rfl rfl ?_
                refine st (ev_eql rfl rfl) rfl rfl rfl ?_
                refine st (ev_pick_t rfl rfl) rfl rfl rfl ?_
                refine st (ev_move rfl) rfl rfl rfl ?_
                refine at_eq (i := 95) (v' := .bool true) rfl (by simp only [Value.bool.injEq, decide_eq_true_eq, decide_eq_false_iff_not]; rfl) ?_
                refine st_callv has23 rfl (fun w1 sw => known7_any w1) rfl rfl ?_
                refine st (ev_pick_t rfl rfl) rfl rfl rfl ?_
                refine st (ev_assign rfl) rfl rfl rfl ?_
                refine op_nil ?_
                refine ax_then ?_
                refine At.regs (L' := [(6, _)]) (.cons rfl (.nil _)) ?_
                refine cd_ret ?_
                refine rt_tmp (.inl rfl) Try.results5 rfl ?_
                exact fun w1 sw => ⟨rfl, sw.gives (.nil _)⟩
        ·
          refine wo (i := 6) rfl ?_
          refine st_alloc (h := 9) ty25 rfl rfl rfl (fun b9 => ?_)
          refine op_nil ?_
          refine ax_then ?_
          refine mx_one (i := 0) (by decide +kernel) (Sub.refl _) ?_
          refine wo (i := 0) rfl ?_
          refine st_bsi (h := 33) (xs := []) Try.underlying22 ty5 (by decide) rfl rfl (by decide) rfl rfl (fun b33 => ?_)
          refine op_nil ?_
          refine ax_then ?_
          refine mx_one (i := 2) (by decide +kernel) (Sub.refl _) ?_
          refine wo (i := 2) rfl ?_
          refine st_appendi (h := 33) Try.underlying22 Try.underlying22 ty5 rfl rfl rfl rfl (fun w1 sw => sw.sl_rd (h := 400) rfl) (by first | omega | (simp only [List.length_append, List.length_cons, List.length_nil, List.length_set, List.length_replicate, List.length_take, List.length_drop, ints_length, wr_length, sha_len, node_len, recov_len, Ky.named_len, Ky.keyPub_len] <;> omega)) (by decide) rfl rfl (fun v35 => ?_)
          refine at_heq (i := 33) (v' := .own (v35) 5 1 (ints .u8 (body))) rfl (by rw [List.nil_append]) ?_
          refine at_own_shape (h := 33) rfl (fun hs35 => ?_)
          refine op_nil ?_
          refine ax_then ?_
          refine mx (i := 5) rfl (by decide +kernel) (by decide +kernel) (by decide +kernel) rfl (fun w0 => ev_build_struct ty25 rfl pl25 rfl ((fill_put (i := 0) (off := 0) (n := 1) (vs := [v35]) rfl hs35.1 rfl (Nat.le_of_ble_eq_true rfl)).trans ((fill_put (i := 1) (off := 1) (n := 1) (vs := [mv]) rfl hsm.1 rfl (Nat.le_of_ble_eq_true rfl)).trans fill_nil))) rfl rfl (Sub.refl _) ?_
          refine at_eq (i := 38) (v' := .agg (List.toArray [v35, mv])) rfl rfl ?_
          refine mx_one (i := 7) (by decide +kernel) (Sub.refl _) ?_
          refine wo (i := 7) rfl ?_
          refine st_store_all 9 ty25 rfl rfl rfl rfl rfl (by intro u hu; simp at hu; rcases hu with rfl | rfl; exact hs35.2; exact hsm.2) rfl rfl ?_
          refine op_nil ?_
          refine ax_then ?_
          refine mx_done (by decide +kernel) (Sub.refl _) ?_
          refine ax_then ?_
          refine At.regs (L' := [(0, _), (1, _), (2, _), (6, _), (7, _), (8, _), (9, _)]) (.cons rfl (.cons rfl (.cons rfl (.cons rfl (.cons rfl (.cons rfl (.cons rfl (.nil _)))))))) ?_
          refine cd_seq ?_
          refine at_freeze_blk (h := 9) (H' := [(33, _)]) 9 rfl (.cons rfl (.nil _)) rfl ?_
          refine cd_open_tail 11 hmix (by decide +kernel) ?_
          refine qt (ev_fieldAddr (b := _) Try.underlying25 (f := _) rfl ty22 (by decide) rfl) rfl rfl rfl ?_
          refine qt (ld_mem1 (h := 9) ty22 rfl rfl rfl (Nat.zero_add _).symm rfl) rfl rfl rfl ?_
          refine qt (ev_move rfl) rfl rfl rfl ?_
          refine qt (ev_and rfl rfl) rfl rfl rfl ?_
          have hmk := mask_range a (m := 65535) (by decide) (by decide)
          refine qt (ev_move rfl) rfl rfl rfl ?_
          refine qt (ev_len_rdi (h := 400) Try.underlying22 rfl rfl) rfl rfl rfl ?_
          refine qt (ev_rem64 rfl rfl (by omega) (by omega)) rfl rfl rfl ?_
          obtain ⟨g, hg⟩ : ∃ g : Int, g = iand .i64 a 65535 % (body.length : Nat) := ⟨_, rfl⟩
          have hg0 : 0 ≤ g ∧ g < (body.length : Nat) := ⟨by rw [hg]; exact Int.emod_nonneg _ (by omega), by rw [hg]; exact Int.emod_lt_of_pos _ (by omega)⟩
          refine qt_eq (i := 45) (v' := .int .i64 g) rfl (by rw [hg]) ?_
          refine qt (ev_indexAddr_owni (h := 33) Try.underlying22 ty5 rfl rfl rfl (by omega) (by first | omega | (simp only [List.length_append, List.length_cons, List.length_nil, List.length_set, List.length_replicate, List.length_take, List.length_drop, ints_length, wr_length, sha_len, node_len, recov_len, Ky.named_len, Ky.keyPub_len] <;> omega))) rfl rfl rfl ?_
          refine qt (ld_own1 (h := 33) ty5 rfl rfl rfl (ints_get _ _ _ (by first | omega | (simp only [List.length_append, List.length_cons, List.length_nil, List.length_set, List.length_replicate, List.length_take, List.length_drop, ints_length, wr_length, sha_len, node_len, recov_len, Ky.named_len, Ky.keyPub_len] <;> omega) | rfl))) rfl rfl rfl ?_
          refine qt (ev_move rfl) rfl rfl rfl ?_
          refine qt (ev_xor rfl rfl) rfl rfl rfl ?_
          refine qt_end ?_
          refine st (ev_indexAddr_owni (h := 33) Try.underlying22 ty5 rfl rfl rfl (by omega) (by first | omega | (simp only [List.length_append, List.length_cons, List.length_nil, List.length_set, List.length_replicate, List.length_take, List.length_drop, ints_length, wr_length, sha_len, node_len, recov_len, Ky.named_len, Ky.keyPub_len] <;> omega))) rfl rfl rfl ?_
          refine st_store_own (vl := ints .u8 [_]) 33 ty5 rfl rfl rfl rfl (by first | omega | (simp only [List.length_append, List.length_cons, List.length_nil, List.length_set, List.length_replicate, List.length_take, List.length_drop, ints_length, wr_length, sha_len, node_len, recov_len, Ky.named_len, Ky.keyPub_len] <;> omega) | rfl) (ints_one _ _) (by first | omega | (simp only [List.length_append, List.length_cons, List.length_nil, List.length_set, List.length_replicate, List.length_take, List.length_drop, ints_length, wr_length, sha_len, node_len, recov_len, Ky.named_len, Ky.keyPub_len] <;> omega) | rfl) (by decide) rfl ?_
          refine at_heq (i := 33) rfl (by rw [ints_wr]) ?_
          obtain ⟨z, hz⟩ : ∃ z, z = body.take g.toNat ++ [ixor .u8 (body.getD g.toNat 0) y] ++ body.drop (g.toNat + 1) := ⟨_, rfl⟩
          refine at_heq (i := 33) (v' := .own (v35) 5 1 (ints .u8 (z))) rfl (by rw [hz]; rfl) ?_
          have hzl : z.length = body.length := by rw [hz]; simp; omega
          refine op_nil ?_
          refine ax_then ?_
          refine At.regs (L' := [(0, _), (6, _), (7, _), (8, _), (9, _)]) (.cons rfl (.cons rfl (.cons rfl (.cons rfl (.cons rfl (.nil _)))))) ?_
          refine cd_seq ?_
          refine cd_mix hmix ?_
          refine mx (i := 0) rfl (by decide +kernel) (by decide +kernel) (by decide +kernel) rfl (fun w0 => ev_move rfl) rfl rfl (Sub.refl _) ?_
          refine mx (i := 1) rfl (by decide +kernel) (by decide +kernel) (by decide +kernel) rfl (fun w0 => ev_fieldAddr (b := _) Try.underlying28 (f := _) rfl ty26 (by decide) rfl) rfl rfl (Sub.refl _) ?_
          refine mx (i := 2) rfl (by decide +kernel) (by decide +kernel) (by decide +kernel) rfl (fun w0 => ld_mem1 (h := 8) ty26 rfl rfl rfl (Nat.zero_add _).symm rfl) rfl rfl (Sub.refl _) ?_
          refine mx (i := 3) rfl (by decide +kernel) (by decide +kernel) (by decide +kernel) rfl (fun w0 => ev_indexAddr_rdh (h := 301) Try.underlying26 ty39 rfl rfl rfl (by assumption) (by omega) (by omega)) rfl rfl (Sub.refl _) ?_
          refine mx (i := 4) rfl (by decide +kernel) (by decide +kernel) (by decide +kernel) rfl (fun w0 => ld_rdh (h := 301) ty39 rfl rfl rfl (by assumption) (by omega)) rfl rfl (Sub.refl _) ?_
          refine at_eq (i := 55) (v' := .agg (ints .u8 (Ky.keyPub (Qm.sd 1))).toArray) rfl (congrArg (fun x => Value.agg (ints .u8 x).toArray) (Qm.keysK_get (n := 3) (i := 1) (by decide))) ?_
          refine mx (i := 5) rfl (by decide +kernel) (by decide +kernel) (by decide +kernel) rfl (fun w0 => ev_fieldAddr (b := _) Try.underlying25 (f := _) rfl ty23 (by decide) rfl) rfl rfl (Sub.refl _) ?_
          refine mx (i := 6) rfl (by decide +kernel) (by decide +kernel) (by decide +kernel) rfl (fun w0 => ld_mem1 (h := 7) ty23 rfl rfl rfl (Nat.zero_add _).symm rfl) rfl rfl (Sub.refl _) ?_
          refine mx (i := 7) rfl (by decide +kernel) (by decide +kernel) (by decide +kernel) rfl (fun w0 => ev_indexAddr_rd (h := 300) (n := 2) Try.underlying23 ty44 rfl rfl rfl hmf (by decide) (by decide) (by decide)) rfl rfl (Sub.refl _) ?_
          refine mx (i := 8) rfl (by decide +kernel) (by decide +kernel) (by decide +kernel) rfl (fun w0 => ev_fieldIn (n := 0) (k := (0 : Int).toNat * 35) Try.underlying44 rfl rfl rfl (fun w1 sw => sw.sl_rd (h := 300) rfl) (by rw [hmf]; simp only [List.length_cons, List.length_nil]; omega) (fun b off hx => ev_fieldAddr (b := _) Try.underlying44 (f := _) rfl ty42 (by decide) hx)) rfl rfl (Sub.refl _) ?_
          refine mx (i := 9) rfl (by decide +kernel) (by decide +kernel) (by decide +kernel) rfl (fun w0 => ld_rd (k := (0 : Int).toNat * 35 + 32) (h := 300) ty42 rfl rfl rfl (by decide) (by rw [hmf]; simp only [List.length_cons, List.length_nil]; omega)) rfl rfl (Sub.refl _) ?_
          refine at_eq (i := 60) (v' := .agg (List.toArray [.int .i64 m0.leaf, m0.vc, m0.vp])) rfl (congrArg (fun x => Value.agg (List.toArray x)) (Qm.mflat_sig ha (i := 0) (by simp))) ?_
          refine mx (i := 10) rfl (by decide +kernel) (by decide +kernel) (by decide +kernel) rfl (fun w0 => ev_build_struct ty44 rfl pl44 rfl ((fill_put (i := 0) (off := 0) (n := 32) (vs := ints .u8 (Ky.keyPub (Qm.sd 1))) rfl rfl (by rw [ints_length, Ky.keyPub_len]) (Nat.le_of_ble_eq_true rfl)).trans ((fill_put (i := 1) (off := 32) (n := 3) (vs := [.int .i64 m0.leaf, m0.vc, m0.vp]) rfl rfl rfl (by rw [wr_length (by rw [ints_length, Ky.keyPub_len]; exact Nat.le_of_ble_eq_true rfl)]; exact Nat.le_of_ble_eq_true rfl)).trans fill_nil))) rfl rfl (Sub.refl _) ?_
          refine at_eq (i := 61) (v' := .agg (Qm.mcells (Qm.asK (Ky.keyPub (Qm.sd 1)) m0)).toArray) rfl (congrArg (fun x => Value.agg (List.toArray x)) (Qm.mark_new (Ky.keyPub_len _) _ _ _)) ?_
          refine mx (i := 11) rfl (by decide +kernel) (by decide +kernel) (by decide +kernel) rfl (fun w0 => ev_fieldAddr (b := _) Try.underlying28 (f := _) rfl ty26 (by decide) rfl) rfl rfl (Sub.refl _) ?_
          refine mx (i := 12) rfl (by decide +kernel) (by decide +kernel) (by decide +kernel) rfl (fun w0 => ld_mem1 (h := 8) ty26 rfl rfl rfl (Nat.zero_add _).symm rfl) rfl rfl (Sub.refl _) ?_
          refine mx (i := 13) rfl (by decide +kernel) (by decide +kernel) (by decide +kernel) rfl (fun w0 => ev_indexAddr_rdh (h := 301) Try.underlying26 ty39 rfl rfl rfl (by assumption) (by omega) (by omega)) rfl rfl (Sub.refl _) ?_
          refine mx (i := 14) rfl (by decide +kernel) (by decide +kernel) (by decide +kernel) rfl (fun w0 => ld_rdh (h := 301) ty39 rfl rfl rfl (by assumption) (by omega)) rfl rfl (Sub.refl _) ?_
          refine at_eq (i := 65) (v' := .agg (ints .u8 (Ky.keyPub (Qm.sd 0))).toArray) rfl (congrArg (fun x => Value.agg (ints .u8 x).toArray) (Qm.keysK_get (n := 3) (i := 0) (by decide))) ?_
          refine mx (i := 15) rfl (by decide +kernel) (by decide +kernel) (by decide +kernel) rfl (fun w0 => ev_fieldAddr (b := _) Try.underlying25 (f := _) rfl ty23 (by decide) rfl) rfl rfl (Sub.refl _) ?_
          refine mx (i := 16) rfl (by decide +kernel) (by decide +kernel) (by decide +kernel) rfl (fun w0 => ld_mem1 (h := 7) ty23 rfl rfl rfl (Nat.zero_add _).symm rfl) rfl rfl (Sub.refl _) ?_
          refine mx (i := 17) rfl (by decide +kernel) (by decide +kernel) (by decide +kernel) rfl (fun w0 => ev_indexAddr_rd (h := 300) (n := 2) Try.underlying23 ty44 rfl rfl rfl hmf (by decide) (by decide) (by decide)) rfl rfl (Sub.refl _) ?_
          refine mx (i := 18) rfl (by decide +kernel) (by decide +kernel) (by decide +kernel) rfl (fun w0 => ev_fieldIn (n := 0) (k := (1 : Int).toNat * 35) Try.underlying44 rfl rfl rfl (fun w1 sw => sw.sl_rd (h := 300) rfl) (by rw [hmf]; simp only [List.length_cons, List.length_nil]; omega) (fun b off hx => ev_fieldAddr (b := _) Try.underlying44 (f := _) rfl ty42 (by decide) hx)) rfl rfl (Sub.refl _) ?_
          refine mx (i := 19) rfl (by decide +kernel) (by decide +kernel) (by decide +kernel) rfl (fun w0 => ld_rd (k := (1 : Int).toNat * 35 + 32) (h := 300) ty42 rfl rfl rfl (by decide) (by rw [hmf]; simp only [List.length_cons, List.length_nil]; omega)) rfl rfl (Sub.refl _) ?_
          refine at_eq (i := 70) (v' := .agg (List.toArray [.int .i64 m1.leaf, m1.vc, m1.vp])) rfl (congrArg (fun x => Value.agg (List.toArray x)) (Qm.mflat_sig ha (i := 1) (by simp))) ?_
          refine mx (i := 20) rfl (by decide +kernel) (by decide +kernel) (by decide +kernel) rfl (fun w0 => ev_build_struct ty44 rfl pl44 rfl ((fill_put (i := 0) (off := 0) (n := 32) (vs := ints .u8 (Ky.keyPub (Qm.sd 0))) rfl rfl (by rw [ints_length, Ky.keyPub_len]) (Nat.le_of_ble_eq_true rfl)).trans ((fill_put (i := 1) (off := 32) (n := 3) (vs := [.int .i64 m1.leaf, m1.vc, m1.vp]) rfl rfl rfl (by rw [wr_length (by rw [ints_length, Ky.keyPub_len]; exact Nat.le_of_ble_eq_true rfl)]; exact Nat.le_of_ble_eq_true rfl)).trans fill_nil))) rfl rfl (Sub.refl _) ?_
          refine at_eq (i := 71) (v' := .agg (Qm.mcells (Qm.asK (Ky.keyPub (Qm.sd 0)) m1)).toArray) rfl (congrArg (fun x => Value.agg (List.toArray x)) (Qm.mark_new (Ky.keyPub_len _) _ _ _)) ?_
          refine mx_two (i := 21) (j := 23) (by decide +kernel) (Sub.refl _) ?_ ?_
          ·
            refine wo (i := 21) rfl ?_
            refine st_bs2 (h := 72) Try.underlying23 ty44 rfl rfl rfl (Qm.mcells_len haa0) (Qm.mcells_len haa1) (by decide) (by decide) rfl rfl (fun b72 => ?_)
            refine at_heq (i := 72) (v' := .own ((.slice (some ⟨b72, 0, none⟩) 2 2)) 44 35 (Qm.mflat ([Qm.asK (Ky.keyPub (Qm.sd 1)) m0, Qm.asK (Ky.keyPub (Qm.sd 0)) m1]))) rfl (by simp [Qm.mflat]) ?_
            refine op_nil ?_
            refine ax_then ?_
            refine mx (i := 22) rfl (by decide +kernel) (by decide +kernel) (by decide +kernel) rfl (fun w0 => ev_build_struct ty25 rfl pl25 rfl ((fill_put (i := 0) (off := 0) (n := 1) (vs := [pb]) rfl hsb.1 rfl (Nat.le_of_ble_eq_true rfl)).trans ((fill_put (i := 1) (off := 1) (n := 1) (vs := [(.slice (some ⟨b72, 0, none⟩) 2 2)]) rfl rfl rfl (Nat.le_of_ble_eq_true rfl)).trans fill_nil))) rfl rfl (Sub.refl _) ?_
            refine at_eq (i := 73) (v' := .agg (List.toArray [pb, (.slice (some ⟨b72, 0, none⟩) 2 2)])) rfl rfl ?_
            refine mx_one (i := 23) (by decide +kernel) (Sub.refl _) ?_
            refine wo (i := 23) rfl ?_
            refine st_alloc (h := 10) ty25 rfl rfl rfl (fun b10 => ?_)
            refine op_nil ?_
            refine ax_then ?_
            refine mx_one (i := 24) (by decide +kernel) (Sub.refl _) ?_
            refine wo (i := 24) rfl ?_
            refine st_store_all 10 ty25 rfl rfl rfl rfl rfl (by intro u hu; simp at hu; rcases hu with rfl | rfl; exact hsb.2; rfl) rfl rfl ?_
            refine op_nil ?_
            refine ax_then ?_
            refine mx_done (by decide +kernel) (Sub.refl _) ?_
            refine ax_then ?_
            refine At.regs (L' := [(6, _), (7, _), (8, _), (9, _), (10, _)]) (.cons rfl (.cons rfl (.cons rfl (.cons rfl (.cons rfl (.nil _)))))) ?_
            refine cd_seq ?_
            refine at_freeze (h := 72) (H' := [(10, _), (33, _)]) 302 rfl (.cons rfl (.cons rfl (.nil _))) rfl ?_
            refine at_freeze (h := 33) (H' := [(10, _)]) 303 rfl (.cons rfl (.nil _)) rfl ?_
            refine at_freeze_blk (h := 10) (H' := []) 10 rfl (.nil _) rfl ?_
            refine cd_region ?_
            refine st (ld_mem_all (h := 7) ty25 rfl rfl rfl (by first | omega | (simp only [List.length_append, List.length_cons, List.length_nil, List.length_set, List.length_replicate, List.length_take, List.length_drop, ints_length, wr_length, sha_len, node_len, recov_len, Ky.named_len, Ky.keyPub_len] <;> omega) | rfl)) rfl rfl rfl ?_
            refine st (ld_mem_all (h := 8) ty28 rfl rfl rfl (by first | omega | (simp only [List.length_append, List.length_cons, List.length_nil, List.length_set, List.length_replicate, List.length_take, List.length_drop, ints_length, wr_length, sha_len, node_len, recov_len, Ky.named_len, Ky.keyPub_len] <;> omega) | rfl)) rfl rfl rfl ?_
            refine st_callv has19 rfl (fun w1 sw => meets_any pb mv kv 1 body [m0, m1] (Qm.keysK 3) w1 (sw.sl_rd (h := 400) rfl) (by omega) ha (by simp) (sw.sl_rd (h := 300) rfl) (fun x hx => ⟨sw.row (i := 200) rfl (hcov x hx).1, sw.row (i := 200) rfl (hcov x hx).2⟩) hku (by rw [hkn]; decide) (sw.sl_rd (h := 301) rfl)) rfl rfl ?_
            refine st (ev_move rfl) rfl rfl rfl ?_
            refine at_eq (i := 77) (v' := .bool true) rfl (by simp only [Value.bool.injEq, decide_eq_true_eq, decide_eq_false_iff_not]; exact hmt) ?_
            refine st (ld_mem_all (h := 9) ty25 rfl rfl rfl (by first | omega | (simp only [List.length_append, List.length_cons, List.length_nil, List.length_set, List.length_replicate, List.length_take, List.length_drop, ints_length, wr_length, sha_len, node_len, recov_len, Ky.named_len, Ky.keyPub_len] <;> omega) | rfl)) rfl rfl rfl ?_
            refine st (ld_mem_all (h := 8) ty28 rfl rfl rfl (by first | omega | (simp only [List.length_append, List.length_cons, List.length_nil, List.length_set, List.length_replicate, List.length_take, List.length_drop, ints_length, wr_length, sha_len, node_len, recov_len, Ky.named_len, Ky.keyPub_len] <;> omega) | rfl)) rfl rfl rfl ?_
            refine st_callv has19 rfl (fun w1 sw => meets_any v35 mv kv 1 z [m0, m1] (Qm.keysK 3) w1 (sw.sl_rd (h := 303) rfl) (by omega) ha (by simp) (sw.sl_rd (h := 300) rfl) (fun x hx => ⟨sw.row (i := 200) rfl (hcov x hx).1, sw.row (i := 200) rfl (hcov x hx).2⟩) hku (by rw [hkn]; decide) (sw.sl_rd (h := 301) rfl)) rfl rfl ?_
            refine st (ev_not_if rfl) rfl rfl rfl ?_
            refine st (ev_move rfl) rfl rfl rfl ?_
            refine at_split_if (i := 82) rfl (fun hg82 => ?_) (fun hg82 => ?_)
            ·
              refine st_skip rfl rfl rfl ?_
              refine st_skip rfl rfl rfl ?_
              refine st_skip rfl rfl rfl ?_
              refine st (ev_pick_t rfl rfl) rfl rfl rfl ?_
              refine st (ev_pick_t rfl rfl) rfl rfl rfl ?_
              refine st (ev_move rfl) rfl rfl rfl ?_
              refine st (ld_mem_all (h := 10) ty25 rfl rfl rfl (by first | omega | (simp only [List.length_append, List.length_cons, List.length_nil, List.length_set, List.length_replicate, List.length_take, List.length_drop, ints_length, wr_length, sha_len, node_len, recov_len, Ky.named_len, Ky.keyPub_len] <;> omega) | rfl)) rfl rfl rfl ?_
              refine st (ld_mem_all (h := 8) ty28 rfl rfl rfl (by first | omega | (simp only [List.length_append, List.length_cons, List.length_nil, List.length_set, List.length_replicate, List.length_take, List.length_drop, ints_length, wr_length, sha_len, node_len, recov_len, Ky.named_len, Ky.keyPub_len] <;> omega) | rfl)) rfl rfl rfl ?_
              refine st_call has17 rfl (fun w1 sw => rn 91 (who_any pb (.slice (some ⟨b72, 0, none⟩) 2 2) kv 1 body [Qm.asK (Ky.keyPub (Qm.sd 1)) m0, Qm.asK (Ky.keyPub (Qm.sd 0)) m1] (Qm.keysK 3) w1 (sw.sl_rd (h := 400) rfl) (by omega) (fun x hx => by
                  simp only [List.mem_cons, List.not_mem_nil, or_false] at hx
                  rcases hx with rfl | rfl
                  · exact haa0
                  · exact haa1) (by simp) (sw.sl_rd (h := 302) rfl) (fun x hx => by
                  simp only [List.mem_cons, List.not_mem_nil, or_false] at hx
                  rcases hx with rfl | rfl
                  · exact ⟨sw.row (i := 200) rfl (hcov m0 (by simp)).1, sw.row (i := 200) rfl (hcov m0 (by simp)).2⟩
                  · exact ⟨sw.row (i := 200) rfl (hcov m1 (by simp)).1, sw.row (i := 200) rfl (hcov m1 (by simp)).2⟩) hku (by rw [hkn]; decide) (sw.sl_rd (h := 301) rfl))) nil_all rfl rfl (fun v91 _ => ?_)
              refine at_heq (i := 91) (v' := .own (v91) 39 32 (flat ([]))) rfl (by rw [Qm.who_as s0 s1]) ?_
              refine st (ev_len_ownh (h := 91) Try.underlying26 rfl rfl (by assumption)) rfl rfl rfl ?_
              refine st (ev_eql rfl rfl) rfl rfl rfl ?_
              refine st (ev_pick_t rfl rfl) rfl rfl rfl ?_
              refine st (ev_move rfl) rfl rfl rfl ?_
              refine at_eq (i := 95) (v' := .bool true) rfl (by simp only [Value.bool.injEq, decide_eq_true_eq, decide_eq_false_iff_not]; rfl) ?_
              refine st_callv has23 rfl (fun w1 sw => known7_any w1) rfl rfl ?_
              refine st (ev_pick_t rfl rfl) rfl rfl rfl ?_
              refine st (ev_assign rfl) rfl rfl rfl ?_
              refine op_nil ?_
              refine ax_then ?_
              refine At.regs (L' := [(6, _)]) (.cons rfl (.nil _)) ?_
              refine cd_ret ?_
              refine rt_tmp (.inl rfl) Try.results5 rfl ?_
              exact fun w1 sw => ⟨rfl, sw.gives (.nil _)⟩
            ·
              refine st (ld_mem_all (h := 9) ty25 rfl rfl rfl (by first | omega | (simp only [List.length_append, List.length_cons, List.length_nil, List.length_set, List.length_replicate, List.length_take, List.length_drop, ints_length, wr_length, sha_len, node_len, recov_len, Ky.named_len, Ky.keyPub_len] <;> omega) | rfl)) rfl rfl rfl ?_
              refine st (ld_mem_all (h := 8) ty28 rfl rfl rfl (by first | omega | (simp only [List.length_append, List.length_cons, List.length_nil, List.length_set, List.length_replicate, List.length_take, List.length_drop, ints_length, wr_length, sha_len, node_len, recov_len, Ky.named_len, Ky.keyPub_len] <;> omega) | rfl)) rfl rfl rfl ?_
              refine st_callv has20 rfl (fun w1 sw => rmeets_any v35 mv kv 1 z [m0, m1] (Qm.keysK 3) w1 (sw.sl_rd (h := 303) rfl) (by omega) ha (by simp) (sw.sl_rd (h := 300) rfl) (fun x hx => ⟨sw.row (i := 200) rfl (hcov x hx).1, sw.row (i := 200) rfl (hcov x hx).2⟩) hku (by rw [hkn]; decide) (sw.sl_rd (h := 301) rfl)) rfl rfl ?_
              refine st (ev_pick_f rfl rfl) rfl rfl rfl ?_
              refine st (ev_pick_t rfl rfl) rfl rfl rfl ?_
              refine st (ev_move rfl) rfl rfl rfl ?_
              refine at_eq (i := 88) (v' := .bool true) rfl (by simp only [Value.bool.injEq, decide_eq_true_eq, decide_eq_false_iff_not]; exact Classical.not_not.1 hg82) ?_
              refine st (ld_mem_all (h := 10) ty25 rfl rfl rfl (by first | omega | (simp only [List.length_append, List.length_cons, List.length_nil, List.length_set, List.length_replicate, List.length_take, List.length_drop, ints_length, wr_length, sha_len, node_len, recov_len, Ky.named_len, Ky.keyPub_len] <;> omega) | rfl)) rfl rfl rfl ?_
              refine st (ld_mem_all (h := 8) ty28 rfl rfl rfl (by first | omega | (simp only [List.length_append, List.length_cons, List.length_nil, List.length_set, List.length_replicate, List.length_take, List.length_drop, ints_length, wr_length, sha_len, node_len, recov_len, Ky.named_len, Ky.keyPub_len] <;> omega) | rfl)) rfl rfl rfl ?_
              refine st_call has17 rfl (fun w1 sw => rn 91 (who_any pb (.slice (some ⟨b72, 0, none⟩) 2 2) kv 1 body [Qm.asK (Ky.keyPub (Qm.sd 1)) m0, Qm.asK (Ky.keyPub (Qm.sd 0)) m1] (Qm.keysK 3) w1 (sw.sl_rd (h := 400) rfl) (by omega) (fun x hx => by
                  simp only [List.mem_cons, List.not_mem_nil, or_false] at hx
                  rcases hx with rfl | rfl
                  · exact haa0
                  · exact haa1) (by simp) (sw.sl_rd (h := 302) rfl) (fun x hx => by
                  simp only [List.mem_cons, List.not_mem_nil, or_false] at hx
                  rcases hx with rfl | rfl
                  · exact ⟨sw.row (i := 200) rfl (hcov m0 (by simp)).1, sw.row (i := 200) rfl (hcov m0 (by simp)).2⟩
                  · exact ⟨sw.row (i := 200) rfl (hcov m1 (by simp)).1, sw.row (i := 200) rfl (hcov m1 (by simp)).2⟩) hku (by rw [hkn]; decide) (sw.sl_rd (h := 301) rfl))) nil_all rfl rfl (fun v91 _ => ?_)
              refine at_heq (i := 91) (v' := .own (v91) 39 32 (flat ([]))) rfl (by rw [Qm.who_as s0 s1]) ?_
              refine st (ev_len_ownh (h := 91) Try.underlying26 rfl rfl (by assumption)) rfl rfl rfl ?_
              refine st (ev_eql rfl rfl) rfl rfl rfl ?_
              refine st (ev_pick_t rfl rfl) rfl rfl rfl ?_
              refine st (ev_move rfl) rfl rfl rfl ?_
              refine at_eq (i := 95) (v' := .bool true) rfl (by simp only [Value.bool.injEq, decide_eq_true_eq, decide_eq_false_iff_not]; rfl) ?_
              refine st_callv has23 rfl (fun w1 sw => known7_any w1) rfl rfl ?_
              refine st (ev_pick_t rfl rfl) rfl rfl rfl ?_
              refine st (ev_assign rfl) rfl rfl rfl ?_
              refine op_nil ?_
              refine ax_then ?_
              refine At.regs (L' := [(6, _)]) (.cons rfl (.nil _)) ?_
              refine cd_ret ?_
              refine rt_tmp (.inl rfl) Try.results5 rfl ?_
              exact fun w1 sw => ⟨rfl, sw.gives (.nil _)⟩
          ·
            refine wo (i := 23) rfl ?_
            refine st_alloc (h := 10) ty25 rfl rfl rfl (fun b10 => ?_)
            refine op_nil ?_
            refine ax_then ?_
            refine mx_one (i := 21) (by decide +kernel) (Sub.refl _) ?_
            refine wo (i := 21) rfl ?_
            refine st_bs2 (h := 72) Try.underlying23 ty44 rfl rfl rfl (Qm.mcells_len haa0) (Qm.mcells_len haa1) (by decide) (by decide) rfl rfl (fun b72 => ?_)
            refine at_heq (i := 72) (v' := .own ((.slice (some ⟨b72, 0, none⟩) 2 2)) 44 35 (Qm.mflat ([Qm.asK (Ky.keyPub (Qm.sd 1)) m0, Qm.asK (Ky.keyPub (Qm.sd 0)) m1]))) rfl (by simp [Qm.mflat]) ?_
            refine op_nil ?_
            refine ax_then ?_
            refine mx (i := 22) rfl (by decide +kernel) (by decide +kernel) (by decide +kernel) rfl (fun w0 => ev_build_struct ty25 rfl pl25 rfl ((fill_put (i := 0) (off := 0) (n := 1) (vs := [pb]) rfl hsb.1 rfl (Nat.le_of_ble_eq_true rfl)).trans ((fill_put (i := 1) (off := 1) (n := 1) (vs := [(.slice (some ⟨b72, 0, none⟩) 2 2)]) rfl rfl rfl (Nat.le_of_ble_eq_true rfl)).trans fill_nil))) rfl rfl (Sub.refl _) ?_
            refine at_eq (i := 73) (v' := .agg (List.toArray [pb, (.slice (some ⟨b72, 0, none⟩) 2 2)])) rfl rfl ?_
            refine mx_one (i := 24) (by decide +kernel) (Sub.refl _) ?_
            refine wo (i := 24) rfl ?_
            refine st_store_all 10 ty25 rfl rfl rfl rfl rfl (by intro u hu; simp at hu; rcases hu with rfl | rfl; exact hsb.2; rfl) rfl rfl ?_
            refine op_nil ?_
            refine ax_then ?_
            refine mx_done (by decide +kernel) (Sub.refl _) ?_
            refine ax_then ?_
            refine At.regs (L' := [(6, _), (7, _), (8, _), (9, _), (10, _)]) (.cons rfl (.cons rfl (.cons rfl (.cons rfl (.cons rfl (.nil _)))))) ?_
            refine cd_seq ?_
            refine at_freeze (h := 72) (H' := [(10, _), (33, _)]) 302 rfl (.cons rfl (.cons rfl (.nil _))) rfl ?_
            refine at_freeze (h := 33) (H' := [(10, _)]) 303 rfl (.cons rfl (.nil _)) rfl ?_
            refine at_freeze_blk (h := 10) (H' := []) 10 rfl (.nil _) rfl ?_
            refine cd_region ?_
            refine st (ld_mem_all (h := 7) ty25 rfl rfl rfl (by first | omega | (simp only [List.length_append, List.length_cons, List.length_nil, List.length_set, List.length_replicate, List.length_take, List.length_drop, ints_length, wr_length, sha_len, node_len, recov_len, Ky.named_len, Ky.keyPub_len] <;> omega) | rfl)) rfl rfl rfl ?_
            refine st (ld_mem_all (h := 8) ty28 rfl rfl rfl (by first | omega | (simp only [List.length_append, List.length_cons, List.length_nil, List.length_set, List.length_replicate, List.length_take, List.length_drop, ints_length, wr_length, sha_len, node_len, recov_len, Ky.named_len, Ky.keyPub_len] <;> omega) | rfl)) rfl rfl rfl ?_
            refine st_callv has19 rfl (fun w1 sw => meets_any pb mv kv 1 body [m0, m1] (Qm.keysK 3) w1 (sw.sl_rd (h := 400) rfl) (by omega) ha (by simp) (sw.sl_rd (h := 300) rfl) (fun x hx => ⟨sw.row (i := 200) rfl (hcov x hx).1, sw.row (i := 200) rfl (hcov x hx).2⟩) hku (by rw [hkn]; decide) (sw.sl_rd (h := 301) rfl)) rfl rfl ?_
            refine st (ev_move rfl) rfl rfl rfl ?_
            refine at_eq (i := 77) (v' := .bool true) rfl (by simp only [Value.bool.injEq, decide_eq_true_eq, decide_eq_false_iff_not]; exact hmt) ?_
            refine st (ld_mem_all (h := 9) ty25 rfl rfl rfl (by first | omega | (simp only [List.length_append, List.length_cons, List.length_nil, List.length_set, List.length_replicate, List.length_take, List.length_drop, ints_length, wr_length, sha_len, node_len, recov_len, Ky.named_len, Ky.keyPub_len] <;> omega) | rfl)) rfl rfl rfl ?_
            refine st (ld_mem_all (h := 8) ty28 rfl rfl rfl (by first | omega | (simp only [List.length_append, List.length_cons, List.length_nil, List.length_set, List.length_replicate, List.length_take, List.length_drop, ints_length, wr_length, sha_len, node_len, recov_len, Ky.named_len, Ky.keyPub_len] <;> omega) | rfl)) rfl rfl rfl ?_
            refine st_callv has19 rfl (fun w1 sw => meets_any v35 mv kv 1 z [m0, m1] (Qm.keysK 3) w1 (sw.sl_rd (h := 303) rfl) (by omega) ha (by simp) (sw.sl_rd (h := 300) rfl) (fun x hx => ⟨sw.row (i := 200) rfl (hcov x hx).1, sw.row (i := 200) rfl (hcov x hx).2⟩) hku (by rw [hkn]; decide) (sw.sl_rd (h := 301) rfl)) rfl rfl ?_
            refine st (ev_not_if rfl) rfl rfl rfl ?_
            refine st (ev_move rfl) rfl rfl rfl ?_
            refine at_split_if (i := 82) rfl (fun hg82 => ?_) (fun hg82 => ?_)
            ·
              refine st_skip rfl rfl rfl ?_
              refine st_skip rfl rfl rfl ?_
              refine st_skip rfl rfl rfl ?_
              refine st (ev_pick_t rfl rfl) rfl rfl rfl ?_
              refine st (ev_pick_t rfl rfl) rfl rfl rfl ?_
              refine st (ev_move rfl) rfl rfl rfl ?_
              refine st (ld_mem_all (h := 10) ty25 rfl rfl rfl (by first | omega | (simp only [List.length_append, List.length_cons, List.length_nil, List.length_set, List.length_replicate, List.length_take, List.length_drop, ints_length, wr_length, sha_len, node_len, recov_len, Ky.named_len, Ky.keyPub_len] <;> omega) | rfl)) rfl rfl rfl ?_
              refine st (ld_mem_all (h := 8) ty28 rfl rfl rfl (by first | omega | (simp only [List.length_append, List.length_cons, List.length_nil, List.length_set, List.length_replicate, List.length_take, List.length_drop, ints_length, wr_length, sha_len, node_len, recov_len, Ky.named_len, Ky.keyPub_len] <;> omega) | rfl)) rfl rfl rfl ?_
              refine st_call has17 rfl (fun w1 sw => rn 91 (who_any pb (.slice (some ⟨b72, 0, none⟩) 2 2) kv 1 body [Qm.asK (Ky.keyPub (Qm.sd 1)) m0, Qm.asK (Ky.keyPub (Qm.sd 0)) m1] (Qm.keysK 3) w1 (sw.sl_rd (h := 400) rfl) (by omega) (fun x hx => by
                  simp only [List.mem_cons, List.not_mem_nil, or_false] at hx
                  rcases hx with rfl | rfl
                  · exact haa0
                  · exact haa1) (by simp) (sw.sl_rd (h := 302) rfl) (fun x hx => by
                  simp only [List.mem_cons, List.not_mem_nil, or_false] at hx
                  rcases hx with rfl | rfl
                  · exact ⟨sw.row (i := 200) rfl (hcov m0 (by simp)).1, sw.row (i := 200) rfl (hcov m0 (by simp)).2⟩
                  · exact ⟨sw.row (i := 200) rfl (hcov m1 (by simp)).1, sw.row (i := 200) rfl (hcov m1 (by simp)).2⟩) hku (by rw [hkn]; decide) (sw.sl_rd (h := 301) rfl))) nil_all rfl rfl (fun v91 _ => ?_)
              refine at_heq (i := 91) (v' := .own (v91) 39 32 (flat ([]))) rfl (by rw [Qm.who_as s0 s1]) ?_
              refine st (ev_len_ownh (h := 91) Try.underlying26 rfl rfl (by assumption)) rfl rfl rfl ?_
              refine st (ev_eql rfl rfl) rfl rfl rfl ?_
              refine st (ev_pick_t rfl rfl) rfl rfl rfl ?_
              refine st (ev_move rfl) rfl rfl rfl ?_
              refine at_eq (i := 95) (v' := .bool true) rfl (by simp only [Value.bool.injEq, decide_eq_true_eq, decide_eq_false_iff_not]; rfl) ?_
              refine st_callv has23 rfl (fun w1 sw => known7_any w1) rfl rfl ?_
              refine st (ev_pick_t rfl rfl) rfl rfl rfl ?_
              refine st (ev_assign rfl) rfl rfl rfl ?_
              refine op_nil ?_
              refine ax_then ?_
              refine At.regs (L' := [(6, _)]) (.cons rfl (.nil _)) ?_
              refine cd_ret ?_
              refine rt_tmp (.inl rfl) Try.results5 rfl ?_
              exact fun w1 sw => ⟨rfl, sw.gives (.nil _)⟩
            ·
              refine st (ld_mem_all (h := 9) ty25 rfl rfl rfl (by first | omega | (simp only [List.length_append, List.length_cons, List.length_nil, List.length_set, List.length_replicate, List.length_take, List.length_drop, ints_length, wr_length, sha_len, node_len, recov_len, Ky.named_len, Ky.keyPub_len] <;> omega) | rfl)) rfl rfl rfl ?_
              refine st (ld_mem_all (h := 8) ty28 rfl rfl rfl (by first | omega | (simp only [List.length_append, List.length_cons, List.length_nil, List.length_set, List.length_replicate, List.length_take, List.length_drop, ints_length, wr_length, sha_len, node_len, recov_len, Ky.named_len, Ky.keyPub_len] <;> omega) | rfl)) rfl rfl rfl ?_
              refine st_callv has20 rfl (fun w1 sw => rmeets_any v35 mv kv 1 z [m0, m1] (Qm.keysK 3) w1 (sw.sl_rd (h := 303) rfl) (by omega) ha (by simp) (sw.sl_rd (h := 300) rfl) (fun x hx => ⟨sw.row (i := 200) rfl (hcov x hx).1, sw.row (i := 200) rfl (hcov x hx).2⟩) hku (by rw [hkn]; decide) (sw.sl_rd (h := 301) rfl)) rfl rfl ?_
              refine st (ev_pick_f rfl rfl) rfl rfl rfl ?_
              refine st (ev_pick_t rfl rfl) rfl rfl rfl ?_
              refine st (ev_move rfl) rfl rfl rfl ?_
              refine at_eq (i := 88) (v' := .bool true) rfl (by simp only [Value.bool.injEq, decide_eq_true_eq, decide_eq_false_iff_not]; exact Classical.not_not.1 hg82) ?_
              refine st (ld_mem_all (h := 10) ty25 rfl rfl rfl (by first | omega | (simp only [List.length_append, List.length_cons, List.length_nil, List.length_set, List.length_replicate, List.length_take, List.length_drop, ints_length, wr_length, sha_len, node_len, recov_len, Ky.named_len, Ky.keyPub_len] <;> omega) | rfl)) rfl rfl rfl ?_
              refine st (ld_mem_all (h := 8) ty28 rfl rfl rfl (by first | omega | (simp only [List.length_append, List.length_cons, List.length_nil, List.length_set, List.length_replicate, List.length_take, List.length_drop, ints_length, wr_length, sha_len, node_len, recov_len, Ky.named_len, Ky.keyPub_len] <;> omega) | rfl)) rfl rfl rfl ?_
              refine st_call has17 rfl (fun w1 sw => rn 91 (who_any pb (.slice (some ⟨b72, 0, none⟩) 2 2) kv 1 body [Qm.asK (Ky.keyPub (Qm.sd 1)) m0, Qm.asK (Ky.keyPub (Qm.sd 0)) m1] (Qm.keysK 3) w1 (sw.sl_rd (h := 400) rfl) (by omega) (fun x hx => by
                  simp only [List.mem_cons, List.not_mem_nil, or_false] at hx
                  rcases hx with rfl | rfl
                  · exact haa0
                  · exact haa1) (by simp) (sw.sl_rd (h := 302) rfl) (fun x hx => by
                  simp only [List.mem_cons, List.not_mem_nil, or_false] at hx
                  rcases hx with rfl | rfl
                  · exact ⟨sw.row (i := 200) rfl (hcov m0 (by simp)).1, sw.row (i := 200) rfl (hcov m0 (by simp)).2⟩
                  · exact ⟨sw.row (i := 200) rfl (hcov m1 (by simp)).1, sw.row (i := 200) rfl (hcov m1 (by simp)).2⟩) hku (by rw [hkn]; decide) (sw.sl_rd (h := 301) rfl))) nil_all rfl rfl (fun v91 _ => ?_)
              refine at_heq (i := 91) (v' := .own (v91) 39 32 (flat ([]))) rfl (by rw [Qm.who_as s0 s1]) ?_
              refine st (ev_len_ownh (h := 91) Try.underlying26 rfl rfl (by assumption)) rfl rfl rfl ?_
              refine st (ev_eql rfl rfl) rfl rfl rfl ?_
              refine st (ev_pick_t rfl rfl) rfl rfl rfl ?_
              refine st (ev_move rfl) rfl rfl rfl ?_
              refine at_eq (i := 95) (v' := .bool true) rfl (by simp only [Value.bool.injEq, decide_eq_true_eq, decide_eq_false_iff_not]; rfl) ?_
              refine st_callv has23 rfl (fun w1 sw => known7_any w1) rfl rfl ?_
              refine st (ev_pick_t rfl rfl) rfl rfl rfl ?_
              refine st (ev_assign rfl) rfl rfl rfl ?_
              refine op_nil ?_
              refine ax_then ?_
              refine At.regs (L' := [(6, _)]) (.cons rfl (.nil _)) ?_
              refine cd_ret ?_
              refine rt_tmp (.inl rfl) Try.results5 rfl ?_
              exact fun w1 sw => ⟨rfl, sw.gives (.nil _)⟩
end Go.Proofs.Yteedclmcgifmpaa

namespace Go.Proofs.Yteedclmcgifmpaa
open Go Go.ChangeShapes Go.WideShapes Go.ChangeAt Go.RowKit Fw
set_option linter.unusedVariables false
theorem laid : laidOutB Try.prog = true := by kernel_rfl
namespace quorumOther
theorem own : ownKnob Try.prog.godebug = none := by kernel_rfl
set_option maxRecDepth 100000 in
theorem lifted (os : Os) (started : os.Started) (H : Type) (enc : TypeId × Value → H) :
    ReturnsInHanded {} Try.checked os 5 .any (Rows.quorumOtherSpec.pre6 enc Try.prog Try.f5 Rows.quorumOtherRow.domain false) (Rows.quorumOtherSpec.post enc Try.prog Try.f5 false true false false) := by
  refine returnsInHanded_of_change_sized (C := Try.checked) own started (by kernel_rfl) Try.func5
    (ChangeSpec.witness6 (enc := enc) (C := Try.checked) false ⟨#[], #[.slice none 0 0, .int .i64 0, .int .u8 0], []⟩ 8 (by kernel_rfl) (by kernel_rfl) (by kernel_rfl) (by kernel_rfl)) ?_
  intro W base args ds gs before hval0 hW hcnd hsz _
  have hval : ∀ (j : Nat) t v, Try.f5.params[j]? = some t → args[j]? = some v → Value.okWide Try.prog W .any base t v := hval0
  have hW' := hW
  obtain ⟨p, q, hA0, hV, rfl, hfz, hnd⟩ := hW
  have hA : DataW.TrodAll enc Try.prog W 0 (fun _ => true) true Try.f5.params.toList args.toList ds p := hA0
  have hk := hA
  have hlt : ∀ x ∈ p, x.block < W.heap.size := fun x hx => hW'.lt x (List.mem_append.2 (.inl hx))
  rw [Try.params5] at hA hval hk
  obtain ⟨v0, vs0, d0, ds0, p0, q0, hargs, rfl, rfl, h0, r0⟩ := trodAll_cons hA
  obtain ⟨v1, vs1, d1, ds1, p1, q1, rfl, rfl, rfl, h1, r1⟩ := trodAll_cons r0
  obtain ⟨v2, vs2, d2, ds2, p2, q2, rfl, rfl, rfl, h2, r2⟩ := trodAll_cons r1
  obtain ⟨rfl, rfl, rfl⟩ := trodAll_nil r2
  obtain rfl : args = #[v0, v1, v2] := by cases args; simp_all
  obtain ⟨rfl, rfl⟩ := trodVars_none hV
  obtain ⟨l0, rd0, m0, b0⟩ := rd_ints Try.underlying22 Try.underlying5 (by kernel_rfl) (hval 0 22 v0 rfl rfl) h0 (light_of (j := 0) hsz rfl rfl)
  have len0 : l0.length ≤ 140737488351232 := by
    have h := m0
    rw [show Try.prog.bytesOf 5 = 1 from by kernel_rfl] at h
    have hr : reachBytes = 140737488351232 := rfl
    omega
  obtain ⟨a1, rfl, _, _, w1⟩ := open_int Try.underlying3 (hval 1 3 v1 rfl rfl) h1
  obtain ⟨a2, rfl, _, _, w2⟩ := open_int Try.underlying5 (hval 2 5 v2 rfl rfl) h2
  refine (quorumOther_any v0 l0 a1 a2 W len0 rd0).mono fun e W' ⟨he, g⟩ => ?_
  subst he
  have bel := g.below
  exact ⟨_, rfl, _, _, _, [], _, [], hW', trodAll_mk1 (shut_bool Try.underlying4 _), all_below laid bel _ _ _ _ (all_rows (by kernel_rfl)) hk hlt (fun x hx => by simpa using hlt x hx), rfl, bel.frame _, fun h => by cases h⟩
theorem over : Rows.quorumOtherRow.holds Try.pinned (OpenSpec.ofChange Rows.quorumOtherSpec) :=
  OpenClaim.holds_of_wide 5 Try.f5 rfl rfl rfl rfl rfl rfl rfl ⟨rfl, rfl, rfl, rfl, rfl⟩ rfl rfl rfl rfl rfl (by kernel_rfl) Try.func5 (by kernel_rfl)
    (of_decide_eq_true (by kernel_rfl)) (by unfold Func.isWrapper; first | (rw [if_pos (by decide +kernel)]; kernel_rfl) | (rw [if_neg (by decide +kernel)]; exact ⟨rfl, rfl⟩))
    (fun os started H enc _ => lifted os started H enc)
/-- The statement. -/
theorem proved : Rows.QuorumOtherSaid := over
end quorumOther
end Go.Proofs.Yteedclmcgifmpaa

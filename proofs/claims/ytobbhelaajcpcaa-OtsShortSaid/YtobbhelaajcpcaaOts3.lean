/- Chapter 3: of two messages' digits; what the last digits say: plain. -/
import Derived.Test.YtobbhelaajcpcaaOts
namespace Go.Proofs.Ytobbhelaajcpcaa.Ots
open Go Fw Sha
set_option linter.unusedSimpArgs false
set_option linter.unusedVariables false
theorem digits_lo (m : List Int) {i : Nat} (hi : i < 32) : (digits m).getD i 0 = dg (sha m) i := by
  rw [Ots.digits, d2, getD_append_left (by simp; omega), getD_append_left (by simpa using hi), List.getD_eq_getElem?_getD, List.getElem?_map, List.getElem?_range hi]
  rfl
theorem digits_hi (m : List Int) {j : Nat} (hj : j < 4) : (digits m).getD (32 + j) 0 = lack (sha m) 32 / 4 ^ j % 4 := by
  rw [Ots.digits, d2, getD_append_left (by simp; omega), List.getD_eq_getElem?_getD, List.getElem?_append_right (by simp), List.length_map, List.length_range, Nat.add_sub_cancel_left, List.getElem?_map, List.getElem?_range hj]
  rfl
theorem checks (m : List Int) : (digits m).getD 32 0 + 4 * (digits m).getD 33 0 + 16 * (digits m).getD 34 0 + 64 * (digits m).getD 35 0 = lack (sha m) 32 := by
  have h0 := digits_hi m (j := 0) (by decide)
  have h1 := digits_hi m (j := 1) (by decide)
  have h2 := digits_hi m (j := 2) (by decide)
  have h3 := digits_hi m (j := 3) (by decide)
  have hr := lack_range (sha m) 32
  simp only [Nat.reduceAdd, Int.pow_zero, Int.ediv_one, Int.reducePow] at h0 h1 h2 h3
  rw [h0, h1, h2, h3]
  omega
theorem lack_le (g h : List Int) : ∀ n, (∀ i, i < n → dg g i ≤ dg h i) → lack h n ≤ lack g n
  | 0, _ => Int.le_refl _
  | n + 1, hh => by
    have := lack_le g h n (fun i hi => hh i (by omega))
    have := hh n (by omega)
    rw [lack, lack]
    omega
theorem lack_lt (g h : List Int) : ∀ n, (∀ i, i < n → dg g i ≤ dg h i) → (∃ i, i < n ∧ dg g i < dg h i) → lack h n < lack g n
  | 0, _, he => by obtain ⟨i, hi, _⟩ := he; omega
  | n + 1, hh, he => by
    have h1 := lack_le g h n (fun i hi => hh i (by omega))
    have h2 := hh n (by omega)
    rw [lack, lack]
    obtain ⟨i, hi, hlt⟩ := he
    by_cases hn : i = n
    · subst hn; omega
    · have := lack_lt g h n (fun i hi => hh i (by omega)) ⟨i, by omega, hlt⟩
      omega
def lessB (x y : List Int) : Nat → Bool
  | 0 => false
  | i + 1 => lessB x y i || decide (x.getD i 0 < y.getD i 0)
theorem lessB_iff (x y : List Int) : ∀ n, lessB x y n = true ↔ ∃ i, i < n ∧ x.getD i 0 < y.getD i 0
  | 0 => by simp [lessB]
  | n + 1 => by
    rw [lessB, Bool.or_eq_true, lessB_iff x y n, decide_eq_true_eq]
    constructor
    · rintro (⟨i, hi, h⟩ | h)
      · exact ⟨i, by omega, h⟩
      · exact ⟨n, by omega, h⟩
    · rintro ⟨i, hi, h⟩
      by_cases hn : i = n
      · subst hn; exact .inr h
      · exact .inl ⟨i, by omega, h⟩
theorem less_imp (a b : List Int) (h : ∃ i, i < 36 ∧ (digits a).getD i 0 < (digits b).getD i 0) : ∃ i, i < 36 ∧ (digits b).getD i 0 < (digits a).getD i 0 := by
  apply Classical.byContradiction
  intro hn
  have hle : ∀ i, i < 36 → (digits a).getD i 0 ≤ (digits b).getD i 0 := fun i hi => by
    apply Classical.byContradiction
    intro hc
    exact hn ⟨i, hi, by omega⟩
  have hlo : ∀ i, i < 32 → dg (sha a) i ≤ dg (sha b) i := fun i hi => by
    have := hle i (by omega)
    rwa [digits_lo a hi, digits_lo b hi] at this
  have ca := checks a
  have cb := checks b
  have e0 := hle 32 (by decide)
  have e1 := hle 33 (by decide)
  have e2 := hle 34 (by decide)
  have e3 := hle 35 (by decide)
  obtain ⟨i, hi, hlt⟩ := h
  by_cases h32 : i < 32
  · have := lack_lt (sha a) (sha b) 32 hlo ⟨i, h32, by rwa [digits_lo a h32, digits_lo b h32] at hlt⟩
    omega
  · have hl1 := lack_le (sha a) (sha b) 32 hlo
    have hi4 : i = 32 ∨ i = 33 ∨ i = 34 ∨ i = 35 := by omega
    rcases hi4 with rfl | rfl | rfl | rfl <;> omega
theorem less_more (a b : List Int) : lessB (digits a) (digits b) 36 = lessB (digits b) (digits a) 36 := by
  rw [Bool.eq_iff_iff, lessB_iff, lessB_iff]
  exact ⟨less_imp a b, less_imp b a⟩
end Go.Proofs.Ytobbhelaajcpcaa.Ots

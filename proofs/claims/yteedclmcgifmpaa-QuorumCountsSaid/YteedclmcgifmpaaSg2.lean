/- Chapter 7: who signed, of three keys: plain. -/
import Derived.Test.YteedclmcgifmpaaSg
import Derived.Test.YteedclmcgifmpaaQ2
namespace Go.Proofs.Yteedclmcgifmpaa.Qm
open Go Fw Sha Ots Mk Go.Proofs.Yteedclmcgifmpaa
set_option linter.unusedSimpArgs false
set_option linter.unusedVariables false
def sel (which : Int) : Nat → List (List Int)
  | 0 => []
  | n + 1 => sel which n ++ if bit which n then [Ky.keyPub (sd n)] else []
theorem sel_sub {which : Int} : ∀ {n : Nat} {h : List Int}, h ∈ sel which n → ∃ i, i < n ∧ h = Ky.keyPub (sd i)
  | 0, _, hh => by cases hh
  | n + 1, h, hh => by
    rcases List.mem_append.1 hh with hh | hh
    · obtain ⟨i, hi, e⟩ := sel_sub hh
      exact ⟨i, by omega, e⟩
    · split at hh
      · exact ⟨n, by omega, List.mem_singleton.1 hh⟩
      · cases hh
theorem sel_h32 (which : Int) (n : Nat) : H32 (sel which n) := fun h hh => by
  obtain ⟨i, _, rfl⟩ := sel_sub hh
  exact Ky.keyPub_len _
theorem sel_len (which : Int) : ∀ n, (sel which n).length ≤ n
  | 0 => Nat.le_refl _
  | n + 1 => by
    have := sel_len which n
    rw [sel, List.length_append]
    split <;> simp <;> omega
/-- the keys of unlike seeds are unlike -/
def Unlike : Prop := ∀ i j, i < 3 → j < 3 → Ky.keyPub (sd i) = Ky.keyPub (sd j) → i = j
theorem expd_bit {body : List Int} {which : Int} {tw : Bool} : ∀ {n : Nat} {s : Sp}, s ∈ expd body which tw n → ∃ i k, i < n ∧ bit which i ∧ s = exp1 body i k
  | 0, _, h => by cases h
  | n + 1, s, h => by
    rcases List.mem_append.1 h with h | h
    · obtain ⟨i, k, hi, hk, e⟩ := expd_bit h
      exact ⟨i, k, by omega, hk, e⟩
    · unfold step at h
      split at h
      · next hb =>
        rcases List.mem_append.1 h with h | h
        · exact ⟨n, 0, by omega, hb, List.mem_singleton.1 h⟩
        · split at h
          · exact ⟨n, 1, by omega, hb, List.mem_singleton.1 h⟩
          · cases h
      · cases h
theorem expd_has {body : List Int} {which : Int} {tw : Bool} : ∀ {n i : Nat}, i < n → bit which i → exp1 body i 0 ∈ expd body which tw n
  | n + 1, i, hi, hb => by
    rw [expd]
    by_cases h : i < n
    · exact List.mem_append_left _ (expd_has h hb)
    · obtain rfl : i = n := by omega
      refine List.mem_append_right _ ?_
      rw [step, if_pos hb]
      simp
theorem expd_four (body : List Int) (which : Int) (tw : Bool) : (expd body which tw 3).length ≤ 4 := by
  have h0 : (step body which tw 0).length ≤ 2 := by unfold step; split <;> (try split) <;> simp
  have h1 : (step body which tw 1).length ≤ 1 := by unfold step; split <;> simp
  have h2 : (step body which tw 2).length ≤ 1 := by unfold step; split <;> simp
  simp only [expd, List.length_append, List.nil_append]
  omega
theorem some4_iff (hd : Unlike) {body : List Int} {which : Int} {tw : Bool} {ms : List Mark} (hms : ms.map strip = expd body which tw 3) {n : Nat} (hn : n < 3) : some4 body ms (Ky.keyPub (sd n)) ↔ bit which n := by
  have hl : ms.length ≤ 4 := by have := expd_four body which tw; rw [← hms, List.length_map] at this; exact this
  have ht : ms.take 4 = ms := List.take_of_length_le hl
  constructor
  · rintro ⟨x, hx, hk, _⟩
    rw [ht] at hx
    have h1 : strip x ∈ expd body which tw 3 := by rw [← hms]; exact List.mem_map_of_mem hx
    obtain ⟨i, k, hi, hb, e⟩ := expd_bit h1
    simp only [strip, exp1, Prod.mk.injEq] at e
    obtain rfl := hd i n hi hn (by rw [← e.1, hk])
    exact hb
  · intro hb
    have h1 : exp1 body n 0 ∈ ms.map strip := by rw [hms]; exact expd_has hn hb
    obtain ⟨x, hx, e⟩ := List.mem_map.1 h1
    simp only [strip, exp1, Prod.mk.injEq] at e
    refine ⟨x, by rw [ht]; exact hx, e.1, ?_⟩
    rw [e.2.1, e.2.2.1, e.2.2.2]
    exact Ky.ver_sign (sd n) body (n := 0) (by decide)
theorem who_sel (hd : Unlike) {body : List Int} {which : Int} {tw : Bool} {ms : List Mark} (hms : ms.map strip = expd body which tw 3) : ∀ n, n ≤ 3 → who body ms (keysK n) = sel which n
  | 0, _ => rfl
  | n + 1, hn => by
    have h1 : Ky.keyPub (sd n) ∉ sel which n := fun hh => by
      obtain ⟨i, hi, e⟩ := sel_sub hh
      have := hd n i (by omega) (by omega) e
      omega
    rw [keysK_snoc, who_snoc, who_sel hd hms n (by omega), sel]
    by_cases hb : bit which n
    · rw [if_pos ⟨h1, (some4_iff hd hms (by omega)).2 hb⟩, if_pos hb]
    · rw [if_neg (fun hh => hb ((some4_iff hd hms (by omega)).1 hh.2)), if_neg hb, List.append_nil]
theorem who_nil (body : List Int) : ∀ ks, who body [] ks = [] := by
  intro ks
  have key : ∀ n, n ≤ ks.length → who body [] (ks.take n) = [] := by
    intro n
    induction n with
    | zero => intro _; rw [List.take_zero]; rfl
    | succ n ih =>
      intro hn
      rw [List.take_succ_eq_append_getElem (by omega), who_snoc, ih (by omega), if_neg]
      rintro ⟨_, x, hx, _⟩
      simp at hx
  have := key ks.length (Nat.le_refl _)
  rwa [List.take_length] at this
theorem keysK_get {n i : Nat} (hi : i < n) : (keysK n).getD i [] = Ky.keyPub (sd i) := by
  rw [keysK, List.getD_eq_getElem?_getD, List.getElem?_map, List.getElem?_range hi]; rfl
theorem isK_three (hd : Unlike) (need : Int) : isK (keysK 3) need ↔ 1 ≤ need ∧ need ≤ 3 := by
  have hl := keysK_len 3
  constructor
  · rintro ⟨_, _, _, h1, h2⟩
    rw [hl] at h2
    exact ⟨h1, h2⟩
  · rintro ⟨h1, h2⟩
    refine ⟨fun a ha => ?_, by rw [hl]; decide, by rw [hl]; decide, h1, by rw [hl]; exact h2⟩
    rw [idx_neg]
    intro j hj
    rw [List.length_take, hl] at hj
    rw [hl] at ha
    have hja : j < a := by omega
    rw [keysK_get (by omega), show ((keysK 3).take a).getD j [] = (keysK 3).getD j [] by
      rw [List.getD_eq_getElem?_getD, List.getD_eq_getElem?_getD, List.getElem?_take_of_lt hja], keysK_get (by omega)]
    intro e
    have := hd a j (by omega) (by omega) e
    omega
theorem bit7 : ∀ i, i < 3 → bit 7 i := by decide +kernel
theorem meets_seven (hd : Unlike) {body : List Int} {tw : Bool} {ms : List Mark} (hms : ms.map strip = expd body 7 tw 3) (need : Int) : meets body ms (keysK 3) need ↔ 1 ≤ need ∧ need ≤ 3 := by
  have hw := who_sel hd hms 3 (Nat.le_refl _)
  have hl : (sel 7 3).length = 3 := by
    simp only [sel, if_pos (bit7 0 (by decide)), if_pos (bit7 1 (by decide)), if_pos (bit7 2 (by decide))]
    rfl
  rw [meets, isK_three hd, hw, hl]
  constructor
  · exact fun h => h.1
  · exact fun h => ⟨h, by omega⟩
theorem meets_bare (body : List Int) (ks : List (List Int)) (need : Int) : ¬ meets body [] ks need := by
  rintro ⟨⟨_, _, _, h1, _⟩, h2⟩
  rw [who_nil] at h2
  simp at h2
  omega
theorem sel_mono (which : Int) {m n : Nat} (h : m ≤ n) : (sel which m).length ≤ (sel which n).length := by
  induction n with
  | zero => obtain rfl : m = 0 := by omega
            exact Nat.le_refl _
  | succ n ih =>
    by_cases hm : m = n + 1
    · subst hm; exact Nat.le_refl _
    · have := ih (by omega)
      rw [sel, List.length_append]
      omega
theorem sel_get {which : Int} {i : Nat} (hb : bit which i) : ∀ {n : Nat}, i < n → (sel which n).getD (sel which i).length [] = Ky.keyPub (sd i)
  | n + 1, hi => by
    rw [sel]
    by_cases h : i < n
    · have hm : (sel which i).length < (sel which n).length := by
        have := sel_mono which (m := i + 1) (n := n) (by omega)
        rw [sel, if_pos hb, List.length_append] at this
        simp at this
        omega
      rw [List.getD_eq_getElem?_getD, List.getElem?_append_left hm, ← List.getD_eq_getElem?_getD]
      exact sel_get hb h
    · obtain rfl : i = n := by omega
      rw [if_pos hb, List.getD_eq_getElem?_getD, List.getElem?_append_right (Nat.le_refl _), Nat.sub_self]
      rfl
def cnt (which : Int) : Nat := (if bit which 0 then 1 else 0) + (if bit which 1 then 1 else 0) + (if bit which 2 then 1 else 0)
theorem sel_cnt (which : Int) : (sel which 3).length = cnt which := by
  simp only [sel, cnt, List.length_append, List.nil_append]
  split <;> split <;> split <;> rfl
theorem cnt_sum : ∀ w : Nat, w ≤ 7 → iand .i64 (w : Int) 1 + iand .i64 (ishr .i64 (w : Int) 1) 1 + iand .i64 (ishr .i64 (w : Int) 2) 1 = ((cnt (w : Int) : Nat) : Int) := by decide +kernel
theorem cnt_rng : ∀ w : Nat, w ≤ 7 → 0 ≤ iand .i64 (w : Int) 1 ∧ iand .i64 (w : Int) 1 ≤ 1 ∧ 0 ≤ iand .i64 (ishr .i64 (w : Int) 1) 1 ∧ iand .i64 (ishr .i64 (w : Int) 1) 1 ≤ 1 ∧ 0 ≤ iand .i64 (ishr .i64 (w : Int) 2) 1 ∧ iand .i64 (ishr .i64 (w : Int) 2) 1 ≤ 1 := by decide +kernel
theorem meets_cnt (hd : Unlike) {body : List Int} {which : Int} {tw : Bool} {ms : List Mark} (hms : ms.map strip = expd body which tw 3) {need : Int} (h1 : 1 ≤ need) (h2 : need ≤ 3) : meets body ms (keysK 3) need ↔ ((cnt which : Nat) : Int) ≥ need := by
  rw [meets, isK_three hd, who_sel hd hms 3 (Nat.le_refl _), sel_cnt]
  exact ⟨fun h => h.2, fun h => ⟨⟨h1, h2⟩, h⟩⟩
end Go.Proofs.Yteedclmcgifmpaa.Qm

/- Walks: the laws of chapter 3. -/
import Derived.Test.YteedclmcgifmpaaE6
import Derived.Test.YteedclmcgifmpaaOts2
namespace Go.Proofs.Yteedclmcgifmpaa
open Go Go.RowKit Fw
open Sha
open Ots
set_option linter.unusedVariables false
set_option linter.unusedSimpArgs false

theorem rd_nilb {w : World} : Rd w (.slice none 0 0) 1 (ints .u8 []) := ⟨none, 0, 0, rfl, by simp [ints], Nat.le_refl _, fun _ => rfl, fun x hx => by cases hx⟩
theorem recov_sign (s : List Int) (l : Int) (m : List Int) : recov m (sign s l m 36) = pub s l := by
  rw [recov, if_pos (sign_len _ _ _ _)]
  refine ends_congr fun i hi => ?_
  have e1 : (sign s l m 36).getD i [] = walk (secret s l i) i 0 ((Ots.digits m).getD i 0) := by
    rw [sign, List.getD_eq_getElem?_getD, List.getElem?_map, List.getElem?_range hi]
    rfl
  have hr := digits_range m i
  rw [e1]
  generalize (Ots.digits m).getD i 0 = d at *
  obtain ⟨n, rfl⟩ := Int.eq_ofNat_of_zero_le hr.1
  have a1 : (max (0 : Int) 0).toNat = 0 := rfl
  have a2 : (min (n : Int) 3 - max (0 : Int) 0).toNat = n := by omega
  have a3 : (max (n : Int) 0).toNat = n := by omega
  have a4 : (min (3 : Int) 3 - max (n : Int) 0).toNat = 3 - n := by omega
  have a5 : (min (3 : Int) 3 - max (0 : Int) 0).toNat = 3 := rfl
  rw [walk, walk, walk, a1, a2, a3, a4, a5]
  have := way_add i (secret s l i) 0 n (3 - n)
  rw [Nat.zero_add, show n + (3 - n) = 3 by omega] at this
  exact this

theorem walk_two (h : List Int) (c a b : Int) (h0 : 0 ≤ a) (h1 : a ≤ b) (h2 : b ≤ 3) : walk (walk h c a b) c b 3 = walk h c a 3 := by
  obtain ⟨n, rfl⟩ := Int.eq_ofNat_of_zero_le h0
  obtain ⟨m, rfl⟩ := Int.eq_ofNat_of_zero_le (show 0 ≤ b by omega)
  have a1 : (max (n : Int) 0).toNat = n := by omega
  have a2 : (max (m : Int) 0).toNat = m := by omega
  have a3 : (min (m : Int) 3 - max (n : Int) 0).toNat = m - n := by omega
  have a4 : (min (3 : Int) 3 - max (m : Int) 0).toNat = 3 - m := by omega
  have a5 : (min (3 : Int) 3 - max (n : Int) 0).toNat = 3 - n := by omega
  rw [walk, walk, walk, a1, a2, a3, a4, a5]
  have := way_add c h n (m - n) (3 - m)
  rw [show n + (m - n) = m by omega, show m - n + (3 - m) = 3 - n by omega] at this
  exact this
theorem walk_none (h : List Int) (c a b : Int) (h1 : min b 3 ≤ max a 0) : walk h c a b = h := by
  rw [walk, show (min b 3 - max a 0).toNat = 0 by omega]
  rfl

end Go.Proofs.Yteedclmcgifmpaa

/- Rows of digests, a byte of one of them; masks: plain. -/
import Derived.Test.YteedclmcgifmpaaFw12
namespace Go.Proofs.Yteedclmcgifmpaa.Mk
open Go Fw
set_option linter.unusedSimpArgs false
set_option linter.unusedVariables false
theorem flat_get1 {hs : List (List Int)} {i j : Nat} (hu : H32 hs) (hi : i < hs.length) (hj : j < 32) : (flat hs)[i * 32 + j]? = some (.int .u8 ((hs.getD i []).getD j 0)) := by
  have h1 := flat_get hu hi
  have h2 : (((flat hs).drop (i * 32)).take 32)[j]? = (ints .u8 (hs.getD i []))[j]? := by rw [h1]
  rw [List.getElem?_take_of_lt hj, List.getElem?_drop] at h2
  rw [h2]
  exact ints_get _ _ _ (by rw [hu.get hi]; exact hj)
theorem set_wr {l : List Value} {a j k : Nat} {v : Value} (hj : j < k) (hk : a + k ≤ l.length) : l.set (a + j) v = wr l a (((l.drop a).take k).set j v) := by
  have h1 : (((l.drop a).take k).set j v).length = k := by rw [List.length_set, List.length_take, List.length_drop]; omega
  rw [wr, h1]
  apply List.ext_getElem?
  intro n
  by_cases c1 : n < a
  · rw [List.getElem?_set_ne (by omega), List.append_assoc, List.getElem?_append_left (by rw [List.length_take]; omega), List.getElem?_take_of_lt c1]
  · by_cases c2 : n < a + k
    · rw [List.getElem?_append_left (by rw [List.length_append, List.length_take, h1]; omega), List.getElem?_append_right (by rw [List.length_take]; omega), List.length_take, Nat.min_eq_left (by omega)]
      by_cases c3 : n = a + j
      · subst c3
        rw [List.getElem?_set_self (by omega), Nat.add_sub_cancel_left, List.getElem?_set_self (by rw [List.length_take, List.length_drop]; omega)]
      · rw [List.getElem?_set_ne (by omega), List.getElem?_set_ne (by omega), List.getElem?_take_of_lt (by omega), List.getElem?_drop]
        congr 1; omega
    · rw [List.getElem?_set_ne (by omega), List.getElem?_append_right (by rw [List.length_append, List.length_take, h1]; omega), List.getElem?_drop]
      congr 1
      rw [List.length_append, List.length_take, h1]; omega
theorem flat_set1 {hs : List (List Int)} {i j : Nat} (x : Int) (hu : H32 hs) (hi : i < hs.length) (hj : j < 32) : wr (flat hs) (i * 32 + j) [.int .u8 x] = flat (hs.set i ((hs.getD i []).set j x)) := by
  have hl := flat_len hu
  have h0 : wr (flat hs) (i * 32 + j) [.int .u8 x] = (flat hs).set (i * 32 + j) (.int .u8 x) := by
    rw [wr_one (by omega)]
  rw [h0, set_wr (k := 32) hj (by omega), flat_get hu hi, ints_set, flat_wr hu hi (by rw [List.length_set, hu.get hi])]
theorem mask_range (y : Int) {m : Int} (h0 : 0 ≤ m) (h1 : m ≤ 1000000) : 0 ≤ iand .i64 y m ∧ iand .i64 y m ≤ m := by
  obtain ⟨n, rfl⟩ := Int.eq_ofNat_of_zero_le h0
  have hn : n % 2 ^ IntKind.i64.bits = n := Nat.mod_eq_of_lt (by simp [IntKind.bits]; omega)
  have e : (BitVec.ofInt IntKind.i64.bits y &&& BitVec.ofInt IntKind.i64.bits ((n : Nat) : Int)).toNat ≤ n := by
    rw [BitVec.toNat_and]
    refine Nat.le_trans Nat.and_le_right ?_
    rw [BitVec.ofInt_natCast, BitVec.toNat_ofNat, hn]
    exact Nat.le_refl _
  rw [iand, wrap64_id (by omega) (by omega)]
  omega
end Go.Proofs.Yteedclmcgifmpaa.Mk

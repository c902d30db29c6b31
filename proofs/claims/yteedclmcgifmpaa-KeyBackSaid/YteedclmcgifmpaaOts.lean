/- Chapter 3: digits, ways, secrets, leaves: plain. -/
import Derived.Test.YteedclmcgifmpaaSha5
import Derived.Test.YteedclmcgifmpaaFw12
namespace Go.Proofs.Yteedclmcgifmpaa.Ots
open Go Fw Sha
set_option linter.unusedSimpArgs false
set_option linter.unusedVariables false

/-- n steps along a chain -/
def way (c : Int) (h : List Int) (a : Nat) : Nat → List Int
  | 0 => h
  | n + 1 => sha ([1, IntKind.u8.wrap c, IntKind.u8.wrap ((a + n : Nat) : Int)] ++ way c h a n)
theorem way_len (c : Int) {h : List Int} (hl : h.length = 32) (a : Nat) : ∀ n, (way c h a n).length = 32
  | 0 => hl
  | n + 1 => sha_len _
/-- a way in two parts -/
theorem way_add (c : Int) (h : List Int) (a m : Nat) : ∀ n, way c (way c h a m) (a + m) n = way c h a (m + n)
  | 0 => rfl
  | n + 1 => by
    rw [way, way_add c h a m n, Nat.add_assoc]
    rfl
def walk (h : List Int) (c f t : Int) : List Int := way c h (max f 0).toNat (min t 3 - max f 0).toNat
theorem walk_len (c f t : Int) {h : List Int} (hl : h.length = 32) : (walk h c f t).length = 32 := way_len _ hl _ _
def secret (seed : List Int) (leaf chain : Int) : List Int := sha ([0] ++ seed ++ [IntKind.u8.wrap leaf, IntKind.u8.wrap chain])
theorem secret_len (s : List Int) (l c : Int) : (secret s l c).length = 32 := sha_len _
/-- the first n chains' ends, in one text -/
def tex (f : Nat → List Int) : Nat → List Int
  | 0 => [2]
  | n + 1 => tex f n ++ f n
theorem tex_len {f : Nat → List Int} (h : ∀ i, (f i).length = 32) : ∀ n, (tex f n).length = 1 + 32 * n
  | 0 => rfl
  | n + 1 => by rw [tex, List.length_append, tex_len h n, h n]; omega
theorem tex_congr {f g : Nat → List Int} : ∀ n, (∀ i, i < n → f i = g i) → tex f n = tex g n
  | 0, _ => rfl
  | n + 1, h => by rw [tex, tex, tex_congr n (fun i hi => h i (by omega)), h n (by omega)]
def ends (f : Nat → List Int) : List Int := sha (tex f 36)
theorem ends_congr {f g : Nat → List Int} (h : ∀ i, i < 36 → f i = g i) : ends f = ends g := by rw [ends, ends, tex_congr 36 h]
def pub (seed : List Int) (leaf : Int) : List Int := ends fun c => walk (secret seed leaf c) c 0 3
/-- a digit of a digest -/
def dg (h : List Int) (i : Nat) : Int := h.getD (i / 4) 0 / 2 ^ (6 - 2 * (i % 4)) % 4
theorem dg_range (h : List Int) (i : Nat) : 0 ≤ dg h i ∧ dg h i ≤ 3 := by unfold dg; omega
/-- what the first n digits lack -/
def lack (h : List Int) : Nat → Int
  | 0 => 0
  | n + 1 => lack h n + (3 - dg h n)
theorem lack_range (h : List Int) : ∀ n, 0 ≤ lack h n ∧ lack h n ≤ 3 * (n : Int)
  | 0 => by simp [lack]
  | n + 1 => by
    have := lack_range h n
    have := dg_range h n
    rw [lack]
    omega
/-- the digits so far -/
def d1 (h : List Int) (i : Nat) : List Int := (List.range i).map (dg h) ++ List.replicate (36 - i) 0
def d2 (h : List Int) (j : Nat) : List Int := (List.range 32).map (dg h) ++ (List.range j).map (fun j => lack h 32 / 4 ^ j % 4) ++ List.replicate (4 - j) 0
theorem d1_len (h : List Int) (i : Nat) (hi : i ≤ 36) : (d1 h i).length = 36 := by simp [d1]; omega
theorem d2_len (h : List Int) (j : Nat) (hj : j ≤ 4) : (d2 h j).length = 36 := by simp [d2]; omega
theorem d1_set (h : List Int) (i : Nat) (hi : i < 36) : (d1 h i).set i (dg h i) = d1 h (i + 1) := by
  have e : 36 - i = (36 - (i + 1)) + 1 := by omega
  rw [d1, List.set_append_right _ _ (by simp), d1, List.range_succ, List.map_append, List.append_assoc, e, List.replicate_succ]
  simp
theorem d2_set (h : List Int) (j : Nat) (hj : j < 4) : (d2 h j).set (32 + j) (lack h 32 / 4 ^ j % 4) = d2 h (j + 1) := by
  have e : 4 - j = (4 - (j + 1)) + 1 := by omega
  rw [d2, List.set_append_right _ _ (by simp), d2, List.range_succ (n := j), List.map_append, e, List.replicate_succ]
  simp
theorem d1_get (h : List Int) (i : Nat) {j : Nat} (hj : j < i) : (d1 h i).getD j 0 = dg h j := by
  rw [d1, getD_append_left (by simpa using hj), List.getD_eq_getElem?_getD, List.getElem?_map, List.getElem?_range hj]
  rfl
def digits (m : List Int) : List Int := d2 (sha m) 4
theorem digits_len (m : List Int) : (digits m).length = 36 := d2_len _ 4 (by decide)
theorem d12 (h : List Int) : d1 h 32 = d2 h 0 := by simp [d1, d2]
theorem shr_dg {x : Int} {i : Nat} (h0 : 0 ≤ x) (h1 : x ≤ 255) : ishr .u8 x (6 - 2 * ((i : Int) % 4)) = x / 2 ^ (6 - 2 * (i % 4)) ∧ 0 ≤ x / 2 ^ (6 - 2 * (i % 4)) ∧ x / 2 ^ (6 - 2 * (i % 4)) ≤ 255 := by
  have e0 : (6 - 2 * ((i : Int) % 4)).toNat = 6 - 2 * (i % 4) := by omega
  have e : min (6 - 2 * ((i : Int) % 4)).toNat IntKind.u8.bits = 6 - 2 * (i % 4) := by rw [e0]; simp [IntKind.bits]; omega
  have hp : (0 : Int) < 2 ^ (6 - 2 * (i % 4)) := Int.pow_pos (by decide)
  refine ⟨?_, Int.ediv_nonneg h0 (Int.le_of_lt hp), ?_⟩
  · rw [ishr, e, Int.fdiv_eq_ediv_of_nonneg _ (Int.le_of_lt hp)]
  · exact Int.le_trans (Int.ediv_le_self _ h0) h1
theorem and3 {y : Int} (h0 : 0 ≤ y) (h1 : y ≤ 1000000) : iand .i64 y 3 = y % 4 := by
  obtain ⟨n, rfl⟩ := Int.eq_ofNat_of_zero_le h0
  have hn : n % 2 ^ IntKind.i64.bits = n := Nat.mod_eq_of_lt (by simp [IntKind.bits]; omega)
  have e : (BitVec.ofInt IntKind.i64.bits ((n : Nat) : Int) &&& BitVec.ofInt IntKind.i64.bits 3).toNat = n % 4 := by
    rw [BitVec.toNat_and, BitVec.ofInt_natCast, BitVec.toNat_ofNat, show (BitVec.ofInt IntKind.i64.bits 3).toNat = 2 ^ 2 - 1 from rfl, hn, Nat.and_two_pow_sub_one_eq_mod]
  rw [iand, e, wrap64_id (by omega) (by omega)]
  omega
theorem shr2 {y : Int} (h0 : 0 ≤ y) : ishr .i64 y 2 = y / 4 := by
  have e : min (2 : Int).toNat IntKind.i64.bits = 2 := rfl
  rw [ishr, e, Int.fdiv_eq_ediv_of_nonneg _ (by decide)]
  rfl
theorem pow_step (y : Int) (j : Nat) : y / 4 ^ j / 4 = y / 4 ^ (j + 1) := by
  rw [Int.pow_succ]
  exact Int.ediv_ediv_of_nonneg (Int.le_of_lt (Int.pow_pos (by decide)))
end Go.Proofs.Yteedclmcgifmpaa.Ots

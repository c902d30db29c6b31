/- Chapter 4: trees of digests: plain. -/
import Derived.Test.YteedclmcgifmpaaSha5
import Derived.Test.YteedclmcgifmpaaFw12
namespace Go.Proofs.Yteedclmcgifmpaa.Mk
open Go Fw Sha
set_option linter.unusedSimpArgs false
set_option linter.unusedVariables false

def node (a b : List Int) : List Int := sha ([3] ++ a ++ b)
theorem node_len (a b : List Int) : (node a b).length = 32 := sha_len _
def half (n : Nat) : Nat := 2 ^ Nat.log2 (n - 1)
theorem half_pos (n : Nat) : 0 < half n := Nat.pow_pos (by decide)
theorem half_lt {n : Nat} (h : 2 ≤ n) : half n < n := by
  have := Nat.log2_self_le (n := n - 1) (by omega)
  rw [half]
  omega
/-- half of a power of two -/
theorem half_pow (h : Nat) : half (2 ^ (h + 1)) = 2 ^ h := by
  have hp : 0 < 2 ^ h := Nat.pow_pos (by decide)
  have e : 2 ^ (h + 1) = 2 * 2 ^ h := by rw [Nat.pow_succ]; omega
  rw [half, (Nat.log2_eq_iff (k := h) (by omega)).2 ⟨by omega, by omega⟩]
def root (l : List (List Int)) : List Int :=
  if h : 2 ≤ l.length then node (root (l.take (half l.length))) (root (l.drop (half l.length))) else l.headD (List.replicate 32 0)
termination_by l.length
decreasing_by
  · have := half_lt h; simp only [List.length_take]; omega
  · have := half_pos l.length; simp only [List.length_drop]; omega
theorem root_two {l : List (List Int)} (h : 2 ≤ l.length) : root l = node (root (l.take (half l.length))) (root (l.drop (half l.length))) := by
  rw [root, dif_pos h]
theorem root_nil : root [] = List.replicate 32 0 := by rw [root, dif_neg (by simp)]; rfl
theorem root_one (a : List Int) : root [a] = a := by rw [root, dif_neg (by simp)]; rfl
theorem root_len {l : List (List Int)} (hu : H32 l) : (root l).length = 32 := by
  by_cases h : 2 ≤ l.length
  · rw [root_two h]; exact node_len _ _
  · match l, hu, h with
    | [], _, _ => rw [root_nil]; simp
    | [a], hu, _ => rw [root_one]; exact hu a (by simp)
    | a :: b :: r, _, h => simp at h
def path (l : List (List Int)) (i : Int) : List (List Int) :=
  if h : 0 ≤ i ∧ i < l.length ∧ 2 ≤ l.length then
    if i < half l.length then path (l.take (half l.length)) i ++ [root (l.drop (half l.length))]
    else path (l.drop (half l.length)) (i - half l.length) ++ [root (l.take (half l.length))]
  else []
termination_by l.length
decreasing_by
  · have := half_lt h.2.2; simp only [List.length_take]; omega
  · have := half_pos l.length; simp only [List.length_drop]; omega
theorem path_no {l : List (List Int)} {i : Int} (h : ¬ (0 ≤ i ∧ i < l.length ∧ 2 ≤ l.length)) : path l i = [] := by rw [path, dif_neg h]
theorem path_lo {l : List (List Int)} {i : Int} (h0 : 0 ≤ i) (h2 : 2 ≤ l.length) (h : i < half l.length) : path l i = path (l.take (half l.length)) i ++ [root (l.drop (half l.length))] := by
  have := half_lt h2
  rw [path, dif_pos ⟨h0, by omega, h2⟩, if_pos h]
theorem path_hi {l : List (List Int)} {i : Int} (h1 : i < l.length) (h2 : 2 ≤ l.length) (h : ¬ i < half l.length) : path l i = path (l.drop (half l.length)) (i - half l.length) ++ [root (l.take (half l.length))] := by
  have := half_pos l.length
  rw [path, dif_pos ⟨by omega, h1, h2⟩, if_neg h]
theorem path_h32 : ∀ (n : Nat) (l : List (List Int)) (i : Int), l.length ≤ n → H32 l → H32 (path l i)
  | 0, l, i, hn, hu => by
    rw [path_no (by omega)]
    intro x hx; cases hx
  | n + 1, l, i, hn, hu => by
    by_cases h : 0 ≤ i ∧ i < l.length ∧ 2 ≤ l.length
    · obtain ⟨h0, h1, h2⟩ := h
      have := half_lt h2
      have := half_pos l.length
      by_cases hk : i < half l.length
      · rw [path_lo h0 h2 hk]
        intro x hx
        rcases List.mem_append.1 hx with hx | hx
        · exact path_h32 n _ _ (by simp only [List.length_take]; omega) (hu.take _) x hx
        · rw [List.mem_singleton.1 hx]; exact root_len (hu.drop _)
      · rw [path_hi h1 h2 hk]
        intro x hx
        rcases List.mem_append.1 hx with hx | hx
        · exact path_h32 n _ _ (by simp only [List.length_drop]; omega) (hu.drop _) x hx
        · rw [List.mem_singleton.1 hx]; exact root_len (hu.take _)
    · rw [path_no h]
      intro x hx; cases hx
theorem path_max : ∀ (n : Nat) (l : List (List Int)) (i : Int), l.length ≤ n → (path l i).length ≤ n
  | 0, l, i, hn => by
    rw [path_no (by omega)]
    exact Nat.zero_le _
  | n + 1, l, i, hn => by
    by_cases h : 0 ≤ i ∧ i < l.length ∧ 2 ≤ l.length
    · obtain ⟨h0, h1, h2⟩ := h
      have := half_lt h2
      have := half_pos l.length
      by_cases hk : i < half l.length
      · rw [path_lo h0 h2 hk, List.length_append]
        have := path_max n (l.take (half l.length)) i (by simp only [List.length_take]; omega)
        simp; omega
      · rw [path_hi h1 h2 hk, List.length_append]
        have := path_max n (l.drop (half l.length)) (i - half l.length) (by simp only [List.length_drop]; omega)
        simp; omega
    · rw [path_no h]
      exact Nat.zero_le _
def up (leaf : List Int) (i : Int) : List (List Int) → List Int
  | [] => leaf
  | x :: p => up (if i % 2 = 0 then node leaf x else node x leaf) (i / 2) p
theorem up_len {leaf : List Int} (hl : leaf.length = 32) (i : Int) (p : List (List Int)) : (up leaf i p).length = 32 := by
  induction p generalizing leaf i with
  | nil => exact hl
  | cons x p ih =>
    rw [up]
    refine ih ?_ _
    split <;> exact node_len _ _
theorem up_snoc (leaf : List Int) (i : Int) (p : List (List Int)) (x : List Int) : up leaf i (p ++ [x]) = if i / 2 ^ p.length % 2 = 0 then node (up leaf i p) x else node x (up leaf i p) := by
  induction p generalizing leaf i with
  | nil => simp [up]
  | cons y p ih =>
    rw [List.cons_append, up, ih, up, List.length_cons, show i / 2 / 2 ^ p.length = i / 2 ^ (p.length + 1) by
      rw [Int.pow_succ, Int.mul_comm]; exact Int.ediv_ediv_of_nonneg (by decide)]
theorem up_add (leaf : List Int) (i : Int) (p : List (List Int)) (c : Int) : up leaf (i + 2 ^ p.length * c) p = up leaf i p := by
  induction p generalizing leaf i with
  | nil => rfl
  | cons y p ih =>
    have e : (2 : Int) ^ (y :: p).length * c = 2 * (2 ^ p.length * c) := by
      rw [List.length_cons, Int.pow_succ, Int.mul_comm (2 ^ p.length) 2, Int.mul_assoc]
    rw [e, up, up]
    rw [show (i + 2 * (2 ^ p.length * c)) % 2 = i % 2 by omega, show (i + 2 * (2 ^ p.length * c)) / 2 = i / 2 + 2 ^ p.length * c by omega, ih]
/-- Of as many leaves as a power of two says each way leads up. -/
theorem up_root : ∀ (h : Nat) (l : List (List Int)) (n : Nat), l.length = 2 ^ h → n < 2 ^ h → (path l n).length = h ∧ up (l.getD n []) n (path l n) = root l
  | 0, l, n, hl, hn => by
    obtain ⟨a, rfl⟩ : ∃ a, l = [a] := by
      match l, hl with
      | [a], _ => exact ⟨a, rfl⟩
    obtain rfl : n = 0 := by omega
    rw [path_no (by simp), root_one]
    exact ⟨rfl, rfl⟩
  | h + 1, l, n, hl, hn => by
    have hp : 0 < 2 ^ h := Nat.pow_pos (by decide)
    have e : 2 ^ (h + 1) = 2 * 2 ^ h := by rw [Nat.pow_succ]; omega
    have h2 : 2 ≤ l.length := by omega
    have hh : half l.length = 2 ^ h := by rw [hl, half_pow]
    have cast : ((2 ^ h : Nat) : Int) = (2 : Int) ^ h := by rw [Int.natCast_pow]; rfl
    rw [root_two h2, hh]
    by_cases hk : n < 2 ^ h
    · have ih := up_root h (l.take (2 ^ h)) n (by simp only [List.length_take]; omega) hk
      rw [path_lo (by omega) h2 (by omega), hh, List.length_append, ih.1]
      refine ⟨rfl, ?_⟩
      rw [up_snoc, ih.1, show (n : Int) / 2 ^ h = 0 from Int.ediv_eq_zero_of_lt (by omega) (by rw [← cast]; omega), if_pos (by decide), ← ih.2]
      congr 2
      rw [List.getD_eq_getElem?_getD, List.getD_eq_getElem?_getD, List.getElem?_take_of_lt hk]
    · have ih := up_root h (l.drop (2 ^ h)) (n - 2 ^ h) (by simp only [List.length_drop]; omega) (by omega)
      rw [path_hi (by omega) h2 (by omega), hh, List.length_append, show (n : Int) - ((2 ^ h : Nat) : Int) = ((n - 2 ^ h : Nat) : Int) by omega, ih.1]
      refine ⟨rfl, ?_⟩
      have e1 : (n : Int) = ((n - 2 ^ h : Nat) : Int) + 2 ^ (path (l.drop (2 ^ h)) ((n - 2 ^ h : Nat) : Int)).length * 1 := by rw [ih.1, ← cast]; omega
      have e2 : (n : Int) / 2 ^ h = 1 := by
        rw [← cast]
        have h3 : (n : Int) / ((2 ^ h : Nat) : Int) = ((n / 2 ^ h : Nat) : Int) := rfl
        have h4 : n / 2 ^ h = 1 := by
          have h5 := Nat.div_eq_sub_div hp (a := n) (by omega)
          rw [h5, Nat.div_eq_of_lt (by omega)]
        rw [h3, h4]; rfl
      rw [up_snoc, ih.1, e2, if_neg (by decide)]
      have e3 : up (l.getD n []) n (path (l.drop (2 ^ h)) ((n - 2 ^ h : Nat) : Int)) = root (l.drop (2 ^ h)) := by
        have e4 : up (l.getD n []) n (path (l.drop (2 ^ h)) ((n - 2 ^ h : Nat) : Int)) = up (l.getD n []) ((n - 2 ^ h : Nat) : Int) (path (l.drop (2 ^ h)) ((n - 2 ^ h : Nat) : Int)) := by
          conv => lhs; arg 2; rw [e1]
          exact up_add _ _ _ _
        rw [e4, ← ih.2]
        congr 1
        rw [List.getD_eq_getElem?_getD, List.getD_eq_getElem?_getD, List.getElem?_drop]
        congr 2
        omega
      rw [e3]
theorem iand1 {y : Int} (h0 : 0 ≤ y) (h1 : y ≤ 9223372036854775807) : iand .i64 y 1 = y % 2 := by
  obtain ⟨n, rfl⟩ := Int.eq_ofNat_of_zero_le h0
  have hn : n % 2 ^ IntKind.i64.bits = n := Nat.mod_eq_of_lt (by simp [IntKind.bits]; omega)
  have e : (BitVec.ofInt IntKind.i64.bits ((n : Nat) : Int) &&& BitVec.ofInt IntKind.i64.bits 1).toNat = n % 2 := by
    rw [BitVec.toNat_and, BitVec.ofInt_natCast, BitVec.toNat_ofNat, show (BitVec.ofInt IntKind.i64.bits 1).toNat = 2 ^ 1 - 1 from rfl, hn, Nat.and_two_pow_sub_one_eq_mod]
  rw [iand, e, wrap64_id (by omega) (by omega)]
  omega
theorem ishr1 {y : Int} (h0 : 0 ≤ y) : ishr .i64 y 1 = y / 2 := by
  have e : min (1 : Int).toNat IntKind.i64.bits = 1 := rfl
  rw [ishr, e, Int.fdiv_eq_ediv_of_nonneg _ (by decide)]
  rfl
/-- three leaves -/
theorem known4 (a b c : List Int) : root [a, b, c] = node (node a b) c := by
  have h3 : half 3 = 2 := by decide +kernel
  have h2 : half 2 = 1 := by decide +kernel
  rw [root_two (by simp), show half [a, b, c].length = 2 from h3, show [a, b, c].take 2 = [a, b] from rfl, show [a, b, c].drop 2 = [c] from rfl, root_one, root_two (l := [a, b]) (by simp), show half [a, b].length = 1 from h2]
  rw [show [a, b].take 1 = [a] from rfl, show [a, b].drop 1 = [b] from rfl, root_one, root_one]
end Go.Proofs.Yteedclmcgifmpaa.Mk

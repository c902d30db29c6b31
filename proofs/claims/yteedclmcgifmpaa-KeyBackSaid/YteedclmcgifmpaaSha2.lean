/- SHA-256: messages, padded, block by block; the two texts come to one digest. -/
import Derived.Test.YteedclmcgifmpaaSha
import Derived.KernelRfl
namespace Go.Proofs.Yteedclmcgifmpaa.Sha
open Go Fw
set_option linter.unusedSimpArgs false
set_option linter.unusedVariables false

def absorb (s l : List Int) : Nat → List Int
  | 0 => s
  | i + 1 => comp K (absorb s l i) (l.drop (64 * i))
def u8 (x : Int) : Int := IntKind.u8.wrap x
def be (n : Int) (j : Nat) : Int := u8 (ishr .u64 n (8 * (j : Int)))
/-- how many noughts -/
def zs (n : Nat) : Nat := (119 - n % 64) % 64
def bes (n : Int) : Nat → List Int
  | 0 => []
  | i + 1 => bes n i ++ [be n (7 - i)]
def pad (p : List Int) : List Int := p ++ [128] ++ List.replicate (zs p.length) 0 ++ bes (8 * (p.length : Int)) 8
def hashL (s : List Int) : List Int := (List.range 32).map fun i => u8 (ishr .u32 (s.getD (i / 4) 0) (24 - 8 * ((i % 4 : Nat) : Int)))
def sha (p : List Int) : List Int := hashL (absorb S0 (pad p) ((pad p).length / 64))

theorem bes_len (n : Int) (i : Nat) : (bes n i).length = i := by
  induction i with
  | zero => rfl
  | succ i ih => simp [bes, ih]
theorem pad_len (p : List Int) : (pad p).length = p.length + 1 + zs p.length + 8 := by simp [pad, bes_len]; omega
theorem pad_len64 (p : List Int) : 64 ∣ (pad p).length := by rw [pad_len]; unfold zs; omega
theorem hashL_len (s : List Int) : (hashL s).length = 32 := by simp [hashL]
theorem sha_len (p : List Int) : (sha p).length = 32 := hashL_len _
theorem absorb_len (s l : List Int) (i : Nat) : (absorb s l i).length = s.length := by
  induction i with
  | zero => rfl
  | succ i ih => simp [absorb, comp_len, ih]

theorem S0_len : S0.length = 8 := rfl
theorem K_len : K.length = 64 := rfl
theorem word_congr {b b' : List Int} (h : ∀ i, i < 64 → b.getD i 0 = b'.getD i 0) {i : Nat} (hi : i < 16) : word b i = word b' i := by
  unfold word
  rw [h (4 * i) (by omega), h (4 * i + 1) (by omega), h (4 * i + 2) (by omega), h (4 * i + 3) (by omega)]
theorem w1_congr {b b' : List Int} (h : ∀ i, i < 64 → b.getD i 0 = b'.getD i 0) : ∀ i, i ≤ 16 → w1 b i = w1 b' i := by
  intro i
  induction i with
  | zero => intro _; rfl
  | succ i ih => intro hi; simp only [w1]; rw [ih (by omega), word_congr h (by omega)]
theorem comp_congr {k s b b' : List Int} (h : ∀ i, i < 64 → b.getD i 0 = b'.getD i 0) : comp k s b = comp k s b' := by
  unfold comp sched
  rw [w1_congr h 16 (by omega)]
theorem getD_drop (l : List Int) (k i : Nat) : (l.drop k).getD i 0 = l.getD (k + i) 0 := by simp [List.getD_eq_getElem?_getD]
theorem absorb_congr {s l l' : List Int} : ∀ n, (∀ i, i < 64 * n → l.getD i 0 = l'.getD i 0) → absorb s l n = absorb s l' n := by
  intro n
  induction n with
  | zero => intro _; rfl
  | succ n ih =>
    intro h
    simp only [absorb]
    rw [ih (fun i hi => h i (by omega))]
    exact comp_congr fun i hi => by rw [getD_drop, getD_drop]; exact h _ (by omega)
theorem absorb_add (s l : List Int) (a : Nat) : ∀ b, absorb s l (a + b) = absorb (absorb s l a) (l.drop (64 * a)) b := by
  intro b
  induction b with
  | zero => rfl
  | succ b ih =>
    rw [← Nat.add_assoc]
    simp only [absorb]
    rw [ih]
    congr 1
    rw [List.drop_drop]
    congr 1
    omega
theorem comp_take (k s b : List Int) (n : Nat) (h : 64 ≤ n) : comp k s (b.take n) = comp k s b :=
  comp_congr fun i hi => by simp only [List.getD_eq_getElem?_getD]; rw [List.getElem?_take, if_pos (by omega)]

theorem bes_get (n : Int) : ∀ i k, i ≤ 8 → k < i → (bes n i).getD k 0 = be n (7 - k) := by
  intro i
  induction i with
  | zero => intro k _ hk; omega
  | succ i ih =>
    intro k hi hk
    simp only [bes]
    have hl := bes_len n i
    by_cases h : k < i
    · rw [List.getD_eq_getElem?_getD, List.getElem?_append_left (by omega), ← List.getD_eq_getElem?_getD]
      exact ih k (by omega) h
    · have : k = i := by omega
      subst this
      rw [List.getD_eq_getElem?_getD, List.getElem?_append_right (by omega)]
      simp [hl]

theorem getD_append_left {a b : List Int} {i : Nat} (h : i < a.length) : (a ++ b).getD i 0 = a.getD i 0 := by
  simp only [List.getD_eq_getElem?_getD]; rw [List.getElem?_append_left h]
theorem getD_append_right {a b : List Int} {i : Nat} (h : a.length ≤ i) : (a ++ b).getD i 0 = b.getD (i - a.length) 0 := by
  simp only [List.getD_eq_getElem?_getD]; rw [List.getElem?_append_right h]
theorem getD_replicate (n i : Nat) : (List.replicate n (0 : Int)).getD i 0 = 0 := by
  simp only [List.getD_eq_getElem?_getD, List.getElem?_replicate]
  split <;> rfl
theorem getD_set (l : List Int) (i j : Nat) (x : Int) (h : i < l.length) : (l.set i x).getD j 0 = if i = j then x else l.getD j 0 := by
  simp only [List.getD_eq_getElem?_getD, List.getElem?_set]
  split
  · subst_vars; simp [h]
  · rfl

/-- the padded message, place by place -/
theorem pad_get (p : List Int) (k : Nat) (hk : k < (pad p).length) : (pad p).getD k 0 =
    if k < p.length then p.getD k 0 else if k = p.length then 128 else if k + 8 < (pad p).length then 0 else be (8 * (p.length : Int)) ((pad p).length - 1 - k) := by
  have hl := pad_len p
  unfold pad
  by_cases h1 : k < p.length
  · rw [if_pos h1, getD_append_left (by simp; omega), getD_append_left (by simp; omega), getD_append_left h1]
  · rw [if_neg h1]
    by_cases h2 : k = p.length
    · rw [if_pos h2, getD_append_left (by simp; omega), getD_append_left (by simp; omega), getD_append_right (by omega)]
      subst h2
      simp
    · rw [if_neg h2]
      by_cases h3 : k < p.length + 1 + zs p.length
      · rw [if_pos (by simp [bes_len]; omega), getD_append_left (by simp; omega), getD_append_right (by simp; omega), getD_replicate]
      · rw [if_neg (by simp [bes_len]; omega), getD_append_right (by simp; omega), bes_get _ _ _ (by omega) (by simp; omega)]
        congr 1
        simp [bes_len]
        omega

/-- the program's last block or two: i bytes of the length laid -/
def sb (base : List Int) (en : Nat) (n : Int) : Nat → List Int
  | 0 => base
  | i + 1 => (sb base en n i).set (en - 1 - i) (be n i)
theorem sb_len (base : List Int) (en : Nat) (n : Int) (i : Nat) : (sb base en n i).length = base.length := by
  induction i with
  | zero => rfl
  | succ i ih => simp [sb, ih]
theorem sb_get (base : List Int) (en : Nat) (n : Int) (he : en ≤ base.length) (k : Nat) : ∀ i, i ≤ 8 → i ≤ en → (sb base en n i).getD k 0 = if en - i ≤ k ∧ k < en then be n (en - 1 - k) else base.getD k 0 := by
  intro i
  induction i with
  | zero => intro _ _; simp only [sb]; rw [if_neg (by omega)]
  | succ i ih =>
    intro h8 hi
    simp only [sb]
    rw [getD_set _ _ _ _ (by rw [sb_len]; omega), ih (by omega) (by omega)]
    by_cases h : en - 1 - i = k
    · rw [if_pos h, if_pos (by omega)]
      congr 1
      omega
    · rw [if_neg h]
      by_cases h2 : en - i ≤ k ∧ k < en
      · rw [if_pos h2, if_pos (by omega)]
      · rw [if_neg h2, if_neg (by omega)]

def en (r : Nat) : Nat := if 56 ≤ r then 128 else 64
def base (r : List Int) : List Int := (r ++ List.replicate (128 - r.length) 0).set r.length 128
theorem base_len (r : List Int) (h : r.length < 64) : (base r).length = 128 := by simp [base]; omega
theorem base_get (r : List Int) (h : r.length < 64) (k : Nat) : (base r).getD k 0 = if k < r.length then r.getD k 0 else if k = r.length then 128 else 0 := by
  unfold base
  rw [getD_set _ _ _ _ (by simp; omega)]
  by_cases h1 : r.length = k
  · rw [if_pos h1, if_neg (by omega), if_pos h1.symm]
  · rw [if_neg h1]
    by_cases h2 : k < r.length
    · rw [if_pos h2, getD_append_left h2]
    · rw [if_neg h2, if_neg (Ne.symm h1), getD_append_right (by omega), getD_replicate]

theorem two_texts (p : List Int) (r : List Int) (hr : r = p.drop (64 * (p.length / 64))) :
    absorb (absorb S0 p (p.length / 64)) (sb (base r) (en r.length) (8 * (p.length : Int)) 8) (en r.length / 64) = absorb S0 (pad p) ((pad p).length / 64) := by
  have hrl : r.length = p.length % 64 := by rw [hr]; simp; omega
  have hrlt : r.length < 64 := by omega
  have hL := pad_len p
  have hpl : (pad p).length = 64 * (p.length / 64) + en r.length := by
    rw [hL, hrl]
    unfold zs en
    split <;> omega
  have hen : en r.length = 64 ∨ en r.length = 128 := by unfold en; split <;> simp
  have hdiv : (pad p).length / 64 = p.length / 64 + en r.length / 64 := by rw [hpl]; omega
  have hen9 : r.length + 9 ≤ en r.length := by unfold en; split <;> omega
  rw [hdiv, absorb_add]
  have h1 : absorb S0 (pad p) (p.length / 64) = absorb S0 p (p.length / 64) := absorb_congr _ fun i hi => by
    rw [pad_get p i (by omega), if_pos (by omega)]
  rw [h1]
  refine absorb_congr _ fun i hi => ?_
  have hi' : i < en r.length := by omega
  rw [getD_drop, pad_get p _ (by omega), sb_get _ _ _ (by rw [base_len r hrlt]; rcases hen with h | h <;> omega) _ _ (by omega) (by omega), base_get r hrlt]
  by_cases h2 : en r.length - 8 ≤ i ∧ i < en r.length
  · rw [if_pos h2, if_neg (by omega), if_neg (by omega), if_neg (by omega)]
    congr 1
    omega
  · rw [if_neg h2]
    by_cases h3 : i < r.length
    · rw [if_pos h3, if_pos (by omega), hr, getD_drop]
    · by_cases h4 : i = r.length
      · rw [if_neg h3, if_pos h4, if_neg (by omega), if_pos (by omega)]
      · rw [if_neg h3, if_neg h4, if_neg (by omega), if_neg (by omega), if_pos (by omega)]

theorem ishl3 (n : Nat) (h : n ≤ 1000000000) : ishl .u64 (n : Int) 3 = 8 * (n : Int) := by
  have e : (3 : Int).toNat = 3 := rfl
  have e2 : min 3 IntKind.u64.bits = 3 := rfl
  unfold ishl
  rw [e, e2, Fw.wrapu64_id (by omega) (by omega)]
  omega
theorem mul8 (n : Nat) (h : n ≤ 1000000000) : IntKind.u64.wrap ((n : Int) * 8) = 8 * (n : Int) := by
  rw [Fw.wrapu64_id (by omega) (by omega)]
  omega
def fs (p : List Int) : List Int := absorb S0 (pad p) ((pad p).length / 64)
theorem fs_len (p : List Int) : (fs p).length = 8 := by unfold fs; rw [absorb_len]; rfl
theorem copied (r : List Int) (h : r.length < 64) : wr (ints .u8 (List.replicate 128 0)) 0 ((ints .u8 r).take (min r.length 128 * 1)) = ints .u8 (r ++ List.replicate (128 - r.length) 0) := by
  rw [Nat.min_eq_left (by omega), Nat.mul_one, List.take_of_length_le (by rw [ints_length]; omega), ints_wr]
  rw [List.take_zero, List.nil_append, Nat.zero_add, List.drop_replicate]
theorem based (r : List Int) : (r ++ List.replicate (128 - r.length) 0).set (0 + ((r.length : Nat) : Int).toNat * 1) 128 = base r := by
  have : 0 + ((r.length : Nat) : Int).toNat * 1 = r.length := by omega
  rw [this]
  rfl

/-- the digest's bytes as the program lays them, four at a time, and as the reference does, one at a time -/
def outs (s : List Int) : Nat → List Int
  | 0 => List.replicate 32 0
  | i + 1 => ((((outs s i).set (4 * i) (u8 (ishr .u32 (s.getD i 0) 24))).set (4 * i + 1) (u8 (ishr .u32 (s.getD i 0) 16))).set (4 * i + 2) (u8 (ishr .u32 (s.getD i 0) 8))).set (4 * i + 3) (u8 (s.getD i 0))
def outr (s : List Int) : Nat → List Int
  | 0 => List.replicate 32 0
  | i + 1 => (outr s i).set i (u8 (ishr .u32 (s.getD (i / 4) 0) (24 - 8 * ((i % 4 : Nat) : Int))))
theorem outs_len (s : List Int) (i : Nat) : (outs s i).length = 32 := by
  induction i with
  | zero => rfl
  | succ i ih => simp [outs, ih]
theorem outr_len (s : List Int) (i : Nat) : (outr s i).length = 32 := by
  induction i with
  | zero => rfl
  | succ i ih => simp [outr, ih]
theorem ishr_zero (x : Int) : ishr .u32 x 0 = x := by simp [ishr]
def outs' (s : List Int) : Nat → List Int
  | 0 => List.replicate 32 0
  | i + 1 => ((((outs' s i).set (4 * i) (u8 (ishr .u32 (s.getD i 0) 24))).set (4 * i + 1) (u8 (ishr .u32 (s.getD i 0) 16))).set (4 * i + 2) (u8 (ishr .u32 (s.getD i 0) 8))).set (4 * i + 3) (u8 (ishr .u32 (s.getD i 0) 0))
theorem outs_same (s : List Int) (i : Nat) : outs s i = outs' s i := by
  induction i with
  | zero => rfl
  | succ i ih => simp only [outs, outs', ih, ishr_zero]
theorem outs_last (s : List Int) : outs' s 8 = hashL s := by kernel_rfl
theorem outs_eq (s : List Int) : outs s 8 = hashL s := (outs_same s 8).trans (outs_last s)
theorem outr_eq (s : List Int) : outr s 32 = hashL s := by kernel_rfl

end Go.Proofs.Yteedclmcgifmpaa.Sha

/- Merged: Lane, Lane2, Lane3, Lane4, Lane5, Lane6, Lane7. -/
import Derived.Test.YteedclmcgifmpaaShaA
import Derived.Test.YteedclmcgifmpaaOtsA
/- SHA-256 of many messages at a time, in one number each: for the kernel. -/
namespace Go.Proofs.Yteedclmcgifmpaa.Sha
open Go Fw
set_option linter.unusedSimpArgs false
set_option linter.unusedVariables false
/-- lanes of 64 bits -/
def P : Nat → (Nat → Nat) → Nat
  | 0, _ => 0
  | n + 1, a => 2 ^ 64 * P n (fun i => a (i + 1)) + a 0
theorem P_congr : ∀ (n : Nat) {a b : Nat → Nat}, (∀ i, i < n → a i = b i) → P n a = P n b
  | 0, _, _, _ => rfl
  | n + 1, a, b, h => by rw [P, P, h 0 (by omega), P_congr n fun i hi => h (i + 1) (by omega)]
theorem P_add : ∀ (n : Nat) (a b : Nat → Nat), P n a + P n b = P n fun i => a i + b i
  | 0, _, _ => rfl
  | n + 1, a, b => by
    rw [P, P, P, ← P_add n]
    omega
theorem P_mul : ∀ (n : Nat) (a : Nat → Nat) (c : Nat), P n a * c = P n fun i => a i * c
  | 0, _, _ => by simp [P]
  | n + 1, a, c => by rw [P, P, ← P_mul n, Nat.add_mul, Nat.mul_assoc]
theorem bits {A a j : Nat} (h : a < 2 ^ 64) : (2 ^ 64 * A + a).testBit j = if j < 64 then a.testBit j else A.testBit (j - 64) := Nat.testBit_two_pow_mul_add A h j
theorem P_xor : ∀ (n : Nat) {a b : Nat → Nat}, (∀ i, a i < 2 ^ 64) → (∀ i, b i < 2 ^ 64) → P n a ^^^ P n b = P n fun i => a i ^^^ b i
  | 0, _, _, _, _ => by simp [P]
  | n + 1, a, b, ha, hb => by
    rw [P, P, P, ← P_xor n (fun i => ha (i + 1)) (fun i => hb (i + 1))]
    apply Nat.eq_of_testBit_eq
    intro j
    rw [Nat.testBit_xor, bits (ha 0), bits (hb 0), bits (Nat.xor_lt_two_pow (ha 0) (hb 0))]
    split <;> rw [Nat.testBit_xor]
theorem P_and : ∀ (n : Nat) {a b : Nat → Nat}, (∀ i, a i < 2 ^ 64) → (∀ i, b i < 2 ^ 64) → P n a &&& P n b = P n fun i => a i &&& b i
  | 0, _, _, _, _ => by simp [P]
  | n + 1, a, b, ha, hb => by
    rw [P, P, P, ← P_and n (fun i => ha (i + 1)) (fun i => hb (i + 1))]
    apply Nat.eq_of_testBit_eq
    intro j
    rw [Nat.testBit_and, bits (ha 0), bits (hb 0), bits (Nat.lt_of_le_of_lt Nat.and_le_left (ha 0))]
    split <;> rw [Nat.testBit_and]
theorem P_or : ∀ (n : Nat) {a b : Nat → Nat}, (∀ i, a i < 2 ^ 64) → (∀ i, b i < 2 ^ 64) → P n a ||| P n b = P n fun i => a i ||| b i
  | 0, _, _, _, _ => by simp [P]
  | n + 1, a, b, ha, hb => by
    rw [P, P, P, ← P_or n (fun i => ha (i + 1)) (fun i => hb (i + 1))]
    apply Nat.eq_of_testBit_eq
    intro j
    rw [Nat.testBit_or, bits (ha 0), bits (hb 0), bits (Nat.or_lt_two_pow (ha 0) (hb 0))]
    split <;> rw [Nat.testBit_or]
/-- the mask -/
def MK (n : Nat) : Nat := P n fun _ => 4294967295
/-- A shift, and the low half of each lane. -/
theorem P_shr : ∀ (n k : Nat) {a : Nat → Nat}, k ≤ 32 → (∀ i, a i < 2 ^ 64) → (P n a >>> k) &&& MK n = P n fun i => md (a i >>> k)
  | 0, k, _, _, _ => by simp [P, MK]
  | n + 1, k, a, hk, ha => by
    have ih := P_shr n k (a := fun i => a (i + 1)) hk (fun i => ha (i + 1))
    have hm : md (a 0 >>> k) < 2 ^ 64 := Nat.lt_of_lt_of_le (md_lt _) (by decide)
    rw [MK, P, P, P, ← ih]
    apply Nat.eq_of_testBit_eq
    intro j
    rw [Nat.testBit_and, Nat.testBit_shiftRight, bits (ha 0), bits (show 4294967295 < 2 ^ 64 by decide), bits hm]
    have hmd : ∀ x j, (md x).testBit j = (decide (j < 32) && x.testBit j) := fun x j => Nat.testBit_mod_two_pow x 32 j
    have hff : ∀ j, (4294967295 : Nat).testBit j = decide (j < 32) := fun j => Nat.testBit_two_pow_sub_one 32 j
    by_cases h1 : j < 64
    · rw [if_pos h1, if_pos h1, hff, hmd, Nat.testBit_shiftRight]
      by_cases h2 : j < 32
      · rw [if_pos (by omega)]
        simp [h2, Bool.and_comm]
      · simp [h2]
    · rw [if_neg (by omega), if_neg h1, if_neg h1, Nat.testBit_and, Nat.testBit_shiftRight]
      congr 2
      omega
def B32 (a : Nat → Nat) : Prop := ∀ i, a i < 2 ^ 32
theorem B32.big {a : Nat → Nat} (h : B32 a) : ∀ i, a i < 2 ^ 64 := fun i => Nat.lt_of_lt_of_le (h i) (by decide)
theorem b32_md (f : Nat → Nat) : B32 fun i => md (f i) := fun i => md_lt _
theorem P_md (n : Nat) {a : Nat → Nat} (h : ∀ i, a i < 2 ^ 64) : P n a &&& MK n = P n fun i => md (a i) := by
  have := P_shr n 0 (a := a) (by decide) h
  simpa using this
theorem P_dbl (n : Nat) (a : Nat → Nat) : P n a * 4294967297 = P n fun i => dbl (a i) := P_mul n a _
theorem dbl_lt {x : Nat} (h : x < 2 ^ 32) : dbl x < 2 ^ 64 := by
  show x * 4294967297 < _
  omega
theorem md_xor2 (x y : Nat) : md x ^^^ md y = md (x ^^^ y) := by
  show x % 2 ^ 32 ^^^ y % 2 ^ 32 = (x ^^^ y) % 2 ^ 32
  rw [Nat.xor_mod_two_pow]
/-- three shifts, together -/
theorem P_three (n : Nat) {k1 k2 k3 : Nat} {d e : Nat → Nat} (h1 : k1 ≤ 32) (h2 : k2 ≤ 32) (h3 : k3 ≤ 32) (hd : ∀ i, d i < 2 ^ 64) (he : ∀ i, e i < 2 ^ 64) :
    (((P n d >>> k1) ^^^ (P n d >>> k2)) ^^^ (P n e >>> k3)) &&& MK n = P n fun i => md (((d i >>> k1) ^^^ (d i >>> k2)) ^^^ (e i >>> k3)) := by
  rw [Nat.and_xor_distrib_right, Nat.and_xor_distrib_right, P_shr n k1 h1 hd, P_shr n k2 h2 hd, P_shr n k3 h3 he, P_xor n (b32_md _).big (b32_md _).big, P_xor n (fun i => ?_) (b32_md _).big]
  · exact P_congr n fun i _ => by rw [md_xor2, md_xor2]
  · exact Nat.xor_lt_two_pow (Nat.lt_of_lt_of_le (md_lt _) (by decide)) (Nat.lt_of_lt_of_le (md_lt _) (by decide))
def fs0V (M X : Nat) : Nat := Nat.land (Nat.xor (Nat.xor (Nat.shiftRight (Nat.mul X 4294967297) 7) (Nat.shiftRight (Nat.mul X 4294967297) 18)) (Nat.shiftRight X 3)) M
def fs1V (M X : Nat) : Nat := Nat.land (Nat.xor (Nat.xor (Nat.shiftRight (Nat.mul X 4294967297) 17) (Nat.shiftRight (Nat.mul X 4294967297) 19)) (Nat.shiftRight X 10)) M
def fb0V (M X : Nat) : Nat := Nat.land (Nat.xor (Nat.xor (Nat.shiftRight (Nat.mul X 4294967297) 2) (Nat.shiftRight (Nat.mul X 4294967297) 13)) (Nat.shiftRight (Nat.mul X 4294967297) 22)) M
def fb1V (M X : Nat) : Nat := Nat.land (Nat.xor (Nat.xor (Nat.shiftRight (Nat.mul X 4294967297) 6) (Nat.shiftRight (Nat.mul X 4294967297) 11)) (Nat.shiftRight (Nat.mul X 4294967297) 25)) M
section
variable (n : Nat) {a b c : Nat → Nat}
theorem P_fs0 (h : B32 a) : fs0V (MK n) (P n a) = P n fun i => fs0 (a i) := by
  have := P_three n (k1 := 7) (k2 := 18) (k3 := 3) (d := fun i => dbl (a i)) (e := a) (by decide) (by decide) (by decide) (fun i => dbl_lt (h i)) h.big
  rw [← P_dbl] at this
  exact this
theorem P_fs1 (h : B32 a) : fs1V (MK n) (P n a) = P n fun i => fs1 (a i) := by
  have := P_three n (k1 := 17) (k2 := 19) (k3 := 10) (d := fun i => dbl (a i)) (e := a) (by decide) (by decide) (by decide) (fun i => dbl_lt (h i)) h.big
  rw [← P_dbl] at this
  exact this
theorem P_fb0 (h : B32 a) : fb0V (MK n) (P n a) = P n fun i => fb0 (a i) := by
  have := P_three n (k1 := 2) (k2 := 13) (k3 := 22) (d := fun i => dbl (a i)) (e := fun i => dbl (a i)) (by decide) (by decide) (by decide) (fun i => dbl_lt (h i)) (fun i => dbl_lt (h i))
  rw [← P_dbl] at this
  exact this
theorem P_fb1 (h : B32 a) : fb1V (MK n) (P n a) = P n fun i => fb1 (a i) := by
  have := P_three n (k1 := 6) (k2 := 11) (k3 := 25) (d := fun i => dbl (a i)) (e := fun i => dbl (a i)) (by decide) (by decide) (by decide) (fun i => dbl_lt (h i)) (fun i => dbl_lt (h i))
  rw [← P_dbl] at this
  exact this
theorem P_fch (ha : B32 a) (hb : B32 b) (hc : B32 c) : fch (P n a) (P n b) (P n c) = P n fun i => fch (a i) (b i) (c i) := by
  show P n c ^^^ (P n a &&& (P n b ^^^ P n c)) = _
  rw [P_xor n hb.big hc.big, P_and n ha.big (fun i => Nat.xor_lt_two_pow (hb.big i) (hc.big i)), P_xor n hc.big (fun i => Nat.lt_of_le_of_lt Nat.and_le_left (ha.big i))]
  rfl
theorem P_fmj (ha : B32 a) (hb : B32 b) (hc : B32 c) : fmj (P n a) (P n b) (P n c) = P n fun i => fmj (a i) (b i) (c i) := by
  show (P n a &&& P n b) ||| (P n c &&& (P n a ||| P n b)) = _
  rw [P_and n ha.big hb.big, P_or n ha.big hb.big, P_and n hc.big (fun i => Nat.or_lt_two_pow (ha.big i) (hb.big i)), P_or n (fun i => Nat.lt_of_le_of_lt Nat.and_le_left (ha.big i)) (fun i => Nat.lt_of_le_of_lt Nat.and_le_left (hc.big i))]
  rfl
end
end Go.Proofs.Yteedclmcgifmpaa.Sha

/- SHA-256 of many messages at a time: rounds, blocks. -/
namespace Go.Proofs.Yteedclmcgifmpaa.Sha
open Go Fw
set_option linter.unusedSimpArgs false
set_option linter.unusedVariables false
def ON (n : Nat) : Nat := P n fun _ => 1
theorem P_const (n k : Nat) : Nat.mul (ON n) k = P n fun _ => k := by
  show ON n * k = _
  rw [ON, P_mul]
  exact P_congr n fun i _ => Nat.one_mul k
def ftV (M O e f g h k w : Nat) : Nat := Nat.add (Nat.add (Nat.add (Nat.add h (fb1V M e)) (fch e f g)) (Nat.mul O k)) w
def fuV (M a b c : Nat) : Nat := Nat.add (fb0V M a) (fmj a b c)
section
variable (n : Nat) {a b c d e f g h w : Nat → Nat}
theorem add_P (x y : Nat → Nat) : Nat.add (P n x) (P n y) = P n fun i => Nat.add (x i) (y i) := P_add n x y
theorem P_ft (k : Nat) (he : B32 e) (hf : B32 f) (hg : B32 g) : ftV (MK n) (ON n) (P n e) (P n f) (P n g) (P n h) k (P n w) = P n fun i => ft (e i) (f i) (g i) (h i) k (w i) := by
  rw [ftV, P_fb1 n he, P_fch n he hf hg, P_const, add_P, add_P, add_P, add_P]
  rfl
theorem P_fu (ha : B32 a) (hb : B32 b) (hc : B32 c) : fuV (MK n) (P n a) (P n b) (P n c) = P n fun i => fu (a i) (b i) (c i) := by
  rw [fuV, P_fb0 n ha, P_fmj n ha hb hc, add_P]
  rfl
theorem P_mask {x : Nat → Nat} (hx : ∀ i, x i < 2 ^ 64) : Nat.land (P n x) (MK n) = P n fun i => md (x i) := P_md n hx
end
theorem fch_lt {x y z : Nat} (hx : x < 2 ^ 32) (hy : y < 2 ^ 32) (hz : z < 2 ^ 32) : fch x y z < 2 ^ 32 := Nat.xor_lt_two_pow hz (Nat.lt_of_le_of_lt Nat.and_le_left hx)
theorem fmj_lt {x y z : Nat} (hx : x < 2 ^ 32) (hy : y < 2 ^ 32) (hz : z < 2 ^ 32) : fmj x y z < 2 ^ 32 := Nat.or_lt_two_pow (Nat.lt_of_le_of_lt Nat.and_le_left hx) (Nat.lt_of_le_of_lt Nat.and_le_left hz)
theorem ft_lt {e f g h k w : Nat} (he : e < 2 ^ 32) (hf : f < 2 ^ 32) (hg : g < 2 ^ 32) (hh : h < 2 ^ 32) (hk : k < 2 ^ 32) (hw : w < 2 ^ 32) : ft e f g h k w < 5 * 2 ^ 32 := by
  have h1 : fb1 e < 2 ^ 32 := md_lt _
  have h2 := fch_lt he hf hg
  show h + fb1 e + fch e f g + k + w < _
  omega
theorem fu_lt {a b c : Nat} (ha : a < 2 ^ 32) (hb : b < 2 ^ 32) (hc : c < 2 ^ 32) : fu a b c < 2 * 2 ^ 32 := by
  have h1 : fb0 a < 2 ^ 32 := md_lt _
  have h2 := fmj_lt ha hb hc
  show fb0 a + fmj a b c < _
  omega
def frsV (M O : Nat) : List Nat → List Nat → Nat → Nat → Nat → Nat → Nat → Nat → Nat → Nat → List Nat
  | k :: ks, w :: ws, a, b, c, d, e, f, g, h => fc (ftV M O e f g h k w) fun t => fc (Nat.land (Nat.add t (fuV M a b c)) M) fun a' => fc (Nat.land (Nat.add d t) M) fun e' => frsV M O ks ws a' a b c e' e f g
  | _, _, a, b, c, d, e, f, g, h => [a, b, c, d, e, f, g, h]
theorem frsV_eq (n : Nat) : ∀ (ks : List Nat) (ws : List (Nat → Nat)) (a b c d e f g h : Nat → Nat), (∀ k, k ∈ ks → k < 2 ^ 32) → (∀ w, w ∈ ws → B32 w) → B32 a → B32 b → B32 c → B32 d → B32 e → B32 f → B32 g → B32 h →
    ∃ a' b' c' d' e' f' g' h' : Nat → Nat, frsV (MK n) (ON n) ks (ws.map (P n)) (P n a) (P n b) (P n c) (P n d) (P n e) (P n f) (P n g) (P n h) = [P n a', P n b', P n c', P n d', P n e', P n f', P n g', P n h'] ∧
      (∀ i, frs ks (ws.map fun w => w i) (a i) (b i) (c i) (d i) (e i) (f i) (g i) (h i) = [a' i, b' i, c' i, d' i, e' i, f' i, g' i, h' i]) ∧ B32 a' ∧ B32 b' ∧ B32 c' ∧ B32 d' ∧ B32 e' ∧ B32 f' ∧ B32 g' ∧ B32 h'
  | [], ws, a, b, c, d, e, f, g, h, _, _, ha, hb, hc, hd, he, hf, hg, hh => ⟨a, b, c, d, e, f, g, h, by simp [frsV], fun i => by simp [frs], ha, hb, hc, hd, he, hf, hg, hh⟩
  | k :: ks, [], a, b, c, d, e, f, g, h, _, _, ha, hb, hc, hd, he, hf, hg, hh => ⟨a, b, c, d, e, f, g, h, by simp [frsV], fun i => by simp [frs], ha, hb, hc, hd, he, hf, hg, hh⟩
  | k :: ks, w :: ws, a, b, c, d, e, f, g, h, hk, hw, ha, hb, hc, hd, he, hf, hg, hh => by
    have hft : ∀ i, ft (e i) (f i) (g i) (h i) k (w i) < 5 * 2 ^ 32 := fun i => ft_lt (he i) (hf i) (hg i) (hh i) (hk k (by simp)) (hw w (by simp) i)
    have hfu : ∀ i, fu (a i) (b i) (c i) < 2 * 2 ^ 32 := fun i => fu_lt (ha i) (hb i) (hc i)
    obtain ⟨a', b', c', d', e', f', g', h', r1, r2, r3⟩ := frsV_eq n ks ws (fun i => md (Nat.add (ft (e i) (f i) (g i) (h i) k (w i)) (fu (a i) (b i) (c i)))) a b c (fun i => md (Nat.add (d i) (ft (e i) (f i) (g i) (h i) k (w i)))) e f g
      (fun k hk' => hk k (by simp [hk'])) (fun w hw' => hw w (by simp [hw'])) (b32_md _) ha hb hc (b32_md _) he hf hg
    refine ⟨a', b', c', d', e', f', g', h', ?_, fun i => ?_, r3⟩
    · rw [← r1, List.map_cons, frsV]
      simp only [fc_eq]
      rw [P_ft n k he hf hg, P_fu n ha hb hc, add_P, add_P, P_mask n (fun i => ?_), P_mask n (fun i => ?_)]
      · have := hft i; have := hd i; show d i + ft _ _ _ _ _ _ < _; omega
      · have := hft i; have := hfu i; show ft _ _ _ _ _ _ + fu _ _ _ < _; omega
    · rw [← r2 i, List.map_cons, frs]
def schV (M : Nat) : Nat → Nat → Nat → Nat → Nat → Nat → Nat → Nat → Nat → Nat → Nat → Nat → Nat → Nat → Nat → Nat → Nat → List Nat
  | 0, _, _, _, _, _, _, _, _, _, _, _, _, _, _, _, _ => []
  | n + 1, w0, w1, w2, w3, w4, w5, w6, w7, w8, w9, w10, w11, w12, w13, w14, w15 =>
    w0 :: fc (Nat.land (Nat.add (Nat.add (Nat.add w0 (fs0V M w1)) w9) (fs1V M w14)) M) fun w => schV M n w1 w2 w3 w4 w5 w6 w7 w8 w9 w10 w11 w12 w13 w14 w15 w
theorem schV_eq (n : Nat) : ∀ (m : Nat) (w0 w1 w2 w3 w4 w5 w6 w7 w8 w9 w10 w11 w12 w13 w14 w15 : Nat → Nat), B32 w0 → B32 w1 → B32 w2 → B32 w3 → B32 w4 → B32 w5 → B32 w6 → B32 w7 → B32 w8 → B32 w9 → B32 w10 → B32 w11 → B32 w12 → B32 w13 → B32 w14 → B32 w15 →
    ∃ L : List (Nat → Nat), schV (MK n) m (P n w0) (P n w1) (P n w2) (P n w3) (P n w4) (P n w5) (P n w6) (P n w7) (P n w8) (P n w9) (P n w10) (P n w11) (P n w12) (P n w13) (P n w14) (P n w15) = L.map (P n) ∧
      (∀ i, sch m (w0 i) (w1 i) (w2 i) (w3 i) (w4 i) (w5 i) (w6 i) (w7 i) (w8 i) (w9 i) (w10 i) (w11 i) (w12 i) (w13 i) (w14 i) (w15 i) = L.map fun w => w i) ∧ ∀ w, w ∈ L → B32 w
  | 0, _, _, _, _, _, _, _, _, _, _, _, _, _, _, _, _, _, _, _, _, _, _, _, _, _, _, _, _, _, _, _, _ => ⟨[], by simp [schV], fun _ => by simp [sch], fun w hw => by cases hw⟩
  | m + 1, w0, w1, w2, w3, w4, w5, w6, w7, w8, w9, w10, w11, w12, w13, w14, w15, h0, h1, h2, h3, h4, h5, h6, h7, h8, h9, h10, h11, h12, h13, h14, h15 => by
    obtain ⟨L, r1, r2, r3⟩ := schV_eq n m w1 w2 w3 w4 w5 w6 w7 w8 w9 w10 w11 w12 w13 w14 w15 (fun i => md (Nat.add (Nat.add (Nat.add (w0 i) (fs0 (w1 i))) (w9 i)) (fs1 (w14 i)))) h1 h2 h3 h4 h5 h6 h7 h8 h9 h10 h11 h12 h13 h14 h15 (b32_md _)
    refine ⟨w0 :: L, ?_, fun i => ?_, fun w hw => ?_⟩
    · rw [List.map_cons, ← r1, schV]
      simp only [fc_eq]
      rw [P_fs0 n h1, P_fs1 n h14, add_P, add_P, add_P, P_mask n (fun i => ?_)]
      have a0 := h0 i
      have a9 := h9 i
      have b0 : fs0 (w1 i) < 2 ^ 32 := md_lt _
      have b1 : fs1 (w14 i) < 2 ^ 32 := md_lt _
      show w0 i + fs0 (w1 i) + w9 i + fs1 (w14 i) < _
      omega
    · rw [List.map_cons, ← r2 i, sch]
    · rcases List.mem_cons.1 hw with rfl | hw
      · exact h0
      · exact r3 w hw
def blkS (M O : Nat) (s W : List Nat) : List Nat := match s with
  | [a, b, c, d, e, f, g, h] => match frsV M O KN W a b c d e f g h with
    | [a', b', c', d', e', f', g', h'] => fc (Nat.land (Nat.add a a') M) fun a => fc (Nat.land (Nat.add b b') M) fun b => fc (Nat.land (Nat.add c c') M) fun c => fc (Nat.land (Nat.add d d') M) fun d => fc (Nat.land (Nat.add e e') M) fun e => fc (Nat.land (Nat.add f f') M) fun f => fc (Nat.land (Nat.add g g') M) fun g => fc (Nat.land (Nat.add h h') M) fun h => [a, b, c, d, e, f, g, h]
    | _ => []
  | _ => []
theorem blkS_add {M O : Nat} {W : List Nat} {a b c d e f g h a' b' c' d' e' f' g' h' : Nat} (r : frsV M O KN W a b c d e f g h = [a', b', c', d', e', f', g', h']) :
    blkS M O [a, b, c, d, e, f, g, h] W = [Nat.land (Nat.add a a') M, Nat.land (Nat.add b b') M, Nat.land (Nat.add c c') M, Nat.land (Nat.add d d') M, Nat.land (Nat.add e e') M, Nat.land (Nat.add f f') M, Nat.land (Nat.add g g') M, Nat.land (Nat.add h h') M] := by
  simp only [blkS, r, fc_eq]
theorem blk_add {W : List Nat} {a b c d e f g h a' b' c' d' e' f' g' h' : Nat} (r : frs KN W a b c d e f g h = [a', b', c', d', e', f', g', h']) :
    blk [a, b, c, d, e, f, g, h] W = [md (Nat.add a a'), md (Nat.add b b'), md (Nat.add c c'), md (Nat.add d d'), md (Nat.add e e'), md (Nat.add f f'), md (Nat.add g g'), md (Nat.add h h')] := by
  simp only [blk, r, fc_eq]
/-- Eight functions of the lane. -/
def Oct (n : Nat) (l : List Nat) (v : Nat → List Nat) : Prop := ∃ a b c d e f g h : Nat → Nat, l = [P n a, P n b, P n c, P n d, P n e, P n f, P n g, P n h] ∧ (∀ i, v i = [a i, b i, c i, d i, e i, f i, g i, h i]) ∧ B32 a ∧ B32 b ∧ B32 c ∧ B32 d ∧ B32 e ∧ B32 f ∧ B32 g ∧ B32 h
theorem KN_lt : ∀ k, k ∈ KN → k < 2 ^ 32 := by decide +kernel
theorem add32 (n : Nat) {a b : Nat → Nat} (ha : B32 a) (hb : B32 b) : Nat.land (Nat.add (P n a) (P n b)) (MK n) = P n fun i => md (Nat.add (a i) (b i)) := by
  rw [add_P, P_mask n (fun i => by have := ha i; have := hb i; show a i + b i < _; omega)]
/-- One block, of words that are told by functions of the lane. -/
theorem blkS_eq (n : Nat) {s : List Nat} {v : Nat → List Nat} (hs : Oct n s v) {W : List Nat} {V : Nat → List Nat} (L : List (Nat → Nat)) (hW : W = L.map (P n)) (hV : ∀ i, V i = L.map fun w => w i) (hL : ∀ w, w ∈ L → B32 w) :
    Oct n (blkS (MK n) (ON n) s W) fun i => blk (v i) (V i) := by
  obtain ⟨a, b, c, d, e, f, g, h, rfl, hv, ha, hb, hc, hd, he, hf, hg, hh⟩ := hs
  subst hW
  obtain ⟨a', b', c', d', e', f', g', h', s1, s2, ha', hb', hc', hd', he', hf', hg', hh'⟩ := frsV_eq n KN L a b c d e f g h KN_lt hL ha hb hc hd he hf hg hh
  refine ⟨fun i => md (Nat.add (a i) (a' i)), fun i => md (Nat.add (b i) (b' i)), fun i => md (Nat.add (c i) (c' i)), fun i => md (Nat.add (d i) (d' i)), fun i => md (Nat.add (e i) (e' i)), fun i => md (Nat.add (f i) (f' i)), fun i => md (Nat.add (g i) (g' i)), fun i => md (Nat.add (h i) (h' i)), ?_, fun i => ?_, b32_md _, b32_md _, b32_md _, b32_md _, b32_md _, b32_md _, b32_md _, b32_md _⟩
  · rw [blkS_add s1, add32 n ha ha', add32 n hb hb', add32 n hc hc', add32 n hd hd', add32 n he he', add32 n hf hf', add32 n hg hg', add32 n hh hh']
  · show blk (v i) (V i) = _
    rw [hv i, hV i, blk_add (s2 i)]
end Go.Proofs.Yteedclmcgifmpaa.Sha

/- SHA-256 of many messages at a time: the words of the messages. -/
namespace Go.Proofs.Yteedclmcgifmpaa.Sha
open Go Fw
set_option linter.unusedSimpArgs false
set_option linter.unusedVariables false
theorem fw_sum {a b c d : Nat} (hb : b < 256) (hc : c < 256) (hd : d < 256) : fw a b c d = a * 16777216 + b * 65536 + c * 256 + d := by
  have h1 : a * 16777216 ||| b * 65536 = a * 16777216 + b * 65536 := by
    have := Nat.two_pow_add_eq_or_of_lt (i := 24) (b := b * 65536) (by omega) a
    rw [show 2 ^ 24 * a = a * 16777216 by omega] at this
    exact this.symm
  have h2 : (a * 16777216 + b * 65536) ||| c * 256 = a * 16777216 + b * 65536 + c * 256 := by
    have := Nat.two_pow_add_eq_or_of_lt (i := 16) (b := c * 256) (by omega) (a * 256 + b)
    rw [show 2 ^ 16 * (a * 256 + b) = a * 16777216 + b * 65536 by omega] at this
    exact this.symm
  have h3 : (a * 16777216 + b * 65536 + c * 256) ||| d = a * 16777216 + b * 65536 + c * 256 + d := by
    have := Nat.two_pow_add_eq_or_of_lt (i := 8) (b := d) (by omega) (a * 65536 + b * 256 + c)
    rw [show 2 ^ 8 * (a * 65536 + b * 256 + c) = a * 16777216 + b * 65536 + c * 256 by omega] at this
    exact this.symm
  show ((a * 16777216 ||| b * 65536) ||| c * 256) ||| d = _
  rw [h1, h2, h3]
def bytesOf : List Nat → List Nat
  | [] => []
  | w :: ws => byN w (bytesOf ws)
theorem hash_bytes {a b c d e f g h : Nat} : hashN [a, b, c, d, e, f, g, h] = bytesOf [a, b, c, d, e, f, g, h] := rfl
theorem bytesOf_append : ∀ (a b : List Nat), bytesOf (a ++ b) = bytesOf a ++ bytesOf b
  | [], _ => rfl
  | w :: ws, b => by
    have := bytesOf_append ws b
    simp only [List.cons_append, bytesOf, byN, this]
theorem bytesOf_len : ∀ ws, (bytesOf ws).length = 4 * ws.length
  | [] => rfl
  | w :: ws => by
    have := bytesOf_len ws
    simp only [bytesOf, byN, List.length_cons, this]
    omega
/-- words behind one byte -/
def carry1 : Nat → List Nat → List Nat × Nat
  | p, [] => ([], p)
  | p, w :: ws => ((p * 16777216 + w / 256) :: (carry1 (w % 256) ws).1, (carry1 (w % 256) ws).2)
/-- words behind three bytes -/
def carry3 : Nat → List Nat → List Nat × Nat
  | p, [] => ([], p)
  | p, w :: ws => ((p * 256 + w / 16777216) :: (carry3 (w % 16777216) ws).1, (carry3 (w % 16777216) ws).2)
theorem byN_eq (w : Nat) (r : List Nat) : byN w r = w / 16777216 % 256 :: w / 65536 % 256 :: w / 256 % 256 :: w % 256 :: r := by
  have s24 : Nat.mod (Nat.shiftRight w 24) 256 = w / 16777216 % 256 := by show w >>> 24 % 256 = _; rw [Nat.shiftRight_eq_div_pow]
  have s16 : Nat.mod (Nat.shiftRight w 16) 256 = w / 65536 % 256 := by show w >>> 16 % 256 = _; rw [Nat.shiftRight_eq_div_pow]
  have s8 : Nat.mod (Nat.shiftRight w 8) 256 = w / 256 % 256 := by show w >>> 8 % 256 = _; rw [Nat.shiftRight_eq_div_pow]
  have s0 : Nat.mod (Nat.shiftRight w 0) 256 = w % 256 := rfl
  rw [byN, s24, s16, s8, s0]
theorem wds_carry1 : ∀ (n : Nat) (p : Nat) (ws r : List Nat), p < 256 → (∀ w, w ∈ ws → w < 2 ^ 32) → wds (ws.length + n) (p :: (bytesOf ws ++ r)) = (carry1 p ws).1 ++ wds n ((carry1 p ws).2 :: r)
  | n, p, [], r, _, _ => by simp [carry1, bytesOf]
  | n, p, w :: ws, r, hp, hw => by
    have hw0 := hw w (by simp)
    have ih := wds_carry1 n (w % 256) ws r (Nat.mod_lt _ (by decide)) (fun x hx => hw x (by simp [hx]))
    have e0 : Nat.mod (Nat.shiftRight w 0) 256 = w % 256 := rfl
    rw [List.length_cons, show ws.length + 1 + n = (ws.length + n) + 1 by omega]
    rw [bytesOf, byN_eq]
    simp only [List.cons_append]
    have key : p * 16777216 + w / 16777216 % 256 * 65536 + w / 65536 % 256 * 256 + w / 256 % 256 = p * 16777216 + w / 256 := by omega
    rw [wds, carry1, ih, fw_sum (Nat.mod_lt _ (by decide)) (Nat.mod_lt _ (by decide)) (Nat.mod_lt _ (by decide)), List.cons_append, key]
theorem key3 (a b c : Nat) {w : Nat} (hw : w < 2 ^ 32) : a * 16777216 + b * 65536 + c * 256 + w / 16777216 % 256 = (a * 65536 + b * 256 + c) * 256 + w / 16777216 := by
  have h1 : w / 16777216 % 256 = w / 16777216 := Nat.mod_eq_of_lt (by omega)
  rw [h1]
  generalize w / 16777216 = q
  omega
theorem wds_carry3 : ∀ (n : Nat) (a b c : Nat) (ws r : List Nat), a < 256 → b < 256 → c < 256 → (∀ w, w ∈ ws → w < 2 ^ 32) → ∃ a' b' c', a' < 256 ∧ b' < 256 ∧ c' < 256 ∧ (carry3 (a * 65536 + b * 256 + c) ws).2 = a' * 65536 + b' * 256 + c' ∧ wds (ws.length + n) (a :: b :: c :: (bytesOf ws ++ r)) = (carry3 (a * 65536 + b * 256 + c) ws).1 ++ wds n (a' :: b' :: c' :: r)
  | n, a, b, c, [], r, ha, hb, hc, _ => ⟨a, b, c, ha, hb, hc, rfl, by simp [carry3, bytesOf]⟩
  | n, a, b, c, w :: ws, r, ha, hb, hc, hw => by
    have hw0 := hw w (by simp)
    obtain ⟨a', b', c', h1, h2, h3, h4, h5⟩ := wds_carry3 n (w / 65536 % 256) (w / 256 % 256) (w % 256) ws r (Nat.mod_lt _ (by decide)) (Nat.mod_lt _ (by decide)) (Nat.mod_lt _ (by decide)) (fun x hx => hw x (by simp [hx]))
    have e : w / 65536 % 256 * 65536 + w / 256 % 256 * 256 + w % 256 = w % 16777216 := by omega
    rw [e] at h4 h5
    refine ⟨a', b', c', h1, h2, h3, by rw [carry3]; exact h4, ?_⟩
    rw [List.length_cons, show ws.length + 1 + n = (ws.length + n) + 1 by omega]
    rw [bytesOf, byN_eq]
    simp only [List.cons_append]
    have key := key3 a b c hw0
    rw [wds, carry3, h5, fw_sum hb hc (Nat.mod_lt _ (by decide)), List.cons_append, key]
end Go.Proofs.Yteedclmcgifmpaa.Sha

/- SHA-256 of many messages at a time: whole messages as words. -/
namespace Go.Proofs.Yteedclmcgifmpaa.Sha
open Go Fw
set_option linter.unusedSimpArgs false
set_option linter.unusedVariables false
theorem wds_nil (n : Nat) : wds n [] = [] := by cases n <;> rfl
theorem wds_split : ∀ (m n : Nat) (l : List Nat), 4 * m ≤ l.length → wds (m + n) l = wds m l ++ wds n (l.drop (4 * m))
  | 0, n, l, _ => by simp [wds]
  | m + 1, n, l, h => by
    match l, h with
    | a :: b :: c :: d :: r, h =>
      have h2 : 4 * m ≤ r.length := by simp only [List.length_cons] at h; omega
      rw [show m + 1 + n = (m + n) + 1 by omega, wds, wds, wds_split m n r h2, show 4 * (m + 1) = 4 * m + 1 + 1 + 1 + 1 by omega]
      rfl
def absW : Nat → List Nat → List Nat → List Nat
  | 0, s, _ => s
  | n + 1, s, W => absW n (blkW s (W.take 16)) (W.drop 16)
theorem wds_len : ∀ (m : Nat) (l : List Nat), 4 * m ≤ l.length → (wds m l).length = m
  | 0, l, _ => by simp [wds]
  | m + 1, l, h => by
    match l, h with
    | a :: b :: c :: d :: r, h =>
      have h2 : 4 * m ≤ r.length := by simp only [List.length_cons] at h; omega
      rw [wds, List.length_cons, wds_len m r h2]
theorem absN_words : ∀ (n : Nat) (s l : List Nat), 64 * n ≤ l.length → absN n s l = absW n s (wds (16 * n) l)
  | 0, _, _, _ => rfl
  | n + 1, s, l, h => by
    have h1 := wds_split 16 (16 * n) l (by omega)
    have h2 := wds_len 16 l (by omega)
    rw [absN, absW, show 16 * (n + 1) = 16 + 16 * n by omega, h1, List.take_left' h2, List.drop_left' h2, absN_words n _ _ (by rw [List.length_drop]; omega)]
def T35 : List Nat := [128, 0, 0, 0, 0, 0, 0, 0, 0, 0, 0, 0, 0, 0, 0, 0, 0, 0, 0, 0, 0, 0, 0, 0, 0, 0, 0, 1, 24]
theorem pad35 {l : List Nat} (h : l.length = 35) : padN l = l ++ T35 := by
  rw [padN, h]
  exact congrArg (fun x => l ++ x) (by decide +kernel)
/-- 35 bytes: three, and eight words -/
theorem sha35 {x0 x1 x2 : Nat} {a b c d e f g h : Nat} (h0 : x0 < 256) (h1 : x1 < 256) (h2 : x2 < 256) (hs : ∀ w, w ∈ [a, b, c, d, e, f, g, h] → w < 2 ^ 32) :
    shaN (x0 :: x1 :: x2 :: hashN [a, b, c, d, e, f, g, h]) = hashN (blkW SN ((carry3 (x0 * 65536 + x1 * 256 + x2) [a, b, c, d, e, f, g, h]).1 ++ [(carry3 (x0 * 65536 + x1 * 256 + x2) [a, b, c, d, e, f, g, h]).2 * 256 + 128, 0, 0, 0, 0, 0, 0, 280])) := by
  have h35 : (x0 :: x1 :: x2 :: hashN [a, b, c, d, e, f, g, h]).length = 35 := rfl
  have hp : padN (x0 :: x1 :: x2 :: hashN [a, b, c, d, e, f, g, h]) = x0 :: x1 :: x2 :: (bytesOf [a, b, c, d, e, f, g, h] ++ [128, 0, 0, 0, 0, 0, 0, 0, 0, 0, 0, 0, 0, 0, 0, 0, 0, 0, 0, 0, 0, 0, 0, 0, 0, 0, 0, 1, 24]) := pad35 h35
  obtain ⟨a', b', c', g1, g2, g3, g4, g5⟩ := wds_carry3 8 x0 x1 x2 [a, b, c, d, e, f, g, h] [128, 0, 0, 0, 0, 0, 0, 0, 0, 0, 0, 0, 0, 0, 0, 0, 0, 0, 0, 0, 0, 0, 0, 0, 0, 0, 0, 1, 24] h0 h1 h2 hs
  have hl : (padN (x0 :: x1 :: x2 :: hashN [a, b, c, d, e, f, g, h])).length = 64 := by rw [hp]; rfl
  have g6 : wds 8 (a' :: b' :: c' :: [128, 0, 0, 0, 0, 0, 0, 0, 0, 0, 0, 0, 0, 0, 0, 0, 0, 0, 0, 0, 0, 0, 0, 0, 0, 0, 0, 1, 24]) = [(a' * 65536 + b' * 256 + c') * 256 + 128, 0, 0, 0, 0, 0, 0, 280] := by
    show [fw a' b' c' 128, fw 0 0 0 0, fw 0 0 0 0, fw 0 0 0 0, fw 0 0 0 0, fw 0 0 0 0, fw 0 0 0 0, fw 0 0 1 24] = _
    rw [fw_sum g2 g3 (by decide), show fw 0 0 0 0 = 0 from rfl, show fw 0 0 1 24 = 280 from rfl, show a' * 16777216 + b' * 65536 + c' * 256 + 128 = (a' * 65536 + b' * 256 + c') * 256 + 128 by omega]
  rw [shaN, hl, show Nat.div 64 64 = 1 from rfl, absN_words 1 _ _ (by rw [hl]; decide), hp, show 16 * 1 = [a, b, c, d, e, f, g, h].length + 8 from rfl, g5, g6, g4]
  rfl
/-- a seed of one byte and noughts, a leaf, a chain -/
theorem sha_sec {k l c : Nat} (hk : k < 256) (hl : l < 256) (hc : c < 256) : shaN (0 :: ((k :: List.replicate 31 0) ++ [l, c])) = hashN (blkW SN [k * 65536, 0, 0, 0, 0, 0, 0, 0, l * 65536 + c * 256 + 128, 0, 0, 0, 0, 0, 0, 280]) := by
  have h35 : (0 :: ((k :: List.replicate 31 0) ++ [l, c])).length = 35 := rfl
  have hpd := pad35 h35
  have hlen : (padN (0 :: ((k :: List.replicate 31 0) ++ [l, c]))).length = 64 := by rw [hpd]; rfl
  have hw : wds 16 (padN (0 :: ((k :: List.replicate 31 0) ++ [l, c]))) = [k * 65536, 0, 0, 0, 0, 0, 0, 0, l * 65536 + c * 256 + 128, 0, 0, 0, 0, 0, 0, 280] := by
    rw [hpd]
    show [fw 0 k 0 0, fw 0 0 0 0, fw 0 0 0 0, fw 0 0 0 0, fw 0 0 0 0, fw 0 0 0 0, fw 0 0 0 0, fw 0 0 0 0, fw 0 l c 128, fw 0 0 0 0, fw 0 0 0 0, fw 0 0 0 0, fw 0 0 0 0, fw 0 0 0 0, fw 0 0 0 0, fw 0 0 1 24] = _
    rw [fw_sum hk (by decide) (by decide), fw_sum hl hc (by decide), show fw 0 0 0 0 = 0 from rfl, show fw 0 0 1 24 = 280 from rfl]
    simp
  rw [shaN, hlen, show Nat.div 64 64 = 1 from rfl, absN_words 1 _ _ (by rw [hlen]; decide), show 16 * 1 = 16 from rfl, hw]
  rfl
end Go.Proofs.Yteedclmcgifmpaa.Sha

/- SHA-256 of many messages at a time: leaves of keys, all at once. -/
namespace Go.Proofs.Yteedclmcgifmpaa.Sha
open Go Fw Ots
set_option linter.unusedSimpArgs false
set_option linter.unusedVariables false
def Lis (n : Nat) (W : List Nat) (V : Nat → List Nat) : Prop := ∃ L : List (Nat → Nat), W = L.map (P n) ∧ (∀ i, V i = L.map fun w => w i) ∧ ∀ w, w ∈ L → B32 w
theorem Lis.append {n : Nat} {W W' : List Nat} {V V' : Nat → List Nat} (h : Lis n W V) (h' : Lis n W' V') : Lis n (W ++ W') fun i => V i ++ V' i := by
  obtain ⟨L, r1, r2, r3⟩ := h
  obtain ⟨L', s1, s2, s3⟩ := h'
  exact ⟨L ++ L', by rw [r1, s1, List.map_append], fun i => by rw [List.map_append]; show V i ++ V' i = _; rw [r2, s2], fun w hw => (List.mem_append.1 hw).elim (r3 w) (s3 w)⟩
theorem Lis.one {n : Nat} {a : Nat → Nat} (h : B32 a) : Lis n [P n a] fun i => [a i] := ⟨[a], rfl, fun _ => rfl, fun w hw => by rw [List.mem_singleton.1 hw]; exact h⟩
theorem Lis.nil {n : Nat} : Lis n [] fun _ => [] := ⟨[], rfl, fun _ => rfl, fun w hw => by cases hw⟩
theorem Lis.consts (n : Nat) : ∀ (ks : List Nat), (∀ k, k ∈ ks → k < 2 ^ 32) → Lis n (ks.map fun k => Nat.mul (ON n) k) fun _ => ks := fun ks h =>
  ⟨ks.map fun k _ => k, by rw [List.map_map]; exact List.map_congr_left fun k _ => P_const n k, fun i => by rw [List.map_map]; exact (List.map_id ks).symm, fun w hw => by
    obtain ⟨k, hk, rfl⟩ := List.mem_map.1 hw
    exact fun _ => h k hk⟩
theorem Oct.lis {n : Nat} {s : List Nat} {v : Nat → List Nat} (h : Oct n s v) : Lis n s v := by
  obtain ⟨a, b, c, d, e, f, g, h', r1, r2, ha, hb, hc, hd, he, hf, hg, hh⟩ := h
  refine ⟨[a, b, c, d, e, f, g, h'], by rw [r1]; rfl, fun i => by rw [r2]; rfl, fun w hw => ?_⟩
  simp only [List.mem_cons, List.not_mem_nil, or_false] at hw
  rcases hw with rfl | rfl | rfl | rfl | rfl | rfl | rfl | rfl <;> assumption
theorem Oct.eight {n : Nat} {s : List Nat} {v : Nat → List Nat} (h : Oct n s v) (i : Nat) : ∃ a b c d e f g h : Nat, v i = [a, b, c, d, e, f, g, h] ∧ ∀ w, w ∈ [a, b, c, d, e, f, g, h] → w < 2 ^ 32 := by
  obtain ⟨a, b, c, d, e, f, g, h', r1, r2, ha, hb, hc, hd, he, hf, hg, hh⟩ := h
  refine ⟨_, _, _, _, _, _, _, _, r2 i, fun w hw => ?_⟩
  simp only [List.mem_cons, List.not_mem_nil, or_false] at hw
  rcases hw with rfl | rfl | rfl | rfl | rfl | rfl | rfl | rfl
  · exact ha i
  · exact hb i
  · exact hc i
  · exact hd i
  · exact he i
  · exact hf i
  · exact hg i
  · exact hh i
def SV (n : Nat) : List Nat := SN.map fun k => Nat.mul (ON n) k
theorem SN_oct (n : Nat) : Oct n (SV n) fun _ => SN := by
  refine ⟨fun _ => 0x6a09e667, fun _ => 0xbb67ae85, fun _ => 0x3c6ef372, fun _ => 0xa54ff53a, fun _ => 0x510e527f, fun _ => 0x9b05688c, fun _ => 0x1f83d9ab, fun _ => 0x5be0cd19, ?_, fun _ => rfl, ?_⟩
  · simp only [SV, SN, List.map_cons, List.map_nil, P_const]
  · refine ⟨?_, ?_, ?_, ?_, ?_, ?_, ?_, ?_⟩ <;> intro i <;> dsimp only <;> decide
def blkVW (M O : Nat) (s W : List Nat) : List Nat := match W with
  | [w0, w1, w2, w3, w4, w5, w6, w7, w8, w9, w10, w11, w12, w13, w14, w15] => blkS M O s (schV M 64 w0 w1 w2 w3 w4 w5 w6 w7 w8 w9 w10 w11 w12 w13 w14 w15)
  | _ => []
theorem sixteen {α : Type} {l : List α} (h : l.length = 16) : ∃ w0 w1 w2 w3 w4 w5 w6 w7 w8 w9 w10 w11 w12 w13 w14 w15, l = [w0, w1, w2, w3, w4, w5, w6, w7, w8, w9, w10, w11, w12, w13, w14, w15] := by
  match l, h with
  | [w0, w1, w2, w3, w4, w5, w6, w7, w8, w9, w10, w11, w12, w13, w14, w15], _ => exact ⟨_, _, _, _, _, _, _, _, _, _, _, _, _, _, _, _, rfl⟩
theorem blkVW_eq {n : Nat} {s W : List Nat} {v V : Nat → List Nat} (hs : Oct n s v) (hW : Lis n W V) (hl : W.length = 16) : Oct n (blkVW (MK n) (ON n) s W) fun i => blkW (v i) (V i) := by
  obtain ⟨L, r1, r2, r3⟩ := hW
  have hL : L.length = 16 := by rw [r1, List.length_map] at hl; exact hl
  obtain ⟨w0, w1, w2, w3, w4, w5, w6, w7, w8, w9, w10, w11, w12, w13, w14, w15, rfl⟩ := sixteen hL
  obtain ⟨L', s1, s2, s3⟩ := schV_eq n 64 w0 w1 w2 w3 w4 w5 w6 w7 w8 w9 w10 w11 w12 w13 w14 w15 (r3 _ (by simp)) (r3 _ (by simp)) (r3 _ (by simp)) (r3 _ (by simp)) (r3 _ (by simp)) (r3 _ (by simp)) (r3 _ (by simp)) (r3 _ (by simp)) (r3 _ (by simp)) (r3 _ (by simp)) (r3 _ (by simp)) (r3 _ (by simp)) (r3 _ (by simp)) (r3 _ (by simp)) (r3 _ (by simp)) (r3 _ (by simp))
  have := blkS_eq n hs L' s1 s2 s3
  rw [r1]
  have e : (fun i => blkW (v i) (V i)) = fun i => blk (v i) (sch 64 (w0 i) (w1 i) (w2 i) (w3 i) (w4 i) (w5 i) (w6 i) (w7 i) (w8 i) (w9 i) (w10 i) (w11 i) (w12 i) (w13 i) (w14 i) (w15 i)) := funext fun i => by rw [r2 i]; rfl
  rw [e]
  exact this
def absV (M O : Nat) : Nat → List Nat → List Nat → List Nat
  | 0, s, _ => s
  | n + 1, s, W => absV M O n (blkVW M O s (W.take 16)) (W.drop 16)
theorem Lis.take {n : Nat} {W : List Nat} {V : Nat → List Nat} (h : Lis n W V) (k : Nat) : Lis n (W.take k) fun i => (V i).take k := by
  obtain ⟨L, r1, r2, r3⟩ := h
  exact ⟨L.take k, by rw [r1, List.map_take], fun i => by show (V i).take k = _; rw [r2, List.map_take], fun w hw => r3 w (List.mem_of_mem_take hw)⟩
theorem Lis.drop {n : Nat} {W : List Nat} {V : Nat → List Nat} (h : Lis n W V) (k : Nat) : Lis n (W.drop k) fun i => (V i).drop k := by
  obtain ⟨L, r1, r2, r3⟩ := h
  exact ⟨L.drop k, by rw [r1, List.map_drop], fun i => by show (V i).drop k = _; rw [r2, List.map_drop], fun w hw => r3 w (List.mem_of_mem_drop hw)⟩
theorem absV_eq {n : Nat} : ∀ (m : Nat) {s W : List Nat} {v V : Nat → List Nat}, Oct n s v → Lis n W V → W.length = 16 * m → Oct n (absV (MK n) (ON n) m s W) fun i => absW m (v i) (V i)
  | 0, _, _, _, _, hs, _, _ => hs
  | m + 1, s, W, v, V, hs, hW, hl => absV_eq m (blkVW_eq hs (hW.take 16) (by rw [List.length_take]; omega)) (hW.drop 16) (by rw [List.length_drop]; omega)
/-- words behind bytes, in lanes -/
def carryV (M mul sh msk : Nat) : Nat → List Nat → List Nat × Nat
  | p, [] => ([], p)
  | p, w :: ws => ((Nat.add (Nat.mul p mul) (Nat.land (Nat.shiftRight w sh) M)) :: (carryV M mul sh msk (Nat.land w msk) ws).1, (carryV M mul sh msk (Nat.land w msk) ws).2)
theorem land_const (n k : Nat) {a : Nat → Nat} (hk : k ≤ 32) (h : B32 a) : Nat.land (P n a) (P n fun _ => 2 ^ k - 1) = P n fun i => a i % 2 ^ k := by
  have := P_and n h.big (b := fun _ => 2 ^ k - 1) (fun i => Nat.lt_of_lt_of_le (Nat.sub_lt (Nat.pow_pos (by decide)) (by decide)) (Nat.pow_le_pow_right (by decide) (by omega)))
  rw [show Nat.land (P n a) (P n fun _ => 2 ^ k - 1) = P n a &&& (P n fun _ => 2 ^ k - 1) from rfl, this]
  exact P_congr n fun i _ => Nat.and_two_pow_sub_one_eq_mod _ _
theorem shr_mask (n k : Nat) {a : Nat → Nat} (hk : k ≤ 32) (h : B32 a) : Nat.land (Nat.shiftRight (P n a) k) (MK n) = P n fun i => a i / 2 ^ k := by
  have := P_shr n k hk h.big
  rw [show Nat.land (Nat.shiftRight (P n a) k) (MK n) = (P n a >>> k) &&& MK n from rfl, this]
  refine P_congr n fun i _ => ?_
  rw [Nat.shiftRight_eq_div_pow]
  exact Nat.mod_eq_of_lt (Nat.lt_of_le_of_lt (Nat.div_le_self _ _) (h i))
def Cy (n mul sh : Nat) (W : List Nat × Nat) (V : Nat → List Nat × Nat) : Prop := Lis n W.1 (fun i => (V i).1) ∧ ∃ q : Nat → Nat, W.2 = P n q ∧ (∀ i, (V i).2 = q i ∧ q i < 2 ^ sh)
theorem carryV_eq {n mul sh : Nat} (f : Nat → List Nat → List Nat × Nat) (hf0 : ∀ p, f p [] = ([], p)) (hf1 : ∀ p w ws, f p (w :: ws) = ((p * mul + w / 2 ^ sh) :: (f (w % 2 ^ sh) ws).1, (f (w % 2 ^ sh) ws).2)) (hsh : sh ≤ 32) (hm : mul * 2 ^ sh = 2 ^ 32) :
    ∀ (L : List (Nat → Nat)) (p : Nat → Nat), (∀ w, w ∈ L → B32 w) → (∀ i, p i < 2 ^ sh) → Cy n mul sh (carryV (MK n) mul sh (P n fun _ => 2 ^ sh - 1) (P n p) (L.map (P n))) fun i => f (p i) (L.map fun w => w i)
  | [], p, _, hp => ⟨by simp only [List.map_nil, carryV, hf0]; exact Lis.nil, p, rfl, fun i => ⟨by simp only [List.map_nil, hf0], hp i⟩⟩
  | w :: L, p, hL, hp => by
    have hw := hL w (by simp)
    obtain ⟨h1, q, h2, h3⟩ := carryV_eq f hf0 hf1 hsh hm L (fun i => w i % 2 ^ sh) (fun x hx => hL x (by simp [hx])) (fun i => Nat.mod_lt _ (Nat.pow_pos (by decide)))
    have hb : B32 fun i => p i * mul + w i / 2 ^ sh := fun i => by
      have a1 : w i / 2 ^ sh < mul := Nat.div_lt_of_lt_mul (by rw [Nat.mul_comm, hm]; exact hw i)
      have a2 : (p i + 1) * mul ≤ 2 ^ sh * mul := Nat.mul_le_mul_right _ (hp i)
      rw [Nat.mul_comm (2 ^ sh) mul, hm, Nat.succ_mul] at a2
      show p i * mul + w i / 2 ^ sh < _
      omega
    refine ⟨?_, q, ?_, fun i => ⟨?_, (h3 i).2⟩⟩
    · have e : (fun i => (f (p i) ((w :: L).map fun w => w i)).1) = fun i => [p i * mul + w i / 2 ^ sh] ++ (f (w i % 2 ^ sh) (L.map fun w => w i)).1 := funext fun i => by rw [List.map_cons, hf1]; rfl
      rw [e]
      have e2 : (carryV (MK n) mul sh (P n fun _ => 2 ^ sh - 1) (P n p) ((w :: L).map (P n))).1 = [P n fun i => p i * mul + w i / 2 ^ sh] ++ (carryV (MK n) mul sh (P n fun _ => 2 ^ sh - 1) (P n fun i => w i % 2 ^ sh) (L.map (P n))).1 := by
        rw [List.map_cons, carryV, shr_mask n sh hsh hw, land_const n sh hsh hw, show Nat.mul (P n p) mul = P n p * mul from rfl, P_mul, add_P]
        rfl
      rw [e2]
      exact (Lis.one hb).append h1
    · rw [List.map_cons, carryV, land_const n sh hsh hw]
      exact h2
    · show (f (p i) ((w :: L).map fun w => w i)).2 = q i
      rw [List.map_cons, hf1]
      exact (h3 i).1
end Go.Proofs.Yteedclmcgifmpaa.Sha

/- SHA-256 of many messages at a time: secrets, ways, ends. -/
namespace Go.Proofs.Yteedclmcgifmpaa.Sha
open Go Fw Ots
set_option linter.unusedSimpArgs false
set_option linter.unusedVariables false
theorem Lis.carry3 {n : Nat} {W : List Nat} {V : Nat → List Nat} (h : Lis n W V) {p : Nat → Nat} (hp : ∀ i, p i < 2 ^ 24) : Cy n 256 24 (carryV (MK n) 256 24 (P n fun _ => 2 ^ 24 - 1) (P n p) W) fun i => Sha.carry3 (p i) (V i) := by
  obtain ⟨L, r1, r2, r3⟩ := h
  have := carryV_eq (n := n) (mul := 256) (sh := 24) Sha.carry3 (fun p => rfl) (fun p w ws => rfl) (by decide) (by decide) L p r3 hp
  rw [r1, show (fun i => Sha.carry3 (p i) (V i)) = fun i => Sha.carry3 (p i) (L.map fun w => w i) from funext fun i => by rw [r2 i]]
  exact this
theorem Lis.carry1 {n : Nat} {W : List Nat} {V : Nat → List Nat} (h : Lis n W V) {p : Nat → Nat} (hp : ∀ i, p i < 2 ^ 8) : Cy n 16777216 8 (carryV (MK n) 16777216 8 (P n fun _ => 2 ^ 8 - 1) (P n p) W) fun i => Sha.carry1 (p i) (V i) := by
  obtain ⟨L, r1, r2, r3⟩ := h
  have := carryV_eq (n := n) (mul := 16777216) (sh := 8) Sha.carry1 (fun p => rfl) (fun p w ws => rfl) (by decide) (by decide) L p r3 hp
  rw [r1, show (fun i => Sha.carry1 (p i) (V i)) = fun i => Sha.carry1 (p i) (L.map fun w => w i) from funext fun i => by rw [r2 i]]
  exact this
theorem carryV_len (M mul sh msk : Nat) : ∀ (p : Nat) (W : List Nat), (carryV M mul sh msk p W).1.length = W.length
  | p, [] => rfl
  | p, w :: W => by rw [carryV, List.length_cons, List.length_cons, carryV_len M mul sh msk _ W]
def cst (n : Nat) (ks : List Nat) : List Nat := ks.map fun k => Nat.mul (ON n) k
def stepV (n x : Nat) (s : List Nat) : List Nat :=
  blkVW (MK n) (ON n) (SV n) ((carryV (MK n) 256 24 (P n fun _ => 2 ^ 24 - 1) (Nat.mul (ON n) x) s).1 ++ [Nat.add (Nat.mul (carryV (MK n) 256 24 (P n fun _ => 2 ^ 24 - 1) (Nat.mul (ON n) x) s).2 256) (Nat.mul (ON n) 128)] ++ cst n [0, 0, 0, 0, 0, 0, 280])
theorem lt_q {q : Nat} (h : q < 2 ^ 24) : q * 256 + 128 < 2 ^ 32 := by omega
theorem stepV_eq {n x0 x1 x2 : Nat} {s : List Nat} {v : Nat → List Nat} (hs : Oct n s v) (h0 : x0 < 256) (h1 : x1 < 256) (h2 : x2 < 256) :
    ∃ v', Oct n (stepV n (x0 * 65536 + x1 * 256 + x2) s) v' ∧ ∀ i, hashN (v' i) = shaN (x0 :: x1 :: x2 :: hashN (v i)) := by
  have hx : x0 * 65536 + x1 * 256 + x2 < 2 ^ 24 := by omega
  obtain ⟨c1, q, c2, c3⟩ := hs.lis.carry3 (p := fun _ => x0 * 65536 + x1 * 256 + x2) (fun _ => hx)
  rw [← P_const n (x0 * 65536 + x1 * 256 + x2)] at c1 c2
  have hb : B32 fun i => q i * 256 + 128 := fun i => lt_q (c3 i).2
  have hq : Nat.add (Nat.mul (carryV (MK n) 256 24 (P n fun _ => 2 ^ 24 - 1) (Nat.mul (ON n) (x0 * 65536 + x1 * 256 + x2)) s).2 256) (Nat.mul (ON n) 128) = P n fun i => q i * 256 + 128 := by
    rw [c2, P_const, show Nat.mul (P n q) 256 = P n q * 256 from rfl, P_mul, add_P]
  have L1 : Lis n [Nat.add (Nat.mul (carryV (MK n) 256 24 (P n fun _ => 2 ^ 24 - 1) (Nat.mul (ON n) (x0 * 65536 + x1 * 256 + x2)) s).2 256) (Nat.mul (ON n) 128)] fun i => [q i * 256 + 128] := by rw [hq]; exact Lis.one hb
  have hlen : s.length = 8 := by obtain ⟨a, b, c, d, e, f, g, h, r1, _⟩ := hs; rw [r1]; rfl
  refine ⟨_, blkVW_eq (SN_oct n) ((c1.append L1).append (Lis.consts n [0, 0, 0, 0, 0, 0, 280] (by decide))) (by rw [List.length_append, List.length_append, carryV_len, hlen]; rfl), fun i => ?_⟩
  obtain ⟨a, b, c, d, e, f, g, h, e1, e2⟩ := hs.eight i
  have hc : (Sha.carry3 (x0 * 65536 + x1 * 256 + x2) (v i)).2 = q i := (c3 i).1
  show hashN (blkW SN ((Sha.carry3 (x0 * 65536 + x1 * 256 + x2) (v i)).1 ++ [q i * 256 + 128] ++ [0, 0, 0, 0, 0, 0, 280])) = _
  rw [← hc, e1, sha35 h0 h1 h2 e2]
  rfl
def secV (n : Nat) (K L : Nat → Nat) (c : Nat) : List Nat :=
  blkVW (MK n) (ON n) (SV n) ([P n fun i => K i * 65536] ++ cst n [0, 0, 0, 0, 0, 0, 0] ++ [P n fun i => L i * 65536 + c * 256 + 128] ++ cst n [0, 0, 0, 0, 0, 0, 280])
theorem secV_eq {n c : Nat} {K L : Nat → Nat} (hK : ∀ i, K i < 256) (hL : ∀ i, L i < 256) (hc : c < 256) :
    ∃ v, Oct n (secV n K L c) v ∧ ∀ i, hashN (v i) = shaN (0 :: ((K i :: List.replicate 31 0) ++ [L i, c])) := by
  have b1 : B32 fun i => K i * 65536 := fun i => by have := hK i; show K i * 65536 < _; omega
  have b2 : B32 fun i => L i * 65536 + c * 256 + 128 := fun i => by have := hL i; show L i * 65536 + c * 256 + 128 < _; omega
  refine ⟨_, blkVW_eq (SN_oct n) ((((Lis.one b1).append (Lis.consts n [0, 0, 0, 0, 0, 0, 0] (by decide))).append (Lis.one b2)).append (Lis.consts n [0, 0, 0, 0, 0, 0, 280] (by decide))) rfl, fun i => ?_⟩
  rw [sha_sec (hK i) (hL i) hc]
  rfl
/-- the end of a chain -/
def chV (n : Nat) (K L : Nat → Nat) (c : Nat) : List Nat := stepV n (65536 + c * 256 + 2) (stepV n (65536 + c * 256 + 1) (stepV n (65536 + c * 256 + 0) (secV n K L c)))
theorem chV_eq {n c : Nat} {K L : Nat → Nat} (hK : ∀ i, K i < 256) (hL : ∀ i, L i < 256) (hc : c < 256) :
    ∃ v, Oct n (chV n K L c) v ∧ ∀ i, hashN (v i) = wayN c (secN (K i :: List.replicate 31 0) (L i) c) 0 3 := by
  obtain ⟨v0, o0, e0⟩ := secV_eq (n := n) hK hL hc
  obtain ⟨v1, o1, e1⟩ := stepV_eq (x0 := 1) (x1 := c) (x2 := 0) o0 (by decide) hc (by decide)
  obtain ⟨v2, o2, e2⟩ := stepV_eq (x0 := 1) (x1 := c) (x2 := 1) o1 (by decide) hc (by decide)
  obtain ⟨v3, o3, e3⟩ := stepV_eq (x0 := 1) (x1 := c) (x2 := 2) o2 (by decide) hc (by decide)
  exact ⟨v3, o3, fun i => by rw [e3, e2, e1, e0]; rfl⟩
/-- all chains' ends as words -/
def allV (n : Nat) (K L : Nat → Nat) : Nat → List Nat
  | 0 => []
  | c + 1 => allV n K L c ++ chV n K L c
theorem allV_eq {n : Nat} {K L : Nat → Nat} (hK : ∀ i, K i < 256) (hL : ∀ i, L i < 256) : ∀ m, m ≤ 256 → (allV n K L m).length = 8 * m ∧ ∃ V, Lis n (allV n K L m) V ∧ ∀ i, bytesOf (V i) = (texN (fun c => wayN c (secN (K i :: List.replicate 31 0) (L i) c) 0 3) m).tail ∧ (texN (fun c => wayN c (secN (K i :: List.replicate 31 0) (L i) c) 0 3) m).head? = some 2 ∧ (V i).length = 8 * m ∧ ∀ w, w ∈ V i → w < 2 ^ 32
  | 0, _ => ⟨rfl, fun _ => [], Lis.nil, fun i => ⟨rfl, rfl, rfl, fun w hw => by cases hw⟩⟩
  | m + 1, h => by
    obtain ⟨l1, V, h1, h2⟩ := allV_eq hK hL m (by omega)
    obtain ⟨v, o, e⟩ := chV_eq (n := n) (c := m) hK hL (by omega)
    have hlen : (chV n K L m).length = 8 := by obtain ⟨a, b, c, d, e, f, g, h, r1, _⟩ := o; rw [r1]; rfl
    refine ⟨by rw [allV, List.length_append, l1, hlen]; omega, fun i => V i ++ v i, h1.append o.lis, fun i => ?_⟩
    obtain ⟨g1, g2, g3, g4⟩ := h2 i
    obtain ⟨a, b, c, d, e', f, g, h', r1, r2⟩ := o.eight i
    have hne : texN (fun c => wayN c (secN (K i :: List.replicate 31 0) (L i) c) 0 3) m = 2 :: (texN (fun c => wayN c (secN (K i :: List.replicate 31 0) (L i) c) 0 3) m).tail := by
      cases hx : texN (fun c => wayN c (secN (K i :: List.replicate 31 0) (L i) c) 0 3) m with
      | nil => rw [hx] at g2; cases g2
      | cons y ys => rw [hx] at g2; cases g2; rfl
    refine ⟨?_, ?_, ?_, ?_⟩
    · rw [bytesOf_append, g1, texN, ← e i, r1, hash_bytes]
      conv => rhs; rw [hne]
      rfl
    · rw [texN, hne]; rfl
    · rw [List.length_append, g3, r1]; simp; omega
    · intro w hw
      rcases List.mem_append.1 hw with hw | hw
      · exact g4 w hw
      · rw [r1] at hw; exact r2 w hw
end Go.Proofs.Yteedclmcgifmpaa.Sha

/- SHA-256 of many messages at a time: leaves' public ones, and all of it as the kernel counts it. -/
namespace Go.Proofs.Yteedclmcgifmpaa.Sha
open Go Fw Ots
set_option linter.unusedSimpArgs false
set_option linter.unusedVariables false
def T1153 : List Nat := 128 :: (List.replicate 54 0 ++ [0, 0, 0, 0, 0, 0, 36, 8])
theorem pad1153 {l : List Nat} (h : l.length = 1153) : padN l = l ++ T1153 := by
  rw [padN, h]
  exact congrArg (fun x => l ++ x) (by decide +kernel)
theorem carry1_len : ∀ (p : Nat) (ws : List Nat), (carry1 p ws).1.length = ws.length
  | p, [] => rfl
  | p, w :: ws => by rw [carry1, List.length_cons, List.length_cons, carry1_len _ ws]
theorem shaEnds {W : List Nat} (hl : W.length = 288) (hw : ∀ w, w ∈ W → w < 2 ^ 32) : shaN (2 :: bytesOf W) = hashN (absW 19 SN ((carry1 2 W).1 ++ [(carry1 2 W).2 * 16777216 + 8388608] ++ [0, 0, 0, 0, 0, 0, 0, 0, 0, 0, 0, 0, 0, 0, 9224])) := by
  have h1 : (2 :: bytesOf W).length = 1153 := by rw [List.length_cons, bytesOf_len, hl]
  have hp := pad1153 h1
  have hlen : (padN (2 :: bytesOf W)).length = 1216 := by rw [hp, List.length_append, h1]; rfl
  have hc := wds_carry1 16 2 W T1153 (by decide) hw
  have hp2 : padN (2 :: bytesOf W) = 2 :: (bytesOf W ++ T1153) := hp
  have e : wds 16 ((carry1 2 W).2 :: T1153) = [(carry1 2 W).2 * 16777216 + 8388608, 0, 0, 0, 0, 0, 0, 0, 0, 0, 0, 0, 0, 0, 0, 9224] := by
    show [fw (carry1 2 W).2 128 0 0, fw 0 0 0 0, fw 0 0 0 0, fw 0 0 0 0, fw 0 0 0 0, fw 0 0 0 0, fw 0 0 0 0, fw 0 0 0 0, fw 0 0 0 0, fw 0 0 0 0, fw 0 0 0 0, fw 0 0 0 0, fw 0 0 0 0, fw 0 0 0 0, fw 0 0 0 0, fw 0 0 36 8] = _
    rw [fw_sum (by decide) (by decide) (by decide), show fw 0 0 0 0 = 0 from rfl, show fw 0 0 36 8 = 9224 from rfl]
  rw [shaN, hlen, show Nat.div 1216 64 = 19 from rfl, absN_words 19 _ _ (by rw [hlen]; decide), hp2, show 16 * 19 = W.length + 16 by rw [hl], hc, e, List.append_assoc]
  rfl
def endsV (n : Nat) (W : List Nat) : List Nat :=
  absV (MK n) (ON n) 19 (SV n) ((carryV (MK n) 16777216 8 (P n fun _ => 2 ^ 8 - 1) (Nat.mul (ON n) 2) W).1 ++ [Nat.add (Nat.mul (carryV (MK n) 16777216 8 (P n fun _ => 2 ^ 8 - 1) (Nat.mul (ON n) 2) W).2 16777216) (Nat.mul (ON n) 8388608)] ++ cst n [0, 0, 0, 0, 0, 0, 0, 0, 0, 0, 0, 0, 0, 0, 9224])
theorem lt_q8 {q : Nat} (h : q < 2 ^ 8) : q * 16777216 + 8388608 < 2 ^ 32 := by omega
theorem endsV_eq {n : Nat} {W : List Nat} {V : Nat → List Nat} (h : Lis n W V) (hl : W.length = 288) (hV : ∀ i, (V i).length = 288 ∧ ∀ w, w ∈ V i → w < 2 ^ 32) :
    ∃ v', Oct n (endsV n W) v' ∧ ∀ i, hashN (v' i) = shaN (2 :: bytesOf (V i)) := by
  obtain ⟨c1, q, c2, c3⟩ := h.carry1 (p := fun _ => 2) (fun _ => by decide)
  rw [← P_const n 2] at c1 c2
  have hb : B32 fun i => q i * 16777216 + 8388608 := fun i => lt_q8 (c3 i).2
  have hq : Nat.add (Nat.mul (carryV (MK n) 16777216 8 (P n fun _ => 2 ^ 8 - 1) (Nat.mul (ON n) 2) W).2 16777216) (Nat.mul (ON n) 8388608) = P n fun i => q i * 16777216 + 8388608 := by
    rw [c2, P_const, show Nat.mul (P n q) 16777216 = P n q * 16777216 from rfl, P_mul, add_P]
  have L1 : Lis n [Nat.add (Nat.mul (carryV (MK n) 16777216 8 (P n fun _ => 2 ^ 8 - 1) (Nat.mul (ON n) 2) W).2 16777216) (Nat.mul (ON n) 8388608)] fun i => [q i * 16777216 + 8388608] := by rw [hq]; exact Lis.one hb
  refine ⟨_, absV_eq 19 (SN_oct n) ((c1.append L1).append (Lis.consts n [0, 0, 0, 0, 0, 0, 0, 0, 0, 0, 0, 0, 0, 0, 9224] (by decide))) (by simp only [List.length_append, carryV_len, hl, cst, List.length_map, List.length_cons, List.length_nil]), fun i => ?_⟩
  have hc : (Sha.carry1 2 (V i)).2 = q i := (c3 i).1
  show hashN (absW 19 SN ((Sha.carry1 2 (V i)).1 ++ [q i * 16777216 + 8388608] ++ [0, 0, 0, 0, 0, 0, 0, 0, 0, 0, 0, 0, 0, 0, 9224])) = _
  rw [← hc, shaEnds (hV i).1 (hV i).2]
theorem hd_tl {l : List Nat} {a : Nat} (h : l.head? = some a) : a :: l.tail = l := by
  cases l with
  | nil => cases h
  | cons y ys => cases h; rfl
/-- leaves' public ones -/
def pubV (n : Nat) (K L : Nat → Nat) : List Nat := endsV n (allV n K L 36)
theorem pubV_eq {n : Nat} {K L : Nat → Nat} (hK : ∀ i, K i < 256) (hL : ∀ i, L i < 256) : ∃ v, Oct n (pubV n K L) v ∧ ∀ i, hashN (v i) = pubN (K i :: List.replicate 31 0) (L i) := by
  obtain ⟨hl, V, h1, h2⟩ := allV_eq (n := n) hK hL 36 (by decide)
  obtain ⟨v, o, e⟩ := endsV_eq h1 hl (fun i => ⟨(h2 i).2.2.1, (h2 i).2.2.2⟩)
  refine ⟨v, o, fun i => ?_⟩
  obtain ⟨g1, g2, _⟩ := h2 i
  rw [e i, pubN, g1, hd_tl g2]
/-! ### as the kernel counts it -/
def fcl {α : Type} : List Nat → (List Nat → α) → α
  | [], k => k []
  | w :: ws, k => fc w fun w => fcl ws fun ws => k (w :: ws)
theorem fcl_eq {α : Type} : ∀ (l : List Nat) (k : List Nat → α), fcl l k = k l
  | [], k => rfl
  | w :: ws, k => by rw [fcl, fc_eq, fcl_eq ws]
def stepC {α : Type} (M O M3 : Nat) (S : List Nat) (x : Nat) (s : List Nat) (k : List Nat → α) : α :=
  fcl ((carryV M 256 24 M3 (Nat.mul O x) s).1 ++ [Nat.add (Nat.mul (carryV M 256 24 M3 (Nat.mul O x) s).2 256) (Nat.mul O 128)] ++ [0, 0, 0, 0, 0, 0, 280].map fun k => Nat.mul O k) fun W => fcl (blkVW M O S W) k
theorem stepC_eq {α : Type} (n x : Nat) (s : List Nat) (k : List Nat → α) : stepC (MK n) (ON n) (P n fun _ => 2 ^ 24 - 1) (SV n) x s k = k (stepV n x s) := by
  rw [stepC, fcl_eq, fcl_eq]; rfl
def secC {α : Type} (M O : Nat) (S : List Nat) (KP LP : Nat) (c : Nat) (k : List Nat → α) : α :=
  fcl ([KP] ++ ([0, 0, 0, 0, 0, 0, 0].map fun k => Nat.mul O k) ++ [Nat.add LP (Nat.mul O (c * 256 + 128))] ++ [0, 0, 0, 0, 0, 0, 280].map fun k => Nat.mul O k) fun W => fcl (blkVW M O S W) k
theorem secC_eq {α : Type} (n c : Nat) (K L : Nat → Nat) (k : List Nat → α) : secC (MK n) (ON n) (SV n) (P n fun i => K i * 65536) (P n fun i => L i * 65536) c k = k (secV n K L c) := by
  have e : (P n fun i => Nat.add (L i * 65536) (c * 256 + 128)) = P n fun i => L i * 65536 + c * 256 + 128 := P_congr n fun i _ => (Nat.add_assoc _ _ _).symm
  rw [secC, fcl_eq, fcl_eq, P_const, add_P]
  show k (blkVW (MK n) (ON n) (SV n) ([P n fun i => K i * 65536] ++ cst n [0, 0, 0, 0, 0, 0, 0] ++ [P n fun i => Nat.add (L i * 65536) (c * 256 + 128)] ++ cst n [0, 0, 0, 0, 0, 0, 280])) = _
  rw [e, secV]
def chC {α : Type} (M O M3 : Nat) (S : List Nat) (KP LP : Nat) (c : Nat) (k : List Nat → α) : α :=
  secC M O S KP LP c fun s => stepC M O M3 S (65536 + c * 256 + 0) s fun s => stepC M O M3 S (65536 + c * 256 + 1) s fun s => stepC M O M3 S (65536 + c * 256 + 2) s k
theorem chC_eq {α : Type} (n c : Nat) (K L : Nat → Nat) (k : List Nat → α) : chC (MK n) (ON n) (P n fun _ => 2 ^ 24 - 1) (SV n) (P n fun i => K i * 65536) (P n fun i => L i * 65536) c k = k (chV n K L c) := by
  rw [chC, secC_eq, stepC_eq, stepC_eq, stepC_eq]; rfl
def allC {α : Type} (M O M3 : Nat) (S : List Nat) (KP LP : Nat) : Nat → (List Nat → α) → α
  | 0, k => k []
  | c + 1, k => allC M O M3 S KP LP c fun A => chC M O M3 S KP LP c fun B => fcl (A ++ B) k
theorem allC_eq {α : Type} (n : Nat) (K L : Nat → Nat) : ∀ (c : Nat) (k : List Nat → α), allC (MK n) (ON n) (P n fun _ => 2 ^ 24 - 1) (SV n) (P n fun i => K i * 65536) (P n fun i => L i * 65536) c k = k (allV n K L c)
  | 0, k => rfl
  | c + 1, k => by rw [allC, allC_eq n K L c, chC_eq, fcl_eq]; rfl
def absC {α : Type} (M O : Nat) : Nat → List Nat → List Nat → (List Nat → α) → α
  | 0, s, _, k => k s
  | n + 1, s, W, k => fcl (W.take 16) fun A => fcl (blkVW M O s A) fun s => fcl (W.drop 16) fun W => absC M O n s W k
theorem absC_eq {α : Type} (M O : Nat) : ∀ (n : Nat) (s W : List Nat) (k : List Nat → α), absC M O n s W k = k (absV M O n s W)
  | 0, _, _, _ => rfl
  | n + 1, s, W, k => by rw [absC, fcl_eq, fcl_eq, fcl_eq, absC_eq M O n]; rfl
def endsC {α : Type} (M O M1 : Nat) (S : List Nat) (W : List Nat) (k : List Nat → α) : α :=
  fcl ((carryV M 16777216 8 M1 (Nat.mul O 2) W).1 ++ [Nat.add (Nat.mul (carryV M 16777216 8 M1 (Nat.mul O 2) W).2 16777216) (Nat.mul O 8388608)] ++ [0, 0, 0, 0, 0, 0, 0, 0, 0, 0, 0, 0, 0, 0, 9224].map fun k => Nat.mul O k) fun W => absC M O 19 S W k
theorem endsC_eq {α : Type} (n : Nat) (W : List Nat) (k : List Nat → α) : endsC (MK n) (ON n) (P n fun _ => 2 ^ 8 - 1) (SV n) W k = k (endsV n W) := by
  rw [endsC, fcl_eq, absC_eq]; rfl
def pubC {α : Type} (n : Nat) (K L : Nat → Nat) (k : List Nat → α) : α :=
  fc (MK n) fun M => fc (ON n) fun O => fc (P n fun _ => 2 ^ 24 - 1) fun M3 => fc (P n fun _ => 2 ^ 8 - 1) fun M1 => fc (P n fun i => K i * 65536) fun KP => fc (P n fun i => L i * 65536) fun LP => fcl (SN.map fun k => Nat.mul O k) fun S => allC M O M3 S KP LP 36 fun W => endsC M O M1 S W k
theorem pubC_eq {α : Type} (n : Nat) (K L : Nat → Nat) (k : List Nat → α) : pubC n K L k = k (pubV n K L) := by
  simp only [pubC, fc_eq, fcl_eq]
  rw [show (SN.map fun k => Nat.mul (ON n) k) = SV n from rfl, allC_eq, endsC_eq]
  rfl
/-- one lane -/
theorem P_get : ∀ (n : Nat) (a : Nat → Nat) (i : Nat), i < n → (∀ j, a j < 2 ^ 64) → P n a / 2 ^ (64 * i) % 2 ^ 64 = a i
  | n + 1, a, 0, _, h => by
    rw [P, Nat.mul_zero, Nat.pow_zero, Nat.div_one, Nat.mul_add_mod, Nat.mod_eq_of_lt (h 0)]
  | n + 1, a, i + 1, hi, h => by
    have ih := P_get n (fun i => a (i + 1)) i (by omega) (fun j => h (j + 1))
    rw [P, show 64 * (i + 1) = 64 + 64 * i by omega, Nat.pow_add, ← Nat.div_div_eq_div_mul, Nat.mul_add_div (by decide), Nat.div_eq_of_lt (h 0), Nat.add_zero]
    exact ih
def lane (l : List Nat) (i : Nat) : List Nat := l.map fun x => x / 2 ^ (64 * i) % 2 ^ 64
theorem Oct.lane {n : Nat} {l : List Nat} {v : Nat → List Nat} (h : Oct n l v) {i : Nat} (hi : i < n) : v i = Sha.lane l i := by
  obtain ⟨a, b, c, d, e, f, g, h', r1, r2, ha, hb, hc, hd, he, hf, hg, hh⟩ := h
  rw [r1, r2, Sha.lane]
  simp only [List.map_cons, List.map_nil]
  rw [P_get n a i hi ha.big, P_get n b i hi hb.big, P_get n c i hi hc.big, P_get n d i hi hd.big, P_get n e i hi he.big, P_get n f i hi hf.big, P_get n g i hi hg.big, P_get n h' i hi hh.big]
/-- five keys of sixteen leaves: key and leaf of each lane -/
def kK (i : Nat) : Nat := i / 16 % 256
def kL (i : Nat) : Nat := i % 16
theorem leaf_lane {T : List Nat} (hT : pubC 80 kK kL (fun l => l) = T) {k l : Nat} (hk : k < 5) (hl : l < 16) : pub (up (k :: List.replicate 31 0)) (l : Int) = up (hashN (lane T (16 * k + l))) ∧ Bn (hashN (lane T (16 * k + l))) := by
  obtain ⟨v, o, e⟩ := pubV_eq (n := 80) (K := kK) (L := kL) (fun i => Nat.mod_lt _ (by decide)) (fun i => by show i % 16 < 256; omega)
  rw [pubC_eq] at hT
  have h1 := e (16 * k + l)
  rw [o.lane (show 16 * k + l < 80 by omega), hT, show kK (16 * k + l) = k by unfold kK; omega, show kL (16 * k + l) = l by unfold kL; omega] at h1
  have h2 := pub_n (s := k :: List.replicate 31 0) (l := l) (.cons (by omega) (fun x hx => by rw [(List.mem_replicate.1 hx).2]; decide)) (by omega)
  rw [h1]
  exact h2
end Go.Proofs.Yteedclmcgifmpaa.Sha

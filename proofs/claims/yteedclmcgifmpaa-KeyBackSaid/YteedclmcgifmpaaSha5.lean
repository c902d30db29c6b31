/- SHA-256 in Nat, for the kernel: the whole. -/
import Derived.Test.YteedclmcgifmpaaSha4
namespace Go.Proofs.Yteedclmcgifmpaa.Sha
open Go Fw
set_option linter.unusedSimpArgs false
set_option linter.unusedVariables false

def up (l : List Nat) : List Int := l.map Int.ofNat
/-- the value, forced -/
def fc {α : Type} (x : Nat) (f : Nat → α) : α := match x with
  | 0 => f 0
  | n + 1 => f (n + 1)
theorem fc_eq {α : Type} (x : Nat) (f : Nat → α) : fc x f = f x := by cases x <;> rfl
def sch : Nat → Nat → Nat → Nat → Nat → Nat → Nat → Nat → Nat → Nat → Nat → Nat → Nat → Nat → Nat → Nat → Nat → List Nat
  | 0, _, _, _, _, _, _, _, _, _, _, _, _, _, _, _, _ => []
  | n + 1, w0, w1, w2, w3, w4, w5, w6, w7, w8, w9, w10, w11, w12, w13, w14, w15 =>
    w0 :: sch n w1 w2 w3 w4 w5 w6 w7 w8 w9 w10 w11 w12 w13 w14 w15 (md (Nat.add (Nat.add (Nat.add w0 (fs0 w1)) w9) (fs1 w14)))
def ft (e f g h k w : Nat) : Nat := Nat.add (Nat.add (Nat.add (Nat.add h (fb1 e)) (fch e f g)) k) w
def fu (a b c : Nat) : Nat := Nat.add (fb0 a) (fmj a b c)
def frs : List Nat → List Nat → Nat → Nat → Nat → Nat → Nat → Nat → Nat → Nat → List Nat
  | k :: ks, w :: ws, a, b, c, d, e, f, g, h => frs ks ws (md (Nat.add (ft e f g h k w) (fu a b c))) a b c (md (Nat.add d (ft e f g h k w))) e f g
  | _, _, a, b, c, d, e, f, g, h => [a, b, c, d, e, f, g, h]
def KN : List Nat := [
  0x428a2f98, 0x71374491, 0xb5c0fbcf, 0xe9b5dba5, 0x3956c25b, 0x59f111f1, 0x923f82a4, 0xab1c5ed5,
  0xd807aa98, 0x12835b01, 0x243185be, 0x550c7dc3, 0x72be5d74, 0x80deb1fe, 0x9bdc06a7, 0xc19bf174,
  0xe49b69c1, 0xefbe4786, 0x0fc19dc6, 0x240ca1cc, 0x2de92c6f, 0x4a7484aa, 0x5cb0a9dc, 0x76f988da,
  0x983e5152, 0xa831c66d, 0xb00327c8, 0xbf597fc7, 0xc6e00bf3, 0xd5a79147, 0x06ca6351, 0x14292967,
  0x27b70a85, 0x2e1b2138, 0x4d2c6dfc, 0x53380d13, 0x650a7354, 0x766a0abb, 0x81c2c92e, 0x92722c85,
  0xa2bfe8a1, 0xa81a664b, 0xc24b8b70, 0xc76c51a3, 0xd192e819, 0xd6990624, 0xf40e3585, 0x106aa070,
  0x19a4c116, 0x1e376c08, 0x2748774c, 0x34b0bcb5, 0x391c0cb3, 0x4ed8aa4a, 0x5b9cca4f, 0x682e6ff3,
  0x748f82ee, 0x78a5636f, 0x84c87814, 0x8cc70208, 0x90befffa, 0xa4506ceb, 0xbef9a3f7, 0xc67178f2]
def SN : List Nat := [0x6a09e667, 0xbb67ae85, 0x3c6ef372, 0xa54ff53a, 0x510e527f, 0x9b05688c, 0x1f83d9ab, 0x5be0cd19]
def blk (s W : List Nat) : List Nat := match s with
  | [a, b, c, d, e, f, g, h] => match frs KN W a b c d e f g h with
    | [a', b', c', d', e', f', g', h'] => fc (md (Nat.add a a')) fun a => fc (md (Nat.add b b')) fun b => fc (md (Nat.add c c')) fun c => fc (md (Nat.add d d')) fun d => fc (md (Nat.add e e')) fun e => fc (md (Nat.add f f')) fun f => fc (md (Nat.add g g')) fun g => fc (md (Nat.add h h')) fun h => [a, b, c, d, e, f, g, h]
    | _ => []
  | _ => []
def fw (a b c d : Nat) : Nat := Nat.lor (Nat.lor (Nat.lor (Nat.mul a 16777216) (Nat.mul b 65536)) (Nat.mul c 256)) d
/-- the words of a block -/
def wds : Nat → List Nat → List Nat
  | 0, _ => []
  | n + 1, a :: b :: c :: d :: r => fw a b c d :: wds n r
  | _, _ => []
def blkW (s w : List Nat) : List Nat := match w with
  | [w0, w1, w2, w3, w4, w5, w6, w7, w8, w9, w10, w11, w12, w13, w14, w15] => blk s (sch 64 w0 w1 w2 w3 w4 w5 w6 w7 w8 w9 w10 w11 w12 w13 w14 w15)
  | _ => []
def absN : Nat → List Nat → List Nat → List Nat
  | 0, s, _ => s
  | n + 1, s, l => absN n (blkW s (wds 16 l)) (l.drop 64)
def padN (l : List Nat) : List Nat := l ++ 128 :: (List.replicate (zs l.length) 0 ++ [Nat.mod (Nat.shiftRight (Nat.mul 8 l.length) 56) 256, Nat.mod (Nat.shiftRight (Nat.mul 8 l.length) 48) 256, Nat.mod (Nat.shiftRight (Nat.mul 8 l.length) 40) 256, Nat.mod (Nat.shiftRight (Nat.mul 8 l.length) 32) 256, Nat.mod (Nat.shiftRight (Nat.mul 8 l.length) 24) 256, Nat.mod (Nat.shiftRight (Nat.mul 8 l.length) 16) 256, Nat.mod (Nat.shiftRight (Nat.mul 8 l.length) 8) 256, Nat.mod (Nat.shiftRight (Nat.mul 8 l.length) 0) 256])
def byN (x : Nat) (r : List Nat) : List Nat := Nat.mod (Nat.shiftRight x 24) 256 :: Nat.mod (Nat.shiftRight x 16) 256 :: Nat.mod (Nat.shiftRight x 8) 256 :: Nat.mod (Nat.shiftRight x 0) 256 :: r
def hashN (s : List Nat) : List Nat := match s with
  | [a, b, c, d, e, f, g, h] => byN a (byN b (byN c (byN d (byN e (byN f (byN g (byN h [])))))))
  | _ => []
def shaN (l : List Nat) : List Nat := hashN (absN (Nat.div (padN l).length 64) SN (padN l))

/-! ### It is the same -/
theorem up_getD (l : List Nat) (i : Nat) : (up l).getD i 0 = ((l.getD i 0 : Nat) : Int) := by
  simp only [up, List.getD_eq_getElem?_getD, List.getElem?_map]
  cases l[i]? <;> rfl
theorem up_drop (l : List Nat) (i : Nat) : (up l).drop i = up (l.drop i) := by simp [up]
theorem up_append (a b : List Nat) : up (a ++ b) = up a ++ up b := by simp [up]
theorem up_length (l : List Nat) : (up l).length = l.length := by simp [up]
theorem sch_eq (X : Nat → Nat) (hX : ∀ i, i + 16 < 64 → X (i + 16) = md (X i + fs0 (X (i + 1)) + X (i + 9) + fs1 (X (i + 14)))) : ∀ (n i : Nat) (v : Nat → Nat), i + n = 64 → (∀ j, j < 16 → i + j < 64 → v j = X (i + j)) →
    sch n (v 0) (v 1) (v 2) (v 3) (v 4) (v 5) (v 6) (v 7) (v 8) (v 9) (v 10) (v 11) (v 12) (v 13) (v 14) (v 15) = (List.range' i n).map X := by
  intro n
  induction n with
  | zero => intro i v _ _; rw [sch]; rfl
  | succ n ih =>
    intro i v hi hv
    have h := ih (i + 1) (fun j => if j < 15 then v (j + 1) else md (Nat.add (Nat.add (Nat.add (v 0) (fs0 (v 1))) (v 9)) (fs1 (v 14)))) (by omega) (fun j hj hij => by
      by_cases h15 : j < 15
      · simp only [h15, if_true]
        rw [hv (j + 1) (by omega) (by omega)]
        congr 1
        omega
      · obtain rfl : j = 15 := by omega
        simp only [h15, if_false]
        rw [hv 0 (by omega) (by omega), hv 1 (by omega) (by omega), hv 9 (by omega) (by omega), hv 14 (by omega) (by omega), show i + 1 + 15 = i + 16 by omega, hX i (by omega)]
        rfl)
    have hv0 : v 0 = X i := hv 0 (by omega) (by omega)
    simp only [Nat.reduceLT, if_true, if_false, Nat.reduceAdd, Nat.zero_add, Nat.lt_irrefl] at h
    rw [List.range'_succ, List.map_cons, ← h, ← hv0, sch]
theorem md_add (x y : Nat) : md (md x + y) = md (x + y) := Nat.mod_add_mod _ _ _
theorem md_add' (x y : Nat) : md (x + md y) = md (x + y) := Nat.add_mod_mod _ _ _
theorem fs_bounds : True := trivial
theorem tt_n (a b c d e f g h k w : Nat) (he : e < 4294967296) (hf : f < 4294967296) (hg : g < 4294967296) : tt (up [a, b, c, d, e, f, g, h]) (k : Int) (w : Int) = ((md (ft e f g h k w) : Nat) : Int) := by
  show add (add (add (add (h : Int) (b1 (e : Int))) (ch (e : Int) f g)) k) w = _
  rw [b1_n he, ch_n he hf hg, add_n, add_n, md_add, add_n, md_add, add_n, md_add]
  rfl
theorem uu_n (a b c d e f g h : Nat) (ha : a < 4294967296) (hb : b < 4294967296) (hc : c < 4294967296) : uu (up [a, b, c, d, e, f, g, h]) = ((md (fu a b c) : Nat) : Int) := by
  show add (b0 (a : Int)) (mj (a : Int) b c) = _
  rw [b0_n ha, mj_n ha hb hc, add_n]
  rfl
theorem rnd_n (a b c d e f g h k w : Nat) (ha : a < 4294967296) (hb : b < 4294967296) (hc : c < 4294967296) (he : e < 4294967296) (hf : f < 4294967296) (hg : g < 4294967296) :
    rnd (up [a, b, c, d, e, f, g, h]) (k : Int) (w : Int) = up [md (Nat.add (ft e f g h k w) (fu a b c)), a, b, c, md (Nat.add d (ft e f g h k w)), e, f, g] := by
  have h1 : add (tt (up [a, b, c, d, e, f, g, h]) k w) (uu (up [a, b, c, d, e, f, g, h])) = ((md (Nat.add (ft e f g h k w) (fu a b c)) : Nat) : Int) := by
    rw [tt_n _ _ _ _ _ _ _ _ _ _ he hf hg, uu_n _ _ _ _ _ _ _ _ ha hb hc, add_n, md_add, md_add']
    rfl
  have h2 : add (d : Int) (tt (up [a, b, c, d, e, f, g, h]) k w) = ((md (Nat.add d (ft e f g h k w)) : Nat) : Int) := by
    rw [tt_n _ _ _ _ _ _ _ _ _ _ he hf hg, add_n, md_add']
    rfl
  show [add (tt (up [a, b, c, d, e, f, g, h]) k w) (uu (up [a, b, c, d, e, f, g, h])), (a : Int), (b : Int), (c : Int), add (d : Int) (tt (up [a, b, c, d, e, f, g, h]) k w), (e : Int), (f : Int), (g : Int)] = _
  rw [h1, h2]
  rfl
theorem frs_eq (X : Nat → Nat) (W v : List Int) (hW : ∀ i, i < 64 → W.getD i 0 = ((X i : Nat) : Int)) : ∀ (n i a b c d e f g h : Nat), i + n = 64 → rnds K W v i = up [a, b, c, d, e, f, g, h] →
    a < 4294967296 → b < 4294967296 → c < 4294967296 → d < 4294967296 → e < 4294967296 → f < 4294967296 → g < 4294967296 → h < 4294967296 →
    ∃ a' b' c' d' e' f' g' h', frs (KN.drop i) ((List.range' i n).map X) a b c d e f g h = [a', b', c', d', e', f', g', h'] ∧ rnds K W v 64 = up [a', b', c', d', e', f', g', h'] := by
  intro n
  induction n with
  | zero =>
    intro i a b c d e f g h hi hr _ _ _ _ _ _ _ _
    obtain rfl : i = 64 := by omega
    exact ⟨a, b, c, d, e, f, g, h, rfl, hr⟩
  | succ n ih =>
    intro i a b c d e f g h hi hr ha hb hc hd he hf hg hh
    have hk : KN.drop i = KN.getD i 0 :: KN.drop (i + 1) := by
      have hl : i < KN.length := by show i < 64; omega
      rw [List.drop_eq_getElem_cons hl, List.getD_eq_getElem?_getD, List.getElem?_eq_getElem hl]
      rfl
    have hK : K.getD i 0 = ((KN.getD i 0 : Nat) : Int) := by
      rw [show K = up KN from rfl, up_getD]
    have hs : rnds K W v (i + 1) = up [md (Nat.add (ft e f g h (KN.getD i 0) (X i)) (fu a b c)), a, b, c, md (Nat.add d (ft e f g h (KN.getD i 0) (X i))), e, f, g] := by
      rw [← rnd_n a b c d e f g h _ _ ha hb hc he hf hg, ← hr, ← hK, ← hW i (by omega)]
      rfl
    rw [hk, List.range'_succ, List.map_cons]
    exact ih (i + 1) _ _ _ _ _ _ _ _ (by omega) hs (md_lt _) ha hb hc (md_lt _) he hf hg

theorem set_other {l : List Int} {i j : Nat} {x : Int} (h : j ≠ i) : (l.set i x).getD j 0 = l.getD j 0 := by
  simp only [List.getD_eq_getElem?_getD]
  rw [List.getElem?_set_ne (by omega)]
theorem set_same {l : List Int} {i : Nat} {x : Int} (h : i < l.length) : (l.set i x).getD i 0 = x := by
  simp only [List.getD_eq_getElem?_getD]
  rw [List.getElem?_set_self h]
  rfl
theorem w1_word (b : List Int) : ∀ n, n ≤ 64 → ∀ j, j < n → (w1 b n).getD j 0 = word b j := by
  intro n
  induction n with
  | zero => intro _ j hj; omega
  | succ n ih =>
    intro hn j hj
    simp only [w1]
    by_cases h : j = n
    · subst h
      rw [set_same (by rw [w1_len]; omega)]
    · rw [set_other h, ih (by omega) j (by omega)]
theorem w2_low (l : List Int) : ∀ n j, j < 16 → (w2 l n).getD j 0 = l.getD j 0 := by
  intro n
  induction n with
  | zero => intro j _; rfl
  | succ n ih => intro j hj; simp only [w2]; rw [set_other (by omega), ih j hj]
theorem nxt_congr {l l' : List Int} {j : Nat} (hj : 16 ≤ j) (h : ∀ k, k < j → l.getD k 0 = l'.getD k 0) : nxt l j = nxt l' j := by
  unfold nxt
  rw [h (j - 16) (by omega), h (j - 15) (by omega), h (j - 7) (by omega), h (j - 2) (by omega)]
theorem w2_high (l : List Int) (hl : l.length = 64) : ∀ n, n ≤ 48 → ∀ j, 16 ≤ j → j < 16 + n → (w2 l n).getD j 0 = nxt (w2 l n) j := by
  intro n
  induction n with
  | zero => intro _ j h1 h2; omega
  | succ n ih =>
    intro hn j h1 h2
    have hc : nxt (w2 l (n + 1)) j = nxt (w2 l n) j := nxt_congr h1 fun k hk => by simp only [w2]; rw [set_other (by omega)]
    rw [hc]
    simp only [w2]
    by_cases h : j = 16 + n
    · subst h
      rw [set_same (by rw [w2_len, hl]; omega)]
    · rw [set_other h, ih (by omega) j h1 (by omega)]
theorem sched_low (b : List Int) {i : Nat} (h : i < 16) : (sched b).getD i 0 = word b i := by rw [sched, w2_low _ _ _ h, w1_word b 16 (by omega) i h]
theorem sched_high (b : List Int) {i : Nat} (h : 16 ≤ i) (h2 : i < 64) : (sched b).getD i 0 = nxt (sched b) i := by rw [sched, w2_high _ (w1_len b 16) 48 (by omega) i h (by omega)]
/-- the schedule's words are numbers -/
theorem sched_n (b : List Int) (hw : ∀ i, i < 16 → ∃ n : Nat, word b i = (n : Int) ∧ n < 4294967296) : ∀ i, i < 64 → ∃ n : Nat, (sched b).getD i 0 = (n : Int) ∧ n < 4294967296 := by
  intro i
  induction i using Nat.strongRecOn with
  | _ i ih =>
    intro hi
    by_cases h : i < 16
    · rw [sched_low b h]
      exact hw i h
    · obtain ⟨x0, e0, h0⟩ := ih (i - 16) (by omega) (by omega)
      obtain ⟨x1, e1, h1⟩ := ih (i - 15) (by omega) (by omega)
      obtain ⟨x2, e2, h2⟩ := ih (i - 7) (by omega) (by omega)
      obtain ⟨x3, e3, h3⟩ := ih (i - 2) (by omega) (by omega)
      refine ⟨_, ?_, md_lt (md (md (x0 + fs0 x1) + x2) + fs1 x3)⟩
      rw [sched_high b (by omega) hi, nxt, e0, e1, e2, e3, s0_n h1, s1_n h3, add_n, add_n, add_n]
/-- the words as numbers -/
def xs (b : List Int) (i : Nat) : Nat := ((sched b).getD i 0).toNat
theorem xs_get {b : List Int} (hw : ∀ i, i < 16 → ∃ n : Nat, word b i = (n : Int) ∧ n < 4294967296) {i : Nat} (hi : i < 64) : (sched b).getD i 0 = ((xs b i : Nat) : Int) ∧ xs b i < 4294967296 := by
  obtain ⟨n, e, h⟩ := sched_n b hw i hi
  unfold xs
  rw [e]
  exact ⟨by rw [Int.toNat_natCast], by rw [Int.toNat_natCast]; exact h⟩
theorem xs_next {b : List Int} (hw : ∀ i, i < 16 → ∃ n : Nat, word b i = (n : Int) ∧ n < 4294967296) {i : Nat} (hi : i + 16 < 64) : xs b (i + 16) = md (xs b i + fs0 (xs b (i + 1)) + xs b (i + 9) + fs1 (xs b (i + 14))) := by
  have e0 := xs_get hw (i := i) (by omega)
  have e1 := xs_get hw (i := i + 1) (by omega)
  have e2 := xs_get hw (i := i + 9) (by omega)
  have e3 := xs_get hw (i := i + 14) (by omega)
  have h := sched_high b (i := i + 16) (by omega) hi
  rw [nxt, show i + 16 - 16 = i by omega, show i + 16 - 15 = i + 1 by omega, show i + 16 - 7 = i + 9 by omega, show i + 16 - 2 = i + 14 by omega, e0.1, e1.1, e2.1, e3.1, s0_n e1.2, s1_n e3.2, add_n, add_n, add_n, md_add, (xs_get hw hi).1] at h
  rw [Int.ofNat.inj h, Nat.add_assoc (md _), md_add, ← Nat.add_assoc]
/-- a state: eight words -/
def Ws (s : List Nat) : Prop := ∃ a b c d e f g h, s = [a, b, c, d, e, f, g, h] ∧ a < 4294967296 ∧ b < 4294967296 ∧ c < 4294967296 ∧ d < 4294967296 ∧ e < 4294967296 ∧ f < 4294967296 ∧ g < 4294967296 ∧ h < 4294967296
theorem comp_n {s : List Nat} {b : List Int} (hs : Ws s) (hw : ∀ i, i < 16 → ∃ n : Nat, word b i = (n : Int) ∧ n < 4294967296) :
    comp K (up s) b = up (blk s ((List.range' 0 64).map (xs b))) ∧ Ws (blk s ((List.range' 0 64).map (xs b))) := by
  obtain ⟨a, b1, c, d, e, f, g, h, rfl, h1, h2, h3, h4, h5, h6, h7, h8⟩ := hs
  obtain ⟨a', b', c', d', e', f', g', h', g1, g2⟩ := frs_eq (xs b) (sched b) (up [a, b1, c, d, e, f, g, h]) (fun i hi => (xs_get hw hi).1) 64 0 a b1 c d e f g h rfl rfl h1 h2 h3 h4 h5 h6 h7 h8
  rw [List.drop_zero] at g1
  have e1 : blk [a, b1, c, d, e, f, g, h] ((List.range' 0 64).map (xs b)) = [md (a + a'), md (b1 + b'), md (c + c'), md (d + d'), md (e + e'), md (f + f'), md (g + g'), md (h + h')] := by
    simp only [blk]
    rw [g1]
    simp only [fc_eq]
    rfl
  rw [e1]
  refine ⟨?_, _, _, _, _, _, _, _, _, rfl, md_lt _, md_lt _, md_lt _, md_lt _, md_lt _, md_lt _, md_lt _, md_lt _⟩
  rw [comp, g2]
  show [add (a : Int) a', add (b1 : Int) b', add (c : Int) c', add (d : Int) d', add (e : Int) e', add (f : Int) f', add (g : Int) g', add (h : Int) h'] = _
  rw [add_n, add_n, add_n, add_n, add_n, add_n, add_n, add_n]
  rfl
/-- bytes, as numbers -/
def Bn (l : List Nat) : Prop := ∀ x, x ∈ l → x < 256
theorem Bn.get {l : List Nat} (h : Bn l) (i : Nat) : l.getD i 0 < 256 := by
  rw [List.getD_eq_getElem?_getD]
  cases e : l[i]? with
  | none => decide
  | some x => exact h x (List.mem_of_getElem? e)
theorem conv_n {x : Nat} (h : x < 256) : conv (x : Int) = (x : Int) := by rw [conv, wrap32, Nat.mod_eq_of_lt (by omega)]
theorem word_n {l : List Nat} (h : Bn l) (i : Nat) : word (up l) i = ((fw (l.getD (4 * i) 0) (l.getD (4 * i + 1) 0) (l.getD (4 * i + 2) 0) (l.getD (4 * i + 3) 0) : Nat) : Int) ∧ fw (l.getD (4 * i) 0) (l.getD (4 * i + 1) 0) (l.getD (4 * i + 2) 0) (l.getD (4 * i + 3) 0) < 4294967296 := by
  have a1 := h.get (4 * i)
  have a2 := h.get (4 * i + 1)
  have a3 := h.get (4 * i + 2)
  have a4 := h.get (4 * i + 3)
  rw [word, up_getD, up_getD, up_getD, up_getD, conv_n a1, conv_n a2, conv_n a3, conv_n a4]
  generalize l.getD (4 * i) 0 = a at *
  generalize l.getD (4 * i + 1) 0 = b at *
  generalize l.getD (4 * i + 2) 0 = c at *
  generalize l.getD (4 * i + 3) 0 = d at *
  have b1 : a * 16777216 < 4294967296 := Nat.lt_of_lt_of_le (Nat.mul_lt_mul_of_pos_right a1 (by decide)) (by decide)
  have b2 : b * 65536 < 4294967296 := Nat.lt_of_lt_of_le (Nat.mul_lt_mul_of_pos_right a2 (by decide)) (by decide)
  have b3 : c * 256 < 4294967296 := Nat.lt_of_lt_of_le (Nat.mul_lt_mul_of_pos_right a3 (by decide)) (by decide)
  have b4 : d < 4294967296 := Nat.lt_of_lt_of_le a4 (by decide)
  have m1 : a * 2 ^ 24 % 4294967296 = a * 16777216 := Nat.mod_eq_of_lt b1
  have m2 : b * 2 ^ 16 % 4294967296 = b * 65536 := Nat.mod_eq_of_lt b2
  have m3 : c * 2 ^ 8 % 4294967296 = c * 256 := Nat.mod_eq_of_lt b3
  rw [show (24 : Int) = ((24 : Nat) : Int) from rfl, show (16 : Int) = ((16 : Nat) : Int) from rfl, show (8 : Int) = ((8 : Nat) : Int) from rfl, ishl_n a 24 (by decide), ishl_n b 16 (by decide), ishl_n c 8 (by decide), m1, m2, m3, ior_n b1 b2, ior_n (or_lt b1 b2) b3, ior_n (or_lt (or_lt b1 b2) b3) b4]
  exact ⟨rfl, or_lt (or_lt (or_lt b1 b2) b3) b4⟩
/-- the i-th word -/
def wv (l : List Nat) (i : Nat) : Nat := fw (l.getD (4 * i) 0) (l.getD (4 * i + 1) 0) (l.getD (4 * i + 2) 0) (l.getD (4 * i + 3) 0)
theorem wds_eq : ∀ (n : Nat) (l : List Nat), 4 * n ≤ l.length → wds n l = (List.range n).map (wv l)
  | 0, _, _ => by rw [wds]; rfl
  | n + 1, a :: b :: c :: d :: r, h => by
    rw [wds, wds_eq n r (by simp at h; omega), List.range_succ_eq_map, List.map_cons, List.map_map]
    congr 1
  | n + 1, [], h => by simp at h
  | n + 1, [_], h => by simp at h; omega
  | n + 1, [_, _], h => by simp at h; omega
  | n + 1, [_, _, _], h => by simp at h; omega
theorem blkW_n {s l : List Nat} (hs : Ws s) (hb : Bn l) (hl : 64 ≤ l.length) : comp K (up s) (up l) = up (blkW s (wds 16 l)) ∧ Ws (blkW s (wds 16 l)) := by
  have hw : ∀ i, i < 16 → ∃ n : Nat, word (up l) i = (n : Int) ∧ n < 4294967296 := fun i _ => ⟨_, word_n hb i⟩
  have h := comp_n (b := up l) hs hw
  have e1 := sch_eq (xs (up l)) (fun i hi => xs_next hw hi) 64 0 (wv l) rfl (fun j hj _ => by
    rw [Nat.zero_add, xs, sched_low _ hj, (word_n hb j).1, Int.toNat_natCast]
    rfl)
  rw [wds_eq 16 l (by omega)]
  rw [← e1] at h
  exact h
theorem Bn.drop {l : List Nat} (h : Bn l) (n : Nat) : Bn (l.drop n) := fun x hx => h x (List.mem_of_mem_drop hx)
theorem absN_n : ∀ (n : Nat) (s l : List Nat), Ws s → Bn l → 64 * n ≤ l.length → absorb (up s) (up l) n = up (absN n s l) ∧ Ws (absN n s l)
  | 0, s, l, hs, _, _ => ⟨by rw [absN]; rfl, by rw [absN]; exact hs⟩
  | n + 1, s, l, hs, hb, hl => by
    have h1 := blkW_n hs hb (by omega)
    have h2 := absN_n n (blkW s (wds 16 l)) (l.drop 64) h1.2 (hb.drop 64) (by rw [List.length_drop]; omega)
    rw [absN, Nat.add_comm n 1, absorb_add, up_drop]
    have e1 : absorb (up s) (up l) 1 = comp K (up s) (up l) := by
      show comp K (up s) ((up l).drop 0) = _
      rw [List.drop_zero]
    rw [e1, h1.1]
    exact h2
theorem u8_n (n : Nat) : u8 (n : Int) = ((n % 256 : Nat) : Int) := by
  simp only [u8, IntKind.wrap, IntKind.bits, IntKind.signed]
  simp
theorem be_n (n j : Nat) (hj : j ≤ 7) : be (n : Int) j = ((Nat.mod (Nat.shiftRight n (8 * j)) 256 : Nat) : Int) := by
  have e : min (8 * (j : Int)).toNat IntKind.u64.bits = 8 * j := by simp [IntKind.bits]; omega
  have e2 : (2 : Int) ^ (8 * j) = ((2 ^ (8 * j) : Nat) : Int) := by norm_cast
  rw [be, ishr, e, e2, Int.fdiv_eq_ediv_of_nonneg _ (Int.natCast_nonneg _), ← Int.natCast_ediv, u8_n, ← Nat.shiftRight_eq_div_pow]
  rfl
theorem up_replicate (n : Nat) : up (List.replicate n 0) = List.replicate n 0 := by simp [up]
theorem pad_n (l : List Nat) : up (padN l) = pad (up l) := by
  have hb : bes (8 * ((up l).length : Int)) 8 = [be (8 * ((up l).length : Int)) 7, be (8 * ((up l).length : Int)) 6, be (8 * ((up l).length : Int)) 5, be (8 * ((up l).length : Int)) 4, be (8 * ((up l).length : Int)) 3, be (8 * ((up l).length : Int)) 2, be (8 * ((up l).length : Int)) 1, be (8 * ((up l).length : Int)) 0] := rfl
  have e : 8 * ((up l).length : Int) = ((8 * l.length : Nat) : Int) := by rw [up_length]; omega
  rw [pad, hb, e, be_n _ 7 (by decide), be_n _ 6 (by decide), be_n _ 5 (by decide), be_n _ 4 (by decide), be_n _ 3 (by decide), be_n _ 2 (by decide), be_n _ 1 (by decide), be_n _ 0 (by decide), up_length, padN, up_append, List.append_assoc, List.append_assoc]
  congr 1
  show (128 : Int) :: up (List.replicate (zs l.length) 0 ++ _) = _
  rw [up_append, up_replicate]
  rfl
theorem padN_bytes {l : List Nat} (h : Bn l) : Bn (padN l) := by
  have hm : ∀ k, Nat.mod (Nat.shiftRight (Nat.mul 8 l.length) k) 256 < 256 := fun k => Nat.mod_lt _ (by decide)
  intro x hx
  rw [padN] at hx
  rcases List.mem_append.1 hx with hx | hx
  · exact h x hx
  · rcases List.mem_cons.1 hx with rfl | hx
    · decide
    · rcases List.mem_append.1 hx with hx | hx
      · rw [(List.mem_replicate.1 hx).2]; decide
      · simp only [List.mem_cons, List.not_mem_nil, or_false] at hx
        rcases hx with rfl | rfl | rfl | rfl | rfl | rfl | rfl | rfl <;> exact hm _
theorem hash_n {s : List Nat} (hs : Ws s) : hashL (up s) = up (hashN s) := by
  have key : ∀ i, i < 32 → u8 (ishr .u32 ((up s).getD (i / 4) 0) (24 - 8 * ((i % 4 : Nat) : Int))) = ((Nat.mod (Nat.shiftRight (s.getD (i / 4) 0) (24 - 8 * (i % 4))) 256 : Nat) : Int) := by
    intro i hi
    rw [up_getD, show (24 : Int) - 8 * ((i % 4 : Nat) : Int) = ((24 - 8 * (i % 4) : Nat) : Int) by omega, ishr_n _ _ (by omega), u8_n]
    rfl
  have e1 : hashL (up s) = up ((List.range 32).map fun i => Nat.mod (Nat.shiftRight (s.getD (i / 4) 0) (24 - 8 * (i % 4))) 256) := by
    show (List.range 32).map _ = List.map Int.ofNat (List.map _ _)
    rw [List.map_map]
    exact List.map_congr_left fun i hi => key i (by simpa using hi)
  rw [e1]
  obtain ⟨a, b1, c, d, e, f, g, h, rfl, _⟩ := hs
  rfl
theorem hashN_bytes {s : List Nat} (hs : Ws s) : Bn (hashN s) := by
  obtain ⟨a, b1, c, d, e, f, g, h, rfl, _⟩ := hs
  have hm : ∀ x k, Nat.mod (Nat.shiftRight x k) 256 < 256 := fun x k => Nat.mod_lt _ (by decide)
  intro x hx
  simp only [hashN, byN, List.mem_cons, List.not_mem_nil, or_false] at hx
  rcases hx with rfl | rfl | rfl | rfl | rfl | rfl | rfl | rfl | rfl | rfl | rfl | rfl | rfl | rfl | rfl | rfl | rfl | rfl | rfl | rfl | rfl | rfl | rfl | rfl | rfl | rfl | rfl | rfl | rfl | rfl | rfl | rfl <;> exact hm _ _
theorem SN_ws : Ws SN := ⟨_, _, _, _, _, _, _, _, rfl, by decide, by decide, by decide, by decide, by decide, by decide, by decide, by decide⟩
/-- the digest, as the kernel counts it -/
theorem sha_n {l : List Nat} (h : Bn l) : sha (up l) = up (shaN l) := by
  have hl : (padN l).length = (pad (up l)).length := by rw [← pad_n, up_length]
  have h1 := absN_n ((padN l).length / 64) SN (padN l) SN_ws (padN_bytes h) (Nat.mul_div_le _ _)
  rw [sha, ← pad_n, up_length, show S0 = up SN from rfl, h1.1, hash_n h1.2]
  rfl
theorem shaN_bytes {l : List Nat} (h : Bn l) : Bn (shaN l) :=
  hashN_bytes (absN_n ((padN l).length / 64) SN (padN l) SN_ws (padN_bytes h) (Nat.mul_div_le _ _)).2
end Go.Proofs.Yteedclmcgifmpaa.Sha

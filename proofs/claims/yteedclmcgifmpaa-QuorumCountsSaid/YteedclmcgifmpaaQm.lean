/- Chapter 7: marks, who signed: plain. -/
import Derived.Test.YteedclmcgifmpaaKy
import Derived.Test.YteedclmcgifmpaaFwB
namespace Go.Proofs.Yteedclmcgifmpaa.Qm
open Go Fw Sha Ots Mk Go.Proofs.Yteedclmcgifmpaa
set_option linter.unusedSimpArgs false
set_option linter.unusedVariables false
structure Mark where
  key : List Int
  leaf : Int
  vc : Value
  vp : Value
  cs : List (List Int)
  ps : List (List Int)
def mcells (x : Mark) : List Value := ints .u8 x.key ++ [.int .i64 x.leaf, x.vc, x.vp]
def mflat (ms : List Mark) : List Value := ms.flatMap mcells
def MOk (x : Mark) : Prop := x.key.length = 32 ∧ H32 x.cs ∧ H32 x.ps ∧ x.cs.length ≤ 1000000000 ∧ x.ps.length ≤ 1000000000
def AOk (ms : List Mark) : Prop := ∀ x, x ∈ ms → MOk x
def MRd (w : World) (x : Mark) : Prop := Rd w x.vc 32 (flat x.cs) ∧ Rd w x.vp 32 (flat x.ps)
def Keeps (w w1 : World) : Prop := ∀ b, b < w.heap.size → w1.heap[b]? = w.heap[b]?
theorem Keeps.rd {w w1 : World} (k : Keeps w w1) {v : Value} {sz : Nat} {l : List Value} (h : Rd w v sz l) : Rd w1 v sz l := h.keep fun b hb _ _ => k b hb
theorem Keeps.lies {w w1 : World} (k : Keeps w w1) {b off : Nat} {l : List Value} (h : Lies w b off l) : Lies w1 b off l := h.keep fun hb _ => k b hb
theorem Keeps.mrd {w w1 : World} (k : Keeps w w1) {x : Mark} (h : MRd w x) : MRd w1 x := ⟨k.rd h.1, k.rd h.2⟩
theorem Keeps.of {w0 w1 : World} {H : List (Nat × Ent)} {F : List (Nat × FE)} (sw : Sat w0 [] H F w1) : Keeps w0 w1 := fun b hb => sw.old b hb (by simp)
theorem mcells_len {x : Mark} (h : MOk x) : (mcells x).length = 35 := by simp [mcells, ints_length, h.1]
theorem mflat_len : ∀ {ms : List Mark}, AOk ms → (mflat ms).length = ms.length * 35
  | [], _ => rfl
  | x :: ms, h => by
    have h1 := mcells_len (h x (by simp))
    have h2 := mflat_len (ms := ms) fun y hy => h y (by simp [hy])
    rw [mflat, List.flatMap_cons, List.length_append, h1, List.length_cons]
    have : (List.flatMap mcells ms).length = ms.length * 35 := h2
    omega
theorem mflat_drop : ∀ {ms : List Mark} (i : Nat), AOk ms → (mflat ms).drop (i * 35) = mflat (ms.drop i)
  | ms, 0, _ => by simp
  | [], i + 1, _ => by simp [mflat]
  | x :: ms, i + 1, h => by
    have h1 := mcells_len (h x (by simp))
    have h2 := mflat_drop (ms := ms) i fun y hy => h y (by simp [hy])
    rw [mflat, List.flatMap_cons, List.drop_append, List.drop_eq_nil_of_le (by omega), h1, List.nil_append, show (i + 1) * 35 - 35 = i * 35 by omega]
    exact h2
theorem mflat_get {ms : List Mark} {i : Nat} (h : AOk ms) (hi : i < ms.length) : ((mflat ms).drop (i * 35)).take 35 = mcells ms[i] := by
  have h1 := mcells_len (h ms[i] (List.getElem_mem hi))
  rw [mflat_drop i h, List.drop_eq_getElem_cons hi, mflat, List.flatMap_cons, List.take_left' h1]
theorem mflat_take {ms : List Mark} (n : Nat) (h : AOk ms) : (mflat ms).take (n * 35) = mflat (ms.take n) := by
  induction ms generalizing n with
  | nil => simp [mflat]
  | cons x ms ih =>
    cases n with
    | zero => simp [mflat]
    | succ n =>
      have h1 := mcells_len (h x (by simp))
      have h2 := ih n fun y hy => h y (by simp [hy])
      rw [mflat, List.flatMap_cons, List.take_append, h1, List.take_of_length_le (by omega), show (n + 1) * 35 - 35 = n * 35 by omega, List.take_succ_cons, mflat, List.flatMap_cons]
      congr 1
theorem AOk.take {ms : List Mark} (h : AOk ms) (n : Nat) : AOk (ms.take n) := fun x hx => h x (List.mem_of_mem_take hx)
theorem mkey {x : Mark} (h : MOk x) : ((mcells x).drop 0).take 32 = ints .u8 x.key := by
  rw [List.drop_zero, mcells, List.take_left' (by rw [ints_length, h.1])]
theorem msig {x : Mark} (h : MOk x) : ((mcells x).drop 32).take 3 = [.int .i64 x.leaf, x.vc, x.vp] := by
  rw [mcells, List.drop_left' (by rw [ints_length, h.1])]; rfl
def hits (h body : List Int) (x : Mark) : Prop := x.key = h ∧ Ky.verP h body x.leaf x.cs x.ps
instance (h body : List Int) (x : Mark) : Decidable (hits h body x) := by unfold hits; infer_instance
def some4 (body : List Int) (ms : List Mark) (h : List Int) : Prop := ∃ x, x ∈ ms.take 4 ∧ hits h body x
instance (body : List Int) (ms : List Mark) (h : List Int) : Decidable (some4 body ms h) := by unfold some4; infer_instance
/-- those keys that signed -/
def who (body : List Int) (ms : List Mark) : List (List Int) → List (List Int)
  | ks => ks.foldl (fun l h => if h ∉ l ∧ some4 body ms h then l ++ [h] else l) []
theorem who_snoc (body : List Int) (ms : List Mark) (ks : List (List Int)) (h : List Int) : who body ms (ks ++ [h]) = if h ∉ who body ms ks ∧ some4 body ms h then who body ms ks ++ [h] else who body ms ks := by
  rw [who, List.foldl_append]; rfl
theorem who_h32 (body : List Int) (ms : List Mark) {ks : List (List Int)} (hu : H32 ks) : H32 (who body ms ks) ∧ (who body ms ks).length ≤ ks.length := by
  have key : ∀ n, n ≤ ks.length → H32 (who body ms (ks.take n)) ∧ (who body ms (ks.take n)).length ≤ n := by
    intro n
    induction n with
    | zero => intro _; exact ⟨by rw [List.take_zero]; exact H32.nil, by rw [List.take_zero]; exact Nat.le_refl _⟩
    | succ n ih =>
      intro hn
      obtain ⟨h1, h2⟩ := ih (by omega)
      rw [List.take_succ_eq_append_getElem (by omega), who_snoc]
      split
      · exact ⟨h1.snoc (hu _ (List.getElem_mem _)), by rw [List.length_append]; simp; omega⟩
      · exact ⟨h1, by omega⟩
  have := key ks.length (Nat.le_refl _)
  rwa [List.take_length] at this
/-- the first that p holds of, or -1 -/
def firstP {α : Type} (p : α → Bool) (l : List α) : Int := match l.findIdx? p with | some i => i | none => -1
theorem firstP_ge {α : Type} (p : α → Bool) (l : List α) : decide (0 ≤ firstP p l) = l.any p := by
  cases h : l.findIdx? p with
  | none =>
    rw [firstP, h]
    have := List.findIdx?_eq_none_iff.1 h
    have h2 : l.any p = false := by rw [List.any_eq_false]; intro x hx; rw [this x hx]; simp
    rw [h2]; rfl
  | some i =>
    rw [firstP, h]
    have := List.findIdx?_eq_some_iff_getElem.1 h
    obtain ⟨hi, hp, _⟩ := this
    have h2 : l.any p = true := List.any_eq_true.2 ⟨l[i], List.getElem_mem hi, hp⟩
    rw [h2]
    exact decide_eq_true (Int.natCast_nonneg i)
theorem firstP_hit {α : Type} {p : α → Bool} {l : List α} {i : Nat} (hi : i < l.length) (h1 : ∀ j, (hj : j < i) → p (l[j]'(by omega)) = false) (h2 : p l[i] = true) : firstP p l = i := by
  have : l.findIdx? p = some i := List.findIdx?_eq_some_iff_getElem.2 ⟨hi, h2, fun j hj => by rw [h1 j hj]; simp⟩
  rw [firstP, this]
theorem firstP_miss {α : Type} {p : α → Bool} {l : List α} (h1 : ∀ j, (hj : j < l.length) → p l[j] = false) : firstP p l = -1 := by
  have : l.findIdx? p = none := List.findIdx?_eq_none_iff.2 fun x hx => by
    obtain ⟨j, hj, rfl⟩ := List.getElem_of_mem hx
    exact h1 j hj
  rw [firstP, this]
end Go.Proofs.Yteedclmcgifmpaa.Qm

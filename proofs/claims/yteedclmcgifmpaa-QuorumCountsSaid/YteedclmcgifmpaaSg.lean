/- Chapter 7: what the laws' envelopes hold: plain. -/
import Derived.Test.YteedclmcgifmpaaQm
import Derived.Test.YteedclmcgifmpaaFwB
namespace Go.Proofs.Yteedclmcgifmpaa.Qm
open Go Fw Sha Ots Mk Go.Proofs.Yteedclmcgifmpaa
set_option linter.unusedSimpArgs false
set_option linter.unusedVariables false
def sd (i : Nat) : List Int := (i : Int) :: List.replicate 31 0
theorem sd_len (i : Nat) : (sd i).length = 32 := by simp [sd]
abbrev Sp := List Int × Int × List (List Int) × List (List Int)
def strip (m : Mark) : Sp := (m.key, m.leaf, m.cs, m.ps)
def exp1 (body : List Int) (i n : Nat) : Sp := (Ky.keyPub (sd i), (n : Int), sign (sd i) n body 36, path (Ky.leaves (sd i) 16) n)
def bit (which : Int) (i : Nat) : Prop := iand .i64 (ishr .i64 which (i : Int)) 1 = 1
instance (which : Int) (i : Nat) : Decidable (bit which i) := by unfold bit; infer_instance
def step (body : List Int) (which : Int) (tw : Bool) (i : Nat) : List Sp := if bit which i then [exp1 body i 0] ++ (if tw = true ∧ i = 0 then [exp1 body i 1] else []) else []
def expd (body : List Int) (which : Int) (tw : Bool) : Nat → List Sp
  | 0 => []
  | i + 1 => expd body which tw i ++ step body which tw i
def keysK (n : Nat) : List (List Int) := (List.range n).map fun i => Ky.keyPub (sd i)
theorem keysK_snoc (n : Nat) : keysK (n + 1) = keysK n ++ [Ky.keyPub (sd n)] := by simp [keysK, List.range_succ]
theorem keysK_len (n : Nat) : (keysK n).length = n := by simp [keysK]
theorem keysK_h32 (n : Nat) : H32 (keysK n) := fun h hh => by
  simp only [keysK, List.mem_map] at hh
  obtain ⟨c, _, rfl⟩ := hh
  exact Ky.keyPub_len _
theorem expd_mem {body : List Int} {which : Int} {tw : Bool} : ∀ {n : Nat} {s : Sp}, s ∈ expd body which tw n → ∃ i k, i < n ∧ k < 2 ∧ s = exp1 body i k
  | 0, _, h => by cases h
  | n + 1, s, h => by
    rcases List.mem_append.1 h with h | h
    · obtain ⟨i, k, hi, hk, e⟩ := expd_mem h
      exact ⟨i, k, by omega, hk, e⟩
    · unfold step at h
      split at h
      · rcases List.mem_append.1 h with h | h
        · exact ⟨n, 0, by omega, by omega, List.mem_singleton.1 h⟩
        · split at h
          · exact ⟨n, 1, by omega, by omega, List.mem_singleton.1 h⟩
          · cases h
      · cases h
theorem expd_len (body : List Int) (which : Int) (tw : Bool) : ∀ n, (expd body which tw n).length ≤ 2 * n
  | 0 => Nat.le_refl _
  | n + 1 => by
    have := expd_len body which tw n
    have h : (step body which tw n).length ≤ 2 := by unfold step; split <;> (try split) <;> simp
    rw [expd, List.length_append]
    omega
theorem aok_of {body : List Int} {which : Int} {tw : Bool} {n : Nat} {ms : List Mark} (h : ms.map strip = expd body which tw n) : AOk ms := fun m hm => by
  have h1 : strip m ∈ expd body which tw n := by rw [← h]; exact List.mem_map_of_mem hm
  obtain ⟨i, k, hi, hk, e⟩ := expd_mem h1
  simp only [strip, exp1, Prod.mk.injEq] at e
  obtain ⟨e1, e2, e3, e4⟩ := e
  have hp := (Ky.way_up (sd i) (n := k) (by omega)).1
  refine ⟨by rw [e1]; exact Ky.keyPub_len _, by rw [e3]; exact sign_h32 _ _ _ _, by rw [e4]; exact path_h32 _ _ _ (Nat.le_refl _) (Ky.leaves_h32 _ _), by rw [e3, sign_len]; decide, by rw [e4, hp]; decide⟩
def covers (R : List (Value × Nat × List Value)) (ms : List Mark) : Prop := ∀ m, m ∈ ms → (m.vc, 32, flat m.cs) ∈ R ∧ (m.vp, 32, flat m.ps) ∈ R
def FR (w : World) (R : List (Value × Nat × List Value)) : Prop := ∀ y, y ∈ R → ∀ b, b ∈ blkOf y.1 → w.heap.size ≤ b
theorem covers.snoc {R : List (Value × Nat × List Value)} {ms : List Mark} (h : covers R ms) (m : Mark) : covers ((m.vp, 32, flat m.ps) :: (m.vc, 32, flat m.cs) :: R) (ms ++ [m]) := fun x hx => by
  rcases List.mem_append.1 hx with hx | hx
  · exact ⟨List.mem_cons_of_mem _ (List.mem_cons_of_mem _ (h x hx).1), List.mem_cons_of_mem _ (List.mem_cons_of_mem _ (h x hx).2)⟩
  · obtain rfl := List.mem_singleton.1 hx
    exact ⟨List.mem_cons_of_mem _ (List.mem_cons_self ..), List.mem_cons_self ..⟩
theorem FR.cons {w : World} {R : List (Value × Nat × List Value)} (h : FR w R) {v : Value} {sz : Nat} {l : List Value} (hv : ∀ b, b ∈ blkOf v → w.heap.size ≤ b ∨ b ∈ ([] : List Nat)) : FR w ((v, sz, l) :: R) := fun y hy => by
  rcases List.mem_cons.1 hy with rfl | hy
  · exact fun b hb => (hv b hb).resolve_right (by simp)
  · exact h y hy
theorem mflat_snoc (ms : List Mark) (m : Mark) : mflat ms ++ mcells m = mflat (ms ++ [m]) := by simp [mflat]
theorem mone {m : Mark} (h1 : m.vc.oneCell' = true) (h2 : m.vp.oneCell' = true) : ∀ u, u ∈ mcells m → u.oneCell' = true := fun u hu => by
  rcases List.mem_append.1 hu with hu | hu
  · exact ints_one _ _ u hu
  · simp at hu
    rcases hu with rfl | rfl | rfl
    · rfl
    · exact h1
    · exact h2
theorem mark_new {k : List Int} (hk : k.length = 32) (a b c : Value) : wr (wr (ints .u8 (List.replicate 32 0) ++ [.int .i64 0, .slice none 0 0, .slice none 0 0]) 0 (ints .u8 k)) 32 [a, b, c] = ints .u8 k ++ [a, b, c] := by
  have h1 : wr (ints .u8 (List.replicate 32 0) ++ [Value.int .i64 0, .slice none 0 0, .slice none 0 0]) 0 (ints .u8 k) = ints .u8 k ++ [.int .i64 0, .slice none 0 0, .slice none 0 0] := by
    rw [wr, List.take_zero, List.nil_append, ints_length, hk, Nat.zero_add, List.drop_left' (by simp [ints_length])]
  rw [h1, wr, List.take_left' (by rw [ints_length, hk]), List.drop_eq_nil_of_le (by simp [ints_length, hk]), List.append_nil]
theorem sd_new (i : Nat) : wr (ints .u8 (List.replicate 32 0)) 0 [.int .u8 (i : Int)] = ints .u8 (sd i) := by
  rw [wr_one (by simp [ints_length]), ints_set]
  rfl
end Go.Proofs.Yteedclmcgifmpaa.Qm

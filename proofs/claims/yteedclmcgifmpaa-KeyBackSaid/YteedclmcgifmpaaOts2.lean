/- Chapter 3 in Nat, for the kernel. -/
import Derived.Test.YteedclmcgifmpaaOts
namespace Go.Proofs.Yteedclmcgifmpaa.Ots
open Go Fw Sha
set_option linter.unusedSimpArgs false
set_option linter.unusedVariables false

def wayN (c : Nat) (h : List Nat) (a : Nat) : Nat → List Nat
  | 0 => h
  | n + 1 => shaN (1 :: c :: (a + n) :: wayN c h a n)
def secN (s : List Nat) (l c : Nat) : List Nat := shaN (0 :: (s ++ [l, c]))
def texN (f : Nat → List Nat) : Nat → List Nat
  | 0 => [2]
  | n + 1 => texN f n ++ f n
def pubN (s : List Nat) (l : Nat) : List Nat := shaN (texN (fun c => wayN c (secN s l c) 0 3) 36)
theorem wrap8 {n : Nat} (h : n < 256) : IntKind.u8.wrap (n : Int) = (n : Int) := by
  have := u8_n n
  rw [Nat.mod_eq_of_lt h] at this
  exact this
theorem _root_.Go.Proofs.Yteedclmcgifmpaa.Sha.Bn.cons {x : Nat} {l : List Nat} (h1 : x < 256) (h2 : Bn l) : Bn (x :: l) := fun y hy => (List.mem_cons.1 hy).elim (fun e => e ▸ h1) (h2 y)
theorem _root_.Go.Proofs.Yteedclmcgifmpaa.Sha.Bn.append {a b : List Nat} (h1 : Bn a) (h2 : Bn b) : Bn (a ++ b) := fun y hy => (List.mem_append.1 hy).elim (h1 y) (h2 y)
theorem _root_.Go.Proofs.Yteedclmcgifmpaa.Sha.Bn.nil : Bn [] := fun y hy => by cases hy
theorem way_n {c : Nat} {h : List Nat} (hc : c < 256) (hb : Bn h) (a : Nat) : ∀ n, a + n ≤ 256 → way (c : Int) (up h) a n = up (wayN c h a n) ∧ Bn (wayN c h a n)
  | 0, _ => ⟨rfl, hb⟩
  | n + 1, hn => by
    obtain ⟨h1, h2⟩ := way_n hc hb a n (by omega)
    have h3 : Bn (1 :: c :: (a + n) :: wayN c h a n) := .cons (by decide) (.cons hc (.cons (by omega) h2))
    rw [way, wayN, wrap8 hc, wrap8 (by omega), h1, ← sha_n h3]
    exact ⟨rfl, shaN_bytes h3⟩
theorem sec_n {s : List Nat} {l c : Nat} (hs : Bn s) (hl : l < 256) (hc : c < 256) : secret (up s) l c = up (secN s l c) ∧ Bn (secN s l c) := by
  have h3 : Bn (0 :: (s ++ [l, c])) := .cons (by decide) (.append hs (.cons hl (.cons hc .nil)))
  rw [secret, secN, wrap8 hc, wrap8 hl, ← sha_n h3]
  refine ⟨?_, shaN_bytes h3⟩
  congr 1
  simp [up]
theorem tex_n {f : Nat → List Int} {g : Nat → List Nat} : ∀ n, (∀ i, i < n → f i = up (g i) ∧ Bn (g i)) → tex f n = up (texN g n) ∧ Bn (texN g n)
  | 0, _ => ⟨rfl, .cons (by decide) .nil⟩
  | n + 1, h => by
    obtain ⟨h1, h2⟩ := tex_n n (fun i hi => h i (by omega))
    obtain ⟨h3, h4⟩ := h n (by omega)
    rw [tex, texN, h1, h3, up_append]
    exact ⟨rfl, .append h2 h4⟩
theorem pub_n {s : List Nat} {l : Nat} (hs : Bn s) (hl : l < 256) : pub (up s) l = up (pubN s l) ∧ Bn (pubN s l) := by
  obtain ⟨h1, h2⟩ := tex_n (f := fun c => walk (secret (up s) l c) c 0 3) (g := fun c => wayN c (secN s l c) 0 3) 36 (fun i hi => by
    obtain ⟨h3, h4⟩ := sec_n (c := i) hs hl (by omega)
    obtain ⟨h5, h6⟩ := way_n (c := i) (by omega) h4 0 3 (by decide)
    refine ⟨?_, h6⟩
    rw [← h5, ← h3]
    rfl)
  rw [pub, ends, h1, sha_n h2, pubN]
  exact ⟨rfl, shaN_bytes h2⟩
set_option maxRecDepth 100000 in
theorem pub0N : (pubN (List.replicate 32 0) 0 == List.replicate 32 0) = false := by decide +kernel
theorem up_inj {a b : List Nat} (h : up a = up b) : a = b := by
  apply List.ext_getElem
  · have := congrArg List.length h; rwa [up_length, up_length] at this
  · intro i h1 h2
    have := congrArg (fun l => l.getD i 0) h
    simp only [up_getD] at this
    have := Int.ofNat.inj this
    simpa [List.getD_eq_getElem?_getD, h1, h2] using this
/-- the public one of noughts is not noughts -/
theorem pub0 : pub (List.replicate 32 0) 0 ≠ List.replicate 32 0 := by
  intro h
  have hs : Bn (List.replicate 32 0) := fun x hx => by rw [(List.mem_replicate.1 hx).2]; decide
  have h1 := (pub_n hs (show 0 < 256 by decide)).1
  have h2 : (List.replicate 32 0 : List Int) = up (List.replicate 32 0) := by rw [up_replicate]
  rw [← h2] at h1
  have h3 : up (pubN (List.replicate 32 0) 0) = up (List.replicate 32 0) := by rw [← h1, ← h2]; exact h
  have h4 := up_inj h3
  have h5 := pub0N
  rw [h4] at h5
  exact absurd h5 (by decide)
end Go.Proofs.Yteedclmcgifmpaa.Ots

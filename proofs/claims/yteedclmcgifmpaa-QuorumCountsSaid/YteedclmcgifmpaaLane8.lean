/- Keys of seeds of one byte, as the kernel counts them. -/
import Derived.Test.YteedclmcgifmpaaLaneA
import Derived.Test.YteedclmcgifmpaaKy
namespace Go.Proofs.Yteedclmcgifmpaa.Sha
open Go Fw Ots Mk
set_option linter.unusedSimpArgs false
set_option linter.unusedVariables false
def hx (x : Nat) : List Int := up (upk 32 x)
theorem up_cons (x : Nat) (l : List Nat) : up (x :: l) = (x : Int) :: up l := rfl
theorem node_n {A B : List Nat} (ha : Bn A) (hb : Bn B) : node (up A) (up B) = up (shaN (3 :: (A ++ B))) ∧ Bn (3 :: (A ++ B)) := by
  have h : Bn (3 :: (A ++ B)) := .cons (by decide) (.append ha hb)
  refine ⟨?_, h⟩
  rw [← sha_n h, up_cons, up_append]
  rfl
theorem named_n {A : List Nat} (ha : Bn A) : Ky.named (up A) = up (shaN (4 :: A)) ∧ Bn (4 :: A) := by
  have h : Bn (4 :: A) := .cons (by decide) ha
  refine ⟨?_, h⟩
  rw [← sha_n h, up_cons]
  rfl
theorem hx_of {x : List Nat} (h : Bn x) : up (shaN x) = hx (hp x) := by rw [hx, hp_up h]
theorem node_hx (a b : Nat) : node (hx a) (hx b) = hx (nodeP a b) := by
  obtain ⟨h1, h2⟩ := node_n (upk_bn 32 a) (upk_bn 32 b)
  rw [nodeP, force_eq, force_eq, ← hx_of h2, ← h1, hx, hx]
theorem rootP_eq : ∀ (h : Nat) (l : List Nat), l.length = 2 ^ h → root (l.map hx) = hx (rootP h l)
  | 0, l, hl => by
    match l, hl with
    | [x], _ => rw [List.map_cons, List.map_nil, root_one]; rfl
  | h + 1, l, hl => by
    have hp : 0 < 2 ^ h := Nat.pow_pos (by decide)
    have e2 : 2 ^ (h + 1) = 2 * 2 ^ h := by rw [Nat.pow_succ]; omega
    rw [root_two (by rw [List.length_map, hl, e2]; omega), List.length_map, hl, half_pow, ← List.map_take, ← List.map_drop, rootP_eq h (l.take (2 ^ h)) (by rw [List.length_take, hl]; omega), rootP_eq h (l.drop (2 ^ h)) (by rw [List.length_drop, hl]; omega), node_hx]
    rfl
theorem named_hx (a : Nat) : Ky.named (hx a) = hx (namedP a) := by
  obtain ⟨h1, h2⟩ := named_n (upk_bn 32 a)
  rw [namedP, force_eq, ← hx_of h2, ← h1, hx]
theorem hx_pk {A : List Nat} (hl : A.length = 32) (h : Bn A) : hx (pk A) = up A := by rw [hx, upk_pk 32 A hl h]
def keyP (T : List Nat) (k : Nat) : Nat := namedP (rootP 4 ((List.range 16).map fun l => pk (hashN (lane T (16 * k + l)))))
theorem key_by {T : List Nat} (hT : pubC 80 kK kL (fun l => l) = T) {k : Nat} (hk : k < 5) : Ky.keyPub (up (k :: List.replicate 31 0)) = hx (keyP T k) := by
  have e : Ky.leaves (up (k :: List.replicate 31 0)) 16 = ((List.range 16).map fun l => pk (hashN (lane T (16 * k + l)))).map hx := by
    rw [Ky.leaves, List.map_map]
    refine List.map_congr_left fun l hl => ?_
    have hl : l < 16 := List.mem_range.1 hl
    obtain ⟨h1, h2⟩ := leaf_lane hT hk hl
    have h3 : (hashN (lane T (16 * k + l))).length = 32 := by
      have h4 : (pub (up (k :: List.replicate 31 0)) (l : Int)).length = 32 := sha_len _
      rwa [h1, up_length] at h4
    rw [Function.comp_apply, hx_pk h3 h2, h1]
  rw [Ky.keyPub, e, rootP_eq 4 _ (by rw [List.length_map, List.length_range]), named_hx, keyP]
theorem pk_upk : ∀ (n a : Nat), a < 256 ^ n → pk (upk n a) = a
  | 0, a, h => by rw [Nat.pow_zero] at h; rw [upk]; show 0 = a; omega
  | n + 1, a, h => by
    have h1 : a / 256 < 256 ^ n := Nat.div_lt_of_lt_mul (by rw [Nat.pow_succ] at h; omega)
    rw [upk, pk_snoc, pk_upk n _ h1]
    omega
theorem hx_inj {a b : Nat} (ha : a < 256 ^ 32) (hb : b < 256 ^ 32) (h : hx a = hx b) : a = b := by
  have h1 : upk 32 a = upk 32 b := up_inj (by rw [hx, hx] at h; exact h)
  rw [← pk_upk 32 a ha, ← pk_upk 32 b hb, h1]
end Go.Proofs.Yteedclmcgifmpaa.Sha

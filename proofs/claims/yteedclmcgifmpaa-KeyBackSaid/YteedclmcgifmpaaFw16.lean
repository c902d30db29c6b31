/- A cell of an array that lies among a slice's cells. -/
import Derived.Test.YteedclmcgifmpaaFw15
namespace Go.Proofs.Yteedclmcgifmpaa.Fw
open Go Go.RowKit Go.Proofs.Yteedclmcgifmpaa
set_option linter.unusedSimpArgs false
set_option linter.unusedVariables false
section
variable {P : Program} {E : Env} {L : List (Nat × Value)} {H : List (Nat × Ent)} {F : List (Nat × FE)}
variable {dst : Option Tmp} {ty : TypeId} {pos : String} {af : Array Edge} {gd : Option (Nat × Bool)}
theorem ptrIn_rd {w : World} {v : Value} {sz k : Nat} {l : List Value} (hr : Rd w v sz l) (hk : k < l.length) : ∃ b off, ptrAt v k = .pointer (some ⟨b, off, none⟩) ∧ ∀ j, ptrAt v (k + j) = .pointer (some ⟨b, off + j, none⟩) := by
  obtain ⟨b, len, cap, rfl, h1, h2, h3, h4⟩ := hr
  cases b with
  | none =>
    have := h3 rfl
    have : len = 0 := by omega
    subst this
    simp at h1
    simp [h1] at hk
  | some y => exact ⟨y.block, y.off + k, rfl, fun j => by simp [ptrAt, Nat.add_assoc]⟩
theorem ev_idxIn {x y : Operand} {T e : TypeId} {n k sz sz' bytes : Nat} {v z : Value} {d : TypeDesc} {l : List Value} {kk : IntKind} {i : Int} (hT : P.underlying T = some (.array n e)) (ht : Ty P e d sz' bytes z)
    (hx : ev L x = some (ptrAt v k)) (hy : ev L y = some (.int kk i)) (hr : ∀ w, Sat E.w0 E.X H F w → Rd w v sz l) (hk : k < l.length) (h0 : 0 ≤ i) (h1 : i < n) :
    Ev P ⟨dst, .indexAddr T x y, ty, pos, af, gd⟩ E L H F (ptrAt v (k + i.toNat * sz')) :=
  fun a w fa sw => by
    obtain ⟨b, off, e1, e2⟩ := ptrIn_rd (hr w sw) hk
    rw [e2]
    rw [e1] at hx
    exact ev_indexAddr_arr (P := P) (E := E) (H := H) (F := F) (dst := dst) (ty := ty) (pos := pos) (af := af) (gd := gd) hT ht hx hy h0 h1 a w fa sw
/-- A part of a struct that lies among a slice's cells. -/
theorem ev_fieldIn {x : Operand} {T : TypeId} {n k sz off' i : Nat} {v : Value} {l : List Value} {fs : Array Field} {f : Field} (hT : P.underlying T = some (.struct fs)) (hi : fs[i]? = some f) (ho : f.offset = off')
    (hx : ev L x = some (ptrAt v k)) (hr : ∀ w, Sat E.w0 E.X H F w → Rd w v sz l) (hk : k < l.length) (hf : ∀ b off, ev L x = some (.pointer (some ⟨b, off, none⟩)) → Ev P ⟨dst, .fieldAddr T x i, ty, pos, af, gd⟩ E L H F (.pointer (some ⟨b, off + off', none⟩))) :
    Ev P ⟨dst, .fieldAddr T x i, ty, pos, af, gd⟩ E L H F (ptrAt v (k + off')) :=
  fun a w fa sw => by
    obtain ⟨b, off, e1, e2⟩ := ptrIn_rd (hr w sw) hk
    rw [e2]
    exact hf b off (by rw [hx, e1]) a w fa sw
end
end Go.Proofs.Yteedclmcgifmpaa.Fw

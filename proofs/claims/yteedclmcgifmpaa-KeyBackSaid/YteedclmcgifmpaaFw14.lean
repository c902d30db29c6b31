/- Structs built of parts. -/
import Derived.Test.YteedclmcgifmpaaFw12
namespace Go.Proofs.Yteedclmcgifmpaa.Fw
open Go Go.RowKit
set_option linter.unusedVariables false
set_option linter.unusedSimpArgs false

theorem wr_none (z : List Value) (k : Nat) : wr z k [] = z := by simp [wr]
theorem fold_put : ∀ (vs : List Value) (k off : Nat) (z : List Value), off + k + vs.length ≤ z.length → (vs.zipIdx k).foldl (fun (cs : Array Value) (x : Value × Nat) => cs.setIfInBounds (off + x.2) x.1) z.toArray = (wr z (off + k) vs).toArray
  | [], k, off, z, _ => by rw [wr_none]; rfl
  | v :: vs, k, off, z, h => by
    simp only [List.length_cons] at h
    rw [List.zipIdx_cons, List.foldl_cons, List.setIfInBounds_toArray, fold_put vs (k + 1) off (z.set (off + k) v) (by rw [List.length_set]; omega), wr_cons (by omega)]
    rfl
theorem fill_nil {pl : Nat → Option (Nat × Nat)} {z : Array Value} : Instr.fill pl z [] = some z := by simp [Instr.fill]
theorem fill_put {pl : Nat → Option (Nat × Nat)} {i off n : Nat} {z vs : List Value} {v : Value} {rest : List (Nat × Value)} (hp : pl i = some (off, n)) (hv : v.cells = vs.toArray) (hn : vs.length = n) (hl : off + n ≤ z.length) :
    Instr.fill pl z.toArray ((i, v) :: rest) = Instr.fill pl (wr z off vs).toArray rest := by
  have h2 : (vs.toArray.size != n || decide (off + vs.toArray.size > z.toArray.size)) = false := by simp; omega
  have h3 := fold_put vs 0 off z (by omega)
  rw [Nat.add_zero] at h3
  have h4 : vs.toArray.zipIdx.foldl (fun (cs : Array Value) (x : Value × Nat) => cs.setIfInBounds (off + x.2) x.1) z.toArray = (wr z off vs).toArray := by
    rw [← h3]
    simp
  simp only [Instr.fill, hp, hv]
  rw [if_neg (by simp; omega)]
  exact congrArg (fun x => Instr.fill pl x rest) h4
theorem put_last {z a : List Value} {x : Value} {n : Nat} (ha : a.length = n) (hz : z.length = n + 1) : wr (wr z 0 a) n [x] = a ++ [x] := by
  simp [wr, ha, hz, List.take_append_of_le_length, List.drop_append, List.take_of_length_le, List.drop_of_length_le]

/-- an array among a slice's cells, as a slice -/
def arrAt (v : Value) (k n : Nat) : Value := match v with
  | .slice (some a) _ _ => .slice (some ⟨a.block, a.off + k, none⟩) n n
  | _ => .slice none 0 0
theorem rd_arr {w : World} {v : Value} {sz k n : Nat} {l : List Value} (hr : Rd w v sz l) (hk : k + n ≤ l.length) (hn : 0 < n) : Rd w (arrAt v k n) 1 ((l.drop k).take n) := by
  obtain ⟨a, len, cap, rfl, h1, h2, h3, h4⟩ := hr
  cases a with
  | none =>
    have := h3 rfl
    have : len = 0 := by omega
    subst this
    simp at h1
    simp [h1] at hk
    omega
  | some x =>
    refine ⟨_, n, n, rfl, by simp; omega, Nat.le_refl _, (fun h => by cases h), fun y hy => ?_⟩
    cases hy
    refine ⟨rfl, fun i hi => ?_⟩
    have hi' : i < n := by simp at hi; omega
    have := (h4 x rfl).2 (k + i) (by omega)
    show w.cell? ⟨x.block, x.off + k + i, none⟩ = _
    rw [Nat.add_assoc, this, List.getElem?_take, if_pos hi', List.getElem?_drop]
theorem rd_arrh {w : World} {v : Value} {i : Nat} {hs : List (List Int)} (hr : Rd w v 32 (flat hs)) (hu : H32 hs) (hi : i < hs.length) : Rd w (arrAt v (i * 32) 32) 1 (ints .u8 (hs.getD i [])) := by
  have := rd_arr (k := i * 32) (n := 32) hr (by rw [flat_len hu]; omega) (by decide)
  rwa [flat_get hu hi] at this
section
variable {P : Program} {E : Env} {L : List (Nat × Value)} {H : List (Nat × Ent)} {F : List (Nat × FE)}
variable {dst : Option Tmp} {ty : TypeId} {pos : String} {af : Array Edge} {gd : Option (Nat × Bool)}
theorem ev_arrAt {x : Operand} {T e n k sz sz' bytes : Nat} {v z : Value} {d : TypeDesc} {l : List Value} (hT : P.underlying T = some (.array n e)) (ht : Ty P e d sz' bytes z) (hx : ev L x = some (ptrAt v k)) (hr : ∀ w, Sat E.w0 E.X H F w → Rd w v sz l)
    (hk : k < l.length) : Ev P ⟨dst, .slice T x none none none, ty, pos, af, gd⟩ E L H F (arrAt v k n) :=
  fun a w fa sw => by
    obtain ⟨b, len, cap, rfl, h1, h2, h3, h4⟩ := hr w sw
    cases b with
    | none =>
      have := h3 rfl
      have : len = 0 := by omega
      subst this
      simp at h1
      simp [h1] at hk
    | some y =>
      have e1 : ptrAt (.slice (some y) len cap) k = .pointer (some ⟨y.block, y.off + k, none⟩) := by
        have := (h4 y rfl).1
        obtain ⟨yb, yo, ys⟩ := y
        simp only at this
        subst this
        rfl
      rw [e1] at hx
      exact ev_slice_arr_all (P := P) (E := E) (L := L) (H := H) (F := F) (dst := dst) (ty := ty) (pos := pos) (af := af) (gd := gd) hT ht hx a w fa sw
end
section
variable {P : Program} {Q : Exit → Act → World → Prop} {ops : Array Oper} {rest : List Oper} {E : Env} {L : List (Nat × Value)} {H : List (Nat × Ent)} {F : List (Nat × FE)}
variable {ty : TypeId} {pos : String} {af : Array Edge} {gd : Option (Nat × Bool)}
/-- A slice of one hash. -/
theorem st_bsh1 {dst T e bytes : Nat} {x : Operand} {d : TypeDesc} {z : Value} {hv : List Int} (h : Nat) (hT : P.underlying T = some (.slice e)) (ht : Ty P e d 32 bytes z)
    (hx : ev L x = some (.agg (ints .u8 hv).toArray)) (h1 : hv.length = 32) (hg : wants ops L gd = some true) (hn : Nat.ble (dst + 1) E.n = true)
    (k : ∀ b, H32 [hv] → At (wpList P ops Q rest) E ((dst, .slice (some ⟨b, 0, none⟩) 1 1) :: L) ((h, .own (.slice (some ⟨b, 0, none⟩) 1 1) e 32 (flat [hv])) :: H) F) :
    At (wpList P ops Q (⟨some dst, .buildSlice T 1 #[(0, x)], ty, pos, af, gd⟩ :: rest)) E L H F := by
  refine st_buildSlice (vs := [.agg (ints .u8 hv).toArray]) (cells := flat [hv]) h hT ht (by simp [evs, hx]) (by decide) ?_ (by rw [flat_len (.one h1)]; rfl) hg hn (fun b => k b (.one h1))
  generalize hA : (Array.range (1 * 32)).map (fun i => (if 1 * 32 = 0 then #[] else z.cells)[i % (if 1 * 32 = 0 then #[] else z.cells : Array Value).size]!) = A
  have hl : A.size = 32 := by rw [← hA]; simp
  have h2 := fill_put (pl := fun i => some (i * 32, 32)) (i := 0) (off := 0) (n := 32) (z := A.toList) (vs := ints .u8 hv) (v := .agg (ints .u8 hv).toArray) (rest := []) rfl rfl (by rw [ints_length, h1]) (by simp [hl])
  rw [Array.toArray_toList, fill_nil, wr_all (by rw [ints_length, h1]; simp [hl])] at h2
  rw [flat_one]
  exact h2
end
section
variable {P : Program} {fn : Func} {R : Ending → World → Prop} {E : Env} {L : List (Nat × Value)} {H : List (Nat × Ent)} {F : List (Nat × FE)}
/-- Two results: one lies in a block, one in a register. -/
theorem rt_cell_tmp {ta T h0 b sz bytes : Nat} {u : Tmp} {v' : Value} {d : TypeDesc} {z : Value} {l : List Value} {TT : TypeId} {fz : Nat × Nat} {e : Exit} (he : e = .ret ∨ e = .normal) (hr : fn.results = #[.cell ta T, .tmp u]) (ht : Ty P T d sz bytes z) (hd : aggD d = true)
    (hv : lk L ta = some (.pointer (some ⟨b, 0, none⟩))) (hh : lk H h0 = some (.blk b (.cells l.toArray TT fz))) (hl : l.length = sz) (hv' : lk L u = some v') (h : ∀ w, Sat E.w0 E.X H F w → R (.returned (.tuple #[.agg l.toArray, v'])) w) : AtX (bodyPost P fn R) e E L H F := by
  intro a w fa sw
  have hx := fa.2.2 ta _ hv
  have hx' := fa.2.2 u v' hv'
  have : (results fn a.tmps).run P w = .ok (.tuple #[.agg l.toArray, v']) w := by
    have h2 := run_loadVar_agg (P := P) ht hd (lies_blk (sw.blk_eq hh)) hl
    have h3 : (a.tmps[ta]?.getD undef) = .pointer (some ⟨b, 0, none⟩) := by rw [← Array.getD_eq_getD_getElem?]; exact hx
    have h4 : (a.tmps[u]?.getD undef) = v' := by rw [← Array.getD_eq_getD_getElem?]; exact hx'
    simp [results, hr, h3, h4, asAddr, h2]
  rcases he with rfl | rfl <;> exact ⟨fa.1, _, this, h w sw⟩
end
end Go.Proofs.Yteedclmcgifmpaa.Fw

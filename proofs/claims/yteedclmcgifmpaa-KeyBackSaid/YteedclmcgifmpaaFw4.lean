/- Memory: reading and writing rows of cells; the rules for loads, addresses and stores. -/
import Derived.Test.YteedclmcgifmpaaFw3
namespace Go.Proofs.Yteedclmcgifmpaa.Fw
open Go Go.RowKit
set_option linter.unusedSimpArgs false
set_option linter.unusedVariables false

theorem add_mk (b off n : Nat) : (⟨b, off, none⟩ : Addr).add n = ⟨b, off + n, none⟩ := by
  unfold Addr.add; split
  · subst_vars; rfl
  · rfl

def setBlk (w : World) (b : Nat) (o : Obj) : World := { w with heap := w.heap.setIfInBounds b o }

/-- l laid over cl from place k on -/
def wr (cl : List Value) (k : Nat) (l : List Value) : List Value := cl.take k ++ l ++ cl.drop (k + l.length)

theorem wr_length {cl l : List Value} {k : Nat} (h : k + l.length ≤ cl.length) : (wr cl k l).length = cl.length := by
  simp only [wr, List.length_append, List.length_take, List.length_drop]; omega

theorem wr_cons {cl l : List Value} {k : Nat} {v : Value} (h : k + (l.length + 1) ≤ cl.length) : wr cl k (v :: l) = wr (cl.set k v) (k + 1) l := by
  simp only [wr, List.length_cons]
  have e1 : (cl.set k v).take (k + 1) = cl.take k ++ [v] := by
    rw [List.take_set, List.take_succ_eq_append_getElem (by omega)]
    rw [List.set_append_right _ _ (by simp; omega)]
    have : k - (List.take k cl).length = 0 := by simp; omega
    rw [this]
    rfl
  have e2 : (cl.set k v).drop (k + 1 + l.length) = cl.drop (k + (l.length + 1)) := by
    rw [List.drop_set_of_lt (by omega)]
    congr 1
    omega
  rw [e1, e2]
  simp

theorem wr_one {cl : List Value} {k : Nat} {v : Value} (h : k < cl.length) : wr cl k [v] = cl.set k v := by
  rw [wr_cons (by simp only [List.length_nil]; omega)]
  simp [wr]

theorem wr_all {cl l : List Value} (h : l.length = cl.length) : wr cl 0 l = l := by simp [wr, h]

theorem heap_setBlk {w : World} {b : Nat} {o : Obj} (h : b < w.heap.size) : (setBlk w b o).heap[b]? = some o := by simp [setBlk, h]
theorem heap_setBlk_ne {w : World} {b b' : Nat} {o : Obj} (h : b' ≠ b) : (setBlk w b o).heap[b']? = w.heap[b']? := by
  simp only [setBlk]; rw [Array.getElem?_setIfInBounds_ne (Ne.symm h)]
theorem setBlk_setBlk (w : World) (b : Nat) (o o' : Obj) : setBlk (setBlk w b o) b o' = setBlk w b o' := by simp [setBlk]
theorem setBlk_same {w : World} {b : Nat} {o : Obj} (h : w.heap[b]? = some o) : setBlk w b o = w := by
  have hlt := (Array.getElem?_eq_some_iff.1 h).1
  have he := (Array.getElem?_eq_some_iff.1 h).2
  have : w.heap.setIfInBounds b o = w.heap := by
    apply Array.ext
    · simp
    · intro i h1 h2
      rw [Array.getElem_setIfInBounds]
      split
      · subst_vars; exact he.symm
      · rfl
  simp [setBlk, this]

theorem setCell_known {w : World} {b i : Nat} {c : Array Value} {T : TypeId} {fz : Nat × Nat} (h : w.heap[b]? = some (.cells c T fz)) (v : Value) :
    w.setCell ⟨b, i, none⟩ v = setBlk w b (.cells (c.setIfInBounds i v) T fz) := by
  have hlt := (Array.getElem?_eq_some_iff.1 h).1
  have he := (Array.getElem?_eq_some_iff.1 h).2
  unfold World.setCell setBlk
  congr 1
  apply Array.ext
  · simp
  · intro j h1 h2
    rw [Array.getElem_modify, Array.getElem_setIfInBounds]
    split
    · rename_i e
      subst e
      simp [he]
    · rfl

theorem run_store_known {P : Program} {w : World} {b i : Nat} {c : List Value} {T : TypeId} {v : Value} (h : w.heap[b]? = some (.cells c.toArray T)) (hi : i < c.length) (hv : v.oneCell' = true) :
    (store ⟨b, i, none⟩ v).run P w = .ok () (setBlk w b (.cells (c.set i v).toArray T)) := by
  have h1 : w.cell? ⟨b, i, none⟩ = some c[i] := by simp [World.cell?, h, hi]
  have h2 : w.frozen? ⟨b, i, none⟩ = false := by simp [World.frozen?, h]
  rw [run_store P w _ v _ hv, h1]
  simp only [h2, Bool.false_eq_true, if_false]
  rw [setCell_known h]
  simp

theorem run_storeCells {P : Program} {b T : Nat} : ∀ (l c : List Value) (w : World) (off i : Nat), w.heap[b]? = some (.cells c.toArray T) → off + i + l.length ≤ c.length → (∀ v, v ∈ l → v.oneCell' = true) →
    (storeCells ⟨b, off, none⟩ l i).run P w = .ok () (setBlk w b (.cells (wr c (off + i) l).toArray T)) := by
  intro l
  induction l with
  | nil =>
    intro c w off i h hl _
    have : wr c (off + i) [] = c := by simp [wr]
    rw [this, setBlk_same h]
    rfl
  | cons v r ih =>
    intro c w off i h hl hv
    have hb := (Array.getElem?_eq_some_iff.1 h).1
    simp only [List.length_cons] at hl
    unfold storeCells
    rw [add_mk]
    simp only [Sem.run_bind]
    rw [run_store_known h (by omega) (hv v (by simp))]
    simp only [Result.andThen_ok]
    rw [ih (c.set (off + i) v) _ off (i + 1) (heap_setBlk hb) (by simp; omega) (fun u hu => hv u (by simp [hu])), setBlk_setBlk]
    rw [wr_cons (by omega)]
    rfl

theorem run_loadCells_from {P : Program} {w : World} {b : Nat} : ∀ (l : List Value) (off i : Nat) (acc : Array Value), Lies w b (off + i) l →
    (loadCellsFrom ⟨b, off, none⟩ i l.length acc).run P w = .ok (acc ++ l.toArray) w := by
  intro l
  induction l with
  | nil => intro off i acc _; simp [loadCellsFrom]
  | cons v r ih =>
    intro off i acc h
    have h0 := h 0 (by simp)
    simp only [Nat.add_zero, List.getElem?_cons_zero] at h0
    have hr : Lies w b (off + (i + 1)) r := fun j hj => by
      have := h (j + 1) (by simp; omega)
      simp only [List.getElem?_cons_succ] at this
      rw [← this]
      congr 2
      omega
    simp only [List.length_cons, loadCellsFrom, Sem.run_bind, add_mk, run_load, h0, Result.andThen_ok]
    rw [ih off (i + 1) _ hr]
    simp

theorem run_loadCells {P : Program} {w : World} {b off : Nat} {l : List Value} (h : Lies w b off l) : (loadCells ⟨b, off, none⟩ l.length).run P w = .ok l.toArray w := by
  unfold loadCells
  rw [run_loadCells_from l off 0 _ (by simpa using h)]
  simp

theorem Lies.part {w : World} {b off : Nat} {l : List Value} (h : Lies w b off l) (k n : Nat) (hk : k + n ≤ l.length) : Lies w b (off + k) ((l.drop k).take n) := by
  intro i hi
  simp only [List.length_take, List.length_drop] at hi
  have := h (k + i) (by omega)
  rw [show off + k + i = off + (k + i) by omega, this]
  rw [List.getElem?_take, if_pos (by omega), List.getElem?_drop]

theorem lies_blk {w : World} {b : Nat} {c : List Value} {T : TypeId} {fz : Nat × Nat} (h : w.heap[b]? = some (.cells c.toArray T fz)) : Lies w b 0 c := by
  intro i hi
  simp [World.cell?, h]

section
variable {P : Program} {w : World} {t : TypeId} {d : TypeDesc} {sz bytes : Nat} {z : Value} {b off : Nat}
theorem run_loadVar_agg (ht : Ty P t d sz bytes z) (hd : aggD d = true) {l : List Value} (h : Lies w b off l) (hl : l.length = sz) : (loadVar t ⟨b, off, none⟩).run P w = .ok (.agg l.toArray) w := by
  subst hl
  simp [loadVar, ht.run_agg, hd, ht.run_size, run_loadCells h]
theorem run_loadVar_one (ht : Ty P t d sz bytes z) (hd : aggD d = false) {v : Value} (h : w.cell? ⟨b, off, none⟩ = some v) : (loadVar t ⟨b, off, none⟩).run P w = .ok v w := by
  simp [loadVar, ht.run_agg, hd, h]
theorem run_storeVar (ht : Ty P t d sz bytes z) {v : Value} {l c : List Value} {T : TypeId} (hv : v.cells = l.toArray) (hl : l.length = sz) (h : w.heap[b]? = some (.cells c.toArray T)) (hc : off + l.length ≤ c.length)
    (h1 : ∀ v, v ∈ l → v.oneCell' = true) : (storeVar t ⟨b, off, none⟩ v).run P w = .ok () (setBlk w b (.cells (wr c off l).toArray T)) := by
  have e : v.cells.size = sz := by rw [hv]; simpa using hl
  simp only [storeVar, Sem.run_bind, ht.run_size, Result.andThen_ok, e, ne_eq, not_true_eq_false, if_false]
  rw [hv]
  simpa using run_storeCells (P := P) l c w off 0 h (by omega) h1
end

theorem Gives.refl (w : World) : Gives w w [] [] :=
  ⟨rfl, rfl, rfl, Nat.le_refl _, fun _ _ _ => rfl, fun _ _ h => (lk_nil h).elim, fun _ _ h => (lk_nil h).elim, fun _ _ _ _ h => (lk_nil h).elim⟩

theorem lk_one {α : Type} {i j : Nat} {v u : α} (h : lk [(i, v)] j = some u) : i = j ∧ v = u := by
  by_cases e : i = j
  · subst e; rw [lk_cons_same] at h; exact ⟨rfl, by simpa using h⟩
  · rw [lk_cons_ne e] at h; exact (lk_nil h).elim

theorem gives_setBlk {w : World} {b : Nat} {o : Obj} (hb : b < w.heap.size) (k : Nat) (e : Ent) (he : e.holds (setBlk w b o)) (hi : e.ids = [b]) : Gives w (setBlk w b o) [b] [(k, e)] :=
  ⟨rfl, rfl, rfl, by simp [setBlk], fun b' _ hn => heap_setBlk_ne (by simpa using hn),
    fun h e' hh => by obtain ⟨rfl, rfl⟩ := lk_one hh; exact he,
    fun h e' hh b' hb' => by obtain ⟨rfl, rfl⟩ := lk_one hh; rw [hi] at hb'; exact .inr hb',
    fun h e1 h' e2 hh hh' hne => by obtain ⟨rfl, rfl⟩ := lk_one hh; obtain ⟨rfl, rfl⟩ := lk_one hh'; exact absurd rfl hne⟩

theorem heap_alloc_new (w : World) (o : Obj) : (w.alloc o).heap[w.heap.size]? = some o := by
  show (w.heap.push o)[w.heap.size]? = some o
  simp
theorem heap_alloc_old {w : World} {o : Obj} {b : Nat} (h : b < w.heap.size) : (w.alloc o).heap[b]? = w.heap[b]? := Below.heap_alloc w o b h

theorem gives_alloc (w : World) (o : Obj) (k : Nat) (e : Ent) (he : e.holds (w.alloc o)) (hi : ∀ b, b ∈ e.ids → b = w.heap.size) : Gives w (w.alloc o) [] [(k, e)] :=
  ⟨rfl, rfl, rfl, by simp, fun b' hb _ => heap_alloc_old hb,
    fun h e' hh => by obtain ⟨rfl, rfl⟩ := lk_one hh; exact he,
    fun h e' hh b' hb' => by obtain ⟨rfl, rfl⟩ := lk_one hh; exact .inl (by rw [hi _ hb']; exact Nat.le_refl _),
    fun h e1 h' e2 hh hh' hne => by obtain ⟨rfl, rfl⟩ := lk_one hh; obtain ⟨rfl, rfl⟩ := lk_one hh'; exact absurd rfl hne⟩

theorem Gives.drawn {w w' : World} {M : List Nat} {N : List (Nat × Ent)} (h : Gives { w with drawn := w.drawn + 1 } w' M N) : Gives w w' M N :=
  ⟨h.tape, h.os, h.output, h.size, h.old, h.hold, h.fresh, h.apart⟩

/-! ### Addresses -/
/-- The address of a slice's cell. -/
def ptrAt : Value → Nat → Value
  | .slice (some a) _ _, k => .pointer (some ⟨a.block, a.off + k, none⟩)
  | _, _ => undef

/-- A slice's part. -/
def cutAt (sz : Nat) : Value → Nat → Nat → Value
  | .slice a _ c, lo, hi => .slice (if c = lo then a else a.map (·.add (lo * sz))) (hi - lo) (c - lo)
  | v, _, _ => v

section
variable {P : Program} {E : Env} {L : List (Nat × Value)} {H : List (Nat × Ent)} {F : List (Nat × FE)}
variable {dst : Option Tmp} {ty : TypeId} {pos : String} {af : Array Edge} {gd : Option (Nat × Bool)}

theorem ev_fieldAddr {x : Operand} {T : TypeId} {i b off sz bytes : Nat} {z : Value} {d : TypeDesc} {fs : Array Field} {f : Field} (hT : P.underlying T = some (.struct fs)) (hf : fs[i]? = some f)
    (ht : Ty P f.type d sz bytes z) (hs : sz ≠ 0) (hx : ev L x = some (.pointer (some ⟨b, off, none⟩))) :
    Ev P ⟨dst, .fieldAddr T x i, ty, pos, af, gd⟩ E L H F (.pointer (some ⟨b, off + f.offset, none⟩)) :=
  fun a w fa _ => by simp [execOp, fa.ev hx, Instr.fieldAt, run_und hT, hf, Instr.sureAddr, fieldPlace, ht.run_size, hs, add_mk]

theorem ev_indexAddr_arr {x y : Operand} {T e : TypeId} {n b off sz bytes : Nat} {z : Value} {d : TypeDesc} {k : IntKind} {i : Int} (hT : P.underlying T = some (.array n e)) (ht : Ty P e d sz bytes z)
    (hx : ev L x = some (.pointer (some ⟨b, off, none⟩))) (hy : ev L y = some (.int k i)) (h0 : 0 ≤ i) (h1 : i < n) :
    Ev P ⟨dst, .indexAddr T x y, ty, pos, af, gd⟩ E L H F (.pointer (some ⟨b, off + i.toNat * sz, none⟩)) :=
  fun a w fa _ => by simp [execOp, fa.ev hx, fa.ev hy, Instr.indexAt, run_und hT, Instr.sureAddr, asIntOf, ht.run_size, h0, h1, add_mk]

theorem ev_indexAddr_sl {x y : Operand} {T e : TypeId} {n c b off sz bytes : Nat} {z : Value} {d : TypeDesc} {k : IntKind} {i : Int} (hT : P.underlying T = some (.slice e)) (ht : Ty P e d sz bytes z)
    (hx : ev L x = some (.slice (some ⟨b, off, none⟩) n c)) (hy : ev L y = some (.int k i)) (h0 : 0 ≤ i) (h1 : i < n) :
    Ev P ⟨dst, .indexAddr T x y, ty, pos, af, gd⟩ E L H F (.pointer (some ⟨b, off + i.toNat * sz, none⟩)) :=
  fun a w fa _ => by simp [execOp, fa.ev hx, fa.ev hy, Instr.indexAt, run_und hT, asIntOf, ht.run_size, h0, h1, add_mk]

theorem indexAt_rd {w : World} {v : Value} {T e : TypeId} {n sz bytes : Nat} {z : Value} {d : TypeDesc} {l : List Value} {k : IntKind} {i : Int} (hT : P.underlying T = some (.slice e)) (ht : Ty P e d sz bytes z)
    (hr : Rd w v sz l) (hl : l.length = n * sz) (hs : 0 < sz) (h0 : 0 ≤ i) (h1 : i < n) : (Instr.indexAt T v (.int k i)).run P w = .ok (ptrAt v (i.toNat * sz)) w := by
  obtain ⟨b, len, cap, rfl, g1, g2, g3, g4⟩ := hr
  have hlen : len = n := Nat.eq_of_mul_eq_mul_right hs (by omega)
  subst hlen
  cases b with
  | none => have := g3 rfl; omega
  | some x =>
    obtain ⟨hx, _⟩ := g4 x rfl
    obtain ⟨xb, xo, xs⟩ := x
    simp only at hx
    subst hx
    simp [Instr.indexAt, run_und hT, asIntOf, ht.run_size, h0, h1, add_mk, ptrAt]

theorem own_rd {w : World} {v : Value} {T : TypeId} {sz : Nat} {l : List Value} (h : Own w v T sz l) : Rd w v sz l := by
  rcases h with ⟨rfl, rfl⟩ | ⟨b, len, cap, junk, rfl, h1, h2, h3, h4⟩
  · exact ⟨none, 0, 0, rfl, by simp, by omega, fun _ => rfl, fun x hx => by cases hx⟩
  · refine ⟨_, len, cap, rfl, h1, h3, (fun h => by cases h), fun x hx => ?_⟩
    cases hx
    refine ⟨rfl, fun i hi => ?_⟩
    simp only [Nat.zero_add]
    simp only [World.cell?, h4, Option.isSome_none, Bool.false_eq_true, if_false]
    rw [List.getElem?_toArray, List.getElem?_append_left hi]

theorem Sat.own_rd {w0 w : World} {X : List Nat} (sw : Sat w0 X H F w) {h T sz : Nat} {v : Value} {l : List Value} (hh : lk H h = some (.own v T sz l)) : Rd w v sz l := Fw.own_rd (sw.hold _ _ hh)
theorem Sat.sl_rd {w0 w : World} {X : List Nat} (sw : Sat w0 X H F w) {h sz : Nat} {v : Value} {l : List Value} (hh : lk F h = some (.sl v sz l)) : Rd w v sz l := sw.rd _ _ hh
theorem Sat.blk_eq {w0 w : World} {X : List Nat} (sw : Sat w0 X H F w) {h b : Nat} {o : Obj} (hh : lk H h = some (.blk b o)) : w.heap[b]? = some o := sw.hold _ _ hh
theorem Sat.mem_lies {w0 w : World} {X : List Nat} (sw : Sat w0 X H F w) {h b off : Nat} {l : List Value} (hh : lk F h = some (.mem b off l)) : Lies w b off l := sw.rd _ _ hh

/-- A slice into a block, as it is written out. -/
theorem rd_blk {w : World} {b off n c sz : Nat} {l : List Value} {T : TypeId} {fz : Nat × Nat} (h : w.heap[b]? = some (.cells l.toArray T fz)) (hn : n ≤ c) (hl : off + n * sz ≤ l.length) :
    Rd w (.slice (some ⟨b, off, none⟩) n c) sz ((l.drop off).take (n * sz)) := by
  refine ⟨_, n, c, rfl, by simp; omega, hn, (fun h => by cases h), fun x hx => ?_⟩
  cases hx
  refine ⟨rfl, fun i hi => ?_⟩
  have := (lies_blk h).part off (n * sz) hl
  simpa using this i hi
theorem Sat.rd_blk {w0 w : World} {X : List Nat} (sw : Sat w0 X H F w) {h b off n c sz : Nat} {l : List Value} {T : TypeId} {fz : Nat × Nat} (hh : lk H h = some (.blk b (.cells l.toArray T fz))) (hn : n ≤ c) (hl : off + n * sz ≤ l.length) :
    Rd w (.slice (some ⟨b, off, none⟩) n c) sz ((l.drop off).take (n * sz)) := Fw.rd_blk (sw.hold _ _ hh) hn hl
theorem rd_nil (w : World) (sz : Nat) : Rd w (.slice none 0 0) sz [] := ⟨none, 0, 0, rfl, by simp, by omega, fun _ => rfl, fun x hx => by cases hx⟩

theorem ev_indexAddr_own {x y : Operand} {T e : TypeId} {v : Value} {h tt n sz bytes : Nat} {z : Value} {d : TypeDesc} {l : List Value} {k : IntKind} {i : Int} (hT : P.underlying T = some (.slice e)) (ht : Ty P e d sz bytes z)
    (hx : ev L x = some v) (hy : ev L y = some (.int k i)) (hh : lk H h = some (.own v tt sz l)) (hl : l.length = n * sz) (hs : 0 < sz) (h0 : 0 ≤ i) (h1 : i < n) :
    Ev P ⟨dst, .indexAddr T x y, ty, pos, af, gd⟩ E L H F (ptrAt v (i.toNat * sz)) :=
  fun a w fa sw => by simp [execOp, fa.ev hx, fa.ev hy, indexAt_rd hT ht (sw.own_rd hh) hl hs h0 h1]
theorem ev_indexAddr_rd {x y : Operand} {T e : TypeId} {v : Value} {h n sz bytes : Nat} {z : Value} {d : TypeDesc} {l : List Value} {k : IntKind} {i : Int} (hT : P.underlying T = some (.slice e)) (ht : Ty P e d sz bytes z)
    (hx : ev L x = some v) (hy : ev L y = some (.int k i)) (hh : lk F h = some (.sl v sz l)) (hl : l.length = n * sz) (hs : 0 < sz) (h0 : 0 ≤ i) (h1 : i < n) :
    Ev P ⟨dst, .indexAddr T x y, ty, pos, af, gd⟩ E L H F (ptrAt v (i.toNat * sz)) :=
  fun a w fa sw => by simp [execOp, fa.ev hx, fa.ev hy, indexAt_rd hT ht (sw.sl_rd hh) hl hs h0 h1]

/-! ### Loads -/
theorem ld_blk {x : Operand} {T TT : TypeId} {h b off sz bytes : Nat} {z : Value} {d : TypeDesc} {l : List Value} {fz : Nat × Nat} (ht : Ty P T d sz bytes z) (hd : aggD d = true) (hx : ev L x = some (.pointer (some ⟨b, off, none⟩)))
    (hh : lk H h = some (.blk b (.cells l.toArray TT fz))) (hl : off + sz ≤ l.length) : Ev P ⟨dst, .load T x, ty, pos, af, gd⟩ E L H F (.agg ((l.drop off).take sz).toArray) :=
  fun a w fa sw => by
    have := (lies_blk (sw.blk_eq hh)).part off sz hl
    simp only [Nat.zero_add] at this
    simp [execOp, fa.ev hx, Instr.loadAt, Instr.sureAddr, run_loadVar_agg ht hd this (by simp; omega)]
theorem ld_blk_all {x : Operand} {T TT : TypeId} {h b sz bytes : Nat} {z : Value} {d : TypeDesc} {l : List Value} {fz : Nat × Nat} (ht : Ty P T d sz bytes z) (hd : aggD d = true) (hx : ev L x = some (.pointer (some ⟨b, 0, none⟩)))
    (hh : lk H h = some (.blk b (.cells l.toArray TT fz))) (hl : l.length = sz) : Ev P ⟨dst, .load T x, ty, pos, af, gd⟩ E L H F (.agg l.toArray) :=
  fun a w fa sw => by
    simp [execOp, fa.ev hx, Instr.loadAt, Instr.sureAddr, run_loadVar_agg ht hd (lies_blk (sw.blk_eq hh)) hl]
theorem ld_blk1 {x : Operand} {T TT : TypeId} {h b off sz bytes : Nat} {z v : Value} {d : TypeDesc} {l : List Value} {fz : Nat × Nat} (ht : Ty P T d sz bytes z) (hd : aggD d = false) (hx : ev L x = some (.pointer (some ⟨b, off, none⟩)))
    (hh : lk H h = some (.blk b (.cells l.toArray TT fz))) (hv : l[off]? = some v) : Ev P ⟨dst, .load T x, ty, pos, af, gd⟩ E L H F v :=
  fun a w fa sw => by
    have : w.cell? ⟨b, off, none⟩ = some v := by simp [World.cell?, sw.blk_eq hh, hv]
    simp [execOp, fa.ev hx, Instr.loadAt, Instr.sureAddr, run_loadVar_one ht hd this]
theorem ld_mem {x : Operand} {T : TypeId} {h b off off0 k sz bytes : Nat} {z : Value} {d : TypeDesc} {l : List Value} (ht : Ty P T d sz bytes z) (hd : aggD d = true) (hx : ev L x = some (.pointer (some ⟨b, off, none⟩)))
    (hh : lk F h = some (.mem b off0 l)) (ho : off = off0 + k) (hl : k + sz ≤ l.length) : Ev P ⟨dst, .load T x, ty, pos, af, gd⟩ E L H F (.agg ((l.drop k).take sz).toArray) :=
  fun a w fa sw => by
    subst ho
    simp [execOp, fa.ev hx, Instr.loadAt, Instr.sureAddr, run_loadVar_agg ht hd ((sw.mem_lies hh).part k sz hl) (by simp; omega)]
theorem ld_mem1 {x : Operand} {T : TypeId} {h b off off0 k sz bytes : Nat} {z v : Value} {d : TypeDesc} {l : List Value} (ht : Ty P T d sz bytes z) (hd : aggD d = false) (hx : ev L x = some (.pointer (some ⟨b, off, none⟩)))
    (hh : lk F h = some (.mem b off0 l)) (ho : off = off0 + k) (hv : l[k]? = some v) : Ev P ⟨dst, .load T x, ty, pos, af, gd⟩ E L H F v :=
  fun a w fa sw => by
    subst ho
    have hk := (List.getElem?_eq_some_iff.1 hv).1
    have := sw.mem_lies hh k hk
    rw [hv] at this
    simp [execOp, fa.ev hx, Instr.loadAt, Instr.sureAddr, run_loadVar_one ht hd this]

theorem ptrAt_rd {w : World} {v : Value} {sz k n : Nat} {l : List Value} (hr : Rd w v sz l) (hn : 0 < n) (hk : k + n ≤ l.length) : ∃ b off, ptrAt v k = .pointer (some ⟨b, off, none⟩) ∧ Lies w b off ((l.drop k).take n) := by
  obtain ⟨b, len, cap, rfl, g1, g2, g3, g4⟩ := hr
  cases b with
  | none =>
    have := g3 rfl
    have : len = 0 := by omega
    subst this
    simp at g1
    subst g1
    simp at hk
    omega
  | some x =>
    refine ⟨x.block, x.off + k, rfl, ?_⟩
    exact Lies.part (fun i hi => (g4 x rfl).2 i hi) k n hk
theorem ld_rd' {w : World} {T : TypeId} {k sz sz' bytes : Nat} {v z : Value} {d : TypeDesc} {l : List Value} (ht : Ty P T d sz' bytes z) (hd : aggD d = true) (hr : Rd w v sz l) (hs : 0 < sz') (hl : k + sz' ≤ l.length) :
    (Instr.loadAt T (ptrAt v k)).run P w = .ok (.agg ((l.drop k).take sz').toArray) w := by
  obtain ⟨b, off, e, h⟩ := ptrAt_rd hr hs hl
  rw [e]
  simp [Instr.loadAt, Instr.sureAddr, run_loadVar_agg ht hd h (by simp; omega)]
theorem ld_rd1' {w : World} {T : TypeId} {k sz sz' bytes : Nat} {v z u : Value} {d : TypeDesc} {l : List Value} (ht : Ty P T d sz' bytes z) (hd : aggD d = false) (hr : Rd w v sz l) (hu : l[k]? = some u) :
    (Instr.loadAt T (ptrAt v k)).run P w = .ok u w := by
  have hk := (List.getElem?_eq_some_iff.1 hu).1
  obtain ⟨b, off, e, h⟩ := ptrAt_rd (n := 1) (k := k) (l := l) hr (by omega) (by omega)
  have h0 := h 0 (by simp; omega)
  rw [List.getElem?_take, if_pos (by omega), List.getElem?_drop] at h0
  simp only [Nat.add_zero] at h0
  rw [hu] at h0
  rw [e]
  simp [Instr.loadAt, Instr.sureAddr, run_loadVar_one ht hd h0]
theorem ld_own {x : Operand} {T tt : TypeId} {h k sz sz' bytes : Nat} {v z : Value} {d : TypeDesc} {l : List Value} (ht : Ty P T d sz' bytes z) (hd : aggD d = true) (hx : ev L x = some (ptrAt v k)) (hh : lk H h = some (.own v tt sz l)) (hs : 0 < sz') (hl : k + sz' ≤ l.length) :
    Ev P ⟨dst, .load T x, ty, pos, af, gd⟩ E L H F (.agg ((l.drop k).take sz').toArray) :=
  fun a w fa sw => by simp [execOp, fa.ev hx, ld_rd' ht hd (sw.own_rd hh) hs hl]
theorem ld_own1 {x : Operand} {T tt : TypeId} {h k sz sz' bytes : Nat} {v z u : Value} {d : TypeDesc} {l : List Value} (ht : Ty P T d sz' bytes z) (hd : aggD d = false) (hx : ev L x = some (ptrAt v k)) (hh : lk H h = some (.own v tt sz l)) (hu : l[k]? = some u) :
    Ev P ⟨dst, .load T x, ty, pos, af, gd⟩ E L H F u :=
  fun a w fa sw => by simp [execOp, fa.ev hx, ld_rd1' ht hd (sw.own_rd hh) hu]
theorem ld_rd {x : Operand} {T : TypeId} {h k sz sz' bytes : Nat} {v z : Value} {d : TypeDesc} {l : List Value} (ht : Ty P T d sz' bytes z) (hd : aggD d = true) (hx : ev L x = some (ptrAt v k)) (hh : lk F h = some (.sl v sz l)) (hs : 0 < sz') (hl : k + sz' ≤ l.length) :
    Ev P ⟨dst, .load T x, ty, pos, af, gd⟩ E L H F (.agg ((l.drop k).take sz').toArray) :=
  fun a w fa sw => by simp [execOp, fa.ev hx, ld_rd' ht hd (sw.sl_rd hh) hs hl]
theorem ld_rd1 {x : Operand} {T : TypeId} {h k sz sz' bytes : Nat} {v z u : Value} {d : TypeDesc} {l : List Value} (ht : Ty P T d sz' bytes z) (hd : aggD d = false) (hx : ev L x = some (ptrAt v k)) (hh : lk F h = some (.sl v sz l)) (hu : l[k]? = some u) :
    Ev P ⟨dst, .load T x, ty, pos, af, gd⟩ E L H F u :=
  fun a w fa sw => by simp [execOp, fa.ev hx, ld_rd1' ht hd (sw.sl_rd hh) hu]

/-! ### Slicing -/
theorem ev_slice_arr_all {x : Operand} {T e : TypeId} {n b off sz bytes : Nat} {z : Value} {d : TypeDesc} (hT : P.underlying T = some (.array n e)) (ht : Ty P e d sz bytes z) (hx : ev L x = some (.pointer (some ⟨b, off, none⟩))) :
    Ev P ⟨dst, .slice T x none none none, ty, pos, af, gd⟩ E L H F (.slice (some ⟨b, off, none⟩) n n) :=
  fun a w fa _ => by
    simp [execOp, fa.ev hx, Instr.sliceAt, run_und hT, Instr.sureAddr, Instr.sliceBounds, ht.run_size, add_mk]
theorem ev_slice_arr_lo {x y : Operand} {T e : TypeId} {n b off sz bytes : Nat} {z : Value} {d : TypeDesc} {k : IntKind} {i : Int} (hT : P.underlying T = some (.array n e)) (ht : Ty P e d sz bytes z) (hx : ev L x = some (.pointer (some ⟨b, off, none⟩)))
    (hy : ev L y = some (.int k i)) (h0 : 0 ≤ i) (h1 : i < n) : Ev P ⟨dst, .slice T x (some y) none none, ty, pos, af, gd⟩ E L H F (.slice (some ⟨b, off + i.toNat * sz, none⟩) (n - i.toNat) (n - i.toNat)) :=
  fun a w fa _ => by
    have h2 : i ≤ n := by omega
    have h3 : n ≠ i.toNat := by omega
    simp [execOp, fa.ev hx, fa.ev hy, Instr.sliceAt, run_und hT, Instr.sureAddr, Instr.sliceBounds, Instr.sliceBound, asIntOf, h0, h2, h3, ht.run_size, add_mk]

theorem run_slice_lohi {w : World} {T e : TypeId} {sz bytes : Nat} {z : Value} {d : TypeDesc} {a : Option Addr} {len cap : Nat} {k k' : IntKind} {lo hi : Int} (hT : P.underlying T = some (.slice e)) (ht : Ty P e d sz bytes z)
    (h0 : 0 ≤ lo) (h1 : lo ≤ hi) (h2 : hi ≤ cap) : (Instr.sliceAt T (.slice a len cap) (some (.int k lo)) (some (.int k' hi)) none).run P w = .ok (cutAt sz (.slice a len cap) lo.toNat hi.toNat) w := by
  have h3 : 0 ≤ hi := by omega
  have h4 : max hi 0 = hi := by omega
  simp [Instr.sliceAt, run_und hT, Instr.slice, Instr.sliceBounds, Instr.sliceBound, asIntOf, h0, h1, h2, h3, h4, ht.run_size, cutAt]
theorem run_slice_lo {w : World} {T e : TypeId} {sz bytes : Nat} {z : Value} {d : TypeDesc} {a : Option Addr} {len cap : Nat} {k : IntKind} {lo : Int} (hT : P.underlying T = some (.slice e)) (ht : Ty P e d sz bytes z)
    (h0 : 0 ≤ lo) (h1 : lo ≤ len) : (Instr.sliceAt T (.slice a len cap) (some (.int k lo)) none none).run P w = .ok (cutAt sz (.slice a len cap) lo.toNat len) w := by
  simp [Instr.sliceAt, run_und hT, Instr.slice, Instr.sliceBounds, Instr.sliceBound, asIntOf, h0, h1, ht.run_size, cutAt]
theorem run_slice_hi {w : World} {T e : TypeId} {sz bytes : Nat} {z : Value} {d : TypeDesc} {a : Option Addr} {len cap : Nat} {k : IntKind} {hi : Int} (hT : P.underlying T = some (.slice e)) (ht : Ty P e d sz bytes z)
    (h0 : 0 ≤ hi) (h1 : hi ≤ cap) : (Instr.sliceAt T (.slice a len cap) none (some (.int k hi)) none).run P w = .ok (cutAt sz (.slice a len cap) 0 hi.toNat) w := by
  simp [Instr.sliceAt, run_und hT, Instr.slice, Instr.sliceBounds, Instr.sliceBound, asIntOf, h0, h1, ht.run_size, cutAt]

theorem rd_cut {w : World} {v : Value} {sz n lo hi : Nat} {l : List Value} (hr : Rd w v sz l) (hs : 0 < sz) (hl : l.length = n * sz) (h1 : lo ≤ hi) (h2 : hi ≤ n) : Rd w (cutAt sz v lo hi) sz ((l.drop (lo * sz)).take ((hi - lo) * sz)) := by
  obtain ⟨b, len, cap, rfl, g1, g2, g3, g4⟩ := hr
  have hlen : len = n := Nat.eq_of_mul_eq_mul_right hs (by omega)
  subst hlen
  have hm : lo * sz + (hi - lo) * sz ≤ len * sz := by rw [← Nat.add_mul]; exact Nat.mul_le_mul_right _ (by omega)
  refine ⟨_, _, _, rfl, by simp; omega, by omega, ?_, ?_⟩
  · intro h
    split at h
    · rename_i hc; have := g3 h; omega
    · cases b with
      | none => have := g3 rfl; omega
      | some x => simp at h
  · intro x hx
    split at hx
    · rename_i hc
      subst hx
      refine ⟨(g4 x rfl).1, fun i hi' => ?_⟩
      simp only [List.length_take, List.length_drop] at hi'
      have h0 : hi - lo = 0 := by omega
      rw [h0] at hi'
      simp at hi'
    · cases b with
      | none => simp at hx
      | some y =>
        simp only [Option.map_some, Option.some.injEq] at hx
        obtain ⟨hy, hcell⟩ := g4 y rfl
        obtain ⟨yb, yo, ys⟩ := y
        simp only at hy
        subst hy
        rw [add_mk] at hx
        subst hx
        refine ⟨rfl, ?_⟩
        have : Lies w yb yo l := hcell
        exact this.part (lo * sz) ((hi - lo) * sz) (by omega)

/-- A part of a slice that is read: the part is read, too. -/
theorem Sat.cut {w0 w : World} {X : List Nat} (sw : Sat w0 X H F w) {h h' sz n lo hi : Nat} {v : Value} {l : List Value} (hh : lk F h = some (.sl v sz l)) (hs : 0 < sz) (hl : l.length = n * sz) (h1 : lo ≤ hi) (h2 : hi ≤ n) :
    Sat w0 X H ((h', .sl (cutAt sz v lo hi) sz ((l.drop (lo * sz)).take ((hi - lo) * sz))) :: F) w := by
  refine sw.read h' (rd_cut (sw.sl_rd hh) hs hl h1 h2) fun k e hk b hb => ?_
  have ho := sw.off h _ k e hh hk b hb
  rcases ho with ho | ho
  · subst ho; exact .inl (by simp)
  · refine .inr fun hb' => ho ?_
    obtain ⟨b', len, cap, rfl, _⟩ := sw.sl_rd hh
    simp only [cutAt] at hb'
    cases b' with
    | none => simp [blkOf] at hb'
    | some x =>
      by_cases hc : cap = lo
      · rw [if_pos hc] at hb'; exact hb'
      · rw [if_neg hc] at hb'
        simp only [blkOf, Option.map_some, Addr.add] at hb' ⊢
        split at hb' <;> exact hb'
end

end Go.Proofs.Yteedclmcgifmpaa.Fw

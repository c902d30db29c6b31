/- The walk's own predicate, and the rules for code that is no operation: sequences, blocks, loops, tests, regions. -/
import Derived.Test.YteedclmcgifmpaaFw1
import Derived.Deep.LoopGhost
namespace Go.Proofs.Yteedclmcgifmpaa.Fw
open Go Go.RowKit

/-- What does not turn in a walk: how many registers, the world at its begin, the older blocks that may be written. -/
structure Env where
  n : Nat
  w0 : World
  X : List Nat

def At (K : Act → World → Prop) (E : Env) (L : List (Nat × Value)) (H : List (Nat × Ent)) (F : List (Nat × FE)) : Prop :=
  ∀ a w, Fits E.n L a → Sat E.w0 E.X H F w → K a w

/-- Behind an exit. -/
def AtX (Q : Exit → Act → World → Prop) (e : Exit) (E : Env) (L : List (Nat × Value)) (H : List (Nat × Ent)) (F : List (Nat × FE)) : Prop :=
  ∀ a w, Fits E.n L a → Sat E.w0 E.X H F w → Q e a w

section
variable {P : Program} {Q : Exit → Act → World → Prop} {K : Act → World → Prop} {E : Env} {L L' : List (Nat × Value)} {H H' : List (Nat × Ent)} {F F' : List (Nat × FE)}

theorem At.weaken (h : At K E L' H' F') (hL : Sub L' L) (hH : Sub H' H) (hF : Sub F' F) : At K E L H F :=
  fun a w fa sw => h a w (fa.sub hL) (sw.weaken hH hF)
theorem At.regs (hL : Sub L' L) (h : At K E L' H F) : At K E L H F := fun a w fa sw => h a w (fa.sub hL) sw
theorem AtX.regs {e : Exit} (hL : Sub L' L) (h : AtX Q e E L' H F) : AtX Q e E L H F := fun a w fa sw => h a w (fa.sub hL) sw
theorem At.mem (hH : Sub H' H) (hF : Sub F' F) (h : At K E L H' F') : At K E L H F := fun a w fa sw => h a w fa (sw.weaken hH hF)
theorem AtX.mem {e : Exit} (hH : Sub H' H) (hF : Sub F' F) (h : AtX Q e E L H' F') : AtX Q e E L H F := fun a w fa sw => h a w fa (sw.weaken hH hF)

theorem cd_seq {x y : Code} (h : At (x.wp P (Exit.then (y.wp P Q) Q)) E L H F) : At ((Code.seq x y).wp P Q) E L H F :=
  fun a w fa sw => wp_seq (h a w fa sw)
theorem cd_skip (h : AtX Q .normal E L H F) : At (Code.skip.wp P Q) E L H F := fun a w fa sw => wp_skip (h a w fa sw)
theorem cd_exit {i : Nat} (h : AtX Q (.exit i) E L H F) : At ((Code.exit i).wp P Q) E L H F := fun a w fa sw => wp_exit (h a w fa sw)
theorem cd_ret (h : AtX Q .ret E L H F) : At (Code.ret.wp P Q) E L H F := fun a w fa sw => wp_ret (h a w fa sw)
theorem cd_block {i : Nat} {c : Code} (h : At (c.wp P (Exit.inBlock i Q)) E L H F) : At ((Code.block i c).wp P Q) E L H F :=
  fun a w fa sw => wp_block (h a w fa sw)
theorem cd_true {c : Operand} {x y : Code} (hc : ev L c = some (.bool true)) (h : At (x.wp P Q) E L H F) : At ((Code.cond c x y).wp P Q) E L H F :=
  fun a w fa sw => wp_cond_true (fa.ev hc) (h a w fa sw)
theorem cd_false {c : Operand} {x y : Code} (hc : ev L c = some (.bool false)) (h : At (y.wp P Q) E L H F) : At ((Code.cond c x y).wp P Q) E L H F :=
  fun a w fa sw => wp_cond_false (fa.ev hc) (h a w fa sw)
theorem cd_cond {c : Operand} {x y : Code} {t : Bool} (hc : ev L c = some (.bool t)) (h1 : t = true → At (x.wp P Q) E L H F) (h2 : t = false → At (y.wp P Q) E L H F) :
    At ((Code.cond c x y).wp P Q) E L H F := by
  cases t
  · exact cd_false hc (h2 rfl)
  · exact cd_true hc (h1 rfl)
/-- A test of a proposition. -/
theorem cd_if {c : Operand} {x y : Code} {p : Prop} [Decidable p] (hc : ev L c = some (.bool (decide p))) (h1 : p → At (x.wp P Q) E L H F) (h2 : ¬ p → At (y.wp P Q) E L H F) :
    At ((Code.cond c x y).wp P Q) E L H F :=
  cd_cond hc (fun h => h1 (of_decide_eq_true h)) (fun h => h2 (of_decide_eq_false h))

theorem cd_if_t {c : Operand} {x y : Code} {p : Prop} [Decidable p] (hc : ev L c = some (.bool (decide p))) (hp : p) (h : At (x.wp P Q) E L H F) : At ((Code.cond c x y).wp P Q) E L H F :=
  cd_if hc (fun _ => h) (fun hn => absurd hp hn)
theorem cd_if_f {c : Operand} {x y : Code} {p : Prop} [Decidable p] (hc : ev L c = some (.bool (decide p))) (hp : ¬ p) (h : At (y.wp P Q) E L H F) : At ((Code.cond c x y).wp P Q) E L H F :=
  cd_if hc (fun hn => absurd hn hp) (fun _ => h)

/-! Ways that meet again: a family of states, one of which holds where they meet -/
def Met {ι : Type} (I : ι → Prop) (Ls : ι → List (Nat × Value)) (Hs : ι → List (Nat × Ent)) (Fs : ι → List (Nat × FE)) (E : Env) (a : Act) (w : World) : Prop :=
  ∃ j, I j ∧ Fits E.n (Ls j) a ∧ Sat E.w0 E.X (Hs j) (Fs j) w
theorem cd_join {x y : Code} {ι : Type} (I : ι → Prop) (Ls : ι → List (Nat × Value)) (Hs : ι → List (Nat × Ent)) (Fs : ι → List (Nat × FE)) (h1 : At (x.wp P (Exit.then (Met I Ls Hs Fs E) Q)) E L H F)
    (h2 : ∀ j, I j → At (y.wp P Q) E (Ls j) (Hs j) (Fs j)) : At ((Code.seq x y).wp P Q) E L H F := by
  intro a w fa sw
  refine wp_seq (Code.wp_mono ?_ (h1 a w fa sw))
  intro e a' w' q
  cases e with
  | normal => obtain ⟨j, g1, g2, g3⟩ := q; exact h2 j g1 a' w' g2 g3
  | _ => exact q
theorem at_met {ι : Type} {I : ι → Prop} {Ls : ι → List (Nat × Value)} {Hs : ι → List (Nat × Ent)} {Fs : ι → List (Nat × FE)} (j : ι) (hj : I j) (hL : Sub (Ls j) L) (hH : Sub (Hs j) H) (hF : Sub (Fs j) F) :
    AtX (Exit.then (Met I Ls Hs Fs E) Q) .normal E L H F :=
  fun _ _ fa sw => ⟨j, hj, fa.sub hL, sw.weaken hH hF⟩

/-! Exits -/
theorem ax_then (h : At K E L H F) : AtX (Exit.then K Q) .normal E L H F := h
theorem ax_then_exit {i : Nat} (h : AtX Q (.exit i) E L H F) : AtX (Exit.then K Q) (.exit i) E L H F := h
theorem ax_then_ret (h : AtX Q .ret E L H F) : AtX (Exit.then K Q) .ret E L H F := h
theorem ax_block {i : Nat} (h : AtX Q .normal E L H F) : AtX (Exit.inBlock i Q) .normal E L H F := h
theorem ax_block_ret {i : Nat} (h : AtX Q .ret E L H F) : AtX (Exit.inBlock i Q) .ret E L H F := h
theorem ax_block_hit {i : Nat} (h : AtX Q .normal E L H F) : AtX (Exit.inBlock i Q) (.exit i) E L H F :=
  fun a w fa sw => by simp only [Exit.inBlock, if_true]; exact h a w fa sw
theorem ax_block_miss {i j : Nat} (hne : j ≠ i) (h : AtX Q (.exit j) E L H F) : AtX (Exit.inBlock i Q) (.exit j) E L H F :=
  fun a w fa sw => by simp only [Exit.inBlock, if_neg hne]; exact h a w fa sw

/-! Loops: a family of states, one of which holds at the head of each round -/
/-- The end of a round. -/
def Again {ι : Type} (I : ι → Prop) (m : ι → Nat) (Ls : ι → List (Nat × Value)) (Hs : ι → List (Nat × Ent)) (Fs : ι → List (Nat × FE)) (E : Env) (k : Nat) (a : Act) (w : World) : Prop :=
  ∃ j, I j ∧ m j < k ∧ Fits E.n (Ls j) a ∧ Sat E.w0 E.X (Hs j) (Fs j) w

theorem cd_loop {c : Code} {ι : Type} (I : ι → Prop) (m : ι → Nat) (Ls : ι → List (Nat × Value)) (Hs : ι → List (Nat × Ent)) (Fs : ι → List (Nat × FE)) (i : ι) (hi : I i)
    (hL : Sub (Ls i) L) (hH : Sub (Hs i) H) (hF : Sub (Fs i) F)
    (round : ∀ j, I j → At (c.wp P (Exit.then (Again I m Ls Hs Fs E (m j)) Q)) E (Ls j) (Hs j) (Fs j)) : At ((Code.loop c).wp P Q) E L H F := by
  intro a w fa sw
  refine wp_loop_ghost (fun k a w => ∃ j, I j ∧ m j = k ∧ Fits E.n (Ls j) a ∧ Sat E.w0 E.X (Hs j) (Fs j) w) (m i) ⟨i, hi, rfl, fa.sub hL, sw.weaken hH hF⟩ ?_
  rintro k a w ⟨j, h1, rfl, h3, h4⟩
  refine Code.wp_mono ?_ (round j h1 a w h3 h4)
  intro e a' w' q
  cases e with
  | normal =>
    obtain ⟨j', g1, g2, g3, g4⟩ := q
    exact ⟨m j', g2, j', g1, rfl, g3, g4⟩
  | _ => exact q

theorem at_again {ι : Type} {I : ι → Prop} {m : ι → Nat} {Ls : ι → List (Nat × Value)} {Hs : ι → List (Nat × Ent)} {Fs : ι → List (Nat × FE)} {k : Nat} (j : ι) (hj : I j) (hm : m j < k)
    (hL : Sub (Ls j) L) (hH : Sub (Hs j) H) (hF : Sub (Fs j) F) : AtX (Exit.then (Again I m Ls Hs Fs E k) Q) .normal E L H F :=
  fun _ _ fa sw => ⟨j, hj, hm, fa.sub hL, sw.weaken hH hF⟩

/-! Regions -/
theorem cd_region {id : Nat} {l : List Oper} (h : At (wpList P l.toArray Q l) E L H F) : At ((Code.region id l.toArray false).wp P Q) E L H F :=
  fun a w fa sw => wp_region_lit (h a w fa sw)
theorem op_nil {ops : Array Oper} (h : AtX Q .normal E L H F) : At (wpList P ops Q []) E L H F := fun a w fa sw => wpList_nil (h a w fa sw)

/-- A step that leaves memory alone. -/
def Ev (P : Program) (o : Oper) (E : Env) (L : List (Nat × Value)) (H : List (Nat × Ent)) (F : List (Nat × FE)) (v : Value) : Prop :=
  ∀ a w, Fits E.n L a → Sat E.w0 E.X H F w → (execOp a.eval o).run P w = .ok (.value v) w

def wants (ops : Array Oper) (L : List (Nat × Value)) (g : Option (Nat × Bool)) : Option Bool :=
  match g with
  | none => some true
  | some (j, b) => match (ops[j]?).bind (·.dst) with
    | none => some false
    | some d => match lk L d with
      | some (.bool c) => some (c == b)
      | some (.tuple _) => some false
      | _ => none

theorem wants_eq {ops : Array Oper} {o : Oper} {n : Nat} {a : Act} {b : Bool} (fa : Fits n L a) (h : wants ops L o.guard = some b) :
    Region.wanted o (yielded ops a.tmps) = b := by
  unfold wants at h
  unfold Region.wanted
  cases hg : o.guard with
  | none => rw [hg] at h; simpa using h
  | some jb =>
    obtain ⟨j, c⟩ := jb
    rw [hg] at h
    simp only at h ⊢
    unfold yielded
    cases hd : (ops[j]?).bind (·.dst) with
    | none => rw [hd] at h; simp at h ⊢; exact h
    | some d =>
      rw [hd] at h
      simp only at h
      cases hL : lk L d with
      | none => rw [hL] at h; simp at h
      | some v =>
        have hv := fa.2.2 d v hL
        rw [hL] at h
        simp only [Option.bind_some]
        rw [Array.getD_eq_getD_getElem?] at hv
        cases ht : a.tmps[d]? with
        | none =>
          rw [ht] at hv
          simp only [Option.getD_none] at hv
          subst hv
          simp [undef] at h ⊢
          exact h
        | some u =>
          rw [ht] at hv
          simp only [Option.getD_some] at hv
          subst hv
          cases u <;> simp at h ⊢ <;> exact h

/-- One operation that leaves memory alone. -/
theorem st {ops : Array Oper} {o : Oper} {rest : List Oper} {v : Value} {d : Nat} (he : Ev P o E L H F v) (hg : wants ops L o.guard = some true) (hd : o.dst = some d) (hn : Nat.ble (d + 1) E.n = true)
    (k : At (wpList P ops Q rest) E ((d, v) :: L) H F) : At (wpList P ops Q (o :: rest)) E L H F := by
  intro a w fa sw
  unfold wpList
  rw [if_pos (wants_eq fa hg)]
  refine .inl ?_
  unfold Oper.wp
  rw [he a w fa sw]
  show wpList P ops Q rest (a.put o.dst v) w
  rw [hd]
  exact k _ _ (fa.put (Nat.le_of_ble_eq_true hn) v) sw

/-- One that is passed by. -/
theorem st_skip {ops : Array Oper} {o : Oper} {rest : List Oper} {d : Nat} (hg : wants ops L o.guard = some false) (hd : o.dst = some d) (hn : Nat.ble (d + 1) E.n = true)
    (k : At (wpList P ops Q rest) E ((d, undef) :: L) H F) : At (wpList P ops Q (o :: rest)) E L H F := by
  intro a w fa sw
  unfold wpList
  rw [if_neg (by rw [wants_eq fa hg]; simp), hd]
  exact k _ _ (fa.put (Nat.le_of_ble_eq_true hn) undef) sw

/-- The general step: the operation comes to a world and a value. -/
theorem st_run {ops : Array Oper} {o : Oper} {rest : List Oper} (hg : wants ops L o.guard = some true)
    (h : ∀ a w, Fits E.n L a → Sat E.w0 E.X H F w → o.wp P a w (wpList P ops Q rest) Q) : At (wpList P ops Q (o :: rest)) E L H F := by
  intro a w fa sw
  unfold wpList
  rw [if_pos (wants_eq fa hg)]
  exact .inl (h a w fa sw)

/-- A bool in a register is true, or it is false. -/
theorem at_split {c : Bool} {i : Nat} (hc : lk L i = some (.bool c)) (h1 : c = true → At K E ((i, .bool true) :: L) H F) (h2 : c = false → At K E ((i, .bool false) :: L) H F) : At K E L H F := by
  intro a w fa sw
  cases c with
  | true => exact h1 rfl a w (fa.sub (.cons hc (.refl _))) sw
  | false => exact h2 rfl a w (fa.sub (.cons hc (.refl _))) sw
theorem at_split_if {p : Prop} [Decidable p] {i : Nat} (hc : lk L i = some (.bool (decide p))) (h1 : p → At K E ((i, .bool true) :: L) H F) (h2 : ¬ p → At K E ((i, .bool false) :: L) H F) : At K E L H F :=
  at_split hc (fun h => h1 (of_decide_eq_true h)) (fun h => h2 (of_decide_eq_false h))
/-- A register's value in other words. -/
theorem at_eq {i : Nat} {v v' : Value} (hc : lk L i = some v) (hv : v = v') (h : At K E ((i, v') :: L) H F) : At K E L H F := by
  subst hv
  exact fun a w fa sw => h a w (fa.sub (.cons hc (.refl _))) sw
theorem at_heq {i : Nat} {v v' : Ent} (hc : lk H i = some v) (hv : v = v') (h : At K E L ((i, v') :: H) F) : At K E L H F := by
  subst hv
  exact fun a w fa sw => h a w fa (sw.weaken (.cons hc (.refl _)) (.refl _))
theorem ax_eq {e : Exit} {i : Nat} {v v' : Value} (hc : lk L i = some v) (hv : v = v') (h : AtX Q e E ((i, v') :: L) H F) : AtX Q e E L H F := by
  subst hv
  exact fun a w fa sw => h a w (fa.sub (.cons hc (.refl _))) sw
theorem ax_heq {e : Exit} {i : Nat} {v v' : Ent} (hc : lk H i = some v) (hv : v = v') (h : AtX Q e E L ((i, v') :: H) F) : AtX Q e E L H F := by
  subst hv
  exact fun a w fa sw => h a w fa (sw.weaken (.cons hc (.refl _)) (.refl _))
end

end Go.Proofs.Yteedclmcgifmpaa.Fw

/- A small frame for walking Go functions: what is known of the registers, of blocks that the call owns and of memory that is only read, as three lists; one rule for each operation. -/
import Derived.Tactics
import Derived.Deep.Quiet
import Derived.StillTail
import Derived.Laws.World
import Derived.Laws.Sem
import Derived.Laws.Entries
import Derived.Below
namespace Go.Proofs.Yteedclmcgifmpaa.Fw
open Go Go.RowKit

/-- The first entry with this key. -/
def lk {α : Type} : List (Nat × α) → Nat → Option α
  | [], _ => none
  | (j, v) :: r, i => match Nat.beq j i with
    | true => some v
    | false => lk r i

theorem lk_cons_same {α : Type} (i : Nat) (v : α) (r : List (Nat × α)) : lk ((i, v) :: r) i = some v := by
  simp [lk]

theorem lk_cons_ne {α : Type} {i j : Nat} (h : j ≠ i) (v : α) (r : List (Nat × α)) : lk ((j, v) :: r) i = lk r i := by
  simp only [lk]
  have : Nat.beq j i = false := by
    cases hb : Nat.beq j i with
    | false => rfl
    | true => exact absurd (Nat.eq_of_beq_eq_true hb) h
  rw [this]

theorem lk_append {α : Type} (A B : List (Nat × α)) (i : Nat) : lk (A ++ B) i = match lk A i with | some v => some v | none => lk B i := by
  induction A with
  | nil => simp [lk]
  | cons x r ih =>
    obtain ⟨j, v⟩ := x
    simp only [List.cons_append, lk]
    cases Nat.beq j i <;> simp [ih]

/-- Every entry of the left list stands in the right one. -/
def Sub {α : Type} (A B : List (Nat × α)) : Prop := ∀ i v, lk A i = some v → lk B i = some v

theorem Sub.refl {α : Type} (A : List (Nat × α)) : Sub A A := fun _ _ h => h
theorem Sub.nil {α : Type} (B : List (Nat × α)) : Sub [] B := fun _ _ h => by simp [lk] at h
theorem Sub.cons {α : Type} {A B : List (Nat × α)} {i : Nat} {v : α} (h : lk B i = some v) (hs : Sub A B) : Sub ((i, v) :: A) B := by
  intro j u hj
  by_cases e : i = j
  · subst e; rw [lk_cons_same] at hj; cases hj; exact h
  · rw [lk_cons_ne e] at hj; exact hs _ _ hj

/-! ### Registers -/
def Fits (n : Nat) (L : List (Nat × Value)) (a : Act) : Prop :=
  a.defers = [] ∧ a.tmps.size = n ∧ ∀ i v, lk L i = some v → a.tmps.getD i undef = v

theorem Fits.sub {n : Nat} {L L' : List (Nat × Value)} {a : Act} (h : Fits n L a) (hs : Sub L' L) : Fits n L' a :=
  ⟨h.1, h.2.1, fun i v hi => h.2.2 i v (hs i v hi)⟩

theorem Fits.put {n : Nat} {L : List (Nat × Value)} {a : Act} (h : Fits n L a) {d : Nat} (hd : d < n) (v : Value) : Fits n ((d, v) :: L) (a.put (some d) v) := by
  obtain ⟨h1, h2, h3⟩ := h
  refine ⟨h1, by simp [Act.put, h2], fun i u hi => ?_⟩
  by_cases e : d = i
  · subst e
    rw [lk_cons_same] at hi
    cases hi
    simp [Act.put, h2, hd]
  · rw [lk_cons_ne e] at hi
    have := h3 i u hi
    simp only [Act.put, Array.getD_eq_getD_getElem?] at this ⊢
    rw [Array.getElem?_setIfInBounds_ne e]
    exact this

theorem Fits.put_none {n : Nat} {L : List (Nat × Value)} {a : Act} (h : Fits n L a) (v : Value) : Fits n L (a.put none v) := h

def ev (L : List (Nat × Value)) : Operand → Option Value
  | .tmp t => lk L t
  | .const v => some v
  | .global g => some (.pointer (some ⟨g, 0, none⟩))
  | .func f => some (.func (.func f) #[] #[])

theorem Fits.ev {n : Nat} {L : List (Nat × Value)} {a : Act} (h : Fits n L a) {x : Operand} {v : Value} (hx : ev L x = some v) : a.eval x = v := by
  cases x with
  | tmp t => exact h.2.2 t v hx
  | const c => simp [Fw.ev] at hx; exact hx
  | global g => simp [Fw.ev] at hx; exact hx
  | func f => simp [Fw.ev] at hx; exact hx

/-- Several operands. -/
def evs (L : List (Nat × Value)) : List Operand → Option (List Value)
  | [] => some []
  | x :: r => match ev L x, evs L r with
    | some v, some vs => some (v :: vs)
    | _, _ => none

theorem Fits.evs {n : Nat} {L : List (Nat × Value)} {a : Act} (h : Fits n L a) : ∀ {xs : List Operand} {vs : List Value}, Fw.evs L xs = some vs → xs.map a.eval = vs := by
  intro xs
  induction xs with
  | nil => intro vs hv; simp [Fw.evs] at hv; simp [hv]
  | cons x r ih =>
    intro vs hv
    simp only [Fw.evs] at hv
    split at hv
    · rename_i v us h1 h2
      cases hv
      simp [h.ev h1, ih h2]
    · cases hv

/-! ### Memory -/
/-- The blocks that a slice value lies in. -/
def blkOf : Value → List Nat
  | .slice (some a) _ _ => [a.block]
  | _ => []

/-- A slice that the call owns, with all of its block: nil, or from the block's begin. -/
def Own (w : World) (v : Value) (T : TypeId) (sz : Nat) (l : List Value) : Prop :=
  (v = .slice none 0 0 ∧ l = []) ∨
  ∃ b len cap junk, v = .slice (some ⟨b, 0, none⟩) len cap ∧ l.length = len * sz ∧ junk.length = (cap - len) * sz ∧ len ≤ cap ∧
    w.heap[b]? = some (.cells (l ++ junk).toArray T)

/-- A slice that reads as these cells. -/
def Rd (w : World) (v : Value) (sz : Nat) (l : List Value) : Prop :=
  ∃ a len cap, v = .slice a len cap ∧ l.length = len * sz ∧ len ≤ cap ∧ (a = none → cap = 0) ∧
    ∀ x, a = some x → x.spot = none ∧ ∀ i, i < l.length → w.cell? ⟨x.block, x.off + i, none⟩ = l[i]?

/-- Cells that lie from here on. -/
def Lies (w : World) (b off : Nat) (l : List Value) : Prop := ∀ i, i < l.length → w.cell? ⟨b, off + i, none⟩ = l[i]?

inductive Ent where
  | blk (b : Nat) (o : Obj)
  | own (v : Value) (T : TypeId) (sz : Nat) (l : List Value)

def Ent.ids : Ent → List Nat
  | .blk b _ => [b]
  | .own v _ _ _ => blkOf v

def Ent.holds (w : World) : Ent → Prop
  | .blk b o => w.heap[b]? = some o
  | .own v T sz l => Own w v T sz l

inductive FE where
  | sl (v : Value) (sz : Nat) (l : List Value)
  | mem (b off : Nat) (l : List Value)

def FE.holds (w : World) : FE → Prop
  | .sl v sz l => Rd w v sz l
  | .mem b off l => Lies w b off l

/-- The block is none of those that it is read from. -/
def FE.off (b : Nat) : FE → Prop
  | .sl v _ l => l = [] ∨ b ∉ blkOf v
  | .mem b' _ l => l = [] ∨ b ≠ b'

/-- The worlds: w0 as the call began, X: older blocks that may be written. -/
structure Sat (w0 : World) (X : List Nat) (H : List (Nat × Ent)) (F : List (Nat × FE)) (w : World) : Prop where
  tape : w.tape = w0.tape
  os : w.os = w0.os
  output : w.output = w0.output
  size : w0.heap.size ≤ w.heap.size
  old : ∀ b, b < w0.heap.size → b ∉ X → w.heap[b]? = w0.heap[b]?
  hold : ∀ h e, lk H h = some e → e.holds w
  fresh : ∀ h e, lk H h = some e → ∀ b, b ∈ e.ids → w0.heap.size ≤ b ∨ b ∈ X
  apart : ∀ h e h' e', lk H h = some e → lk H h' = some e' → h ≠ h' → ∀ b, b ∈ e.ids → b ∉ e'.ids
  rd : ∀ h f, lk F h = some f → f.holds w
  off : ∀ h f h' e, lk F h = some f → lk H h' = some e → ∀ b, b ∈ e.ids → f.off b

/-- What a call may have done: blocks M written, the rest as it was; what is new holds. -/
structure Gives (w w' : World) (M : List Nat) (N : List (Nat × Ent)) : Prop where
  tape : w'.tape = w.tape
  os : w'.os = w.os
  output : w'.output = w.output
  size : w.heap.size ≤ w'.heap.size
  old : ∀ b, b < w.heap.size → b ∉ M → w'.heap[b]? = w.heap[b]?
  hold : ∀ h e, lk N h = some e → e.holds w'
  fresh : ∀ h e, lk N h = some e → ∀ b, b ∈ e.ids → w.heap.size ≤ b ∨ b ∈ M
  apart : ∀ h e h' e', lk N h = some e → lk N h' = some e' → h ≠ h' → ∀ b, b ∈ e.ids → b ∉ e'.ids

theorem Sat.gives {w0 : World} {X : List Nat} {H N : List (Nat × Ent)} {F : List (Nat × FE)} {w : World} (h : Sat w0 X H F w) (hs : Sub N H) : Gives w0 w X N :=
  ⟨h.tape, h.os, h.output, h.size, h.old, fun k e hk => h.hold k e (hs _ _ hk), fun k e hk => h.fresh k e (hs _ _ hk),
    fun k e k' e' hk hk' => h.apart k e k' e' (hs _ _ hk) (hs _ _ hk')⟩

theorem Gives.below {w w' : World} {N : List (Nat × Ent)} (h : Gives w w' [] N) : Below w.heap.size w w' :=
  ⟨h.os, h.tape, h.output, h.size, fun k hk => h.old k hk (by simp)⟩

theorem Sat.weaken {w0 : World} {X : List Nat} {H H' : List (Nat × Ent)} {F F' : List (Nat × FE)} {w : World} (h : Sat w0 X H F w) (hH : Sub H' H) (hF : Sub F' F) : Sat w0 X H' F' w :=
  ⟨h.tape, h.os, h.output, h.size, h.old, fun k e hk => h.hold k e (hH _ _ hk), fun k e hk => h.fresh k e (hH _ _ hk),
    fun k e k' e' hk hk' => h.apart k e k' e' (hH _ _ hk) (hH _ _ hk'), fun k f hk => h.rd k f (hF _ _ hk), fun k f k' e hk hk' => h.off k f k' e (hF _ _ hk) (hH _ _ hk')⟩

theorem Sat.drawn {w0 : World} {X : List Nat} {H : List (Nat × Ent)} {F : List (Nat × FE)} {w : World} (h : Sat w0 X H F w) (n : Nat) : Sat w0 X H F { w with drawn := n } :=
  ⟨h.tape, h.os, h.output, h.size, h.old, fun k e hk => by have := h.hold k e hk; cases e <;> exact this, h.fresh, h.apart,
    fun k f hk => by have := h.rd k f hk; cases f <;> exact this, h.off⟩

theorem cell?_lt {w : World} {a : Addr} {v : Value} (h : w.cell? a = some v) : a.block < w.heap.size := by
  unfold World.cell? at h
  split at h
  · rename_i hb; exact (Array.getElem?_eq_some_iff.1 hb).1
  · cases h

theorem Ent.lt {w : World} {e : Ent} (h : e.holds w) {b : Nat} (hb : b ∈ e.ids) : b < w.heap.size := by
  cases e with
  | blk b' o =>
    simp only [Ent.ids, List.mem_singleton] at hb
    subst hb
    exact (Array.getElem?_eq_some_iff.1 h).1
  | own v T sz l =>
    rcases h with ⟨rfl, _⟩ | ⟨b', len, cap, junk, rfl, _, _, _, hh⟩
    · simp [Ent.ids, blkOf] at hb
    · simp only [Ent.ids, blkOf, List.mem_singleton] at hb
      subst hb
      exact (Array.getElem?_eq_some_iff.1 hh).1

theorem Ent.keep {w w' : World} {e : Ent} (h : e.holds w) (hk : ∀ b, b ∈ e.ids → w'.heap[b]? = w.heap[b]?) : e.holds w' := by
  cases e with
  | blk b o => simp only [Ent.holds] at *; rw [hk b (by simp [Ent.ids])]; exact h
  | own v T sz l =>
    rcases h with h | ⟨b, len, cap, junk, rfl, h1, h2, h3, hh⟩
    · exact .inl h
    · exact .inr ⟨b, len, cap, junk, rfl, h1, h2, h3, by rw [hk b (by simp [Ent.ids, blkOf])]; exact hh⟩

theorem Rd.keep {w w' : World} {v : Value} {sz : Nat} {l : List Value} (h : Rd w v sz l) (hk : ∀ b, b < w.heap.size → b ∈ blkOf v → l ≠ [] → w'.heap[b]? = w.heap[b]?) : Rd w' v sz l := by
  obtain ⟨a, len, cap, rfl, h1, h2, h3, h4⟩ := h
  refine ⟨a, len, cap, rfl, h1, h2, h3, fun x hx => ⟨(h4 x hx).1, fun i hi => ?_⟩⟩
  subst hx
  have hc := (h4 x rfl).2 i hi
  rw [← hc]
  have hlt : x.block < w.heap.size := cell?_lt (a := ⟨x.block, x.off + i, none⟩) (v := l[i]) (by rw [hc]; simp [hi])
  exact World.cell?_of_block (w := w) (hk _ hlt (by simp [blkOf]) (by intro e; subst e; simp at hi))

theorem Lies.keep {w w' : World} {b off : Nat} {l : List Value} (h : Lies w b off l) (hk : b < w.heap.size → l ≠ [] → w'.heap[b]? = w.heap[b]?) : Lies w' b off l := by
  intro i hi
  have hc := h i hi
  rw [← hc]
  have hlt : b < w.heap.size := cell?_lt (a := ⟨b, off + i, none⟩) (v := l[i]) (by rw [hc]; simp [hi])
  exact World.cell?_of_block (w := w) (hk hlt (by intro e; subst e; simp at hi))

theorem FE.keep {w w' : World} {f : FE} (h : f.holds w) (hk : ∀ b, b < w.heap.size → ¬ f.off b → w'.heap[b]? = w.heap[b]?) : f.holds w' := by
  cases f with
  | sl v sz l => exact Rd.keep h fun b hlt hb hl => hk b hlt (by simp [FE.off, hb, hl])
  | mem b off l => exact Lies.keep h fun hlt hl => hk b hlt (by simp [FE.off, hl])

/-- A call, or a step, that writes only what the entries S own, and gives N in their place. -/
theorem Sat.step {w0 : World} {X : List Nat} {H N : List (Nat × Ent)} {F : List (Nat × FE)} {w w' : World} {M : List Nat} (h : Sat w0 X H F w) (g : Gives w w' M N)
    (hM : ∀ b, b ∈ M → ∃ k e, lk H k = some e ∧ b ∈ e.ids ∧ lk N k ≠ none) : Sat w0 X (N ++ H) F w' := by
  have notM : ∀ k e, lk H k = some e → lk N k = none → ∀ b, b ∈ e.ids → b ∉ M := by
    intro k e hk hn b hb hbM
    obtain ⟨k', e', hk', hb', hn'⟩ := hM b hbM
    have hne : k ≠ k' := by intro e1; subst e1; exact hn' hn
    exact h.apart k e k' e' hk hk' hne b hb hb'
  have okN : ∀ k e, lk N k = some e → ∀ b, b ∈ e.ids → w0.heap.size ≤ b ∨ b ∈ X := by
    intro k e hk b hb
    rcases g.fresh k e hk b hb with h1 | h1
    · exact .inl (Nat.le_trans h.size h1)
    · obtain ⟨k', e', hk', hb', _⟩ := hM b h1
      exact h.fresh k' e' hk' b hb'
  have look : ∀ k e, lk (N ++ H) k = some e → lk N k = some e ∨ (lk N k = none ∧ lk H k = some e) := by
    intro k e hk
    rw [lk_append] at hk
    cases hN : lk N k with
    | some v => rw [hN] at hk; exact .inl hk
    | none => rw [hN] at hk; exact .inr ⟨rfl, hk⟩
  -- an entry of N and one of H that is left
  have cross : ∀ k e k' e', lk N k = some e → lk N k' = none → lk H k' = some e' → ∀ b, b ∈ e.ids → b ∉ e'.ids := by
    intro k e k' e' hk hn hk' b hb hb'
    rcases g.fresh k e hk b hb with h1 | h1
    · have := Ent.lt (h.hold k' e' hk') hb'
      omega
    · exact notM k' e' hk' hn b hb' h1
  refine ⟨g.tape.trans h.tape, g.os.trans h.os, g.output.trans h.output, Nat.le_trans h.size g.size, ?_, ?_, ?_, ?_, ?_, ?_⟩
  · intro b hb hX
    have hnM : b ∉ M := by
      intro hbM
      obtain ⟨k', e', hk', hb', _⟩ := hM b hbM
      rcases h.fresh k' e' hk' b hb' with h1 | h1
      · omega
      · exact hX h1
    rw [g.old b (by have := h.size; omega) hnM]
    exact h.old b hb hX
  · intro k e hk
    rcases look k e hk with h1 | ⟨h1, h2⟩
    · exact g.hold k e h1
    · exact Ent.keep (h.hold k e h2) fun b hb => g.old b (Ent.lt (h.hold k e h2) hb) (notM k e h2 h1 b hb)
  · intro k e hk b hb
    rcases look k e hk with h1 | ⟨h1, h2⟩
    · exact okN k e h1 b hb
    · exact h.fresh k e h2 b hb
  · intro k e k' e' hk hk' hne b hb
    rcases look k e hk with h1 | ⟨h1, h2⟩ <;> rcases look k' e' hk' with h1' | ⟨h1', h2'⟩
    · exact g.apart k e k' e' h1 h1' hne b hb
    · exact cross k e k' e' h1 h1' h2' b hb
    · intro hb'; exact cross k' e' k e h1' h1 h2 b hb' hb
    · exact h.apart k e k' e' h2 h2' hne b hb
  · intro k f hk
    refine FE.keep (h.rd k f hk) fun b hlt hoff => g.old b hlt fun hbM => ?_
    obtain ⟨k', e', hk', hb', _⟩ := hM b hbM
    exact hoff (h.off k f k' e' hk hk' b hb')
  · intro k f k' e hk hk' b hb
    rcases look k' e hk' with h1 | ⟨h1, h2⟩
    · rcases g.fresh k' e h1 b hb with h3 | h3
      · have hf := h.rd k f hk
        cases f with
        | sl v sz l =>
          obtain ⟨a, len, cap, rfl, g1, g2, g3, g4⟩ := hf
          by_cases hl : l = []
          · exact .inl hl
          · refine .inr fun hbv => ?_
            cases a with
            | none => simp [blkOf] at hbv
            | some x =>
              simp only [blkOf, List.mem_singleton] at hbv
              have h0 : 0 < l.length := List.length_pos_iff.2 hl
              have hc := (g4 x rfl).2 0 h0
              have hlt : x.block < w.heap.size := cell?_lt (a := ⟨x.block, x.off + 0, none⟩) (v := l[0]) (by rw [hc]; simp [h0])
              omega
        | mem b' off l =>
          by_cases hl : l = []
          · exact .inl hl
          · refine .inr fun e1 => ?_
            have h0 : 0 < l.length := List.length_pos_iff.2 hl
            have hc := hf 0 h0
            have hlt : b' < w.heap.size := cell?_lt (a := ⟨b', off + 0, none⟩) (v := l[0]) (by rw [hc]; simp [h0])
            omega
      · obtain ⟨k2, e2, hk2, hb2, _⟩ := hM b h3
        exact h.off k f k2 e2 hk hk2 b hb2
    · exact h.off k f k' e hk h2 b hb

/-- At the call's begin. -/
theorem Sat.start (w : World) (X : List Nat) (H : List (Nat × Ent)) (F : List (Nat × FE)) (h1 : ∀ h e, lk H h = some e → e.holds w) (h2 : ∀ h e, lk H h = some e → ∀ b, b ∈ e.ids → b ∈ X)
    (h3 : ∀ h e h' e', lk H h = some e → lk H h' = some e' → h ≠ h' → ∀ b, b ∈ e.ids → b ∉ e'.ids) (h4 : ∀ h f, lk F h = some f → f.holds w)
    (h5 : ∀ h f h' e, lk F h = some f → lk H h' = some e → ∀ b, b ∈ e.ids → f.off b) : Sat w X H F w :=
  ⟨rfl, rfl, rfl, Nat.le_refl _, fun _ _ _ => rfl, h1, fun h e hk b hb => .inr (h2 h e hk b hb), h3, h4, h5⟩

theorem lk_nil {α : Type} {i : Nat} {v : α} (h : lk ([] : List (Nat × α)) i = some v) : False := by simp [lk] at h

theorem Sat.start0 (w : World) : Sat w [] [] [] w :=
  .start w [] [] [] (fun _ _ h => (lk_nil h).elim) (fun _ _ h => (lk_nil h).elim) (fun _ _ _ _ h => (lk_nil h).elim) (fun _ _ h => (lk_nil h).elim) (fun _ _ _ _ h => (lk_nil h).elim)

/-- One more memory that is read. -/
theorem Sat.read {w0 : World} {X : List Nat} {H : List (Nat × Ent)} {F : List (Nat × FE)} {w : World} (h : Sat w0 X H F w) (i : Nat) {f : FE} (hf : f.holds w)
    (ho : ∀ h' e, lk H h' = some e → ∀ b, b ∈ e.ids → f.off b) : Sat w0 X H ((i, f) :: F) w := by
  refine ⟨h.tape, h.os, h.output, h.size, h.old, h.hold, h.fresh, h.apart, fun k f' hk => ?_, fun k f' k' e hk hk' => ?_⟩
  · by_cases e1 : i = k
    · subst e1; rw [lk_cons_same] at hk; cases hk; exact hf
    · rw [lk_cons_ne e1] at hk; exact h.rd k f' hk
  · by_cases e1 : i = k
    · subst e1; rw [lk_cons_same] at hk; cases hk; exact ho k' e hk'
    · rw [lk_cons_ne e1] at hk; exact h.off k f' k' e hk hk'

end Go.Proofs.Yteedclmcgifmpaa.Fw

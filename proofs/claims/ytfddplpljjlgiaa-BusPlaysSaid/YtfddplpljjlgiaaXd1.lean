/- The statement's proof, part 1: what its walks and its plain laws need. -/
import Derived.Test.YtfddplpljjlgiaaRows
import Derived.Tactics
import Derived.Deep.Quiet
import Derived.StillTail
import Derived.Laws.World
import Derived.Laws.Sem
import Derived.Laws.Entries
import Derived.Below
import Derived.Deep.LoopGhost
import Derived.Laws.BytesString
import Derived.Laws.IdiomStrings
import Derived.KernelRfl
import Derived.Carry
import Derived.OpenShut
import Derived.ProofKit
import Derived.ChangeSame
import Derived.HandedShaped
import Derived.SizedLaws
import Derived.Test.YtfddplpljjlgiaaProg
import Derived.Shelf.SlSortCmp.InsertionK
import Derived.Shelf.SlSortFuncK.SWK
import Derived.Sort.AssemblyPlain
import Derived.Shelf.SlSortCmp.PdqK
import Derived.Laws.Strings
namespace Go.Proofs.Ytfddplpljjlgiaa.Fw
open Go Go.RowKit
/-- The first entry with this key. -/
def lk {α : Type} : List (Nat × α) → Nat → Option α
  | [], _ => none
  | (j, v) :: r, i => match Nat.beq j i with
    | true => some v
    | false => lk r i
theorem lk_cons_same {α : Type} (i : Nat) (v : α) (r : List (Nat × α)) : lk ((i, v) :: r) i = some v := by
  simp [lk]
theorem lk_cons_ne {α : Type} {i j : Nat} (h : j ≠ i) (v : α) (r : List (Nat × α)) : lk ((j, v) :: r) i = lk r i := by
  simp only [lk]
  have : Nat.beq j i = false := by
    cases hb : Nat.beq j i with
    | false => rfl
    | true => exact absurd (Nat.eq_of_beq_eq_true hb) h
  rw [this]
theorem lk_append {α : Type} (A B : List (Nat × α)) (i : Nat) : lk (A ++ B) i = match lk A i with | some v => some v | none => lk B i := by
  induction A with
  | nil => simp [lk]
  | cons x r ih =>
    obtain ⟨j, v⟩ := x
    simp only [List.cons_append, lk]
    cases Nat.beq j i <;> simp [ih]
/-- Every entry of the left list stands in the right one. -/
def Sub {α : Type} (A B : List (Nat × α)) : Prop := ∀ i v, lk A i = some v → lk B i = some v
theorem Sub.refl {α : Type} (A : List (Nat × α)) : Sub A A := fun _ _ h => h
theorem Sub.nil {α : Type} (B : List (Nat × α)) : Sub [] B := fun _ _ h => by simp [lk] at h
theorem Sub.cons {α : Type} {A B : List (Nat × α)} {i : Nat} {v : α} (h : lk B i = some v) (hs : Sub A B) : Sub ((i, v) :: A) B := by
  intro j u hj
  by_cases e : i = j
  · subst e; rw [lk_cons_same] at hj; cases hj; exact h
  · rw [lk_cons_ne e] at hj; exact hs _ _ hj
def Fits (n : Nat) (L : List (Nat × Value)) (a : Act) : Prop :=
  a.defers = [] ∧ a.tmps.size = n ∧ ∀ i v, lk L i = some v → a.tmps.getD i undef = v
theorem Fits.sub {n : Nat} {L L' : List (Nat × Value)} {a : Act} (h : Fits n L a) (hs : Sub L' L) : Fits n L' a :=
  ⟨h.1, h.2.1, fun i v hi => h.2.2 i v (hs i v hi)⟩
theorem Fits.put {n : Nat} {L : List (Nat × Value)} {a : Act} (h : Fits n L a) {d : Nat} (hd : d < n) (v : Value) : Fits n ((d, v) :: L) (a.put (some d) v) := by
  obtain ⟨h1, h2, h3⟩ := h
  refine ⟨h1, by simp [Act.put, h2], fun i u hi => ?_⟩
  by_cases e : d = i
  · subst e
    rw [lk_cons_same] at hi
    cases hi
    simp [Act.put, h2, hd]
  · rw [lk_cons_ne e] at hi
    have := h3 i u hi
    simp only [Act.put, Array.getD_eq_getD_getElem?] at this ⊢
    rw [Array.getElem?_setIfInBounds_ne e]
    exact this
def ev (L : List (Nat × Value)) : Operand → Option Value
  | .tmp t => lk L t
  | .const v => some v
  | .global g => some (.pointer (some ⟨g, 0, none⟩))
  | .func f => some (.func (.func f) #[] #[])
theorem Fits.ev {n : Nat} {L : List (Nat × Value)} {a : Act} (h : Fits n L a) {x : Operand} {v : Value} (hx : ev L x = some v) : a.eval x = v := by
  cases x with
  | tmp t => exact h.2.2 t v hx
  | const c => simp [Fw.ev] at hx; exact hx
  | global g => simp [Fw.ev] at hx; exact hx
  | func f => simp [Fw.ev] at hx; exact hx
/-- Several operands. -/
def evs (L : List (Nat × Value)) : List Operand → Option (List Value)
  | [] => some []
  | x :: r => match ev L x, evs L r with
    | some v, some vs => some (v :: vs)
    | _, _ => none
theorem Fits.evs {n : Nat} {L : List (Nat × Value)} {a : Act} (h : Fits n L a) : ∀ {xs : List Operand} {vs : List Value}, Fw.evs L xs = some vs → xs.map a.eval = vs := by
  intro xs
  induction xs with
  | nil => intro vs hv; simp [Fw.evs] at hv; simp [hv]
  | cons x r ih =>
    intro vs hv
    simp only [Fw.evs] at hv
    split at hv
    · rename_i v us h1 h2
      cases hv
      simp [h.ev h1, ih h2]
    · cases hv
/-- The blocks that a slice value lies in. -/
def blkOf : Value → List Nat
  | .slice (some a) _ _ => [a.block]
  | _ => []
/-- A slice that the call owns, with all of its block: nil, or from the block's begin. -/
def Own (w : World) (v : Value) (T : TypeId) (sz : Nat) (l : List Value) : Prop :=
  (v = .slice none 0 0 ∧ l = []) ∨
  ∃ b len cap junk, v = .slice (some ⟨b, 0, none⟩) len cap ∧ l.length = len * sz ∧ junk.length = (cap - len) * sz ∧ len ≤ cap ∧
    w.heap[b]? = some (.cells (l ++ junk).toArray T)
/-- A slice that reads as these cells. -/
def Rd (w : World) (v : Value) (sz : Nat) (l : List Value) : Prop :=
  ∃ a len cap, v = .slice a len cap ∧ l.length = len * sz ∧ len ≤ cap ∧ (a = none → cap = 0) ∧
    ∀ x, a = some x → (0 < l.length → x.spot = none) ∧ ∀ i, i < l.length → w.cell? ⟨x.block, x.off + i, none⟩ = l[i]?
/-- Cells that lie from here on. -/
def Lies (w : World) (b off : Nat) (l : List Value) : Prop := ∀ i, i < l.length → w.cell? ⟨b, off + i, none⟩ = l[i]?
inductive Ent where
  | blk (b : Nat) (o : Obj)
  | own (v : Value) (T : TypeId) (sz : Nat) (l : List Value)
def Ent.ids : Ent → List Nat
  | .blk b _ => [b]
  | .own v _ _ _ => blkOf v
def Ent.holds (w : World) : Ent → Prop
  | .blk b o => w.heap[b]? = some o
  | .own v T sz l => Own w v T sz l
inductive FE where
  | sl (v : Value) (sz : Nat) (l : List Value)
  | mem (b off : Nat) (l : List Value)
  | rows (l : List (Value × Nat × List Value))
def FE.holds (w : World) : FE → Prop
  | .sl v sz l => Rd w v sz l
  | .mem b off l => Lies w b off l
  | .rows l => ∀ x, x ∈ l → Rd w x.1 x.2.1 x.2.2
/-- The block is none of those that it is read from. -/
def FE.off (b : Nat) : FE → Prop
  | .sl v _ l => l = [] ∨ b ∉ blkOf v
  | .mem b' _ l => l = [] ∨ b ≠ b'
  | .rows l => ∀ x, x ∈ l → x.2.2 = [] ∨ b ∉ blkOf x.1
/-- The worlds: w0 as the call began, X: older blocks that may be written. -/
structure Sat (w0 : World) (X : List Nat) (H : List (Nat × Ent)) (F : List (Nat × FE)) (w : World) : Prop where
  tape : w.tape = w0.tape
  os : w.os = w0.os
  output : w.output = w0.output
  size : w0.heap.size ≤ w.heap.size
  old : ∀ b, b < w0.heap.size → b ∉ X → w.heap[b]? = w0.heap[b]?
  hold : ∀ h e, lk H h = some e → e.holds w
  fresh : ∀ h e, lk H h = some e → ∀ b, b ∈ e.ids → w0.heap.size ≤ b ∨ b ∈ X
  apart : ∀ h e h' e', lk H h = some e → lk H h' = some e' → h ≠ h' → ∀ b, b ∈ e.ids → b ∉ e'.ids
  rd : ∀ h f, lk F h = some f → f.holds w
  off : ∀ h f h' e, lk F h = some f → lk H h' = some e → ∀ b, b ∈ e.ids → f.off b
/-- What a call may have done: blocks M written, the rest as it was; what is new holds. -/
structure Gives (w w' : World) (M : List Nat) (N : List (Nat × Ent)) : Prop where
  tape : w'.tape = w.tape
  os : w'.os = w.os
  output : w'.output = w.output
  size : w.heap.size ≤ w'.heap.size
  old : ∀ b, b < w.heap.size → b ∉ M → w'.heap[b]? = w.heap[b]?
  hold : ∀ h e, lk N h = some e → e.holds w'
  fresh : ∀ h e, lk N h = some e → ∀ b, b ∈ e.ids → w.heap.size ≤ b ∨ b ∈ M
  apart : ∀ h e h' e', lk N h = some e → lk N h' = some e' → h ≠ h' → ∀ b, b ∈ e.ids → b ∉ e'.ids
theorem Sat.gives {w0 : World} {X : List Nat} {H N : List (Nat × Ent)} {F : List (Nat × FE)} {w : World} (h : Sat w0 X H F w) (hs : Sub N H) : Gives w0 w X N :=
  ⟨h.tape, h.os, h.output, h.size, h.old, fun k e hk => h.hold k e (hs _ _ hk), fun k e hk => h.fresh k e (hs _ _ hk),
    fun k e k' e' hk hk' => h.apart k e k' e' (hs _ _ hk) (hs _ _ hk')⟩
theorem Gives.below {w w' : World} {N : List (Nat × Ent)} (h : Gives w w' [] N) : Below w.heap.size w w' :=
  ⟨h.os, h.tape, h.output, h.size, fun k hk => h.old k hk (by simp)⟩
theorem Sat.weaken {w0 : World} {X : List Nat} {H H' : List (Nat × Ent)} {F F' : List (Nat × FE)} {w : World} (h : Sat w0 X H F w) (hH : Sub H' H) (hF : Sub F' F) : Sat w0 X H' F' w :=
  ⟨h.tape, h.os, h.output, h.size, h.old, fun k e hk => h.hold k e (hH _ _ hk), fun k e hk => h.fresh k e (hH _ _ hk),
    fun k e k' e' hk hk' => h.apart k e k' e' (hH _ _ hk) (hH _ _ hk'), fun k f hk => h.rd k f (hF _ _ hk), fun k f k' e hk hk' => h.off k f k' e (hF _ _ hk) (hH _ _ hk')⟩
theorem Sat.drawn {w0 : World} {X : List Nat} {H : List (Nat × Ent)} {F : List (Nat × FE)} {w : World} (h : Sat w0 X H F w) (n : Nat) : Sat w0 X H F { w with drawn := n } :=
  ⟨h.tape, h.os, h.output, h.size, h.old, fun k e hk => by have := h.hold k e hk; cases e <;> exact this, h.fresh, h.apart,
    fun k f hk => by have := h.rd k f hk; cases f <;> exact this, h.off⟩
theorem cell?_lt {w : World} {a : Addr} {v : Value} (h : w.cell? a = some v) : a.block < w.heap.size := by
  unfold World.cell? at h
  split at h
  · rename_i hb; exact (Array.getElem?_eq_some_iff.1 hb).1
  · cases h
theorem Ent.lt {w : World} {e : Ent} (h : e.holds w) {b : Nat} (hb : b ∈ e.ids) : b < w.heap.size := by
  cases e with
  | blk b' o =>
    simp only [Ent.ids, List.mem_singleton] at hb
    subst hb
    exact (Array.getElem?_eq_some_iff.1 h).1
  | own v T sz l =>
    rcases h with ⟨rfl, _⟩ | ⟨b', len, cap, junk, rfl, _, _, _, hh⟩
    · simp [Ent.ids, blkOf] at hb
    · simp only [Ent.ids, blkOf, List.mem_singleton] at hb
      subst hb
      exact (Array.getElem?_eq_some_iff.1 hh).1
theorem Ent.keep {w w' : World} {e : Ent} (h : e.holds w) (hk : ∀ b, b ∈ e.ids → w'.heap[b]? = w.heap[b]?) : e.holds w' := by
  cases e with
  | blk b o => simp only [Ent.holds] at *; rw [hk b (by simp [Ent.ids])]; exact h
  | own v T sz l =>
    rcases h with h | ⟨b, len, cap, junk, rfl, h1, h2, h3, hh⟩
    · exact .inl h
    · exact .inr ⟨b, len, cap, junk, rfl, h1, h2, h3, by rw [hk b (by simp [Ent.ids, blkOf])]; exact hh⟩
theorem Rd.keep {w w' : World} {v : Value} {sz : Nat} {l : List Value} (h : Rd w v sz l) (hk : ∀ b, b < w.heap.size → b ∈ blkOf v → l ≠ [] → w'.heap[b]? = w.heap[b]?) : Rd w' v sz l := by
  obtain ⟨a, len, cap, rfl, h1, h2, h3, h4⟩ := h
  refine ⟨a, len, cap, rfl, h1, h2, h3, fun x hx => ⟨(h4 x hx).1, fun i hi => ?_⟩⟩
  subst hx
  have hc := (h4 x rfl).2 i hi
  rw [← hc]
  have hlt : x.block < w.heap.size := cell?_lt (a := ⟨x.block, x.off + i, none⟩) (v := l[i]) (by rw [hc]; simp [hi])
  exact World.cell?_of_block (w := w) (hk _ hlt (by simp [blkOf]) (by intro e; subst e; simp at hi))
theorem Lies.keep {w w' : World} {b off : Nat} {l : List Value} (h : Lies w b off l) (hk : b < w.heap.size → l ≠ [] → w'.heap[b]? = w.heap[b]?) : Lies w' b off l := by
  intro i hi
  have hc := h i hi
  rw [← hc]
  have hlt : b < w.heap.size := cell?_lt (a := ⟨b, off + i, none⟩) (v := l[i]) (by rw [hc]; simp [hi])
  exact World.cell?_of_block (w := w) (hk hlt (by intro e; subst e; simp at hi))
theorem FE.keep {w w' : World} {f : FE} (h : f.holds w) (hk : ∀ b, b < w.heap.size → ¬ f.off b → w'.heap[b]? = w.heap[b]?) : f.holds w' := by
  cases f with
  | sl v sz l => exact Rd.keep h fun b hlt hb hl => hk b hlt (by simp [FE.off, hb, hl])
  | mem b off l => exact Lies.keep h fun hlt hl => hk b hlt (by simp [FE.off, hl])
  | rows l => exact fun x hx => Rd.keep (h x hx) fun b hlt hb hl => hk b hlt fun ho => (ho x hx).elim hl fun h => h hb
/-- A call, or a step, that writes only what the entries S own, and gives N in their place. -/
theorem Sat.step {w0 : World} {X : List Nat} {H N : List (Nat × Ent)} {F : List (Nat × FE)} {w w' : World} {M : List Nat} (h : Sat w0 X H F w) (g : Gives w w' M N)
    (hM : ∀ b, b ∈ M → ∃ k e, lk H k = some e ∧ b ∈ e.ids ∧ lk N k ≠ none) : Sat w0 X (N ++ H) F w' := by
  have notM : ∀ k e, lk H k = some e → lk N k = none → ∀ b, b ∈ e.ids → b ∉ M := by
    intro k e hk hn b hb hbM
    obtain ⟨k', e', hk', hb', hn'⟩ := hM b hbM
    have hne : k ≠ k' := by intro e1; subst e1; exact hn' hn
    exact h.apart k e k' e' hk hk' hne b hb hb'
  have okN : ∀ k e, lk N k = some e → ∀ b, b ∈ e.ids → w0.heap.size ≤ b ∨ b ∈ X := by
    intro k e hk b hb
    rcases g.fresh k e hk b hb with h1 | h1
    · exact .inl (Nat.le_trans h.size h1)
    · obtain ⟨k', e', hk', hb', _⟩ := hM b h1
      exact h.fresh k' e' hk' b hb'
  have look : ∀ k e, lk (N ++ H) k = some e → lk N k = some e ∨ (lk N k = none ∧ lk H k = some e) := by
    intro k e hk
    rw [lk_append] at hk
    cases hN : lk N k with
    | some v => rw [hN] at hk; exact .inl hk
    | none => rw [hN] at hk; exact .inr ⟨rfl, hk⟩
  -- an entry of N and one of H that is left
  have cross : ∀ k e k' e', lk N k = some e → lk N k' = none → lk H k' = some e' → ∀ b, b ∈ e.ids → b ∉ e'.ids := by
    intro k e k' e' hk hn hk' b hb hb'
    rcases g.fresh k e hk b hb with h1 | h1
    · have := Ent.lt (h.hold k' e' hk') hb'
      omega
    · exact notM k' e' hk' hn b hb' h1
  refine ⟨g.tape.trans h.tape, g.os.trans h.os, g.output.trans h.output, Nat.le_trans h.size g.size, ?_, ?_, ?_, ?_, ?_, ?_⟩
  · intro b hb hX
    have hnM : b ∉ M := by
      intro hbM
      obtain ⟨k', e', hk', hb', _⟩ := hM b hbM
      rcases h.fresh k' e' hk' b hb' with h1 | h1
      · omega
      · exact hX h1
    rw [g.old b (by have := h.size; omega) hnM]
    exact h.old b hb hX
  · intro k e hk
    rcases look k e hk with h1 | ⟨h1, h2⟩
    · exact g.hold k e h1
    · exact Ent.keep (h.hold k e h2) fun b hb => g.old b (Ent.lt (h.hold k e h2) hb) (notM k e h2 h1 b hb)
  · intro k e hk b hb
    rcases look k e hk with h1 | ⟨h1, h2⟩
    · exact okN k e h1 b hb
    · exact h.fresh k e h2 b hb
  · intro k e k' e' hk hk' hne b hb
    rcases look k e hk with h1 | ⟨h1, h2⟩ <;> rcases look k' e' hk' with h1' | ⟨h1', h2'⟩
    · exact g.apart k e k' e' h1 h1' hne b hb
    · exact cross k e k' e' h1 h1' h2' b hb
    · intro hb'; exact cross k' e' k e h1' h1 h2 b hb' hb
    · exact h.apart k e k' e' h2 h2' hne b hb
  · intro k f hk
    refine FE.keep (h.rd k f hk) fun b hlt hoff => g.old b hlt fun hbM => ?_
    obtain ⟨k', e', hk', hb', _⟩ := hM b hbM
    exact hoff (h.off k f k' e' hk hk' b hb')
  · intro k f k' e hk hk' b hb
    rcases look k' e hk' with h1 | ⟨h1, h2⟩
    · rcases g.fresh k' e h1 b hb with h3 | h3
      · have hf := h.rd k f hk
        cases f with
        | sl v sz l =>
          obtain ⟨a, len, cap, rfl, g1, g2, g3, g4⟩ := hf
          by_cases hl : l = []
          · exact .inl hl
          · refine .inr fun hbv => ?_
            cases a with
            | none => simp [blkOf] at hbv
            | some x =>
              simp only [blkOf, List.mem_singleton] at hbv
              have h0 : 0 < l.length := List.length_pos_iff.2 hl
              have hc := (g4 x rfl).2 0 h0
              have hlt : x.block < w.heap.size := cell?_lt (a := ⟨x.block, x.off + 0, none⟩) (v := l[0]) (by rw [hc]; simp [h0])
              omega
        | mem b' off l =>
          by_cases hl : l = []
          · exact .inl hl
          · refine .inr fun e1 => ?_
            have h0 : 0 < l.length := List.length_pos_iff.2 hl
            have hc := hf 0 h0
            have hlt : b' < w.heap.size := cell?_lt (a := ⟨b', off + 0, none⟩) (v := l[0]) (by rw [hc]; simp [h0])
            omega
        | rows rs =>
          intro y hy
          obtain ⟨a, len, cap, hv, g1, g2, g3, g4⟩ := hf y hy
          by_cases hl : y.2.2 = []
          · exact .inl hl
          · refine .inr fun hbv => ?_
            rw [hv] at hbv
            cases a with
            | none => simp [blkOf] at hbv
            | some x =>
              simp only [blkOf, List.mem_singleton] at hbv
              have h0 : 0 < y.2.2.length := List.length_pos_iff.2 hl
              have hc := (g4 x rfl).2 0 h0
              have hlt : x.block < w.heap.size := cell?_lt (a := ⟨x.block, x.off + 0, none⟩) (v := y.2.2[0]) (by rw [hc]; simp [h0])
              omega
      · obtain ⟨k2, e2, hk2, hb2, _⟩ := hM b h3
        exact h.off k f k2 e2 hk hk2 b hb2
    · exact h.off k f k' e hk h2 b hb
/-- At the call's begin. -/
theorem Sat.start (w : World) (X : List Nat) (H : List (Nat × Ent)) (F : List (Nat × FE)) (h1 : ∀ h e, lk H h = some e → e.holds w) (h2 : ∀ h e, lk H h = some e → ∀ b, b ∈ e.ids → b ∈ X)
    (h3 : ∀ h e h' e', lk H h = some e → lk H h' = some e' → h ≠ h' → ∀ b, b ∈ e.ids → b ∉ e'.ids) (h4 : ∀ h f, lk F h = some f → f.holds w)
    (h5 : ∀ h f h' e, lk F h = some f → lk H h' = some e → ∀ b, b ∈ e.ids → f.off b) : Sat w X H F w :=
  ⟨rfl, rfl, rfl, Nat.le_refl _, fun _ _ _ => rfl, h1, fun h e hk b hb => .inr (h2 h e hk b hb), h3, h4, h5⟩
theorem lk_nil {α : Type} {i : Nat} {v : α} (h : lk ([] : List (Nat × α)) i = some v) : False := by simp [lk] at h
theorem Sat.start0 (w : World) : Sat w [] [] [] w :=
  .start w [] [] [] (fun _ _ h => (lk_nil h).elim) (fun _ _ h => (lk_nil h).elim) (fun _ _ _ _ h => (lk_nil h).elim) (fun _ _ h => (lk_nil h).elim) (fun _ _ _ _ h => (lk_nil h).elim)
/-- One more memory that is read. -/
theorem Sat.read {w0 : World} {X : List Nat} {H : List (Nat × Ent)} {F : List (Nat × FE)} {w : World} (h : Sat w0 X H F w) (i : Nat) {f : FE} (hf : f.holds w)
    (ho : ∀ h' e, lk H h' = some e → ∀ b, b ∈ e.ids → f.off b) : Sat w0 X H ((i, f) :: F) w := by
  refine ⟨h.tape, h.os, h.output, h.size, h.old, h.hold, h.fresh, h.apart, fun k f' hk => ?_, fun k f' k' e hk hk' => ?_⟩
  · by_cases e1 : i = k
    · subst e1; rw [lk_cons_same] at hk; cases hk; exact hf
    · rw [lk_cons_ne e1] at hk; exact h.rd k f' hk
  · by_cases e1 : i = k
    · subst e1; rw [lk_cons_same] at hk; cases hk; exact ho k' e hk'
    · rw [lk_cons_ne e1] at hk; exact h.off k f' k' e hk hk'
end Go.Proofs.Ytfddplpljjlgiaa.Fw
namespace Go.Proofs.Ytfddplpljjlgiaa.Fw
open Go Go.RowKit
/-- What does not turn in a walk: how many registers, the world at its begin, the older blocks that may be written. -/
structure Env where
  n : Nat
  w0 : World
  X : List Nat
def At (K : Act → World → Prop) (E : Env) (L : List (Nat × Value)) (H : List (Nat × Ent)) (F : List (Nat × FE)) : Prop :=
  ∀ a w, Fits E.n L a → Sat E.w0 E.X H F w → K a w
/-- Behind an exit. -/
def AtX (Q : Exit → Act → World → Prop) (e : Exit) (E : Env) (L : List (Nat × Value)) (H : List (Nat × Ent)) (F : List (Nat × FE)) : Prop :=
  ∀ a w, Fits E.n L a → Sat E.w0 E.X H F w → Q e a w
section
variable {P : Program} {Q : Exit → Act → World → Prop} {K : Act → World → Prop} {E : Env} {L L' : List (Nat × Value)} {H H' : List (Nat × Ent)} {F F' : List (Nat × FE)}
theorem At.weaken (h : At K E L' H' F') (hL : Sub L' L) (hH : Sub H' H) (hF : Sub F' F) : At K E L H F :=
  fun a w fa sw => h a w (fa.sub hL) (sw.weaken hH hF)
theorem At.regs (hL : Sub L' L) (h : At K E L' H F) : At K E L H F := fun a w fa sw => h a w (fa.sub hL) sw
theorem AtX.regs {e : Exit} (hL : Sub L' L) (h : AtX Q e E L' H F) : AtX Q e E L H F := fun a w fa sw => h a w (fa.sub hL) sw
theorem At.mem (hH : Sub H' H) (hF : Sub F' F) (h : At K E L H' F') : At K E L H F := fun a w fa sw => h a w fa (sw.weaken hH hF)
theorem AtX.mem {e : Exit} (hH : Sub H' H) (hF : Sub F' F) (h : AtX Q e E L H' F') : AtX Q e E L H F := fun a w fa sw => h a w fa (sw.weaken hH hF)
theorem cd_seq {x y : Code} (h : At (x.wp P (Exit.then (y.wp P Q) Q)) E L H F) : At ((Code.seq x y).wp P Q) E L H F :=
  fun a w fa sw => wp_seq (h a w fa sw)
theorem cd_skip (h : AtX Q .normal E L H F) : At (Code.skip.wp P Q) E L H F := fun a w fa sw => wp_skip (h a w fa sw)
theorem cd_exit {i : Nat} (h : AtX Q (.exit i) E L H F) : At ((Code.exit i).wp P Q) E L H F := fun a w fa sw => wp_exit (h a w fa sw)
theorem cd_ret (h : AtX Q .ret E L H F) : At (Code.ret.wp P Q) E L H F := fun a w fa sw => wp_ret (h a w fa sw)
theorem cd_block {i : Nat} {c : Code} (h : At (c.wp P (Exit.inBlock i Q)) E L H F) : At ((Code.block i c).wp P Q) E L H F :=
  fun a w fa sw => wp_block (h a w fa sw)
theorem cd_true {c : Operand} {x y : Code} (hc : ev L c = some (.bool true)) (h : At (x.wp P Q) E L H F) : At ((Code.cond c x y).wp P Q) E L H F :=
  fun a w fa sw => wp_cond_true (fa.ev hc) (h a w fa sw)
theorem cd_false {c : Operand} {x y : Code} (hc : ev L c = some (.bool false)) (h : At (y.wp P Q) E L H F) : At ((Code.cond c x y).wp P Q) E L H F :=
  fun a w fa sw => wp_cond_false (fa.ev hc) (h a w fa sw)
theorem cd_cond {c : Operand} {x y : Code} {t : Bool} (hc : ev L c = some (.bool t)) (h1 : t = true → At (x.wp P Q) E L H F) (h2 : t = false → At (y.wp P Q) E L H F) :
    At ((Code.cond c x y).wp P Q) E L H F := by
  cases t
  · exact cd_false hc (h2 rfl)
  · exact cd_true hc (h1 rfl)
/-- A test of a proposition. -/
theorem cd_if {c : Operand} {x y : Code} {p : Prop} [Decidable p] (hc : ev L c = some (.bool (decide p))) (h1 : p → At (x.wp P Q) E L H F) (h2 : ¬ p → At (y.wp P Q) E L H F) :
    At ((Code.cond c x y).wp P Q) E L H F :=
  cd_cond hc (fun h => h1 (of_decide_eq_true h)) (fun h => h2 (of_decide_eq_false h))
theorem cd_if_t {c : Operand} {x y : Code} {p : Prop} [Decidable p] (hc : ev L c = some (.bool (decide p))) (hp : p) (h : At (x.wp P Q) E L H F) : At ((Code.cond c x y).wp P Q) E L H F :=
  cd_if hc (fun _ => h) (fun hn => absurd hp hn)
theorem cd_if_f {c : Operand} {x y : Code} {p : Prop} [Decidable p] (hc : ev L c = some (.bool (decide p))) (hp : ¬ p) (h : At (y.wp P Q) E L H F) : At ((Code.cond c x y).wp P Q) E L H F :=
  cd_if hc (fun hn => absurd hn hp) (fun _ => h)
def Met {ι : Type} (I : ι → Prop) (Ls : ι → List (Nat × Value)) (Hs : ι → List (Nat × Ent)) (Fs : ι → List (Nat × FE)) (E : Env) (a : Act) (w : World) : Prop :=
  ∃ j, I j ∧ Fits E.n (Ls j) a ∧ Sat E.w0 E.X (Hs j) (Fs j) w
theorem cd_join {x y : Code} {ι : Type} (I : ι → Prop) (Ls : ι → List (Nat × Value)) (Hs : ι → List (Nat × Ent)) (Fs : ι → List (Nat × FE)) (h1 : At (x.wp P (Exit.then (Met I Ls Hs Fs E) Q)) E L H F)
    (h2 : ∀ j, I j → At (y.wp P Q) E (Ls j) (Hs j) (Fs j)) : At ((Code.seq x y).wp P Q) E L H F := by
  intro a w fa sw
  refine wp_seq (Code.wp_mono ?_ (h1 a w fa sw))
  intro e a' w' q
  cases e with
  | normal => obtain ⟨j, g1, g2, g3⟩ := q; exact h2 j g1 a' w' g2 g3
  | _ => exact q
theorem at_met {ι : Type} {I : ι → Prop} {Ls : ι → List (Nat × Value)} {Hs : ι → List (Nat × Ent)} {Fs : ι → List (Nat × FE)} (j : ι) (hj : I j) (hL : Sub (Ls j) L) (hH : Sub (Hs j) H) (hF : Sub (Fs j) F) :
    AtX (Exit.then (Met I Ls Hs Fs E) Q) .normal E L H F :=
  fun _ _ fa sw => ⟨j, hj, fa.sub hL, sw.weaken hH hF⟩
theorem ax_then (h : At K E L H F) : AtX (Exit.then K Q) .normal E L H F := h
theorem ax_then_exit {i : Nat} (h : AtX Q (.exit i) E L H F) : AtX (Exit.then K Q) (.exit i) E L H F := h
theorem ax_then_ret (h : AtX Q .ret E L H F) : AtX (Exit.then K Q) .ret E L H F := h
theorem ax_block {i : Nat} (h : AtX Q .normal E L H F) : AtX (Exit.inBlock i Q) .normal E L H F := h
theorem ax_block_ret {i : Nat} (h : AtX Q .ret E L H F) : AtX (Exit.inBlock i Q) .ret E L H F := h
theorem ax_block_hit {i : Nat} (h : AtX Q .normal E L H F) : AtX (Exit.inBlock i Q) (.exit i) E L H F :=
  fun a w fa sw => by simp only [Exit.inBlock, if_true]; exact h a w fa sw
theorem ax_block_miss {i j : Nat} (hne : j ≠ i) (h : AtX Q (.exit j) E L H F) : AtX (Exit.inBlock i Q) (.exit j) E L H F :=
  fun a w fa sw => by simp only [Exit.inBlock, if_neg hne]; exact h a w fa sw
/-- The end of a round. -/
def Again {ι : Type} (I : ι → Prop) (m : ι → Nat) (Ls : ι → List (Nat × Value)) (Hs : ι → List (Nat × Ent)) (Fs : ι → List (Nat × FE)) (E : Env) (k : Nat) (a : Act) (w : World) : Prop :=
  ∃ j, I j ∧ m j < k ∧ Fits E.n (Ls j) a ∧ Sat E.w0 E.X (Hs j) (Fs j) w
theorem cd_loop {c : Code} {ι : Type} (I : ι → Prop) (m : ι → Nat) (Ls : ι → List (Nat × Value)) (Hs : ι → List (Nat × Ent)) (Fs : ι → List (Nat × FE)) (i : ι) (hi : I i)
    (hL : Sub (Ls i) L) (hH : Sub (Hs i) H) (hF : Sub (Fs i) F)
    (round : ∀ j, I j → At (c.wp P (Exit.then (Again I m Ls Hs Fs E (m j)) Q)) E (Ls j) (Hs j) (Fs j)) : At ((Code.loop c).wp P Q) E L H F := by
  intro a w fa sw
  refine wp_loop_ghost (fun k a w => ∃ j, I j ∧ m j = k ∧ Fits E.n (Ls j) a ∧ Sat E.w0 E.X (Hs j) (Fs j) w) (m i) ⟨i, hi, rfl, fa.sub hL, sw.weaken hH hF⟩ ?_
  rintro k a w ⟨j, h1, rfl, h3, h4⟩
  refine Code.wp_mono ?_ (round j h1 a w h3 h4)
  intro e a' w' q
  cases e with
  | normal =>
    obtain ⟨j', g1, g2, g3, g4⟩ := q
    exact ⟨m j', g2, j', g1, rfl, g3, g4⟩
  | _ => exact q
theorem at_again {ι : Type} {I : ι → Prop} {m : ι → Nat} {Ls : ι → List (Nat × Value)} {Hs : ι → List (Nat × Ent)} {Fs : ι → List (Nat × FE)} {k : Nat} (j : ι) (hj : I j) (hm : m j < k)
    (hL : Sub (Ls j) L) (hH : Sub (Hs j) H) (hF : Sub (Fs j) F) : AtX (Exit.then (Again I m Ls Hs Fs E k) Q) .normal E L H F :=
  fun _ _ fa sw => ⟨j, hj, hm, fa.sub hL, sw.weaken hH hF⟩
theorem cd_region {id : Nat} {l : List Oper} (h : At (wpList P l.toArray Q l) E L H F) : At ((Code.region id l.toArray false).wp P Q) E L H F :=
  fun a w fa sw => wp_region_lit (h a w fa sw)
theorem op_nil {ops : Array Oper} (h : AtX Q .normal E L H F) : At (wpList P ops Q []) E L H F := fun a w fa sw => wpList_nil (h a w fa sw)
/-- A step that leaves memory alone. -/
def Ev (P : Program) (o : Oper) (E : Env) (L : List (Nat × Value)) (H : List (Nat × Ent)) (F : List (Nat × FE)) (v : Value) : Prop :=
  ∀ a w, Fits E.n L a → Sat E.w0 E.X H F w → (execOp a.eval o).run P w = .ok (.value v) w
def wants (ops : Array Oper) (L : List (Nat × Value)) (g : Option (Nat × Bool)) : Option Bool :=
  match g with
  | none => some true
  | some (j, b) => match (ops[j]?).bind (·.dst) with
    | none => some false
    | some d => match lk L d with
      | some (.bool c) => some (c == b)
      | some (.tuple _) => some false
      | _ => none
theorem wants_eq {ops : Array Oper} {o : Oper} {n : Nat} {a : Act} {b : Bool} (fa : Fits n L a) (h : wants ops L o.guard = some b) :
    Region.wanted o (yielded ops a.tmps) = b := by
  unfold wants at h
  unfold Region.wanted
  cases hg : o.guard with
  | none => rw [hg] at h; simpa using h
  | some jb =>
    obtain ⟨j, c⟩ := jb
    rw [hg] at h
    simp only at h ⊢
    unfold yielded
    cases hd : (ops[j]?).bind (·.dst) with
    | none => rw [hd] at h; simp at h ⊢; exact h
    | some d =>
      rw [hd] at h
      simp only at h
      cases hL : lk L d with
      | none => rw [hL] at h; simp at h
      | some v =>
        have hv := fa.2.2 d v hL
        rw [hL] at h
        simp only [Option.bind_some]
        rw [Array.getD_eq_getD_getElem?] at hv
        cases ht : a.tmps[d]? with
        | none =>
          rw [ht] at hv
          simp only [Option.getD_none] at hv
          subst hv
          simp [undef] at h ⊢
          exact h
        | some u =>
          rw [ht] at hv
          simp only [Option.getD_some] at hv
          subst hv
          cases u <;> simp at h ⊢ <;> exact h
/-- One operation that leaves memory alone. -/
theorem st {ops : Array Oper} {o : Oper} {rest : List Oper} {v : Value} {d : Nat} (he : Ev P o E L H F v) (hg : wants ops L o.guard = some true) (hd : o.dst = some d) (hn : Nat.ble (d + 1) E.n = true)
    (k : At (wpList P ops Q rest) E ((d, v) :: L) H F) : At (wpList P ops Q (o :: rest)) E L H F := by
  intro a w fa sw
  unfold wpList
  rw [if_pos (wants_eq fa hg)]
  refine .inl ?_
  unfold Oper.wp
  rw [he a w fa sw]
  show wpList P ops Q rest (a.put o.dst v) w
  rw [hd]
  exact k _ _ (fa.put (Nat.le_of_ble_eq_true hn) v) sw
/-- One that is passed by. -/
theorem st_skip {ops : Array Oper} {o : Oper} {rest : List Oper} {d : Nat} (hg : wants ops L o.guard = some false) (hd : o.dst = some d) (hn : Nat.ble (d + 1) E.n = true)
    (k : At (wpList P ops Q rest) E ((d, undef) :: L) H F) : At (wpList P ops Q (o :: rest)) E L H F := by
  intro a w fa sw
  unfold wpList
  rw [if_neg (by rw [wants_eq fa hg]; simp), hd]
  exact k _ _ (fa.put (Nat.le_of_ble_eq_true hn) undef) sw
/-- The general step: the operation comes to a world and a value. -/
theorem st_run {ops : Array Oper} {o : Oper} {rest : List Oper} (hg : wants ops L o.guard = some true)
    (h : ∀ a w, Fits E.n L a → Sat E.w0 E.X H F w → o.wp P a w (wpList P ops Q rest) Q) : At (wpList P ops Q (o :: rest)) E L H F := by
  intro a w fa sw
  unfold wpList
  rw [if_pos (wants_eq fa hg)]
  exact .inl (h a w fa sw)
/-- A bool in a register is true, or it is false. -/
theorem at_split {c : Bool} {i : Nat} (hc : lk L i = some (.bool c)) (h1 : c = true → At K E ((i, .bool true) :: L) H F) (h2 : c = false → At K E ((i, .bool false) :: L) H F) : At K E L H F := by
  intro a w fa sw
  cases c with
  | true => exact h1 rfl a w (fa.sub (.cons hc (.refl _))) sw
  | false => exact h2 rfl a w (fa.sub (.cons hc (.refl _))) sw
theorem at_split_if {p : Prop} [Decidable p] {i : Nat} (hc : lk L i = some (.bool (decide p))) (h1 : p → At K E ((i, .bool true) :: L) H F) (h2 : ¬ p → At K E ((i, .bool false) :: L) H F) : At K E L H F :=
  at_split hc (fun h => h1 (of_decide_eq_true h)) (fun h => h2 (of_decide_eq_false h))
/-- A register's value in other words. -/
theorem at_eq {i : Nat} {v v' : Value} (hc : lk L i = some v) (hv : v = v') (h : At K E ((i, v') :: L) H F) : At K E L H F := by
  subst hv
  exact fun a w fa sw => h a w (fa.sub (.cons hc (.refl _))) sw
theorem at_heq {i : Nat} {v v' : Ent} (hc : lk H i = some v) (hv : v = v') (h : At K E L ((i, v') :: H) F) : At K E L H F := by
  subst hv
  exact fun a w fa sw => h a w fa (sw.weaken (.cons hc (.refl _)) (.refl _))
end
end Go.Proofs.Ytfddplpljjlgiaa.Fw
namespace Go.Proofs.Ytfddplpljjlgiaa.Fw
open Go Go.RowKit
/-- What is asked of a type: its description, its cells, its bytes, its zero. -/
structure Ty (P : Program) (t : TypeId) (d : TypeDesc) (sz bytes : Nat) (z : Value) : Prop where
  und : P.underlying t = some d
  info : ∃ i, P.info? t = some i ∧ i.size = sz ∧ i.bytes = bytes ∧ i.zero = some z
def aggD : TypeDesc → Bool
  | .struct _ | .array _ _ => true
  | _ => false
section
variable {P : Program} {t : TypeId} {d : TypeDesc} {sz bytes : Nat} {z : Value} (w : World)
theorem Ty.run_info (h : Ty P t d sz bytes z) : ∃ i, (typeInfo t).run P w = .ok i w ∧ i.size = sz ∧ i.bytes = bytes ∧ i.zero = some z := by
  obtain ⟨i, h1, h2⟩ := h.info
  exact ⟨i, by simp [typeInfo, h1], h2⟩
theorem Ty.run_size (h : Ty P t d sz bytes z) : (sizeOf t).run P w = .ok sz w := by
  obtain ⟨i, h1, h2, _⟩ := h.run_info w
  simp [sizeOf, h1, h2]
theorem Ty.run_zero (h : Ty P t d sz bytes z) : (zeroValue t).run P w = .ok z w := by
  obtain ⟨i, h1, _, _, h2⟩ := h.run_info w
  simp [zeroValue, h1, h2]
theorem Ty.run_und (h : Ty P t d sz bytes z) : (underlying t).run P w = .ok d w := run_underlying h.und w
theorem Ty.run_agg (h : Ty P t d sz bytes z) : (isAgg t).run P w = .ok (aggD d) w := by
  simp only [isAgg, Sem.run_bind, h.run_und w, Result.andThen_ok]
  cases d <;> rfl
end
theorem run_und {P : Program} {t : TypeId} {d : TypeDesc} (h : P.underlying t = some d) (w : World) : (underlying t).run P w = .ok d w := run_underlying h w
def ints (k : IntKind) (l : List Int) : List Value := l.map (Value.int k)
def iand (k : IntKind) (a b : Int) : Int := k.wrap (BitVec.ofInt k.bits a &&& BitVec.ofInt k.bits b).toNat
def ior (k : IntKind) (a b : Int) : Int := k.wrap (BitVec.ofInt k.bits a ||| BitVec.ofInt k.bits b).toNat
def ixor (k : IntKind) (a b : Int) : Int := k.wrap (BitVec.ofInt k.bits a ^^^ BitVec.ofInt k.bits b).toNat
def ishl (k : IntKind) (a b : Int) : Int := k.wrap (a * 2 ^ (min b.toNat k.bits))
def ishr (k : IntKind) (a b : Int) : Int := a.fdiv (2 ^ (min b.toNat k.bits))
theorem wrap64_id {x : Int} (h1 : -9223372036854775808 ≤ x) (h2 : x ≤ 9223372036854775807) : IntKind.i64.wrap x = x := by
  simp only [IntKind.wrap, IntKind.bits, IntKind.signed]
  simp
  split <;> omega
section
variable {P : Program} {E : Env} {L : List (Nat × Value)} {H : List (Nat × Ent)} {F : List (Nat × FE)}
variable {dst : Option Tmp} {ty : TypeId} {pos : String} {af : Array Edge} {gd : Option (Nat × Bool)}
theorem ev_move {x : Operand} {v : Value} (hx : ev L x = some v) : Ev P ⟨dst, .move x, ty, pos, af, gd⟩ E L H F v :=
  fun a w fa _ => by simp [execOp, fa.ev hx]
theorem ev_assign {x : Operand} {v : Value} (hx : ev L x = some v) : Ev P ⟨dst, .assign x, ty, pos, af, gd⟩ E L H F v :=
  fun a w fa _ => by simp [execOp, fa.ev hx]
theorem ev_pick_t {c x y : Operand} {v : Value} (hc : ev L c = some (.bool true)) (hx : ev L x = some v) : Ev P ⟨dst, .pick c x y, ty, pos, af, gd⟩ E L H F v :=
  fun a w fa _ => by simp [execOp, fa.ev hc, fa.ev hx, asBool]
theorem ev_pick_f {c x y : Operand} {v : Value} (hc : ev L c = some (.bool false)) (hy : ev L y = some v) : Ev P ⟨dst, .pick c x y, ty, pos, af, gd⟩ E L H F v :=
  fun a w fa _ => by simp [execOp, fa.ev hc, fa.ev hy, asBool]
section
variable {k : IntKind} {T T' : TypeId} {x y : Operand} {i j : Int} (hx : ev L x = some (.int k i)) (hy : ev L y = some (.int k j))
include hx hy
theorem ev_add : Ev P ⟨dst, .binOp .add T x y T', ty, pos, af, gd⟩ E L H F (.int k (k.wrap (i + j))) :=
  fun a w fa _ => by simp [execOp, fa.ev hx, fa.ev hy, eqGuard, binOp, Op.intArith]
theorem ev_sub : Ev P ⟨dst, .binOp .sub T x y T', ty, pos, af, gd⟩ E L H F (.int k (k.wrap (i - j))) :=
  fun a w fa _ => by simp [execOp, fa.ev hx, fa.ev hy, eqGuard, binOp, Op.intArith]
theorem ev_mul : Ev P ⟨dst, .binOp .mul T x y T', ty, pos, af, gd⟩ E L H F (.int k (k.wrap (i * j))) :=
  fun a w fa _ => by simp [execOp, fa.ev hx, fa.ev hy, eqGuard, binOp, Op.intArith]
theorem ev_quo (h0 : j ≠ 0) : Ev P ⟨dst, .binOp .quo T x y T', ty, pos, af, gd⟩ E L H F (.int k (k.wrap (i.tdiv j))) :=
  fun a w fa _ => by simp [execOp, fa.ev hx, fa.ev hy, eqGuard, binOp, Op.intDiv, h0]
theorem ev_eql : Ev P ⟨dst, .binOp .eql T x y T', ty, pos, af, gd⟩ E L H F (.bool (decide (i = j))) :=
  fun a w fa _ => by simp [execOp, fa.ev hx, fa.ev hy, eqGuard, binOp, Op.intCmp]; rfl
theorem ev_neq : Ev P ⟨dst, .binOp .neq T x y T', ty, pos, af, gd⟩ E L H F (.bool (decide (i ≠ j))) :=
  fun a w fa _ => by simp [execOp, fa.ev hx, fa.ev hy, eqGuard, binOp, Op.intCmp]; rfl
theorem ev_lss : Ev P ⟨dst, .binOp .lss T x y T', ty, pos, af, gd⟩ E L H F (.bool (decide (i < j))) :=
  fun a w fa _ => by simp [execOp, fa.ev hx, fa.ev hy, eqGuard, binOp, Op.intCmp]
theorem ev_leq : Ev P ⟨dst, .binOp .leq T x y T', ty, pos, af, gd⟩ E L H F (.bool (decide (i ≤ j))) :=
  fun a w fa _ => by simp [execOp, fa.ev hx, fa.ev hy, eqGuard, binOp, Op.intCmp]
theorem ev_gtr : Ev P ⟨dst, .binOp .gtr T x y T', ty, pos, af, gd⟩ E L H F (.bool (decide (i > j))) :=
  fun a w fa _ => by simp [execOp, fa.ev hx, fa.ev hy, eqGuard, binOp, Op.intCmp]
theorem ev_geq : Ev P ⟨dst, .binOp .geq T x y T', ty, pos, af, gd⟩ E L H F (.bool (decide (i ≥ j))) :=
  fun a w fa _ => by simp [execOp, fa.ev hx, fa.ev hy, eqGuard, binOp, Op.intCmp]
end
section
variable {T T' : TypeId} {x y : Operand} {i j : Int} (hx : ev L x = some (.int .i64 i)) (hy : ev L y = some (.int .i64 j))
include hx hy
theorem ev_add64 (h1 : -9223372036854775808 ≤ i + j) (h2 : i + j ≤ 9223372036854775807) : Ev P ⟨dst, .binOp .add T x y T', ty, pos, af, gd⟩ E L H F (.int .i64 (i + j)) := by
  have := ev_add (P := P) (E := E) (H := H) (F := F) (dst := dst) (ty := ty) (pos := pos) (af := af) (gd := gd) (T := T) (T' := T') hx hy; rwa [wrap64_id h1 h2] at this
theorem ev_sub64 (h1 : -9223372036854775808 ≤ i - j) (h2 : i - j ≤ 9223372036854775807) : Ev P ⟨dst, .binOp .sub T x y T', ty, pos, af, gd⟩ E L H F (.int .i64 (i - j)) := by
  have := ev_sub (P := P) (E := E) (H := H) (F := F) (dst := dst) (ty := ty) (pos := pos) (af := af) (gd := gd) (T := T) (T' := T') hx hy; rwa [wrap64_id h1 h2] at this
theorem ev_mul64 (h1 : -9223372036854775808 ≤ i * j) (h2 : i * j ≤ 9223372036854775807) : Ev P ⟨dst, .binOp .mul T x y T', ty, pos, af, gd⟩ E L H F (.int .i64 (i * j)) := by
  have := ev_mul (P := P) (E := E) (H := H) (F := F) (dst := dst) (ty := ty) (pos := pos) (af := af) (gd := gd) (T := T) (T' := T') hx hy; rwa [wrap64_id h1 h2] at this
end
theorem ev_not {T : TypeId} {x : Operand} {b : Bool} (hx : ev L x = some (.bool b)) : Ev P ⟨dst, .unOp .not T x, ty, pos, af, gd⟩ E L H F (.bool (!b)) :=
  fun a w fa _ => by simp [execOp, fa.ev hx, Op.unary]
theorem ev_not_if {T : TypeId} {x : Operand} {p : Prop} [Decidable p] (hx : ev L x = some (.bool (decide p))) : Ev P ⟨dst, .unOp .not T x, ty, pos, af, gd⟩ E L H F (.bool (decide (¬ p))) :=
  fun a w fa _ => by simp [execOp, fa.ev hx, Op.unary]
/-- ^x -/
def inot (k : IntKind) (i : Int) : Int := ixor k (if k.signed then -1 else k.max) i
theorem ev_conv {T T' : TypeId} {x : Operand} {k k' : IntKind} {i : Int} (h1 : P.underlying T = some (.int k)) (h2 : P.underlying T' = some (.int k')) (hx : ev L x = some (.int k i)) :
    Ev P ⟨dst, .convert T T' x, ty, pos, af, gd⟩ E L H F (.int k' (k'.wrap i)) :=
  fun a w fa _ => by simp [execOp, fa.ev hx, convert, run_und h1, run_und h2, Conv.intToInt]
theorem ev_conv64 {T T' : TypeId} {x : Operand} {k : IntKind} {i : Int} (h1 : P.underlying T = some (.int k)) (h2 : P.underlying T' = some (.int .i64)) (hx : ev L x = some (.int k i))
    (hi : -9223372036854775808 ≤ i) (hi' : i ≤ 9223372036854775807) : Ev P ⟨dst, .convert T T' x, ty, pos, af, gd⟩ E L H F (.int .i64 i) := by
  have := ev_conv (P := P) (E := E) (H := H) (F := F) (dst := dst) (ty := ty) (pos := pos) (af := af) (gd := gd) h1 h2 hx; rwa [wrap64_id hi hi'] at this
theorem ev_extract {x : Operand} {vs : Array Value} {i : Nat} {v : Value} (hx : ev L x = some (.tuple vs)) (hv : vs[i]? = some v) : Ev P ⟨dst, .extract x i, ty, pos, af, gd⟩ E L H F v :=
  fun a w fa _ => by simp [execOp, fa.ev hx, Instr.extract, hv]
theorem ev_nilCheck {x : Operand} {p : Addr} (hx : ev L x = some (.pointer (some p))) : Ev P ⟨dst, .nilCheck x, ty, pos, af, gd⟩ E L H F (.pointer (some p)) :=
  fun a w fa _ => by simp [execOp, fa.ev hx]
/-- of a slice that is owned -/
theorem ev_len_own {x : Operand} {T e : TypeId} {v : Value} {h tt sz n : Nat} {l : List Value} (hT : P.underlying T = some (.slice e)) (hx : ev L x = some v) (hh : lk H h = some (.own v tt sz l))
    (hl : l.length = n * sz) (hs : 0 < sz) :
    Ev P ⟨dst, .call { callee := .builtin .len, args := #[x], argTypes := #[T] }, ty, pos, af, gd⟩ E L H F (.int .i64 n) :=
  fun a w fa sw => by
    rcases sw.hold _ _ hh with ⟨rfl, rfl⟩ | ⟨b, len, cap, junk, rfl, h1, _, _, _⟩
    · have : n = 0 := by
        rcases Nat.eq_zero_or_pos n with h | h
        · exact h
        · have := Nat.mul_pos h hs
          simp only [List.length_nil] at hl
          omega
      simp [execOp, resolve, invoke, builtin, Builtin.len_, fa.ev hx, run_und hT, goInt, this]
    · have : len = n := Nat.eq_of_mul_eq_mul_right hs (by omega)
      simp [execOp, resolve, invoke, builtin, Builtin.len_, fa.ev hx, run_und hT, goInt, this]
/-- of a slice that is read -/
theorem ev_len_rd {x : Operand} {T e : TypeId} {v : Value} {h sz n : Nat} {l : List Value} (hT : P.underlying T = some (.slice e)) (hx : ev L x = some v) (hh : lk F h = some (.sl v sz l))
    (hl : l.length = n * sz) (hs : 0 < sz) :
    Ev P ⟨dst, .call { callee := .builtin .len, args := #[x], argTypes := #[T] }, ty, pos, af, gd⟩ E L H F (.int .i64 n) :=
  fun a w fa sw => by
    obtain ⟨b, len, cap, rfl, h1, _⟩ := sw.rd _ _ hh
    have : len = n := Nat.eq_of_mul_eq_mul_right hs (by omega)
    simp [execOp, resolve, invoke, builtin, Builtin.len_, fa.ev hx, run_und hT, goInt, this]
theorem ev_index_str {x y : Operand} {T : TypeId} {s : ByteArray} {k : IntKind} {i : Int} {b : UInt8} (hT : P.underlying T = some .string)
    (hx : ev L x = some (.string s)) (hy : ev L y = some (.int k i)) (h0 : 0 ≤ i) (hb : s[i.toNat]? = some b) :
    Ev P ⟨dst, .index T x y, ty, pos, af, gd⟩ E L H F (.int .u8 b.toNat) :=
  fun a w fa _ => by simp [execOp, fa.ev hx, fa.ev hy, Instr.index, run_und hT, asIntOf, h0, hb]
/-- A struct or an array is put together; the fill is a closed reckoning. -/
theorem ev_build_struct {T : TypeId} {ps : Array (Nat × Operand)} {vs : List Value} {fs : Array Field} {d : TypeDesc} {sz bytes : Nat} {z : Value} {places : Array (Nat × Nat)} {cells : Array Value} (ht : Ty P T d sz bytes z)
    (hd : d = .struct fs) (hp : ∀ w, (fs.mapM fun f => (do pure (f.offset, ← sizeOf f.type) : Sem (Nat × Nat))).run P w = .ok places w) (hx : evs L (ps.toList.map (·.2)) = some vs)
    (hc : Instr.fill (places[·]?) z.cells ((ps.toList.map (·.1)).zip vs) = some cells) : Ev P ⟨dst, .build T ps, ty, pos, af, gd⟩ E L H F (.agg cells) :=
  fun a w fa _ => by
    subst hd
    have e : (ps.map fun (i, x) => (i, a.eval x)).toList = (ps.toList.map (·.1)).zip vs := by
      rw [← fa.evs hx]
      simp only [Array.toList_map, List.map_map]
      induction ps.toList with
      | nil => rfl
      | cons p r ih => simp only [List.map_cons, List.zip_cons_cons]; rw [ih]; rfl
    simp only [execOp, Instr.build, Sem.run_bind, ht.run_zero, ht.run_und, Result.andThen_ok, hp w, e, hc, Sem.run_pure]
end
end Go.Proofs.Ytfddplpljjlgiaa.Fw
namespace Go.Proofs.Ytfddplpljjlgiaa.Fw
open Go Go.RowKit
set_option linter.unusedSimpArgs false
set_option linter.unusedVariables false
theorem add_mk (b off n : Nat) : (⟨b, off, none⟩ : Addr).add n = ⟨b, off + n, none⟩ := by
  unfold Addr.add; split
  · subst_vars; rfl
  · rfl
def setBlk (w : World) (b : Nat) (o : Obj) : World := { w with heap := w.heap.setIfInBounds b o }
/-- l laid over cl from place k on -/
def wr (cl : List Value) (k : Nat) (l : List Value) : List Value := cl.take k ++ l ++ cl.drop (k + l.length)
theorem wr_length {cl l : List Value} {k : Nat} (h : k + l.length ≤ cl.length) : (wr cl k l).length = cl.length := by
  simp only [wr, List.length_append, List.length_take, List.length_drop]; omega
theorem wr_cons {cl l : List Value} {k : Nat} {v : Value} (h : k + (l.length + 1) ≤ cl.length) : wr cl k (v :: l) = wr (cl.set k v) (k + 1) l := by
  simp only [wr, List.length_cons]
  have e1 : (cl.set k v).take (k + 1) = cl.take k ++ [v] := by
    rw [List.take_set, List.take_succ_eq_append_getElem (by omega)]
    rw [List.set_append_right _ _ (by simp; omega)]
    have : k - (List.take k cl).length = 0 := by simp; omega
    rw [this]
    rfl
  have e2 : (cl.set k v).drop (k + 1 + l.length) = cl.drop (k + (l.length + 1)) := by
    rw [List.drop_set_of_lt (by omega)]
    congr 1
    omega
  rw [e1, e2]
  simp
theorem wr_one {cl : List Value} {k : Nat} {v : Value} (h : k < cl.length) : wr cl k [v] = cl.set k v := by
  rw [wr_cons (by simp only [List.length_nil]; omega)]
  simp [wr]
theorem wr_all {cl l : List Value} (h : l.length = cl.length) : wr cl 0 l = l := by simp [wr, h]
theorem heap_setBlk {w : World} {b : Nat} {o : Obj} (h : b < w.heap.size) : (setBlk w b o).heap[b]? = some o := by simp [setBlk, h]
theorem heap_setBlk_ne {w : World} {b b' : Nat} {o : Obj} (h : b' ≠ b) : (setBlk w b o).heap[b']? = w.heap[b']? := by
  simp only [setBlk]; rw [Array.getElem?_setIfInBounds_ne (Ne.symm h)]
theorem setBlk_setBlk (w : World) (b : Nat) (o o' : Obj) : setBlk (setBlk w b o) b o' = setBlk w b o' := by simp [setBlk]
theorem setBlk_same {w : World} {b : Nat} {o : Obj} (h : w.heap[b]? = some o) : setBlk w b o = w := by
  have hlt := (Array.getElem?_eq_some_iff.1 h).1
  have he := (Array.getElem?_eq_some_iff.1 h).2
  have : w.heap.setIfInBounds b o = w.heap := by
    apply Array.ext
    · simp
    · intro i h1 h2
      rw [Array.getElem_setIfInBounds]
      split
      · subst_vars; exact he.symm
      · rfl
  simp [setBlk, this]
theorem setCell_known {w : World} {b i : Nat} {c : Array Value} {T : TypeId} {fz : Nat × Nat} (h : w.heap[b]? = some (.cells c T fz)) (v : Value) :
    w.setCell ⟨b, i, none⟩ v = setBlk w b (.cells (c.setIfInBounds i v) T fz) := by
  have hlt := (Array.getElem?_eq_some_iff.1 h).1
  have he := (Array.getElem?_eq_some_iff.1 h).2
  unfold World.setCell setBlk
  congr 1
  apply Array.ext
  · simp
  · intro j h1 h2
    rw [Array.getElem_modify, Array.getElem_setIfInBounds]
    split
    · rename_i e
      subst e
      simp [he]
    · rfl
theorem run_store_known {P : Program} {w : World} {b i : Nat} {c : List Value} {T : TypeId} {v : Value} (h : w.heap[b]? = some (.cells c.toArray T)) (hi : i < c.length) (hv : v.oneCell' = true) :
    (store ⟨b, i, none⟩ v).run P w = .ok () (setBlk w b (.cells (c.set i v).toArray T)) := by
  have h1 : w.cell? ⟨b, i, none⟩ = some c[i] := by simp [World.cell?, h, hi]
  have h2 : w.frozen? ⟨b, i, none⟩ = false := by simp [World.frozen?, h]
  rw [run_store P w _ v _ hv, h1]
  simp only [h2, Bool.false_eq_true, if_false]
  rw [setCell_known h]
  simp
theorem run_storeCells {P : Program} {b T : Nat} : ∀ (l c : List Value) (w : World) (off i : Nat), w.heap[b]? = some (.cells c.toArray T) → off + i + l.length ≤ c.length → (∀ v, v ∈ l → v.oneCell' = true) →
    (storeCells ⟨b, off, none⟩ l i).run P w = .ok () (setBlk w b (.cells (wr c (off + i) l).toArray T)) := by
  intro l
  induction l with
  | nil =>
    intro c w off i h hl _
    have : wr c (off + i) [] = c := by simp [wr]
    rw [this, setBlk_same h]
    rfl
  | cons v r ih =>
    intro c w off i h hl hv
    have hb := (Array.getElem?_eq_some_iff.1 h).1
    simp only [List.length_cons] at hl
    unfold storeCells
    rw [add_mk]
    simp only [Sem.run_bind]
    rw [run_store_known h (by omega) (hv v (by simp))]
    simp only [Result.andThen_ok]
    rw [ih (c.set (off + i) v) _ off (i + 1) (heap_setBlk hb) (by simp; omega) (fun u hu => hv u (by simp [hu])), setBlk_setBlk]
    rw [wr_cons (by omega)]
    rfl
theorem run_loadCells_from {P : Program} {w : World} {b : Nat} : ∀ (l : List Value) (off i : Nat) (acc : Array Value), Lies w b (off + i) l →
    (loadCellsFrom ⟨b, off, none⟩ i l.length acc).run P w = .ok (acc ++ l.toArray) w := by
  intro l
  induction l with
  | nil => intro off i acc _; simp [loadCellsFrom]
  | cons v r ih =>
    intro off i acc h
    have h0 := h 0 (by simp)
    simp only [Nat.add_zero, List.getElem?_cons_zero] at h0
    have hr : Lies w b (off + (i + 1)) r := fun j hj => by
      have := h (j + 1) (by simp; omega)
      simp only [List.getElem?_cons_succ] at this
      rw [← this]
      congr 2
      omega
    simp only [List.length_cons, loadCellsFrom, Sem.run_bind, add_mk, run_load, h0, Result.andThen_ok]
    rw [ih off (i + 1) _ hr]
    simp
theorem run_loadCells {P : Program} {w : World} {b off : Nat} {l : List Value} (h : Lies w b off l) : (loadCells ⟨b, off, none⟩ l.length).run P w = .ok l.toArray w := by
  unfold loadCells
  rw [run_loadCells_from l off 0 _ (by simpa using h)]
  simp
theorem run_loadCells_any {P : Program} {w : World} {a : Addr} {l : List Value} (hs : 0 < l.length → a.spot = none) (h : Lies w a.block a.off l) : (loadCells a l.length).run P w = .ok l.toArray w := by
  cases l with
  | nil => rfl
  | cons v r =>
    obtain ⟨b, off, sp⟩ := a
    obtain rfl : sp = none := hs (by simp)
    exact run_loadCells h
theorem Lies.part {w : World} {b off : Nat} {l : List Value} (h : Lies w b off l) (k n : Nat) (hk : k + n ≤ l.length) : Lies w b (off + k) ((l.drop k).take n) := by
  intro i hi
  simp only [List.length_take, List.length_drop] at hi
  have := h (k + i) (by omega)
  rw [show off + k + i = off + (k + i) by omega, this]
  rw [List.getElem?_take, if_pos (by omega), List.getElem?_drop]
theorem lies_blk {w : World} {b : Nat} {c : List Value} {T : TypeId} {fz : Nat × Nat} (h : w.heap[b]? = some (.cells c.toArray T fz)) : Lies w b 0 c := by
  intro i hi
  simp [World.cell?, h]
section
variable {P : Program} {w : World} {t : TypeId} {d : TypeDesc} {sz bytes : Nat} {z : Value} {b off : Nat}
theorem run_loadVar_agg (ht : Ty P t d sz bytes z) (hd : aggD d = true) {l : List Value} (h : Lies w b off l) (hl : l.length = sz) : (loadVar t ⟨b, off, none⟩).run P w = .ok (.agg l.toArray) w := by
  subst hl
  simp [loadVar, ht.run_agg, hd, ht.run_size, run_loadCells h]
theorem run_loadVar_one (ht : Ty P t d sz bytes z) (hd : aggD d = false) {v : Value} (h : w.cell? ⟨b, off, none⟩ = some v) : (loadVar t ⟨b, off, none⟩).run P w = .ok v w := by
  simp [loadVar, ht.run_agg, hd, h]
theorem run_storeVar (ht : Ty P t d sz bytes z) {v : Value} {l c : List Value} {T : TypeId} (hv : v.cells = l.toArray) (hl : l.length = sz) (h : w.heap[b]? = some (.cells c.toArray T)) (hc : off + l.length ≤ c.length)
    (h1 : ∀ v, v ∈ l → v.oneCell' = true) : (storeVar t ⟨b, off, none⟩ v).run P w = .ok () (setBlk w b (.cells (wr c off l).toArray T)) := by
  have e : v.cells.size = sz := by rw [hv]; simpa using hl
  simp only [storeVar, Sem.run_bind, ht.run_size, Result.andThen_ok, e, ne_eq, not_true_eq_false, if_false]
  rw [hv]
  simpa using run_storeCells (P := P) l c w off 0 h (by omega) h1
end
theorem Gives.refl (w : World) : Gives w w [] [] :=
  ⟨rfl, rfl, rfl, Nat.le_refl _, fun _ _ _ => rfl, fun _ _ h => (lk_nil h).elim, fun _ _ h => (lk_nil h).elim, fun _ _ _ _ h => (lk_nil h).elim⟩
theorem lk_one {α : Type} {i j : Nat} {v u : α} (h : lk [(i, v)] j = some u) : i = j ∧ v = u := by
  by_cases e : i = j
  · subst e; rw [lk_cons_same] at h; exact ⟨rfl, by simpa using h⟩
  · rw [lk_cons_ne e] at h; exact (lk_nil h).elim
theorem gives_setBlk {w : World} {b : Nat} {o : Obj} (hb : b < w.heap.size) (k : Nat) (e : Ent) (he : e.holds (setBlk w b o)) (hi : e.ids = [b]) : Gives w (setBlk w b o) [b] [(k, e)] :=
  ⟨rfl, rfl, rfl, by simp [setBlk], fun b' _ hn => heap_setBlk_ne (by simpa using hn),
    fun h e' hh => by obtain ⟨rfl, rfl⟩ := lk_one hh; exact he,
    fun h e' hh b' hb' => by obtain ⟨rfl, rfl⟩ := lk_one hh; rw [hi] at hb'; exact .inr hb',
    fun h e1 h' e2 hh hh' hne => by obtain ⟨rfl, rfl⟩ := lk_one hh; obtain ⟨rfl, rfl⟩ := lk_one hh'; exact absurd rfl hne⟩
theorem heap_alloc_new (w : World) (o : Obj) : (w.alloc o).heap[w.heap.size]? = some o := by
  show (w.heap.push o)[w.heap.size]? = some o
  simp
theorem heap_alloc_old {w : World} {o : Obj} {b : Nat} (h : b < w.heap.size) : (w.alloc o).heap[b]? = w.heap[b]? := Below.heap_alloc w o b h
theorem gives_alloc (w : World) (o : Obj) (k : Nat) (e : Ent) (he : e.holds (w.alloc o)) (hi : ∀ b, b ∈ e.ids → b = w.heap.size) : Gives w (w.alloc o) [] [(k, e)] :=
  ⟨rfl, rfl, rfl, by simp, fun b' hb _ => heap_alloc_old hb,
    fun h e' hh => by obtain ⟨rfl, rfl⟩ := lk_one hh; exact he,
    fun h e' hh b' hb' => by obtain ⟨rfl, rfl⟩ := lk_one hh; exact .inl (by rw [hi _ hb']; exact Nat.le_refl _),
    fun h e1 h' e2 hh hh' hne => by obtain ⟨rfl, rfl⟩ := lk_one hh; obtain ⟨rfl, rfl⟩ := lk_one hh'; exact absurd rfl hne⟩
theorem Gives.drawn {w w' : World} {M : List Nat} {N : List (Nat × Ent)} (h : Gives { w with drawn := w.drawn + 1 } w' M N) : Gives w w' M N :=
  ⟨h.tape, h.os, h.output, h.size, h.old, h.hold, h.fresh, h.apart⟩
/-- The address of a slice's cell. -/
def ptrAt : Value → Nat → Value
  | .slice (some a) _ _, k => .pointer (some ⟨a.block, a.off + k, none⟩)
  | _, _ => undef
/-- A slice's part. -/
def cutAt (sz : Nat) : Value → Nat → Nat → Value
  | .slice a _ c, lo, hi => .slice (if c = lo then a else a.map (·.add (lo * sz))) (hi - lo) (c - lo)
  | v, _, _ => v
section
variable {P : Program} {E : Env} {L : List (Nat × Value)} {H : List (Nat × Ent)} {F : List (Nat × FE)}
variable {dst : Option Tmp} {ty : TypeId} {pos : String} {af : Array Edge} {gd : Option (Nat × Bool)}
theorem ev_fieldAddr {x : Operand} {T : TypeId} {i b off sz bytes : Nat} {z : Value} {d : TypeDesc} {fs : Array Field} {f : Field} (hT : P.underlying T = some (.struct fs)) (hf : fs[i]? = some f)
    (ht : Ty P f.type d sz bytes z) (hs : sz ≠ 0) (hx : ev L x = some (.pointer (some ⟨b, off, none⟩))) :
    Ev P ⟨dst, .fieldAddr T x i, ty, pos, af, gd⟩ E L H F (.pointer (some ⟨b, off + f.offset, none⟩)) :=
  fun a w fa _ => by simp [execOp, fa.ev hx, Instr.fieldAt, run_und hT, hf, Instr.sureAddr, fieldPlace, ht.run_size, hs, add_mk]
theorem ev_indexAddr_sl {x y : Operand} {T e : TypeId} {n c b off sz bytes : Nat} {z : Value} {d : TypeDesc} {k : IntKind} {i : Int} (hT : P.underlying T = some (.slice e)) (ht : Ty P e d sz bytes z)
    (hx : ev L x = some (.slice (some ⟨b, off, none⟩) n c)) (hy : ev L y = some (.int k i)) (h0 : 0 ≤ i) (h1 : i < n) :
    Ev P ⟨dst, .indexAddr T x y, ty, pos, af, gd⟩ E L H F (.pointer (some ⟨b, off + i.toNat * sz, none⟩)) :=
  fun a w fa _ => by simp [execOp, fa.ev hx, fa.ev hy, Instr.indexAt, run_und hT, asIntOf, ht.run_size, h0, h1, add_mk]
theorem indexAt_rd {w : World} {v : Value} {T e : TypeId} {n sz bytes : Nat} {z : Value} {d : TypeDesc} {l : List Value} {k : IntKind} {i : Int} (hT : P.underlying T = some (.slice e)) (ht : Ty P e d sz bytes z)
    (hr : Rd w v sz l) (hl : l.length = n * sz) (hs : 0 < sz) (h0 : 0 ≤ i) (h1 : i < n) : (Instr.indexAt T v (.int k i)).run P w = .ok (ptrAt v (i.toNat * sz)) w := by
  obtain ⟨b, len, cap, rfl, g1, g2, g3, g4⟩ := hr
  have hlen : len = n := Nat.eq_of_mul_eq_mul_right hs (by omega)
  subst hlen
  cases b with
  | none => have := g3 rfl; omega
  | some x =>
    have hx := (g4 x rfl).1 (by rw [hl]; exact Nat.mul_pos (by omega) hs)
    obtain ⟨xb, xo, xs⟩ := x
    simp only at hx
    subst hx
    simp [Instr.indexAt, run_und hT, asIntOf, ht.run_size, h0, h1, add_mk, ptrAt]
theorem own_rd {w : World} {v : Value} {T : TypeId} {sz : Nat} {l : List Value} (h : Own w v T sz l) : Rd w v sz l := by
  rcases h with ⟨rfl, rfl⟩ | ⟨b, len, cap, junk, rfl, h1, h2, h3, h4⟩
  · exact ⟨none, 0, 0, rfl, by simp, by omega, fun _ => rfl, fun x hx => by cases hx⟩
  · refine ⟨_, len, cap, rfl, h1, h3, (fun h => by cases h), fun x hx => ?_⟩
    cases hx
    refine ⟨fun _ => rfl, fun i hi => ?_⟩
    simp only [Nat.zero_add]
    simp only [World.cell?, h4, Option.isSome_none, Bool.false_eq_true, if_false]
    rw [List.getElem?_toArray, List.getElem?_append_left hi]
theorem Sat.own_rd {w0 w : World} {X : List Nat} (sw : Sat w0 X H F w) {h T sz : Nat} {v : Value} {l : List Value} (hh : lk H h = some (.own v T sz l)) : Rd w v sz l := Fw.own_rd (sw.hold _ _ hh)
theorem Sat.sl_rd {w0 w : World} {X : List Nat} (sw : Sat w0 X H F w) {h sz : Nat} {v : Value} {l : List Value} (hh : lk F h = some (.sl v sz l)) : Rd w v sz l := sw.rd _ _ hh
theorem Sat.blk_eq {w0 w : World} {X : List Nat} (sw : Sat w0 X H F w) {h b : Nat} {o : Obj} (hh : lk H h = some (.blk b o)) : w.heap[b]? = some o := sw.hold _ _ hh
theorem Sat.mem_lies {w0 w : World} {X : List Nat} (sw : Sat w0 X H F w) {h b off : Nat} {l : List Value} (hh : lk F h = some (.mem b off l)) : Lies w b off l := sw.rd _ _ hh
theorem ev_indexAddr_own {x y : Operand} {T e : TypeId} {v : Value} {h tt n sz bytes : Nat} {z : Value} {d : TypeDesc} {l : List Value} {k : IntKind} {i : Int} (hT : P.underlying T = some (.slice e)) (ht : Ty P e d sz bytes z)
    (hx : ev L x = some v) (hy : ev L y = some (.int k i)) (hh : lk H h = some (.own v tt sz l)) (hl : l.length = n * sz) (hs : 0 < sz) (h0 : 0 ≤ i) (h1 : i < n) :
    Ev P ⟨dst, .indexAddr T x y, ty, pos, af, gd⟩ E L H F (ptrAt v (i.toNat * sz)) :=
  fun a w fa sw => by simp [execOp, fa.ev hx, fa.ev hy, indexAt_rd hT ht (sw.own_rd hh) hl hs h0 h1]
theorem ev_indexAddr_rd {x y : Operand} {T e : TypeId} {v : Value} {h n sz bytes : Nat} {z : Value} {d : TypeDesc} {l : List Value} {k : IntKind} {i : Int} (hT : P.underlying T = some (.slice e)) (ht : Ty P e d sz bytes z)
    (hx : ev L x = some v) (hy : ev L y = some (.int k i)) (hh : lk F h = some (.sl v sz l)) (hl : l.length = n * sz) (hs : 0 < sz) (h0 : 0 ≤ i) (h1 : i < n) :
    Ev P ⟨dst, .indexAddr T x y, ty, pos, af, gd⟩ E L H F (ptrAt v (i.toNat * sz)) :=
  fun a w fa sw => by simp [execOp, fa.ev hx, fa.ev hy, indexAt_rd hT ht (sw.sl_rd hh) hl hs h0 h1]
theorem ld_blk {x : Operand} {T TT : TypeId} {h b off sz bytes : Nat} {z : Value} {d : TypeDesc} {l : List Value} {fz : Nat × Nat} (ht : Ty P T d sz bytes z) (hd : aggD d = true) (hx : ev L x = some (.pointer (some ⟨b, off, none⟩)))
    (hh : lk H h = some (.blk b (.cells l.toArray TT fz))) (hl : off + sz ≤ l.length) : Ev P ⟨dst, .load T x, ty, pos, af, gd⟩ E L H F (.agg ((l.drop off).take sz).toArray) :=
  fun a w fa sw => by
    have := (lies_blk (sw.blk_eq hh)).part off sz hl
    simp only [Nat.zero_add] at this
    simp [execOp, fa.ev hx, Instr.loadAt, Instr.sureAddr, run_loadVar_agg ht hd this (by simp; omega)]
theorem ld_blk_all {x : Operand} {T TT : TypeId} {h b sz bytes : Nat} {z : Value} {d : TypeDesc} {l : List Value} {fz : Nat × Nat} (ht : Ty P T d sz bytes z) (hd : aggD d = true) (hx : ev L x = some (.pointer (some ⟨b, 0, none⟩)))
    (hh : lk H h = some (.blk b (.cells l.toArray TT fz))) (hl : l.length = sz) : Ev P ⟨dst, .load T x, ty, pos, af, gd⟩ E L H F (.agg l.toArray) :=
  fun a w fa sw => by
    simp [execOp, fa.ev hx, Instr.loadAt, Instr.sureAddr, run_loadVar_agg ht hd (lies_blk (sw.blk_eq hh)) hl]
theorem ld_blk1 {x : Operand} {T TT : TypeId} {h b off sz bytes : Nat} {z v : Value} {d : TypeDesc} {l : List Value} {fz : Nat × Nat} (ht : Ty P T d sz bytes z) (hd : aggD d = false) (hx : ev L x = some (.pointer (some ⟨b, off, none⟩)))
    (hh : lk H h = some (.blk b (.cells l.toArray TT fz))) (hv : l[off]? = some v) : Ev P ⟨dst, .load T x, ty, pos, af, gd⟩ E L H F v :=
  fun a w fa sw => by
    have : w.cell? ⟨b, off, none⟩ = some v := by simp [World.cell?, sw.blk_eq hh, hv]
    simp [execOp, fa.ev hx, Instr.loadAt, Instr.sureAddr, run_loadVar_one ht hd this]
theorem ld_mem {x : Operand} {T : TypeId} {h b off off0 k sz bytes : Nat} {z : Value} {d : TypeDesc} {l : List Value} (ht : Ty P T d sz bytes z) (hd : aggD d = true) (hx : ev L x = some (.pointer (some ⟨b, off, none⟩)))
    (hh : lk F h = some (.mem b off0 l)) (ho : off = off0 + k) (hl : k + sz ≤ l.length) : Ev P ⟨dst, .load T x, ty, pos, af, gd⟩ E L H F (.agg ((l.drop k).take sz).toArray) :=
  fun a w fa sw => by
    subst ho
    simp [execOp, fa.ev hx, Instr.loadAt, Instr.sureAddr, run_loadVar_agg ht hd ((sw.mem_lies hh).part k sz hl) (by simp; omega)]
theorem ld_mem1 {x : Operand} {T : TypeId} {h b off off0 k sz bytes : Nat} {z v : Value} {d : TypeDesc} {l : List Value} (ht : Ty P T d sz bytes z) (hd : aggD d = false) (hx : ev L x = some (.pointer (some ⟨b, off, none⟩)))
    (hh : lk F h = some (.mem b off0 l)) (ho : off = off0 + k) (hv : l[k]? = some v) : Ev P ⟨dst, .load T x, ty, pos, af, gd⟩ E L H F v :=
  fun a w fa sw => by
    subst ho
    have hk := (List.getElem?_eq_some_iff.1 hv).1
    have := sw.mem_lies hh k hk
    rw [hv] at this
    simp [execOp, fa.ev hx, Instr.loadAt, Instr.sureAddr, run_loadVar_one ht hd this]
theorem ptrAt_rd {w : World} {v : Value} {sz k n : Nat} {l : List Value} (hr : Rd w v sz l) (hn : 0 < n) (hk : k + n ≤ l.length) : ∃ b off, ptrAt v k = .pointer (some ⟨b, off, none⟩) ∧ Lies w b off ((l.drop k).take n) := by
  obtain ⟨b, len, cap, rfl, g1, g2, g3, g4⟩ := hr
  cases b with
  | none =>
    have := g3 rfl
    have : len = 0 := by omega
    subst this
    simp at g1
    subst g1
    simp at hk
    omega
  | some x =>
    refine ⟨x.block, x.off + k, rfl, ?_⟩
    exact Lies.part (fun i hi => (g4 x rfl).2 i hi) k n hk
theorem ld_rd' {w : World} {T : TypeId} {k sz sz' bytes : Nat} {v z : Value} {d : TypeDesc} {l : List Value} (ht : Ty P T d sz' bytes z) (hd : aggD d = true) (hr : Rd w v sz l) (hs : 0 < sz') (hl : k + sz' ≤ l.length) :
    (Instr.loadAt T (ptrAt v k)).run P w = .ok (.agg ((l.drop k).take sz').toArray) w := by
  obtain ⟨b, off, e, h⟩ := ptrAt_rd hr hs hl
  rw [e]
  simp [Instr.loadAt, Instr.sureAddr, run_loadVar_agg ht hd h (by simp; omega)]
theorem ld_rd1' {w : World} {T : TypeId} {k sz sz' bytes : Nat} {v z u : Value} {d : TypeDesc} {l : List Value} (ht : Ty P T d sz' bytes z) (hd : aggD d = false) (hr : Rd w v sz l) (hu : l[k]? = some u) :
    (Instr.loadAt T (ptrAt v k)).run P w = .ok u w := by
  have hk := (List.getElem?_eq_some_iff.1 hu).1
  obtain ⟨b, off, e, h⟩ := ptrAt_rd (n := 1) (k := k) (l := l) hr (by omega) (by omega)
  have h0 := h 0 (by simp; omega)
  rw [List.getElem?_take, if_pos (by omega), List.getElem?_drop] at h0
  simp only [Nat.add_zero] at h0
  rw [hu] at h0
  rw [e]
  simp [Instr.loadAt, Instr.sureAddr, run_loadVar_one ht hd h0]
theorem ld_own {x : Operand} {T tt : TypeId} {h k sz sz' bytes : Nat} {v z : Value} {d : TypeDesc} {l : List Value} (ht : Ty P T d sz' bytes z) (hd : aggD d = true) (hx : ev L x = some (ptrAt v k)) (hh : lk H h = some (.own v tt sz l)) (hs : 0 < sz') (hl : k + sz' ≤ l.length) :
    Ev P ⟨dst, .load T x, ty, pos, af, gd⟩ E L H F (.agg ((l.drop k).take sz').toArray) :=
  fun a w fa sw => by simp [execOp, fa.ev hx, ld_rd' ht hd (sw.own_rd hh) hs hl]
theorem ld_rd {x : Operand} {T : TypeId} {h k sz sz' bytes : Nat} {v z : Value} {d : TypeDesc} {l : List Value} (ht : Ty P T d sz' bytes z) (hd : aggD d = true) (hx : ev L x = some (ptrAt v k)) (hh : lk F h = some (.sl v sz l)) (hs : 0 < sz') (hl : k + sz' ≤ l.length) :
    Ev P ⟨dst, .load T x, ty, pos, af, gd⟩ E L H F (.agg ((l.drop k).take sz').toArray) :=
  fun a w fa sw => by simp [execOp, fa.ev hx, ld_rd' ht hd (sw.sl_rd hh) hs hl]
theorem ld_rd1 {x : Operand} {T : TypeId} {h k sz sz' bytes : Nat} {v z u : Value} {d : TypeDesc} {l : List Value} (ht : Ty P T d sz' bytes z) (hd : aggD d = false) (hx : ev L x = some (ptrAt v k)) (hh : lk F h = some (.sl v sz l)) (hu : l[k]? = some u) :
    Ev P ⟨dst, .load T x, ty, pos, af, gd⟩ E L H F u :=
  fun a w fa sw => by simp [execOp, fa.ev hx, ld_rd1' ht hd (sw.sl_rd hh) hu]
theorem run_slice_lo {w : World} {T e : TypeId} {sz bytes : Nat} {z : Value} {d : TypeDesc} {a : Option Addr} {len cap : Nat} {k : IntKind} {lo : Int} (hT : P.underlying T = some (.slice e)) (ht : Ty P e d sz bytes z)
    (h0 : 0 ≤ lo) (h1 : lo ≤ len) : (Instr.sliceAt T (.slice a len cap) (some (.int k lo)) none none).run P w = .ok (cutAt sz (.slice a len cap) lo.toNat len) w := by
  simp [Instr.sliceAt, run_und hT, Instr.slice, Instr.sliceBounds, Instr.sliceBound, asIntOf, h0, h1, ht.run_size, cutAt]
theorem run_slice_hi {w : World} {T e : TypeId} {sz bytes : Nat} {z : Value} {d : TypeDesc} {a : Option Addr} {len cap : Nat} {k : IntKind} {hi : Int} (hT : P.underlying T = some (.slice e)) (ht : Ty P e d sz bytes z)
    (h0 : 0 ≤ hi) (h1 : hi ≤ cap) : (Instr.sliceAt T (.slice a len cap) none (some (.int k hi)) none).run P w = .ok (cutAt sz (.slice a len cap) 0 hi.toNat) w := by
  simp [Instr.sliceAt, run_und hT, Instr.slice, Instr.sliceBounds, Instr.sliceBound, asIntOf, h0, h1, ht.run_size, cutAt]
theorem rd_cut {w : World} {v : Value} {sz n lo hi : Nat} {l : List Value} (hr : Rd w v sz l) (hs : 0 < sz) (hl : l.length = n * sz) (h1 : lo ≤ hi) (h2 : hi ≤ n) : Rd w (cutAt sz v lo hi) sz ((l.drop (lo * sz)).take ((hi - lo) * sz)) := by
  obtain ⟨b, len, cap, rfl, g1, g2, g3, g4⟩ := hr
  have hlen : len = n := Nat.eq_of_mul_eq_mul_right hs (by omega)
  subst hlen
  have hm : lo * sz + (hi - lo) * sz ≤ len * sz := by rw [← Nat.add_mul]; exact Nat.mul_le_mul_right _ (by omega)
  refine ⟨_, _, _, rfl, by simp; omega, by omega, ?_, ?_⟩
  · intro h
    split at h
    · rename_i hc; have := g3 h; omega
    · cases b with
      | none => have := g3 rfl; omega
      | some x => simp at h
  · intro x hx
    split at hx
    · rename_i hc
      subst hx
      refine ⟨fun hp => (g4 x rfl).1 (by rw [List.length_take, List.length_drop] at hp; omega), fun i hi' => ?_⟩
      simp only [List.length_take, List.length_drop] at hi'
      have h0 : hi - lo = 0 := by omega
      rw [h0] at hi'
      simp at hi'
    · cases b with
      | none => simp at hx
      | some y =>
        simp only [Option.map_some, Option.some.injEq] at hx
        obtain ⟨hy, hcell⟩ := g4 y rfl
        obtain ⟨yb, yo, ys⟩ := y
        subst hx
        have eb : ((⟨yb, yo, ys⟩ : Addr).add (lo * sz)).block = yb := by unfold Addr.add; split <;> rfl
        have eo : ((⟨yb, yo, ys⟩ : Addr).add (lo * sz)).off = yo + lo * sz := by
          unfold Addr.add
          split
          · next h => rw [h]; rfl
          · rfl
        refine ⟨fun hp => ?_, ?_⟩
        · unfold Addr.add
          split
          · exact hy (by rw [List.length_take, List.length_drop] at hp; omega)
          · rfl
        · rw [eb, eo]
          have : Lies w yb yo l := hcell
          exact this.part (lo * sz) ((hi - lo) * sz) (by omega)
/-- A part of a slice that is read: the part is read, too. -/
theorem Sat.cut {w0 w : World} {X : List Nat} (sw : Sat w0 X H F w) {h h' sz n lo hi : Nat} {v : Value} {l : List Value} (hh : lk F h = some (.sl v sz l)) (hs : 0 < sz) (hl : l.length = n * sz) (h1 : lo ≤ hi) (h2 : hi ≤ n) :
    Sat w0 X H ((h', .sl (cutAt sz v lo hi) sz ((l.drop (lo * sz)).take ((hi - lo) * sz))) :: F) w := by
  refine sw.read h' (rd_cut (sw.sl_rd hh) hs hl h1 h2) fun k e hk b hb => ?_
  have ho := sw.off h _ k e hh hk b hb
  rcases ho with ho | ho
  · subst ho; exact .inl (by simp)
  · refine .inr fun hb' => ho ?_
    obtain ⟨b', len, cap, rfl, _⟩ := sw.sl_rd hh
    simp only [cutAt] at hb'
    cases b' with
    | none => simp [blkOf] at hb'
    | some x =>
      by_cases hc : cap = lo
      · rw [if_pos hc] at hb'; exact hb'
      · rw [if_neg hc] at hb'
        simp only [blkOf, Option.map_some, Addr.add] at hb' ⊢
        split at hb' <;> exact hb'
end
end Go.Proofs.Ytfddplpljjlgiaa.Fw
namespace Go.Proofs.Ytfddplpljjlgiaa.Fw
open Go Go.RowKit
section
variable {P : Program} {Q : Exit → Act → World → Prop} {ops : Array Oper} {rest : List Oper} {E : Env} {L : List (Nat × Value)} {H : List (Nat × Ent)} {F : List (Nat × FE)}
variable {ty : TypeId} {pos : String} {af : Array Edge} {gd : Option (Nat × Bool)}
/-- An operation that yields a value and turns the world as 'Gives' says. -/
theorem st_gives {o : Oper} {dst : Nat} (hg : wants ops L o.guard = some true) (hd : o.dst = some dst) (hn : Nat.ble (dst + 1) E.n = true)
    (h : ∀ a w, Fits E.n L a → Sat E.w0 E.X H F w → ∃ v w' M N, (execOp a.eval o).run P w = .ok (.value v) w' ∧ Gives w w' M N ∧ (∀ b, b ∈ M → ∃ k e, lk H k = some e ∧ b ∈ e.ids ∧ lk N k ≠ none) ∧
      At (wpList P ops Q rest) E ((dst, v) :: L) (N ++ H) F) : At (wpList P ops Q (o :: rest)) E L H F := by
  refine st_run hg fun a w fa sw => ?_
  obtain ⟨v, w', M, N, hr, hG, hM, k⟩ := h a w fa sw
  unfold Oper.wp
  rw [hr]
  show wpList P ops Q rest (a.put o.dst v) w'
  rw [hd]
  exact k _ _ (fa.put (Nat.le_of_ble_eq_true hn) v) (sw.step hG hM)
theorem nil_all {M : Nat → Prop} : ∀ b, b ∈ ([] : List Nat) → M b := fun _ h => by cases h
theorem st_alloc {dst T : Nat} {d : TypeDesc} {sz bytes : Nat} {z : Value} {zl : List Value} (h : Nat) (ht : Ty P T d sz bytes z) (hz : z.cells = zl.toArray) (hg : wants ops L gd = some true) (hn : Nat.ble (dst + 1) E.n = true)
    (k : ∀ b, At (wpList P ops Q rest) E ((dst, .pointer (some ⟨b, 0, none⟩)) :: L) ((h, .blk b (.cells zl.toArray T)) :: H) F) : At (wpList P ops Q (⟨some dst, .alloc T, ty, pos, af, gd⟩ :: rest)) E L H F := by
  refine st_gives hg rfl hn fun a w fa sw => ⟨.pointer (some ⟨w.heap.size, 0, none⟩), w.alloc (.cells zl.toArray T), [], [(h, .blk w.heap.size (.cells zl.toArray T))], ?_, ?_, nil_all, k _⟩
  · simp [execOp, Instr.alloc, ht.run_zero, newVar, newRow, hz]
  · exact gives_alloc w _ _ _ (heap_alloc_new _ _) (by simp [Ent.ids])
theorem st_box {dst T : Nat} {x : Operand} {v : Value} {vl : List Value} (h : Nat) (hx : ev L x = some v) (hz : v.cells = vl.toArray) (hg : wants ops L gd = some true) (hn : Nat.ble (dst + 1) E.n = true)
    (k : ∀ b, At (wpList P ops Q rest) E ((dst, .pointer (some ⟨b, 0, none⟩)) :: L) ((h, .blk b (.cells vl.toArray T)) :: H) F) : At (wpList P ops Q (⟨some dst, .box T x, ty, pos, af, gd⟩ :: rest)) E L H F := by
  refine st_gives hg rfl hn fun a w fa sw => ⟨.pointer (some ⟨w.heap.size, 0, none⟩), w.alloc (.cells vl.toArray T), [], [(h, .blk w.heap.size (.cells vl.toArray T))], ?_, ?_, nil_all, k _⟩
  · simp [execOp, Instr.box, fa.ev hx, newVar, newRow, hz]
  · exact gives_alloc w _ _ _ (heap_alloc_new _ _) (by simp [Ent.ids])
/-- A store into a block that is owned. -/
theorem st_store {x y : Operand} {T TT : TypeId} {b off sz bytes : Nat} {z v : Value} {d : TypeDesc} {l vl : List Value} (h : Nat) (ht : Ty P T d sz bytes z) (hx : ev L x = some (.pointer (some ⟨b, off, none⟩))) (hy : ev L y = some v)
    (hh : lk H h = some (.blk b (.cells l.toArray TT))) (hv : v.cells = vl.toArray) (hs : vl.length = sz) (h1 : ∀ u, u ∈ vl → u.oneCell' = true) (hl : off + sz ≤ l.length) (hg : wants ops L gd = some true)
    (k : At (wpList P ops Q rest) E L ((h, .blk b (.cells (wr l off vl).toArray TT)) :: H) F) : At (wpList P ops Q (⟨none, .store T x y, ty, pos, af, gd⟩ :: rest)) E L H F := by
  refine st_run hg fun a w fa sw => ?_
  have hb := sw.blk_eq hh
  have hr := run_storeVar (P := P) (w := w) (off := off) ht hv hs hb (by omega) h1
  have e : (execOp a.eval ⟨none, .store T x y, ty, pos, af, gd⟩).run P w = .ok .skip (setBlk w b (.cells (wr l off vl).toArray TT)) := by
    simp [execOp, fa.ev hx, fa.ev hy, Instr.storeAt, Instr.sureAddr, hr]
  unfold Oper.wp
  rw [e]
  have hlt := (Array.getElem?_eq_some_iff.1 hb).1
  exact k a _ fa (sw.step (gives_setBlk hlt h (.blk b _) (heap_setBlk hlt) rfl) (fun b' hb' => ⟨h, _, hh, by simpa [Ent.ids] using hb', by simp [lk_cons_same]⟩))
/-- of one cell -/
theorem st_store1 {x y : Operand} {T TT : TypeId} {b off bytes : Nat} {z v : Value} {d : TypeDesc} {l : List Value} (h : Nat) (ht : Ty P T d 1 bytes z) (hx : ev L x = some (.pointer (some ⟨b, off, none⟩))) (hy : ev L y = some v)
    (hh : lk H h = some (.blk b (.cells l.toArray TT))) (h1 : v.oneCell' = true) (hl : off < l.length) (hg : wants ops L gd = some true)
    (k : At (wpList P ops Q rest) E L ((h, .blk b (.cells (l.set off v).toArray TT)) :: H) F) : At (wpList P ops Q (⟨none, .store T x y, ty, pos, af, gd⟩ :: rest)) E L H F := by
  refine st_store (vl := [v]) h ht hx hy hh ?_ rfl (by simpa using h1) (by omega) hg ?_
  · cases v <;> first | rfl | cases h1
  · rw [wr_one hl]; exact k
/-- of the whole block -/
theorem st_store_all {x y : Operand} {T TT : TypeId} {b sz bytes : Nat} {z v : Value} {d : TypeDesc} {l vl : List Value} (h : Nat) (ht : Ty P T d sz bytes z) (hx : ev L x = some (.pointer (some ⟨b, 0, none⟩))) (hy : ev L y = some v)
    (hh : lk H h = some (.blk b (.cells l.toArray TT))) (hv : v.cells = vl.toArray) (hs : vl.length = sz) (h1 : ∀ u, u ∈ vl → u.oneCell' = true) (hl : l.length = sz) (hg : wants ops L gd = some true)
    (k : At (wpList P ops Q rest) E L ((h, .blk b (.cells vl.toArray TT)) :: H) F) : At (wpList P ops Q (⟨none, .store T x y, ty, pos, af, gd⟩ :: rest)) E L H F := by
  refine st_store h ht hx hy hh hv hs h1 (by omega) hg ?_
  rw [wr_all (by omega)]; exact k
/-- A store into a slice that is owned. -/
theorem st_store_own {x y : Operand} {T TT : TypeId} {v0 : Value} {ki sz0 sz bytes : Nat} {z v : Value} {d : TypeDesc} {l vl : List Value} (h : Nat) (ht : Ty P T d sz bytes z) (hx : ev L x = some (ptrAt v0 ki)) (hy : ev L y = some v)
    (hh : lk H h = some (.own v0 TT sz0 l)) (hv : v.cells = vl.toArray) (hs : vl.length = sz) (h1 : ∀ u, u ∈ vl → u.oneCell' = true) (hl : ki + sz ≤ l.length) (hp : 0 < sz) (hg : wants ops L gd = some true)
    (k : At (wpList P ops Q rest) E L ((h, .own v0 TT sz0 (wr l ki vl)) :: H) F) : At (wpList P ops Q (⟨none, .store T x y, ty, pos, af, gd⟩ :: rest)) E L H F := by
  refine st_run hg fun a w fa sw => ?_
  rcases sw.hold _ _ hh with ⟨rfl, rfl⟩ | ⟨b, len, cap, junk, rfl, g1, g2, g3, g4⟩
  · simp at hl; omega
  have hr := run_storeVar (P := P) (w := w) (off := 0 + ki) ht hv hs g4 (by simp; omega) h1
  have e1 : wr (l ++ junk) (0 + ki) vl = wr l ki vl ++ junk := by
    simp only [wr, Nat.zero_add]
    rw [List.take_append_of_le_length (by omega), List.drop_append_of_le_length (by omega)]
    simp
  rw [e1] at hr
  have e : (execOp a.eval ⟨none, .store T x y, ty, pos, af, gd⟩).run P w = .ok .skip (setBlk w b (.cells (wr l ki vl ++ junk).toArray TT)) := by
    simp only [ptrAt] at hx
    simp only [execOp, fa.ev hx, fa.ev hy, Instr.storeAt, Instr.sureAddr, Sem.run_bind, Sem.run_pure, Result.andThen_ok, hr]
  unfold Oper.wp
  rw [e]
  have hlt := (Array.getElem?_eq_some_iff.1 g4).1
  exact k a _ fa (sw.step (gives_setBlk hlt h (.own _ _ _ _) (.inr ⟨b, len, cap, junk, rfl, by rw [wr_length (by omega)]; exact g1, g2, g3, heap_setBlk hlt⟩) rfl) (fun b' hb' => ⟨h, _, hh, by simpa [Ent.ids, blkOf] using hb', by simp [lk_cons_same]⟩))
theorem st_buildSlice {dst T e n sz bytes : Nat} {ps : Array (Nat × Operand)} {d : TypeDesc} {z : Value} {vs : List Value} {cells : List Value} (h : Nat) (hT : P.underlying T = some (.slice e)) (ht : Ty P e d sz bytes z)
    (hx : evs L (ps.toList.map (·.2)) = some vs) (hle : n * sz ≤ 16777216)
    (hc : Instr.fill (fun i => some (i * sz, sz)) ((Array.range (n * sz)).map ((if n * sz = 0 then #[] else z.cells)[· % (if n * sz = 0 then #[] else z.cells : Array Value).size]!)) ((ps.toList.map (·.1)).zip vs) = some cells.toArray) (hlen : cells.length = n * sz)
    (hg : wants ops L gd = some true) (hn : Nat.ble (dst + 1) E.n = true)
    (k : ∀ b, At (wpList P ops Q rest) E ((dst, .slice (some ⟨b, 0, none⟩) n n) :: L) ((h, .own (.slice (some ⟨b, 0, none⟩) n n) e sz cells) :: H) F) :
    At (wpList P ops Q (⟨some dst, .buildSlice T n ps, ty, pos, af, gd⟩ :: rest)) E L H F := by
  refine st_gives hg rfl hn fun a w fa sw => ⟨.slice (some ⟨w.heap.size, 0, none⟩) n n, w.alloc (.cells cells.toArray e), [], [(h, .own (.slice (some ⟨w.heap.size, 0, none⟩) n n) e sz cells)], ?_, ?_, nil_all, k _⟩
  · have e1 : (ps.map fun (i, x) => (i, a.eval x)).toList = (ps.toList.map (·.1)).zip vs := by
      rw [← fa.evs hx]
      simp only [Array.toList_map, List.map_map]
      induction ps.toList with
      | nil => rfl
      | cons p r ih => simp only [List.map_cons, List.zip_cons_cons]; rw [ih]; rfl
    have h24 : ¬ (n * sz > 2 ^ 24) := by omega
    by_cases h0 : n * sz = 0
    · simp only [if_pos h0] at hc
      simp only [execOp, Instr.buildSlice, Sem.run_bind, run_und hT, ht.run_size, Result.andThen_ok, if_neg h24, if_pos h0, Sem.run_pure, e1, hc, newRow, run_newObj]
      rfl
    · simp only [if_neg h0] at hc
      simp only [execOp, Instr.buildSlice, Sem.run_bind, run_und hT, ht.run_size, Result.andThen_ok, if_neg h24, if_neg h0, ht.run_zero, Sem.run_pure, e1, hc, newRow, run_newObj]
      rfl
  · exact gives_alloc w _ _ _ (.inr ⟨_, n, n, [], rfl, hlen, by simp, Nat.le_refl _, by simpa using heap_alloc_new _ _⟩) (by simp [Ent.ids, blkOf])
theorem growBy_le (newLen : Nat) : ∀ r c, c ≤ newLen + newLen / 4 + 512 → Builtin.growBy newLen r c ≤ newLen + newLen / 4 + 512 := by
  intro r
  induction r with
  | zero => intro c h; exact h
  | succ r ih =>
    intro c h
    unfold Builtin.growBy
    split
    · exact h
    · exact ih _ (by omega)
theorem nextslicecap_le {need cap : Nat} (h : cap < need) : Builtin.nextslicecap need cap ≤ need + need / 4 + 512 := by
  unfold Builtin.nextslicecap
  split
  · omega
  · split
    · omega
    · exact growBy_le _ _ _ (by omega)
theorem run_lenOf {w : World} {v : Value} {sz n : Nat} {l : List Value} (hr : Rd w v sz l) (hs : 0 < sz) (hl : l.length = n * sz) : (Builtin.lenOf v).run P w = .ok n w := by
  obtain ⟨b, len, cap, rfl, g1, _⟩ := hr
  have : len = n := Nat.eq_of_mul_eq_mul_right hs (by omega)
  subst this
  rfl
theorem run_firstCells {w : World} {v : Value} {sz n : Nat} {l : List Value} (hr : Rd w v sz l) (hl : l.length = n * sz) : (Builtin.firstCells sz n v).run P w = .ok l.toArray w := by
  obtain ⟨b, len, cap, rfl, g1, g2, g3, g4⟩ := hr
  cases b with
  | none =>
    have := g3 rfl
    have : len = 0 := by omega
    subst this
    simp at g1
    subst g1
    rfl
  | some x =>
    simp only [Builtin.firstCells]
    rw [← hl]
    exact run_loadCells_any (g4 _ rfl).1 (g4 _ rfl).2
theorem zeroCells_size (zero : Array Value) (n : Nat) : (Builtin.zeroCells zero n).size = n * zero.size := by simp [Builtin.zeroCells]
/-- append, where it grows: a new block -/
theorem run_append_grow {w : World} {T e X eX ty sz bytes len cap n : Nat} {d : TypeDesc} {z : Value} {base : Option Addr} {xv : Value} {l cs : List Value} (hT : P.underlying T = some (.slice e)) (ht : Ty P e d sz bytes z)
    (hX : P.underlying X = some (.slice eX)) (hz : z.cells.size = sz) (hr : Rd w (.slice base len cap) sz l) (hl : l.length = len * sz) (hxv : Rd w xv sz cs) (hcs : cs.length = n * sz) (hs : 0 < sz) (hcap : cap < len + n) (hsz : len + n ≤ 140737488355000 ∧ ((len + n) + (len + n) / 4 + 512) * bytes ≤ 281474976710656) (hby : bytes ≤ 1024) :
    ∃ newCap junk, len + n ≤ newCap ∧ junk.length = (newCap - (len + n)) * sz ∧
      (Builtin.append_ #[T, X] ty #[.slice base len cap, xv]).run P w = .ok (.slice (some ⟨w.heap.size, 0, none⟩) (len + n) newCap) ({ w with drawn := w.drawn + 1 }.alloc (.cells (l ++ cs ++ junk).toArray e)) := by
  obtain ⟨i, hi, h1, h2, h3⟩ := ht.info
  generalize hq : Question.cut (.appendCap (len + n) cap e) (w.tape w.drawn (.appendCap (len + n) cap e)) = newCap
  have hnew : len + n ≤ newCap := by rw [← hq]; simp only [Question.cut]; omega
  refine ⟨newCap, (Builtin.zeroCells z.cells (newCap - (len + n))).toList, hnew, by simp [zeroCells_size, hz], ?_⟩
  have hb1 : ¬ (len + n ≤ cap) := by omega
  have hcap2 : ¬ (Builtin.nextslicecap (len + n) cap * i.bytes > 281474976710656) := by
    rw [h2]
    have a1 := nextslicecap_le hcap
    have a2 := Nat.le_trans (Nat.mul_le_mul_right bytes a1) hsz.2
    omega
  have hmax : ¬ (((len + n : Nat) : Int) > IntKind.i64.max) := by
    have : IntKind.i64.max = 9223372036854775807 := by decide
    omega
  have hi' : ∀ w, (typeInfo e).run P w = .ok i w := fun w => by simp [typeInfo, hi]
  have hr' : ∀ k, Rd { w with drawn := k } (.slice base len cap) sz l := fun k => Rd.keep hr fun _ _ _ _ => rfl
  have hxv' : ∀ k, Rd { w with drawn := k } xv sz cs := fun k => Rd.keep hxv fun _ _ _ _ => rfl
  simp only [Builtin.append_, List.getElem?_toArray, List.getElem?_cons_zero, List.getElem?_cons_succ, Sem.run_bind, run_und hT, Result.andThen_ok, ht.run_size, run_und hX, Sem.run_pure, Bool.false_eq_true, if_false, run_lenOf hxv hs hcs]
  simp only [if_neg hb1, Sem.run_ite, hmax, false_and, if_false, Sem.run_bind, hi', Result.andThen_ok]
  have hcap3 : ¬ (Builtin.nextslicecap (len + n) cap * i.bytes > 2 ^ 48) := hcap2
  simp only [if_neg hcap3, Sem.run_bind, run_choose, Question.forced, Bool.false_eq_true, if_false, Result.andThen_ok, hq, run_askRoom, run_firstCells (hr' _) hl, Bool.not_false, if_true, run_firstCells (hxv' _) hcs, ht.run_zero, newRow, run_newObj, Sem.run_pure]
  have e1 : l.toArray ++ cs.toArray ++ Builtin.zeroCells z.cells (newCap - (len + n)) = (l ++ cs ++ (Builtin.zeroCells z.cells (newCap - (len + n))).toList).toArray := by simp
  rw [e1]
  rfl
/-- append, where there is room. -/
theorem run_append_room {w : World} {T e X eX ty sz bytes len cap n b : Nat} {d : TypeDesc} {z : Value} {xv : Value} {l cs junk : List Value} (hT : P.underlying T = some (.slice e)) (ht : Ty P e d sz bytes z)
    (hX : P.underlying X = some (.slice eX)) (hb : w.heap[b]? = some (.cells (l ++ junk).toArray e)) (hl : l.length = len * sz) (hj : junk.length = (cap - len) * sz) (hxv : Rd w xv sz cs) (hcs : cs.length = n * sz) (hs : 0 < sz) (hcap : len + n ≤ cap) (h1 : ∀ u, u ∈ cs → u.oneCell' = true) :
    (Builtin.append_ #[T, X] ty #[.slice (some ⟨b, 0, none⟩) len cap, xv]).run P w = .ok (.slice (some ⟨b, 0, none⟩) (len + n) cap) (setBlk w b (.cells (l ++ cs ++ junk.drop cs.length).toArray e)) := by
  have hle : len * sz + n * sz ≤ len * sz + (cap - len) * sz := Nat.add_le_add_left (Nat.mul_le_mul_right _ (by omega)) _
  have hst := run_storeCells (P := P) cs (l ++ junk) w (0 + len * sz) 0 hb (by simp; omega) h1
  have e1 : wr (l ++ junk) (0 + len * sz + 0) cs = l ++ cs ++ junk.drop cs.length := by
    simp only [wr, Nat.zero_add, Nat.add_zero]
    rw [← hl, List.take_left', List.drop_append]
    · simp
    · rfl
  rw [e1] at hst
  simp only [Builtin.append_, List.getElem?_toArray, List.getElem?_cons_zero, List.getElem?_cons_succ, Sem.run_bind, run_und hT, Result.andThen_ok, ht.run_size, run_und hX, Sem.run_pure, Bool.false_eq_true, if_false, run_lenOf hxv hs hcs]
  simp only [if_pos hcap, Sem.run_bind, Bool.not_false, if_true, run_firstCells hxv hcs, Result.andThen_ok, add_mk]
  rw [hst]
  rfl
/-- append to a slice that is owned. -/
theorem st_append {dst T e X eX sz bytes n m : Nat} {s x : Operand} {d : TypeDesc} {z v xv : Value} {l cs : List Value} (h : Nat) (hT : P.underlying T = some (.slice e)) (hX : P.underlying X = some (.slice eX)) (ht : Ty P e d sz bytes z) (hz : z.cells.size = sz)
    (hv : ev L s = some v) (hx : ev L x = some xv) (hh : lk H h = some (.own v e sz l)) (hr : ∀ w, Sat E.w0 E.X H F w → Rd w xv sz cs) (hs : 0 < sz) (hl : l.length = n * sz) (hcs : cs.length = m * sz) (hsz : n + m ≤ 140737488355000 ∧ ((n + m) + (n + m) / 4 + 512) * bytes ≤ 281474976710656) (hby : bytes ≤ 1024)
    (h1 : ∀ u, u ∈ cs → u.oneCell' = true) (hg : wants ops L gd = some true) (hn : Nat.ble (dst + 1) E.n = true)
    (k : ∀ v', At (wpList P ops Q rest) E ((dst, v') :: L) ((h, .own v' e sz (l ++ cs)) :: H) F) :
    At (wpList P ops Q (⟨some dst, .call { callee := .builtin .append, args := #[s, x], argTypes := #[T, X] }, ty, pos, af, gd⟩ :: rest)) E L H F := by
  refine st_gives hg rfl hn fun a w fa sw => ?_
  have hxr := hr w sw
  have hex : ∀ r w', (Builtin.append_ #[T, X] ty #[v, xv]).run P w = .ok r w' →
      (execOp a.eval ⟨some dst, .call { callee := .builtin .append, args := #[s, x], argTypes := #[T, X] }, ty, pos, af, gd⟩).run P w = .ok (.value r) w' := fun r w' hr' => by
    simp [execOp, resolve, invoke, builtin, fa.ev hv, fa.ev hx, hr']
  have grow : ∀ base len cap, v = .slice base len cap → cap < len + m → len = n → ∃ v' w' M N, (execOp a.eval ⟨some dst, .call { callee := .builtin .append, args := #[s, x], argTypes := #[T, X] }, ty, pos, af, gd⟩).run P w = .ok (.value v') w' ∧ Gives w w' M N ∧
      (∀ b, b ∈ M → ∃ k e, lk H k = some e ∧ b ∈ e.ids ∧ lk N k ≠ none) ∧ At (wpList P ops Q rest) E ((dst, v') :: L) (N ++ H) F := by
    intro base len cap hv' hc hlen
    subst hv'
    subst hlen
    obtain ⟨nc, junk, g1, g2, g3⟩ := run_append_grow (P := P) (w := w) (ty := ty) hT ht hX hz (sw.own_rd hh) hl hxr hcs hs hc hsz hby
    refine ⟨_, _, [], [(h, .own (.slice (some ⟨w.heap.size, 0, none⟩) (len + m) nc) e sz (l ++ cs))], hex _ _ g3, ?_, nil_all, k _⟩
    refine Gives.drawn (gives_alloc { w with drawn := w.drawn + 1 } _ h _ (.inr ⟨_, _, nc, junk, rfl, ?_, g2, g1, ?_⟩) (by simp [Ent.ids, blkOf]))
    · rw [List.length_append, hl, hcs, Nat.add_mul]
    · exact heap_alloc_new { w with drawn := w.drawn + 1 } _
  rcases sw.hold _ _ hh with ⟨rfl, rfl⟩ | ⟨b, len, cap, junk, rfl, g1, g2, g3, g4⟩
  · have hn0 : n = 0 := by
      rcases Nat.eq_zero_or_pos n with h' | h'
      · exact h'
      · have := Nat.mul_pos h' hs; simp at hl; omega
    subst hn0
    rcases Nat.eq_zero_or_pos m with hm | hm
    · subst hm
      have hc0 : cs = [] := List.length_eq_zero_iff.1 (by omega)
      subst hc0
      refine ⟨.slice none 0 0, w, [], [(h, .own (.slice none 0 0) e sz ([] ++ []))], hex _ _ ?_, ?_, nil_all, k _⟩
      · simp only [Builtin.append_, List.getElem?_toArray, List.getElem?_cons_zero, List.getElem?_cons_succ, Sem.run_bind, run_und hT, Result.andThen_ok, ht.run_size, run_und hX, Sem.run_pure, Bool.false_eq_true, if_false, run_lenOf hxr hs hcs]
        simp only [Nat.add_zero, Nat.le_refl, if_true, Sem.run_bind, Bool.not_false, run_firstCells hxr hcs, Result.andThen_ok]
        rfl
      · refine ⟨rfl, rfl, rfl, Nat.le_refl _, fun _ _ _ => rfl, fun k e' hk => ?_, fun k e' hk b hb => ?_, fun k e1 k' e2 hk hk' hne => ?_⟩
        · obtain ⟨rfl, rfl⟩ := lk_one hk; exact .inl ⟨rfl, rfl⟩
        · obtain ⟨rfl, rfl⟩ := lk_one hk; simp [Ent.ids, blkOf] at hb
        · obtain ⟨rfl, rfl⟩ := lk_one hk; obtain ⟨rfl, rfl⟩ := lk_one hk'; exact absurd rfl hne
    · exact grow none 0 0 rfl (by omega) rfl
  · have hlen : len = n := Nat.eq_of_mul_eq_mul_right hs (by omega)
    subst hlen
    by_cases hc : len + m ≤ cap
    · refine ⟨_, _, [b], [(h, .own (.slice (some ⟨b, 0, none⟩) (len + m) cap) e sz (l ++ cs))], hex _ _ (run_append_room hT ht hX g4 hl g2 hxr hcs hs hc h1), ?_, ?_, k _⟩
      · have hlt := (Array.getElem?_eq_some_iff.1 g4).1
        refine gives_setBlk hlt h _ (.inr ⟨b, len + m, cap, junk.drop cs.length, rfl, ?_, ?_, hc, ?_⟩) rfl
        · rw [List.length_append, hl, hcs, Nat.add_mul]
        · rw [List.length_drop, g2, hcs, ← Nat.sub_mul]; congr 1; omega
        · exact heap_setBlk hlt
      · intro b' hb'
        exact ⟨h, _, hh, by simpa [Ent.ids, blkOf] using hb', by simp [lk_cons_same]⟩
    · exact grow _ len cap rfl (by omega) rfl
/-- A nil slice is owned. -/
theorem at_own_nil {K : Act → World → Prop} (h T sz : Nat) (k : At K E L ((h, .own (.slice none 0 0) T sz []) :: H) F) : At K E L H F := by
  intro a w fa sw
  refine k a w fa ?_
  have := sw.step (N := [(h, .own (.slice none 0 0) T sz [])]) (M := []) (w' := w) ?_ nil_all
  · exact this
  · refine ⟨rfl, rfl, rfl, Nat.le_refl _, fun _ _ _ => rfl, fun k e' hk => ?_, fun k e' hk b hb => ?_, fun k e1 k' e2 hk hk' hne => ?_⟩
    · obtain ⟨rfl, rfl⟩ := lk_one hk; exact .inl ⟨rfl, rfl⟩
    · obtain ⟨rfl, rfl⟩ := lk_one hk; simp [Ent.ids, blkOf] at hb
    · obtain ⟨rfl, rfl⟩ := lk_one hk; obtain ⟨rfl, rfl⟩ := lk_one hk'; exact absurd rfl hne
end
end Go.Proofs.Ytfddplpljjlgiaa.Fw
namespace Go.Proofs.Ytfddplpljjlgiaa.Fw
open Go Go.RowKit
section
variable {P : Program} {Q : Exit → Act → World → Prop} {ops : Array Oper} {rest : List Oper} {E : Env} {L : List (Nat × Value)} {H : List (Nat × Ent)} {F : List (Nat × FE)}
variable {ty : TypeId} {pos : String} {af : Array Edge} {gd : Option (Nat × Bool)} {K : Act → Prop}
theorem wo {i : Nat} {o : Oper} {K' : Act → World → Prop} (ho : ops[i]? = some o) (h : At (wpList P ops (Exit.then K' Q) [o]) E L H F) : At (wpOp P ops Q i K') E L H F := by
  intro a w fa sw
  have h' := h a w fa sw
  unfold wpOp
  simp only [ho]
  unfold wpList at h'
  split
  · rename_i hw
    rw [if_pos hw] at h'
    rcases h' with h' | h'
    · refine .inl ?_
      unfold Oper.wp at h' ⊢
      generalize (execOp a.eval o).run P w = r at h' ⊢
      cases r with
      | ok n w' => cases n <;> exact h'
      | halt x w' => cases x <;> exact h'
    · exact .inr h'
  · rename_i hw
    rw [if_neg hw] at h'
    exact h'
structure Has (P : Program) (f : FuncId) : Prop where
  it : ∃ fn, P.funcs[f]? = some fn ∧ (fn.name == "runtime.NumGoroutine") = false ∧ fn.body.isNone = false
theorem run_callFunc {f : FuncId} (hf : Has P f) (args : Array Value) (w : World) : (callFunc f args).run P w = .ok (.enter f args) w := by
  obtain ⟨fn, h1, h2, h3⟩ := hf.it
  simp only [callFunc, Sem.run_bind, run_program, Result.andThen_ok, h1, h2, h3, Bool.false_eq_true, if_false, Sem.run_pure]
/-- What a call comes to: a value, blocks M written, what is new. -/
def Post {ι : Type} (w : World) (M : List Nat) (Φ : ι → Prop) (v : ι → Value) (N : ι → List (Nat × Ent)) (e : Ending) (w' : World) : Prop :=
  ∃ x, Φ x ∧ e = .returned (v x) ∧ Gives w w' M (N x)
/-- It only answers. -/
def PostV (w : World) (v : Value) (e : Ending) (w' : World) : Prop := e = .returned v ∧ Gives w w' [] []
theorem run_call {dst : Option Tmp} {f : FuncId} {args : Array Operand} {Ts : Array TypeId} {vs : List Value} (hf : Has P f) (ha : evs L args.toList = some vs) {a : Act} (fa : Fits E.n L a) (w : World) :
    (execOp a.eval ⟨dst, .call { callee := .value (.func f), args := args, argTypes := Ts }, ty, pos, af, gd⟩).run P w = .ok (.enter f vs.toArray) w := by
  have e1 : args.map a.eval = vs.toArray := by rw [← fa.evs ha]; cases args; simp
  simp [execOp, resolve, Deferred.ofValue, Act.eval, e1, invoke, run_callFunc hf]
theorem st_enter {o : Oper} {dst : Nat} {ι : Type} {M : List Nat} {Φ : ι → Prop} {v : ι → Value} {N : ι → List (Nat × Ent)} {f : FuncId} {vs : Array Value} (hd : o.dst = some dst) (hg : wants ops L o.guard = some true) (hn : Nat.ble (dst + 1) E.n = true)
    (hr : ∀ a w, Fits E.n L a → (execOp a.eval o).run P w = .ok (.enter f vs) w) (hc : ∀ w, Sat E.w0 E.X H F w → Calls P f vs w (Post w M Φ v N))
    (hM : ∀ b, b ∈ M → ∃ k e, lk H k = some e ∧ b ∈ e.ids ∧ ∀ x, lk (N x) k ≠ none) (k : ∀ x, Φ x → At (wpList P ops Q rest) E ((dst, v x) :: L) (N x ++ H) F) : At (wpList P ops Q (o :: rest)) E L H F := by
  refine st_run hg fun a w fa sw => ?_
  unfold Oper.wp
  rw [hr a w fa]
  refine (hc w sw).mono ?_
  rintro e w' ⟨x, hx, rfl, hG⟩
  show wpList P ops Q rest (a.put o.dst (v x)) w'
  rw [hd]
  exact k x hx _ _ (fa.put (Nat.le_of_ble_eq_true hn) _) (sw.step hG fun b hb => let ⟨k, e, h1, h2, h3⟩ := hM b hb; ⟨k, e, h1, h2, h3 x⟩)
theorem st_call {dst f : Nat} {args : Array Operand} {Ts : Array TypeId} {vs : List Value} {ι : Type} {M : List Nat} {Φ : ι → Prop} {v : ι → Value} {N : ι → List (Nat × Ent)} (hf : Has P f) (ha : evs L args.toList = some vs)
    (hc : ∀ w, Sat E.w0 E.X H F w → Calls P f vs.toArray w (Post w M Φ v N)) (hM : ∀ b, b ∈ M → ∃ k e, lk H k = some e ∧ b ∈ e.ids ∧ ∀ x, lk (N x) k ≠ none) (hg : wants ops L gd = some true) (hn : Nat.ble (dst + 1) E.n = true)
    (k : ∀ x, Φ x → At (wpList P ops Q rest) E ((dst, v x) :: L) (N x ++ H) F) : At (wpList P ops Q (⟨some dst, .call { callee := .value (.func f), args := args, argTypes := Ts }, ty, pos, af, gd⟩ :: rest)) E L H F :=
  st_enter rfl hg hn (fun _ w fa => run_call hf ha fa w) hc hM k
theorem st_callv {dst f : Nat} {args : Array Operand} {Ts : Array TypeId} {vs : List Value} {v : Value} (hf : Has P f) (ha : evs L args.toList = some vs)
    (hc : ∀ w, Sat E.w0 E.X H F w → Calls P f vs.toArray w (PostV w v)) (hg : wants ops L gd = some true) (hn : Nat.ble (dst + 1) E.n = true)
    (k : At (wpList P ops Q rest) E ((dst, v) :: L) H F) : At (wpList P ops Q (⟨some dst, .call { callee := .value (.func f), args := args, argTypes := Ts }, ty, pos, af, gd⟩ :: rest)) E L H F :=
  st_enter (ι := Unit) (M := []) (Φ := fun _ => True) (v := fun _ => v) (N := fun _ => []) rfl hg hn (fun _ w fa => run_call hf ha fa w) (fun w sw => (hc w sw).mono fun _ _ ⟨h1, h2⟩ => ⟨(), trivial, h1, h2⟩) nil_all (fun _ _ => k)
def params : Nat → List Value → List (Nat × Value)
  | _, [] => []
  | i, v :: r => (i, v) :: params (i + 1) r
theorem lk_params {vs : List Value} : ∀ {i j : Nat} {v : Value}, lk (params i vs) j = some v → i ≤ j ∧ vs[j - i]? = some v := by
  induction vs with
  | nil => intro i j v h; exact (lk_nil h).elim
  | cons u r ih =>
    intro i j v h
    simp only [params] at h
    by_cases e : i = j
    · subst e; rw [lk_cons_same] at h; simpa using h
    · rw [lk_cons_ne e] at h
      obtain ⟨h1, h2⟩ := ih h
      refine ⟨by omega, ?_⟩
      rw [show j - i = (j - (i + 1)) + 1 by omega, List.getElem?_cons_succ]
      exact h2
theorem calls_at {f : FuncId} {fn : Func} {c : Code} {vs : List Value} {w : World} {R : Ending → World → Prop} {X : List Nat} (n : Nat) (hf : P.funcs[f]? = some fn) (hb : fn.body = some c) (hn : fn.ntmps = n) (hlen : Nat.ble vs.length n = true)
    (hS : Sat w X H F w) (h : At (c.wp P (bodyPost P fn R)) ⟨n, w, X⟩ (params 0 vs) H F) : Calls P f vs.toArray w R := by
  have hlen' := Nat.le_of_ble_eq_true hlen
  refine calls_of_wp hf hb (h _ w ⟨rfl, ?_, fun i v hi => ?_⟩ hS)
  · simp [hn]; omega
  · obtain ⟨_, h2⟩ := lk_params hi
    simp only [Nat.sub_zero] at h2
    have hlt := (List.getElem?_eq_some_iff.1 h2).1
    rw [Array.getD_eq_getD_getElem?, Array.getElem?_append_left (by simpa using hlt)]
    simp [h2]
variable {fn : Func} {R : Ending → World → Prop}
theorem rt_tmp {t : Tmp} {v : Value} {e : Exit} (he : e = .ret ∨ e = .normal) (hr : fn.results = #[.tmp t]) (hv : lk L t = some v) (h : ∀ w, Sat E.w0 E.X H F w → R (.returned v) w) : AtX (bodyPost P fn R) e E L H F := by
  intro a w fa sw
  have hx := fa.2.2 t v hv
  rcases he with rfl | rfl <;> exact ⟨fa.1, v, by rw [results_tmp hr, hx], h w sw⟩
theorem rt_none {e : Exit} (he : e = .ret ∨ e = .normal) (hr : fn.results = #[]) (h : ∀ w, Sat E.w0 E.X H F w → R (.returned (.tuple #[])) w) : AtX (bodyPost P fn R) e E L H F := by
  intro a w fa sw
  rcases he with rfl | rfl <;> exact ⟨fa.1, _, results_none hr _ _ _, h w sw⟩
/-- A result that lies in a block that is owned. -/
theorem rt_cell {ta T h0 b sz bytes : Nat} {d : TypeDesc} {z : Value} {l : List Value} {TT : TypeId} {fz : Nat × Nat} {e : Exit} (he : e = .ret ∨ e = .normal) (hr : fn.results = #[.cell ta T]) (ht : Ty P T d sz bytes z) (hd : aggD d = true)
    (hv : lk L ta = some (.pointer (some ⟨b, 0, none⟩))) (hh : lk H h0 = some (.blk b (.cells l.toArray TT fz))) (hl : l.length = sz) (h : ∀ w, Sat E.w0 E.X H F w → R (.returned (.agg l.toArray)) w) : AtX (bodyPost P fn R) e E L H F := by
  intro a w fa sw
  have hx := fa.2.2 ta _ hv
  have : (results fn a.tmps).run P w = .ok (.agg l.toArray) w := by
    have h2 := run_loadVar_agg (P := P) ht hd (lies_blk (sw.blk_eq hh)) hl
    have h3 : (a.tmps[ta]?.getD undef) = .pointer (some ⟨b, 0, none⟩) := by rw [← Array.getD_eq_getD_getElem?]; exact hx
    simp [results, hr, h3, asAddr, h2]
  rcases he with rfl | rfl <;> exact ⟨fa.1, _, this, h w sw⟩
end
end Go.Proofs.Ytfddplpljjlgiaa.Fw
namespace Go.Proofs.Ytfddplpljjlgiaa.Fw
open Go Go.RowKit
theorem ints_length (k : IntKind) (l : List Int) : (ints k l).length = l.length := by simp [ints]
theorem ints_append (k : IntKind) (a b : List Int) : ints k (a ++ b) = ints k a ++ ints k b := by simp [ints]
theorem ints_one (k : IntKind) (l : List Int) : ∀ u, u ∈ ints k l → u.oneCell' = true := by
  intro u hu
  simp only [ints, List.mem_map] at hu
  obtain ⟨x, _, rfl⟩ := hu
  rfl
section
variable {P : Program} {Q : Exit → Act → World → Prop} {ops : Array Oper} {rest : List Oper} {E : Env} {L : List (Nat × Value)} {H : List (Nat × Ent)} {F : List (Nat × FE)}
variable {dst : Option Tmp} {ty : TypeId} {pos : String} {af : Array Edge} {gd : Option (Nat × Bool)}
theorem ev_eql_slice_nil {T T' e : Nat} {x y : Operand} {b : Option Addr} {n c : Nat} (hT : P.underlying T = some (.slice e)) (hx : ev L x = some (.slice b n c)) (hy : ev L y = some (.slice none 0 0)) : Ev P ⟨dst, .binOp .eql T x y T', ty, pos, af, gd⟩ E L H F (.bool b.isNone) :=
  fun a w fa _ => by
    have e0 : ∀ d, (Op.equalIn (d + 1) T (.slice b n c) (.slice none 0 0)).run P w = .ok b.isNone w := fun d => by cases b <;> simp [Op.equalIn, run_und hT]
    have e4 : (Op.equalIn Op.maxDepth T (.slice b n c) (.slice none 0 0)).run P w = .ok b.isNone w := e0 9999
    simp only [execOp, fa.ev hx, fa.ev hy, eqGuard, binOp, Op.equal, Sem.run_bind]
    simp [e4]
theorem ev_eql_ptr_nil {T T' e : Nat} {x y : Operand} {b : Option Addr} (hT : P.underlying T = some (.pointer e)) (hx : ev L x = some (.pointer b)) (hy : ev L y = some (.pointer none)) : Ev P ⟨dst, .binOp .eql T x y T', ty, pos, af, gd⟩ E L H F (.bool b.isNone) :=
  fun a w fa _ => by
    have e0 : ∀ d, (Op.equalIn (d + 1) T (.pointer b) (.pointer none)).run P w = .ok b.isNone w := fun d => by cases b <;> simp [Op.equalIn, run_und hT]
    have e4 : (Op.equalIn Op.maxDepth T (.pointer b) (.pointer none)).run P w = .ok b.isNone w := e0 9999
    simp only [execOp, fa.ev hx, fa.ev hy, eqGuard, binOp, Op.equal, Sem.run_bind]
    simp [e4]
theorem wrapu64_id {x : Int} (h1 : 0 ≤ x) (h2 : x ≤ 18446744073709551615) : IntKind.u64.wrap x = x := by
  simp only [IntKind.wrap, IntKind.bits, IntKind.signed]
  simp
  omega
theorem ev_convu64 {T T' : TypeId} {x : Operand} {k : IntKind} {i : Int} (h1 : P.underlying T = some (.int k)) (h2 : P.underlying T' = some (.int .u64)) (hx : ev L x = some (.int k i)) (hi : 0 ≤ i) (hi' : i ≤ 18446744073709551615) :
    Ev P ⟨dst, .convert T T' x, ty, pos, af, gd⟩ E L H F (.int .u64 i) := by
  have := ev_conv (P := P) (E := E) (H := H) (F := F) (dst := dst) (ty := ty) (pos := pos) (af := af) (gd := gd) h1 h2 hx; rwa [wrapu64_id hi hi'] at this
theorem ev_slice_rd_lo {T e n sz bytes : Nat} {x lo : Operand} {v z : Value} {d : TypeDesc} {l : List Value} {k : IntKind} {i : Int} (hT : P.underlying T = some (.slice e)) (ht : Ty P e d sz bytes z) (hx : ev L x = some v)
    (hlo : ev L lo = some (.int k i)) (hr : ∀ w, Sat E.w0 E.X H F w → Rd w v sz l) (hs : 0 < sz) (hl : l.length = n * sz) (h0 : 0 ≤ i) (h1 : i ≤ n) :
    Ev P ⟨dst, .slice T x (some lo) none none, ty, pos, af, gd⟩ E L H F (cutAt sz v i.toNat n) :=
  fun a w fa sw => by
    obtain ⟨b, len, cap, rfl, g1, g2, _⟩ := hr w sw
    have hlen : len = n := Nat.eq_of_mul_eq_mul_right hs (by omega)
    subst hlen
    simp [execOp, fa.ev hx, fa.ev hlo, run_slice_lo (w := w) (a := b) (len := len) (cap := cap) (k := k) hT ht h0 h1]
theorem ev_slice_rd_hi {T e n sz bytes : Nat} {x hi : Operand} {v z : Value} {d : TypeDesc} {l : List Value} {k : IntKind} {j : Int} (hT : P.underlying T = some (.slice e)) (ht : Ty P e d sz bytes z) (hx : ev L x = some v)
    (hhi : ev L hi = some (.int k j)) (hr : ∀ w, Sat E.w0 E.X H F w → Rd w v sz l) (hs : 0 < sz) (hl : l.length = n * sz) (h0 : 0 ≤ j) (h1 : j ≤ n) :
    Ev P ⟨dst, .slice T x none (some hi) none, ty, pos, af, gd⟩ E L H F (cutAt sz v 0 j.toNat) :=
  fun a w fa sw => by
    obtain ⟨b, len, cap, rfl, g1, g2, _⟩ := hr w sw
    have hlen : len = n := Nat.eq_of_mul_eq_mul_right hs (by omega)
    simp [execOp, fa.ev hx, fa.ev hhi, run_slice_hi (w := w) (a := b) (len := len) (cap := cap) (k := k) hT ht h0 (by omega)]
/-- A block that is owned is only read from here on. -/
theorem at_freeze_blk {K : Act → World → Prop} {h T b : Nat} {l : List Value} {fz : Nat × Nat} {H' : List (Nat × Ent)} (f : Nat) (hh : lk H h = some (.blk b (.cells l.toArray T fz))) (hH : Sub H' H) (hno : lk H' h = none) (k : At K E L H' ((f, .mem b 0 l) :: F)) : At K E L H F := by
  intro a w fa sw
  refine k a w fa ((sw.weaken hH (.refl _)).read f (lies_blk (sw.blk_eq hh)) fun k' e hk b' hb => .inr fun hb' => ?_)
  have hne : k' ≠ h := by intro e1; subst e1; rw [hno] at hk; cases hk
  subst hb'
  exact sw.apart k' e h _ (hH _ _ hk) hh hne b' hb (by simp [Ent.ids])
/-- The begin of what is owned. -/
theorem own_take {w : World} {v : Value} {T sz n hi : Nat} {l : List Value} (h : Own w v T sz l) (hs : 0 < sz) (hl : l.length = n * sz) (h1 : hi ≤ n) : Own w (cutAt sz v 0 hi) T sz (l.take (hi * sz)) := by
  rcases h with ⟨rfl, rfl⟩ | ⟨b, len, cap, junk, rfl, g1, g2, g3, g4⟩
  · have hn : n = 0 := by
      rcases Nat.eq_zero_or_pos n with h' | h'
      · exact h'
      · have := Nat.mul_pos h' hs; simp at hl; omega
    have : hi = 0 := by omega
    subst this
    exact .inl ⟨rfl, by simp⟩
  · have hlen : len = n := Nat.eq_of_mul_eq_mul_right hs (by omega)
    subst hlen
    have hm : hi * sz ≤ len * sz := Nat.mul_le_mul_right _ h1
    refine .inr ⟨b, hi, cap, l.drop (hi * sz) ++ junk, ?_, by simp; omega, ?_, by omega, ?_⟩
    · simp only [cutAt, Nat.zero_mul, Nat.sub_zero]
      split
      · rfl
      · simp [Addr.add]
    · have e1 : cap * sz = len * sz + (cap - len) * sz := by rw [← Nat.add_mul]; congr 1; omega
      have e2 : cap * sz = hi * sz + (cap - hi) * sz := by rw [← Nat.add_mul]; congr 1; omega
      simp only [List.length_append, List.length_drop]
      omega
    · rw [g4, ← List.append_assoc, List.take_append_drop]
theorem at_own_take {K : Act → World → Prop} {h T sz n hi : Nat} {v : Value} {l : List Value} (hh : lk H h = some (.own v T sz l)) (hs : 0 < sz) (hl : l.length = n * sz) (h1 : hi ≤ n)
    (k : At K E L ((h, .own (cutAt sz v 0 hi) T sz (l.take (hi * sz))) :: H) F) : At K E L H F := by
  intro a w fa sw
  have hO := own_take (sw.hold _ _ hh) hs hl h1
  have hids : blkOf (cutAt sz v 0 hi) = blkOf v := by
    rcases sw.hold _ _ hh with ⟨rfl, rfl⟩ | ⟨b, len, cap, junk, rfl, _⟩
    · simp only [cutAt]
      split <;> rfl
    · simp only [cutAt, Nat.zero_mul, Nat.sub_zero]
      split
      · rfl
      · simp [blkOf, Addr.add]
  refine k a w fa ⟨sw.tape, sw.os, sw.output, sw.size, sw.old, fun k' e hk => ?_, fun k' e hk b hb => ?_, fun k1 e1 k2 e2 hk1 hk2 hne b hb => ?_, sw.rd, fun f x k' e hk hk' b hb => ?_⟩
  · by_cases e1 : h = k'
    · subst e1; rw [lk_cons_same] at hk; cases hk; exact hO
    · rw [lk_cons_ne e1] at hk; exact sw.hold k' e hk
  · by_cases e1 : h = k'
    · subst e1; rw [lk_cons_same] at hk; cases hk
      exact sw.fresh h _ hh b (by simpa [Ent.ids, hids] using hb)
    · rw [lk_cons_ne e1] at hk; exact sw.fresh k' e hk b hb
  · have tr : ∀ k' e, lk ((h, Ent.own (cutAt sz v 0 hi) T sz (l.take (hi * sz))) :: H) k' = some e → ∃ e', lk H k' = some e' ∧ e'.ids = e.ids := by
      intro k' e hk
      by_cases e1 : h = k'
      · subst e1; rw [lk_cons_same] at hk; cases hk; exact ⟨_, hh, by simp [Ent.ids, hids]⟩
      · rw [lk_cons_ne e1] at hk; exact ⟨e, hk, rfl⟩
    obtain ⟨e1', h1', i1⟩ := tr _ _ hk1
    obtain ⟨e2', h2', i2⟩ := tr _ _ hk2
    rw [← i1] at hb
    rw [← i2]
    exact sw.apart k1 e1' k2 e2' h1' h2' hne b hb
  · by_cases e1 : h = k'
    · subst e1; rw [lk_cons_same] at hk'; cases hk'
      exact sw.off f x h _ hk hh b (by simpa [Ent.ids, hids] using hb)
    · rw [lk_cons_ne e1] at hk'; exact sw.off f x k' e hk hk' b hb
end
end Go.Proofs.Ytfddplpljjlgiaa.Fw
namespace Go.Proofs.Ytfddplpljjlgiaa.Fw
open Go Go.RowKit
theorem Sat.blk0 (w : World) (i b : Nat) (o : Obj) (h : w.heap[b]? = some o) : Sat w [b] [(i, .blk b o)] [] w := by
  refine .start w _ _ _ (fun k e hk => ?_) (fun k e hk b' hb => ?_) (fun k e k' e' hk hk' hne => ?_) (fun _ _ h => (lk_nil h).elim) (fun _ _ _ _ h => (lk_nil h).elim)
  · obtain ⟨rfl, rfl⟩ := lk_one hk; exact h
  · obtain ⟨rfl, rfl⟩ := lk_one hk; simpa [Ent.ids] using hb
  · obtain ⟨rfl, rfl⟩ := lk_one hk; obtain ⟨rfl, rfl⟩ := lk_one hk'; exact absurd rfl hne
theorem Sat.own0 (w : World) (i : Nat) (v : Value) (T sz : Nat) (l : List Value) (h : Own w v T sz l) : Sat w (blkOf v) [(i, .own v T sz l)] [] w := by
  refine .start w _ _ _ (fun k e hk => ?_) (fun k e hk b' hb => ?_) (fun k e k' e' hk hk' hne => ?_) (fun _ _ h => (lk_nil h).elim) (fun _ _ _ _ h => (lk_nil h).elim)
  · obtain ⟨rfl, rfl⟩ := lk_one hk; exact h
  · obtain ⟨rfl, rfl⟩ := lk_one hk; simpa [Ent.ids] using hb
  · obtain ⟨rfl, rfl⟩ := lk_one hk; obtain ⟨rfl, rfl⟩ := lk_one hk'; exact absurd rfl hne
theorem off_one {f : FE} {i : Nat} {e : Ent} (hf : ∀ b, b ∈ e.ids → f.off b) : ∀ h' e', lk [(i, e)] h' = some e' → ∀ b, b ∈ e'.ids → f.off b :=
  fun _ _ hk b hb => by obtain ⟨rfl, rfl⟩ := lk_one hk; exact hf b hb
theorem off_nil {f : FE} : ∀ h' e', lk ([] : List (Nat × Ent)) h' = some e' → ∀ b, b ∈ e'.ids → f.off b := fun _ _ hk => (lk_nil hk).elim
/-- One slice that is read. -/
theorem Sat.rd0 {w : World} {v : Value} {sz : Nat} {l : List Value} (i : Nat) (h : Rd w v sz l) : Sat w [] [] [(i, .sl v sz l)] w := (Sat.start0 w).read i h off_nil
theorem Sat.more {w : World} {F : List (Nat × FE)} (sw : Sat w [] [] F w) {v : Value} {sz : Nat} {l : List Value} (i : Nat) (h : Rd w v sz l) : Sat w [] [] ((i, .sl v sz l) :: F) w := sw.read i h off_nil
theorem Gives.rd {w w' : World} {M : List Nat} {N : List (Nat × Ent)} (g : Gives w w' M N) {v : Value} {sz : Nat} {l : List Value} (h : Rd w v sz l) (hM : ∀ b, b ∈ M → b ∉ blkOf v) : Rd w' v sz l :=
  h.keep fun b hb hv _ => g.old b hb fun hm => hM b hm hv
theorem Gives.rn {w w' : World} {M : List Nat} {i : Nat} {e : Ent} (j : Nat) (g : Gives w w' M [(i, e)]) : Gives w w' M [(j, e)] :=
  ⟨g.tape, g.os, g.output, g.size, g.old, fun h e' hh => by obtain ⟨rfl, rfl⟩ := lk_one hh; exact g.hold i _ (lk_cons_same _ _ _),
    fun h e' hh => by obtain ⟨rfl, rfl⟩ := lk_one hh; exact g.fresh i _ (lk_cons_same _ _ _),
    fun h e1 h' e2 hh hh' hne => by obtain ⟨rfl, rfl⟩ := lk_one hh; obtain ⟨rfl, rfl⟩ := lk_one hh'; exact absurd rfl hne⟩
theorem rn {P : Program} {f : FuncId} {vs : Array Value} {w : World} {ι : Type} {M : List Nat} {Φ : ι → Prop} {v : ι → Value} {i : Nat} {e : ι → Ent} (j : Nat) (h : Calls P f vs w (Post w M Φ v fun x => [(i, e x)])) :
    Calls P f vs w (Post w M Φ v fun x => [(j, e x)]) :=
  h.mono fun _ _ ⟨x, h1, h2, h3⟩ => ⟨x, h1, h2, h3.rn j⟩
theorem mod_blk {H : List (Nat × Ent)} {ι : Type} {k b : Nat} {o : Obj} {e' : ι → Ent} (hh : lk H k = some (.blk b o)) : ∀ b', b' ∈ [b] → ∃ k' e, lk H k' = some e ∧ b' ∈ e.ids ∧ ∀ x, lk [(k, e' x)] k' ≠ none :=
  fun b' hb => ⟨k, _, hh, by simpa [Ent.ids] using hb, fun x => by simp [lk_cons_same]⟩
theorem mem_one {b c : Nat} (h : b ∈ [c]) : b = c := by simpa using h
theorem fill_one (vs : List Value) : ∀ (i : Nat) (cl : List Value), i + vs.length ≤ cl.length → (∀ v, v ∈ vs → v.cells = #[v]) →
    Instr.fill (fun i => some (i * 1, 1)) cl.toArray ((List.range' i vs.length).zip vs) = some (wr cl i vs).toArray := by
  induction vs with
  | nil => intro i cl _ _; simp [Instr.fill, wr]
  | cons v r ih =>
    intro i cl h hv
    simp only [List.length_cons] at h
    have h1 := hv v (by simp)
    simp only [List.length_cons, List.range'_succ, List.zip_cons_cons, Instr.fill, h1, Nat.mul_one]
    have h2 : ¬ (#[v].size ≠ 1 ∨ i + #[v].size > cl.toArray.size) := by simp; omega
    have h3 : (if #[v].size ≠ 1 || i + #[v].size > cl.toArray.size then none else
        Instr.fill (fun i => some (i * 1, 1)) (#[v].zipIdx.foldl (fun cs (c, j) => cs.setIfInBounds (i + j) c) cl.toArray) ((List.range' (i + 1) r.length).zip r)) =
        Instr.fill (fun i => some (i * 1, 1)) (#[v].zipIdx.foldl (fun cs (c, j) => cs.setIfInBounds (i + j) c) cl.toArray) ((List.range' (i + 1) r.length).zip r) := by
      rw [if_neg]
      simpa using h2
    simp only [Nat.mul_one] at h3
    rw [h3]
    have h4 : (#[v].zipIdx.foldl (fun cs (c, j) => cs.setIfInBounds (i + j) c) cl.toArray) = (cl.set i v).toArray := by simp
    rw [h4]
    have := ih (i + 1) (cl.set i v) (by simp; omega) (fun u hu => hv u (by simp [hu]))
    simp only [Nat.mul_one] at this
    rw [this, wr_cons (by omega)]
section
variable {P : Program} {E : Env} {L : List (Nat × Value)} {H : List (Nat × Ent)} {F : List (Nat × FE)}
variable {dst : Option Tmp} {ty : TypeId} {pos : String} {af : Array Edge} {gd : Option (Nat × Bool)}
theorem st_bsi {Q : Exit → Act → World → Prop} {ops : Array Oper} {rest : List Oper} {dd T e n bytes : Nat} {ps : Array (Nat × Operand)} {z : Value} {k : IntKind} {xs : List Int} (h : Nat) (hT : P.underlying T = some (.slice e)) (ht : Ty P e (.int k) 1 bytes z)
    (hi : ps.toList.map (·.1) = List.range' 0 n) (hx : evs L (ps.toList.map (·.2)) = some (ints k xs)) (hl : xs.length = n) (hle : n ≤ 16777216) (hg : wants ops L gd = some true) (hn : Nat.ble (dd + 1) E.n = true)
    (c : ∀ b, At (wpList P ops Q rest) E ((dd, .slice (some ⟨b, 0, none⟩) n n) :: L) ((h, .own (.slice (some ⟨b, 0, none⟩) n n) e 1 (ints k xs)) :: H) F) :
    At (wpList P ops Q (⟨some dd, .buildSlice T n ps, ty, pos, af, gd⟩ :: rest)) E L H F := by
  refine st_buildSlice (sz := 1) (cells := ints k xs) h hT ht hx (by omega) ?_ (by rw [ints_length, hl, Nat.mul_one]) hg hn c
  rw [hi]
  generalize hA : (Array.range (n * 1)).map ((if n * 1 = 0 then #[] else z.cells)[· % (if n * 1 = 0 then #[] else z.cells : Array Value).size]!) = A
  have hAl : A.size = n := by rw [← hA]; simp
  have := fill_one (ints k xs) 0 A.toList (by simp [ints_length, hl, hAl]) (fun v hv => by
    simp only [ints, List.mem_map] at hv
    obtain ⟨x, _, rfl⟩ := hv
    rfl)
  rw [ints_length, hl, wr_all (by simp [ints_length, hl, hAl]), Array.toArray_toList] at this
  exact this
/-- Numbers behind numbers. -/
theorem st_appendi {Q : Exit → Act → World → Prop} {ops : Array Oper} {rest : List Oper} {dd T e X eX bytes : Nat} {s x : Operand} {z v xv : Value} {k : IntKind} {l cs : List Int} (h : Nat) (hT : P.underlying T = some (.slice e)) (hX : P.underlying X = some (.slice eX)) (ht : Ty P e (.int k) 1 bytes z) (hz : z.cells.size = 1)
    (hv : ev L s = some v) (hx : ev L x = some xv) (hh : lk H h = some (.own v e 1 (ints k l))) (hr : ∀ w, Sat E.w0 E.X H F w → Rd w xv 1 (ints k cs)) (hsz : l.length + cs.length ≤ 140737488355000 ∧ ((l.length + cs.length) + (l.length + cs.length) / 4 + 512) * bytes ≤ 281474976710656) (hby : bytes ≤ 1024)
    (hg : wants ops L gd = some true) (hn : Nat.ble (dd + 1) E.n = true)
    (c : ∀ v', At (wpList P ops Q rest) E ((dd, v') :: L) ((h, .own v' e 1 (ints k (l ++ cs))) :: H) F) :
    At (wpList P ops Q (⟨some dd, .call { callee := .builtin .append, args := #[s, x], argTypes := #[T, X] }, ty, pos, af, gd⟩ :: rest)) E L H F :=
  st_append (n := l.length) (m := cs.length) h hT hX ht hz hv hx hh hr (by decide) (by rw [ints_length, Nat.mul_one]) (by rw [ints_length, Nat.mul_one]) hsz hby (ints_one _ _) hg hn (fun v' => by rw [← ints_append]; exact c v')
/-- bytes of what is owned or read, as a string -/
def strOf (l : List Int) : ByteArray := ⟨(l.map fun x => UInt8.ofNat x.toNat).toArray⟩
theorem run_toString {w : World} {v : Value} {l : List Int} (hr : Rd w v 1 (ints .u8 l)) : (Conv.bytesToString v).run P w = .ok (.string (strOf l)) w := by
  obtain ⟨b, len, cap, rfl, g1, g2, g3, g4⟩ := hr
  rw [ints_length, Nat.mul_one] at g1
  cases b with
  | none =>
    have := g3 rfl
    have : len = 0 := by omega
    subst this
    have : l = [] := List.length_eq_zero_iff.1 g1
    subst this
    rfl
  | some x =>
    have h2 : Lies w x.block x.off (ints .u8 l) := (g4 _ rfl).2
    have h3 := run_loadCells_any (P := P) (a := x) (g4 _ rfl).1 h2
    rw [ints_length, g1] at h3
    rw [Go.run_bytesToString w _ len cap l (by simpa [ints] using h3)]
    have key : ∀ (l : List Int) (s : ByteArray), l.foldl (fun r n => r.push (UInt8.ofNat n.toNat)) s = ⟨s.data ++ (l.map fun x => UInt8.ofNat x.toNat).toArray⟩ := by
      intro l
      induction l with
      | nil => intro s; simp
      | cons x r ih => intro s; simp only [List.foldl_cons]; rw [ih]; simp [ByteArray.push]
    rw [key]
    have e : ByteArray.empty.data = #[] := rfl
    rw [e, Array.empty_append]
    rfl
theorem ev_string {T T' e : TypeId} {x : Operand} {v : Value} {l : List Int} (h1 : P.underlying T = some (.slice e)) (h3 : P.underlying e = some (.int .u8)) (h2 : P.underlying T' = some .string) (hx : ev L x = some v) (hr : ∀ w, Sat E.w0 E.X H F w → Rd w v 1 (ints .u8 l)) :
    Ev P ⟨dst, .convert T T' x, ty, pos, af, gd⟩ E L H F (.string (strOf l)) :=
  fun a w fa sw => by
    obtain ⟨b, len, cap, rfl, _⟩ := hr w sw
    have := run_toString (P := P) (hr w sw)
    simp only [execOp, fa.ev hx, convert, Sem.run_bind, run_und h1, run_und h2, Result.andThen_ok, run_und h3, this, Sem.run_pure]
theorem ev_len_rdi {x : Operand} {T e : TypeId} {v : Value} {h : Nat} {k : IntKind} {l : List Int} (hT : P.underlying T = some (.slice e)) (hx : ev L x = some v) (hh : lk F h = some (.sl v 1 (ints k l))) :
    Ev P ⟨dst, .call { callee := .builtin .len, args := #[x], argTypes := #[T] }, ty, pos, af, gd⟩ E L H F (.int .i64 (l.length : Nat)) :=
  ev_len_rd hT hx hh (by rw [ints_length, Nat.mul_one]) (by decide)
end
end Go.Proofs.Ytfddplpljjlgiaa.Fw

namespace Go.Proofs.Ytfddplpljjlgiaa.Fw
open Go Go.RowKit
/-- What is read, holds. -/
def CF (F : List (Nat × FE)) (w : World) : Prop := ∀ h f, lk F h = some f → f.holds w
def bot : Exit → Act → World → Prop := fun _ _ _ => False
def wpC (P : Program) (ops : Array Oper) (C : World → Prop) (K : Act → World → Prop) : Nat → Array Bool → Act → World → Prop
  | 0, listed, a, w => C w ∧ Region.ready .any ops listed = [] ∧ K a w
  | f + 1, listed, a, w => C w ∧ Region.ready .any ops listed ≠ [] ∧ ∀ i ∈ Region.ready .any ops listed, wpOp P ops bot i (wpC P ops C K f (listed.setIfInBounds i true)) a w
section
variable {P : Program} {ops : Array Oper} {C : World → Prop}
theorem letsOut_bot : ¬ LetsOut bot := fun ⟨_, _, h⟩ => h
theorem wp_of_bot {o : Oper} {a : Act} {w : World} {K K' : Act → World → Prop} {Q : Exit → Act → World → Prop} (hk : ∀ a w, K a w → K' a w) (h : o.wp P a w K bot) : o.wp P a w K' Q := by
  unfold Oper.wp at *
  generalize (execOp a.eval o).run P w = r at *
  cases r with
  | ok n w' =>
    cases n <;> simp only [Oper.upon] at h ⊢ <;>
      first
        | exact hk _ _ h
        | exact Calls.mono h (fun e w'' he => by
            cases e
            · exact hk _ _ he
            · exact he.elim
            · exact (letsOut_bot he).elim)
        | exact Rows.mono h (fun _ _ he => hk _ _ he)
  | halt x w' => cases x <;> simp only [Oper.upon] at h ⊢ <;> exact h.elim
theorem wpOp_of_bot {i : Nat} {a : Act} {w : World} {K K' : Act → World → Prop} {Q : Exit → Act → World → Prop} (hk : ∀ a w, K a w → K' a w) (h : wpOp P ops bot i K a w) : wpOp P ops Q i K' a w := by
  unfold wpOp at *
  split
  · rename_i ho; simp only [ho] at h; exact hk _ _ h
  · rename_i o ho
    simp only [ho] at h
    split
    · rename_i hw
      simp only [hw, if_true] at h
      rcases h with h | h
      · exact .inl (wp_of_bot hk h)
      · exact (letsOut_bot h.2).elim
    · rename_i hw; simp only [hw] at h; exact hk _ _ h
theorem wpAny_of_wpC {Q : Exit → Act → World → Prop} : ∀ (f : Nat) (listed : Array Bool) (a : Act) (w : World), wpC P ops C (Q .normal) f listed a w → wpAny P .any ops Q f listed a w
  | 0, _, _, _, h => ⟨h.2.1, h.2.2⟩
  | f + 1, _, _, _, h => ⟨fun h0 => absurd h0 h.2.1, fun i hi => wpOp_of_bot (fun a' w' h' => wpAny_of_wpC f _ a' w' h') (h.2.2 i hi)⟩
def Yd (P : Program) (ops : Array Oper) (C : World → Prop) (o : Oper) (v : Value) (a : Act) : Prop :=
  (Region.wanted o (yielded ops a.tmps) = true ∧ ∀ w, C w → (execOp a.eval o).run P w = .ok (.value v) w) ∨ (Region.wanted o (yielded ops a.tmps) = false ∧ v = undef)
theorem Yd.wpOp {i : Nat} {o : Oper} {v : Value} {a : Act} {w : World} {K : Act → World → Prop} (hi : ops[i]? = some o) (hy : Yd P ops C o v a) (hw : C w) (h : K (a.put o.dst v) w) : Go.wpOp P ops bot i K a w := by
  unfold Go.wpOp
  simp only [hi]
  rcases hy with ⟨h1, h2⟩ | ⟨h1, rfl⟩
  · rw [if_pos h1]
    refine .inl ?_
    unfold Oper.wp
    rw [h2 w hw]
    exact h
  · rw [if_neg (by rw [h1]; simp)]
    exact h
theorem wpOp_put {j : Nat} {oi oj : Oper} {v : Value} (hj : ops[j]? = some oj) (hap : oi.apart ops oj = true)
    (hsi : ∀ cs b, oi.op ≠ .select cs b) (hsj : ∀ cs b, oj.op ≠ .select cs b) {K : Act → World → Prop} {a : Act} {w : World}
    (hy : Yd P ops C oi v a) (h : wpOp P ops bot j K (a.put oi.dst v) w) :
    wpOp P ops bot j (fun a' w' => Yd P ops C oi v a' ∧ K (a'.put oi.dst v) w') a w := by
  obtain ⟨h1, h2, h3⟩ := Oper.apart_spec hap
  have keep : ∀ (a b : Act), b.tmps = a.tmps → Yd P ops C oi v a → ∀ u, Yd P ops C oi v (b.put oj.dst u) := fun a b hb hy u => by
    have hbe : b.eval = a.eval := by funext x; cases x <;> simp [Act.eval, hb]
    unfold Yd at *
    rw [execOp_put oi hsi b oj.dst u h3, wanted_put oi b oj.dst u h3, hbe, hb]
    exact hy
  unfold wpOp at *
  simp only [hj] at *
  rw [wanted_put oj a oi.dst v h1] at h
  split
  · rename_i hw
    simp only [hw, if_true] at h
    rcases h with h | h
    · refine .inl ?_
      unfold Oper.wp at *
      rw [execOp_put oj hsj a oi.dst v h1] at h
      generalize (execOp a.eval oj).run P w = r at *
      have hc : ∀ u, (a.put oi.dst v).put oj.dst u = (a.put oj.dst u).put oi.dst v := fun u => Act.put_comm a v u h2
      cases r with
      | ok n w' =>
        cases n <;> simp only [Oper.upon] at h ⊢
        case value u => rw [hc] at h; exact ⟨keep a a rfl hy u, h⟩
        case skip => rw [hc] at h; exact ⟨keep a a rfl hy undef, h⟩
        case defer d =>
          rw [Act.put_defers, Act.put_comm _ v undef h2] at h
          exact ⟨keep a { a with defers := d :: a.defers } rfl hy undef, h⟩
        case enter f args =>
          exact Calls.mono h (fun e w'' he => by
            cases e
            · rename_i u; simp only at he ⊢; rw [hc] at he; exact ⟨keep a a rfl hy u, he⟩
            · exact he
            · exact he)
        case row r args => exact Rows.mono h (fun u _ he => by rw [hc] at he; exact ⟨keep a a rfl hy u, he⟩)
      | halt x w' => cases x <;> simp only [Oper.upon] at h ⊢ <;> exact h.elim
    · exact (letsOut_bot h.2).elim
  · rename_i hw
    simp only [hw] at h
    rw [Act.put_comm a v undef h2] at h
    exact ⟨keep a a rfl hy undef, h⟩
theorem wpC_first {K : Act → World → Prop} {i : Nat} {oi : Oper} {v : Value} (hi : ops[i]? = some oi) (hsel : ∀ (j : Nat) (o : Oper) cs b, ops[j]? = some o → o.op ≠ .select cs b) :
    ∀ (f : Nat) (listed : Array Bool) (a : Act) (w : World),
      (∀ j oj, ops[j]? = some oj → j ≠ i → listed.getD j true = false → (∀ e ∈ oj.after, Region.binds .any e = true → e.on ≠ i) → oi.apart ops oj = true) →
      i ∈ Region.ready .any ops listed → Yd P ops C oi v a → C w →
      wpC P ops C K f (listed.setIfInBounds i true) (a.put oi.dst v) w → wpC P ops C K (f + 1) listed a w := by
  intro f
  induction f with
  | zero =>
    intro listed a w _ hr hy hw H
    refine ⟨hw, fun h => (by rw [h] at hr; cases hr), fun j hj => ?_⟩
    by_cases hji : j = i
    · subst hji; exact hy.wpOp hi hw H
    · have := ready_mono hj hji
      rw [H.2.1] at this
      cases this
  | succ f ih =>
    intro listed a w hfree hr hy hw H
    refine ⟨hw, fun h => (by rw [h] at hr; cases hr), fun j hj => ?_⟩
    by_cases hji : j = i
    · subst hji; exact hy.wpOp hi hw H
    · have h1 := H.2.2 j (ready_mono hj hji)
      obtain ⟨hjun, oj, hoj, hall⟩ := mem_ready.1 hj
      have hnot : ∀ e ∈ oj.after, Region.binds .any e = true → e.on ≠ i := fun e he hb heq => by
        have h1 := hall e he hb
        have h0 := (mem_ready.1 hr).1
        rw [heq] at h1
        rcases Nat.lt_or_ge i listed.size with h' | h'
        · simp [h'] at h0 h1; rw [h0] at h1; cases h1
        · simp [Array.getElem?_eq_none h'] at h1
      have h2 := wpOp_put hoj (hfree j oj hoj hji hjun hnot) (fun cs b => hsel i oi cs b hi) (fun cs b => hsel j oj cs b hoj) hy h1
      have hfree' : ∀ k ok, ops[k]? = some ok → k ≠ i → (listed.setIfInBounds j true).getD k true = false →
          (∀ e ∈ ok.after, Region.binds .any e = true → e.on ≠ i) → oi.apart ops ok = true := fun k ok hk hki hun hno => by
        refine hfree k ok hk hki ?_ hno
        by_cases hjk : j = k
        · subst hjk; exact hjun
        · rw [getD_set_ne true hjk] at hun; exact hun
      refine wpOp_mono (fun a' w' h3 => ?_) h2
      rw [Array.setIfInBounds_comm _ _ (Ne.symm hji)] at h3
      have hC : C w' := by
        cases f with
        | zero => exact h3.2.1
        | succ f => exact h3.2.1
      exact ih (listed.setIfInBounds j true) a' w' hfree' (ready_mono hr (Ne.symm hji)) h3.1 hC h3.2
end
section
variable {P : Program} {Q : Exit → Act → World → Prop} {ops : Array Oper} {E : Env} {L : List (Nat × Value)} {H : List (Nat × Ent)} {F F0 : List (Nat × FE)} {K : Act → World → Prop}
theorem Sat.cf {w0 w : World} {X : List Nat} (sw : Sat w0 X H F w) (hF : Sub F0 F) : CF F0 w := fun h f hf => sw.rd h f (hF h f hf)
theorem cd_mix {id : Nat} {l : List Oper} (hm : P.follows .mixedOrders = true) (h : At (wpC P l.toArray (CF F) (Q .normal) l.length (Array.replicate l.length false)) E L H F) : At ((Code.region id l.toArray true).wp P Q) E L H F :=
  fun a w fa sw => wp_region_any hm (by
    have := h a _ fa (sw.drawn (w.drawn + 1))
    have h2 := wpAny_of_wpC _ _ _ _ this
    simpa using h2)
/-- What leaves memory alone, and reads what is only read, goes first. -/
theorem mx {f i d : Nat} {o : Oper} {v : Value} {listed : Array Bool} (hi : ops[i]? = some o) (hs : Region.noSelect ops = true) (hr : (Region.ready .any ops listed).contains i = true) (hf : Region.free .any ops listed i = true) (hg : wants ops L o.guard = some true)
    (he : ∀ w, Ev P o ⟨E.n, w, []⟩ L [] F0 v) (hd : o.dst = some d) (hn : Nat.ble (d + 1) E.n = true) (hF : Sub F0 F)
    (k : At (wpC P ops (CF F0) K f (listed.setIfInBounds i true)) E ((d, v) :: L) H F) : At (wpC P ops (CF F0) K (f + 1) listed) E L H F := by
  intro a w fa sw
  refine wpC_first (v := v) hi (Region.noSelect_spec hs) f listed a w (Region.free_spec hi hf) (by simpa using hr) (.inl ⟨wants_eq fa hg, fun w' hw' => ?_⟩) (sw.cf hF) ?_
  · exact he w' a w' fa (.start w' _ _ _ (fun _ _ h => (lk_nil h).elim) (fun _ _ h => (lk_nil h).elim) (fun _ _ _ _ h => (lk_nil h).elim) hw' (fun _ _ _ _ _ h => (lk_nil h).elim))
  · rw [hd]
    exact k _ w (fa.put (Nat.le_of_ble_eq_true hn) v) sw
theorem mx_step {f : Nat} {listed : Array Bool} {i : Nat} {rs : List Nat} (hr : Region.ready .any ops listed = i :: rs) (hF : Sub F0 F) (h : ∀ j, j ∈ i :: rs → At (wpOp P ops bot j (wpC P ops (CF F0) K f (listed.setIfInBounds j true))) E L H F) :
    At (wpC P ops (CF F0) K (f + 1) listed) E L H F :=
  fun a w fa sw => ⟨sw.cf hF, fun h0 => by (rw [hr] at h0; cases h0), fun j hj => h j (by rw [hr] at hj; exact hj) a w fa sw⟩
theorem mx_one {f : Nat} {listed : Array Bool} {i : Nat} (hr : Region.ready .any ops listed = [i]) (hF : Sub F0 F) (h : At (wpOp P ops bot i (wpC P ops (CF F0) K f (listed.setIfInBounds i true))) E L H F) :
    At (wpC P ops (CF F0) K (f + 1) listed) E L H F := by
  refine mx_step hr hF fun j hj => ?_
  obtain rfl : j = i := by simpa using hj
  exact h
theorem mx_two {f : Nat} {listed : Array Bool} {i j : Nat} (hr : Region.ready .any ops listed = [i, j]) (hF : Sub F0 F) (h1 : At (wpOp P ops bot i (wpC P ops (CF F0) K f (listed.setIfInBounds i true))) E L H F)
    (h2 : At (wpOp P ops bot j (wpC P ops (CF F0) K f (listed.setIfInBounds j true))) E L H F) : At (wpC P ops (CF F0) K (f + 1) listed) E L H F := by
  refine mx_step hr hF fun k hk => ?_
  rcases List.mem_cons.1 hk with rfl | hk
  · exact h1
  · obtain rfl : k = j := by simpa using hk
    exact h2
theorem mx_done {listed : Array Bool} (hr : Region.ready .any ops listed = []) (hF : Sub F0 F) (h : AtX Q .normal E L H F) : At (wpC P ops (CF F0) (Q .normal) 0 listed) E L H F :=
  fun a w fa sw => ⟨sw.cf hF, hr, h a w fa sw⟩
end
end Go.Proofs.Ytfddplpljjlgiaa.Fw
namespace Go.Proofs.Ytfddplpljjlgiaa.Fw
open Go Go.RowKit
set_option linter.unusedVariables false
set_option linter.unusedSimpArgs false
section
variable {P : Program} {Q : Exit → Act → World → Prop} {ops : Array Oper} {rest : List Oper} {E : Env} {L : List (Nat × Value)} {H : List (Nat × Ent)} {F : List (Nat × FE)}
variable {dst : Nat} {ty : TypeId} {pos : String} {af : Array Edge} {gd : Option (Nat × Bool)}
theorem iand_mask (x : Int) (m : Nat) (hm : m ≤ 1073741824) : 0 ≤ iand .i64 x m ∧ iand .i64 x m ≤ m := by
  have h : (BitVec.ofInt IntKind.i64.bits x &&& BitVec.ofInt IntKind.i64.bits (m : Int)).toNat ≤ m := by
    rw [BitVec.toNat_and]
    refine Nat.le_trans Nat.and_le_right ?_
    rw [BitVec.ofInt_natCast, BitVec.toNat_ofNat]
    exact Nat.mod_le _ _
  unfold iand
  rw [wrap64_id (by omega) (by omega)]
  omega
theorem ld_mem_all {x : Operand} {T : TypeId} {h b sz bytes : Nat} {z : Value} {d : TypeDesc} {l : List Value} (ht : Ty P T d sz bytes z) (hd : aggD d = true) (hx : ev L x = some (.pointer (some ⟨b, 0, none⟩)))
    (hh : lk F h = some (.mem b 0 l)) (hl : l.length = sz) : Ev P ⟨dst, .load T x, ty, pos, af, gd⟩ E L H F (.agg l.toArray) := by
  have := ld_mem (P := P) (E := E) (H := H) (dst := dst) (ty := ty) (pos := pos) (af := af) (gd := gd) (k := 0) ht hd hx hh rfl (by omega)
  rwa [List.drop_zero, List.take_of_length_le (by omega)] at this
end
end Go.Proofs.Ytfddplpljjlgiaa.Fw
namespace Go.Proofs.Ytfddplpljjlgiaa.Fw
open Go Go.RowKit
set_option linter.unusedVariables false
def H32 (hs : List (List Int)) : Prop := ∀ h, h ∈ hs → h.length = 32
theorem H32.nil : H32 [] := fun h hh => by cases hh
theorem H32.cons {h : List Int} {hs : List (List Int)} (h1 : h.length = 32) (h2 : H32 hs) : H32 (h :: hs) := fun x hx => by
  rcases List.mem_cons.1 hx with rfl | hx
  · exact h1
  · exact h2 x hx
theorem H32.tail {h : List Int} {hs : List (List Int)} (hu : H32 (h :: hs)) : H32 hs := fun x hx => hu x (by simp [hx])
theorem H32.append {a b : List (List Int)} (ha : H32 a) (hb : H32 b) : H32 (a ++ b) := fun x hx => (List.mem_append.1 hx).elim (ha x) (hb x)
theorem H32.one {h : List Int} (h1 : h.length = 32) : H32 [h] := .cons h1 .nil
theorem H32.take {a : List (List Int)} (ha : H32 a) (n : Nat) : H32 (a.take n) := fun x hx => ha x (List.mem_of_mem_take hx)
theorem H32.drop {a : List (List Int)} (ha : H32 a) (n : Nat) : H32 (a.drop n) := fun x hx => ha x (List.mem_of_mem_drop hx)
theorem H32.set {a : List (List Int)} (ha : H32 a) (i : Nat) {h : List Int} (h1 : h.length = 32) : H32 (a.set i h) := fun x hx => by
  rcases List.mem_or_eq_of_mem_set hx with hx | rfl
  · exact ha x hx
  · exact h1
theorem H32.replicate {h : List Int} (n : Nat) (h1 : h.length = 32) : H32 (List.replicate n h) := fun x hx => by rw [(List.mem_replicate.1 hx).2]; exact h1
end Go.Proofs.Ytfddplpljjlgiaa.Fw
namespace Go.Proofs.Ytfddplpljjlgiaa.Fw
open Go Go.RowKit
set_option linter.unusedVariables false
set_option linter.unusedSimpArgs false
theorem wr_none (z : List Value) (k : Nat) : wr z k [] = z := by simp [wr]
theorem fold_put : ∀ (vs : List Value) (k off : Nat) (z : List Value), off + k + vs.length ≤ z.length → (vs.zipIdx k).foldl (fun (cs : Array Value) (x : Value × Nat) => cs.setIfInBounds (off + x.2) x.1) z.toArray = (wr z (off + k) vs).toArray
  | [], k, off, z, _ => by rw [wr_none]; rfl
  | v :: vs, k, off, z, h => by
    simp only [List.length_cons] at h
    rw [List.zipIdx_cons, List.foldl_cons, List.setIfInBounds_toArray, fold_put vs (k + 1) off (z.set (off + k) v) (by rw [List.length_set]; omega), wr_cons (by omega)]
    rfl
theorem fill_nil {pl : Nat → Option (Nat × Nat)} {z : Array Value} : Instr.fill pl z [] = some z := by simp [Instr.fill]
theorem fill_put {pl : Nat → Option (Nat × Nat)} {i off n : Nat} {z vs : List Value} {v : Value} {rest : List (Nat × Value)} (hp : pl i = some (off, n)) (hv : v.cells = vs.toArray) (hn : vs.length = n) (hl : off + n ≤ z.length) :
    Instr.fill pl z.toArray ((i, v) :: rest) = Instr.fill pl (wr z off vs).toArray rest := by
  have h2 : (vs.toArray.size != n || decide (off + vs.toArray.size > z.toArray.size)) = false := by simp; omega
  have h3 := fold_put vs 0 off z (by omega)
  rw [Nat.add_zero] at h3
  have h4 : vs.toArray.zipIdx.foldl (fun (cs : Array Value) (x : Value × Nat) => cs.setIfInBounds (off + x.2) x.1) z.toArray = (wr z off vs).toArray := by
    rw [← h3]
    simp
  simp only [Instr.fill, hp, hv]
  rw [if_neg (by simp; omega)]
  exact congrArg (fun x => Instr.fill pl x rest) h4
section
variable {P : Program} {fn : Func} {R : Ending → World → Prop} {E : Env} {L : List (Nat × Value)} {H : List (Nat × Ent)} {F : List (Nat × FE)}
/-- Two results: one lies in a block, one in a register. -/
theorem rt_cell_tmp {ta T h0 b sz bytes : Nat} {u : Tmp} {v' : Value} {d : TypeDesc} {z : Value} {l : List Value} {TT : TypeId} {fz : Nat × Nat} {e : Exit} (he : e = .ret ∨ e = .normal) (hr : fn.results = #[.cell ta T, .tmp u]) (ht : Ty P T d sz bytes z) (hd : aggD d = true)
    (hv : lk L ta = some (.pointer (some ⟨b, 0, none⟩))) (hh : lk H h0 = some (.blk b (.cells l.toArray TT fz))) (hl : l.length = sz) (hv' : lk L u = some v') (h : ∀ w, Sat E.w0 E.X H F w → R (.returned (.tuple #[.agg l.toArray, v'])) w) : AtX (bodyPost P fn R) e E L H F := by
  intro a w fa sw
  have hx := fa.2.2 ta _ hv
  have hx' := fa.2.2 u v' hv'
  have : (results fn a.tmps).run P w = .ok (.tuple #[.agg l.toArray, v']) w := by
    have h2 := run_loadVar_agg (P := P) ht hd (lies_blk (sw.blk_eq hh)) hl
    have h3 : (a.tmps[ta]?.getD undef) = .pointer (some ⟨b, 0, none⟩) := by rw [← Array.getD_eq_getD_getElem?]; exact hx
    have h4 : (a.tmps[u]?.getD undef) = v' := by rw [← Array.getD_eq_getD_getElem?]; exact hx'
    simp [results, hr, h3, h4, asAddr, h2]
  rcases he with rfl | rfl <;> exact ⟨fa.1, _, this, h w sw⟩
end
end Go.Proofs.Ytfddplpljjlgiaa.Fw
namespace Go.Proofs.Ytfddplpljjlgiaa.Fw
open Go Go.RowKit Go.Proofs.Ytfddplpljjlgiaa
set_option linter.unusedSimpArgs false
set_option linter.unusedVariables false
end Go.Proofs.Ytfddplpljjlgiaa.Fw
namespace Go.Proofs.Ytfddplpljjlgiaa.Fw
open Go Go.RowKit Go.Proofs.Ytfddplpljjlgiaa
set_option linter.unusedSimpArgs false
set_option linter.unusedVariables false
section
variable {P : Program} {E : Env} {L : List (Nat × Value)} {H : List (Nat × Ent)} {F : List (Nat × FE)}
variable {dst : Option Tmp} {ty : TypeId} {pos : String} {af : Array Edge} {gd : Option (Nat × Bool)}
theorem ptrIn_rd {w : World} {v : Value} {sz k : Nat} {l : List Value} (hr : Rd w v sz l) (hk : k < l.length) : ∃ b off, ptrAt v k = .pointer (some ⟨b, off, none⟩) ∧ ∀ j, ptrAt v (k + j) = .pointer (some ⟨b, off + j, none⟩) := by
  obtain ⟨b, len, cap, rfl, h1, h2, h3, h4⟩ := hr
  cases b with
  | none =>
    have := h3 rfl
    have : len = 0 := by omega
    subst this
    simp at h1
    simp [h1] at hk
  | some y => exact ⟨y.block, y.off + k, rfl, fun j => by simp [ptrAt, Nat.add_assoc]⟩
/-- A part of a struct that lies among a slice's cells. -/
theorem ev_fieldIn {x : Operand} {T : TypeId} {n k sz off' i : Nat} {v : Value} {l : List Value} {fs : Array Field} {f : Field} (hT : P.underlying T = some (.struct fs)) (hi : fs[i]? = some f) (ho : f.offset = off')
    (hx : ev L x = some (ptrAt v k)) (hr : ∀ w, Sat E.w0 E.X H F w → Rd w v sz l) (hk : k < l.length) (hf : ∀ b off, ev L x = some (.pointer (some ⟨b, off, none⟩)) → Ev P ⟨dst, .fieldAddr T x i, ty, pos, af, gd⟩ E L H F (.pointer (some ⟨b, off + off', none⟩))) :
    Ev P ⟨dst, .fieldAddr T x i, ty, pos, af, gd⟩ E L H F (ptrAt v (k + off')) :=
  fun a w fa sw => by
    obtain ⟨b, off, e1, e2⟩ := ptrIn_rd (hr w sw) hk
    rw [e2]
    exact hf b off (by rw [hx, e1]) a w fa sw
end
end Go.Proofs.Ytfddplpljjlgiaa.Fw
namespace Go.Proofs.Ytfddplpljjlgiaa.Fw
open Go Go.RowKit Go.Proofs.Ytfddplpljjlgiaa
set_option linter.unusedSimpArgs false
set_option linter.unusedVariables false
theorem Gives.rnf {w w' : World} {M : List Nat} {N N' : List (Nat × Ent)} (φ : Nat → Nat) (hφ : ∀ h e, lk N' h = some e → lk N (φ h) = some e) (hi : ∀ h h' e e', lk N' h = some e → lk N' h' = some e' → φ h = φ h' → h = h') (g : Gives w w' M N) : Gives w w' M N' :=
  ⟨g.tape, g.os, g.output, g.size, g.old, fun h e hh => g.hold _ _ (hφ h e hh), fun h e hh => g.fresh _ _ (hφ h e hh),
    fun h e h' e' hh hh' hne => g.apart _ _ _ _ (hφ h e hh) (hφ h' e' hh') fun hc => hne (hi h h' e e' hh hh' hc)⟩
theorem lk_two {e f x : Ent} {i j h : Nat} (hh : lk [(i, e), (j, f)] h = some x) : (h = i ∧ x = e) ∨ (h = j ∧ h ≠ i ∧ x = f) := by
  by_cases h1 : i = h
  · subst h1; rw [lk_cons_same] at hh; exact .inl ⟨rfl, (Option.some.inj hh).symm⟩
  · rw [lk_cons_ne h1] at hh
    obtain ⟨rfl, rfl⟩ := lk_one hh
    exact .inr ⟨rfl, fun h => h1 h.symm, rfl⟩
theorem Gives.rn2 {w w' : World} {M : List Nat} {e f : Ent} {a b : Nat} (hab : a ≠ b) (i j : Nat) (g : Gives w w' M [(a, e), (b, f)]) : Gives w w' M [(i, e), (j, f)] := by
  refine g.rnf (fun h => if h = i then a else b) (fun h x hh => ?_) (fun h h' x x' hh hh' hc => ?_)
  · rcases lk_two hh with ⟨rfl, rfl⟩ | ⟨rfl, hne, rfl⟩
    · rw [if_pos rfl, lk_cons_same]
    · rw [if_neg hne, lk_cons_ne hab, lk_cons_same]
  · rcases lk_two hh with ⟨rfl, rfl⟩ | ⟨rfl, hne, rfl⟩ <;> rcases lk_two hh' with ⟨rfl, rfl⟩ | ⟨rfl, hne', rfl⟩
    · rfl
    · rw [if_pos rfl, if_neg hne'] at hc; exact absurd hc hab
    · rw [if_pos rfl, if_neg hne] at hc; exact absurd hc.symm hab
    · rfl
theorem rn2 {P : Program} {f : FuncId} {vs : Array Value} {w : World} {ι : Type} {M : List Nat} {Φ : ι → Prop} {v : ι → Value} {e e2 : ι → Ent} (i j : Nat) (h : Calls P f vs w (Post w M Φ v fun x => [(0, e x), (1, e2 x)])) :
    Calls P f vs w (Post w M Φ v fun x => [(i, e x), (j, e2 x)]) :=
  h.mono fun _ _ ⟨x, h1, h2, h3⟩ => ⟨x, h1, h2, h3.rn2 (by decide) i j⟩
theorem own_shape {w : World} {v : Value} {T sz : Nat} {l : List Value} (h : Own w v T sz l) : v.cells = #[v] ∧ v.oneCell' = true := by
  rcases h with ⟨rfl, _⟩ | ⟨b, len, cap, junk, rfl, _⟩ <;> exact ⟨rfl, rfl⟩
theorem at_own_shape {K : Act → World → Prop} {E : Env} {L : List (Nat × Value)} {H : List (Nat × Ent)} {F : List (Nat × FE)} {h T sz : Nat} {v : Value} {l : List Value} (hh : lk H h = some (.own v T sz l)) (k : v.cells = #[v] ∧ v.oneCell' = true → At K E L H F) : At K E L H F :=
  fun a w fa sw => k (own_shape (sw.hold _ _ hh)) a w fa sw
theorem rd_shape {w : World} {v : Value} {sz : Nat} {l : List Value} (h : Rd w v sz l) : v.cells = #[v] ∧ v.oneCell' = true := by
  obtain ⟨a, len, cap, rfl, _⟩ := h
  exact ⟨rfl, rfl⟩
end Go.Proofs.Ytfddplpljjlgiaa.Fw
namespace Go.Proofs.Ytfddplpljjlgiaa.Fw
open Go Go.RowKit Go.Proofs.Ytfddplpljjlgiaa
set_option linter.unusedSimpArgs false
set_option linter.unusedVariables false
theorem Sat.two {w : World} {b : Nat} {o : Obj} {v : Value} {T sz : Nat} {l : List Value} (i j : Nat) (hij : i ≠ j) (hb : w.heap[b]? = some o) (hv : Own w v T sz l) (hbv : b ∉ blkOf v) : Sat w (b :: blkOf v) [(i, .blk b o), (j, .own v T sz l)] [] w := by
  refine .start w _ _ _ (fun h e hh => ?_) (fun h e hh b' hb' => ?_) (fun h e h' e' hh hh' hne b' hb' hb2 => ?_) (fun _ _ h => (lk_nil h).elim) (fun _ _ _ _ h => (lk_nil h).elim)
  · rcases lk_two hh with ⟨rfl, rfl⟩ | ⟨rfl, _, rfl⟩
    · exact hb
    · exact hv
  · rcases lk_two hh with ⟨rfl, rfl⟩ | ⟨rfl, _, rfl⟩
    · simp only [Ent.ids, List.mem_singleton] at hb'; subst hb'; exact List.mem_cons_self ..
    · exact List.mem_cons_of_mem _ hb'
  · rcases lk_two hh with ⟨rfl, rfl⟩ | ⟨rfl, _, rfl⟩ <;> rcases lk_two hh' with ⟨rfl, rfl⟩ | ⟨rfl, _, rfl⟩
    · exact hne rfl
    · simp only [Ent.ids, List.mem_singleton] at hb'; subst hb'; exact hbv hb2
    · simp only [Ent.ids, List.mem_singleton] at hb2; subst hb2; exact hbv hb'
    · exact hne rfl
theorem Sat.read2 {w0 w : World} {X : List Nat} {b i j T sz : Nat} {o : Obj} {v : Value} {l : List Value} {F : List (Nat × FE)} (sw : Sat w0 X [(i, .blk b o), (j, .own v T sz l)] F w) (k : Nat) {f : FE} (hf : f.holds w) (ho : f.off b) (ho2 : ∀ x, x ∈ blkOf v → f.off x) : Sat w0 X [(i, .blk b o), (j, .own v T sz l)] ((k, f) :: F) w :=
  sw.read k hf fun h' e hh b' hb' => by
    rcases lk_two hh with ⟨rfl, rfl⟩ | ⟨rfl, _, rfl⟩
    · obtain rfl := mem_one hb'; exact ho
    · exact ho2 _ hb'
theorem mod_two {H : List (Nat × Ent)} {ι : Type} {k j b T sz : Nat} {o : Obj} {v : Value} {l : List Value} {e' e2 : ι → Ent} (hh : lk H k = some (.blk b o)) (hv : lk H j = some (.own v T sz l)) : ∀ b', b' ∈ b :: blkOf v → ∃ k' e, lk H k' = some e ∧ b' ∈ e.ids ∧ ∀ x, lk [(k, e' x), (j, e2 x)] k' ≠ none := by
  intro b' hb
  rcases List.mem_cons.1 hb with rfl | hb
  · exact ⟨k, _, hh, by simp [Ent.ids], fun x => by simp [lk_cons_same]⟩
  · refine ⟨j, _, hv, hb, fun x => ?_⟩
    by_cases hkj : k = j
    · subst hkj; simp [lk_cons_same]
    · rw [lk_cons_ne hkj, lk_cons_same]; simp
end Go.Proofs.Ytfddplpljjlgiaa.Fw
namespace Go.Proofs.Ytfddplpljjlgiaa.Fw
open Go Go.RowKit Go.Proofs.Ytfddplpljjlgiaa
set_option linter.unusedSimpArgs false
set_option linter.unusedVariables false
section
variable {P : Program} {Q : Exit → Act → World → Prop} {ops : Array Oper} {E : Env} {L : List (Nat × Value)} {H : List (Nat × Ent)} {F F0 : List (Nat × FE)} {K : Act → World → Prop}
theorem CF.cons {w : World} {i : Nat} {f : FE} {F : List (Nat × FE)} (hf : f.holds w) (h : CF F w) : CF ((i, f) :: F) w := fun k e hk => by
  by_cases e1 : i = k
  · subst e1; rw [lk_cons_same] at hk; cases hk; exact hf
  · rw [lk_cons_ne e1] at hk; exact h k e hk
theorem cd_mixp {id : Nat} {l : List Oper} (F0 : List (Nat × FE)) (hm : P.follows .mixedOrders = true) (h : At (wpC P l.toArray (CF F0) (Q .normal) l.length (Array.replicate l.length false)) E L H F) : At ((Code.region id l.toArray true).wp P Q) E L H F :=
  fun a w fa sw => wp_region_any hm (by
    have := h a _ fa (sw.drawn (w.drawn + 1))
    have h2 := wpAny_of_wpC _ _ _ _ this
    simpa using h2)
/-- What leaves memory alone, and reads what is only read, goes first. -/
theorem mxp {f i d : Nat} {o : Oper} {v : Value} {listed : Array Bool} (hi : ops[i]? = some o) (hs : Region.noSelect ops = true) (hr : (Region.ready .any ops listed).contains i = true) (hf : Region.free .any ops listed i = true) (hg : wants ops L o.guard = some true)
    (he : ∀ w, Ev P o ⟨E.n, w, []⟩ L [] F0 v) (hd : o.dst = some d) (hn : Nat.ble (d + 1) E.n = true) (hF : ∀ w, Sat E.w0 E.X H F w → CF F0 w)
    (k : At (wpC P ops (CF F0) K f (listed.setIfInBounds i true)) E ((d, v) :: L) H F) : At (wpC P ops (CF F0) K (f + 1) listed) E L H F := by
  intro a w fa sw
  refine wpC_first (v := v) hi (Region.noSelect_spec hs) f listed a w (Region.free_spec hi hf) (by simpa using hr) (.inl ⟨wants_eq fa hg, fun w' hw' => ?_⟩) (hF w sw) ?_
  · exact he w' a w' fa (.start w' _ _ _ (fun _ _ h => (lk_nil h).elim) (fun _ _ h => (lk_nil h).elim) (fun _ _ _ _ h => (lk_nil h).elim) hw' (fun _ _ _ _ _ h => (lk_nil h).elim))
  · rw [hd]
    exact k _ w (fa.put (Nat.le_of_ble_eq_true hn) v) sw
theorem mxp_skip {f i d : Nat} {o : Oper} {listed : Array Bool} (hi : ops[i]? = some o) (hs : Region.noSelect ops = true) (hr : (Region.ready .any ops listed).contains i = true) (hf : Region.free .any ops listed i = true) (hg : wants ops L o.guard = some false)
    (hd : o.dst = some d) (hn : Nat.ble (d + 1) E.n = true) (hF : ∀ w, Sat E.w0 E.X H F w → CF F0 w)
    (k : At (wpC P ops (CF F0) K f (listed.setIfInBounds i true)) E ((d, undef) :: L) H F) : At (wpC P ops (CF F0) K (f + 1) listed) E L H F := by
  intro a w fa sw
  refine wpC_first (v := undef) hi (Region.noSelect_spec hs) f listed a w (Region.free_spec hi hf) (by simpa using hr) (.inr ⟨wants_eq fa hg, rfl⟩) (hF w sw) ?_
  rw [hd]
  exact k _ w (fa.put (Nat.le_of_ble_eq_true hn) undef) sw
theorem mxp_step {f : Nat} {listed : Array Bool} {i : Nat} {rs : List Nat} (hr : Region.ready .any ops listed = i :: rs) (hF : ∀ w, Sat E.w0 E.X H F w → CF F0 w) (h : ∀ j, j ∈ i :: rs → At (wpOp P ops bot j (wpC P ops (CF F0) K f (listed.setIfInBounds j true))) E L H F) :
    At (wpC P ops (CF F0) K (f + 1) listed) E L H F :=
  fun a w fa sw => ⟨hF w sw, fun h0 => by (rw [hr] at h0; cases h0), fun j hj => h j (by rw [hr] at hj; exact hj) a w fa sw⟩
theorem mxp_one {f : Nat} {listed : Array Bool} {i : Nat} (hr : Region.ready .any ops listed = [i]) (hF : ∀ w, Sat E.w0 E.X H F w → CF F0 w) (h : At (wpOp P ops bot i (wpC P ops (CF F0) K f (listed.setIfInBounds i true))) E L H F) :
    At (wpC P ops (CF F0) K (f + 1) listed) E L H F := by
  refine mxp_step hr hF fun j hj => ?_
  obtain rfl : j = i := by simpa using hj
  exact h
theorem mxp_two {f : Nat} {listed : Array Bool} {i j : Nat} (hr : Region.ready .any ops listed = [i, j]) (hF : ∀ w, Sat E.w0 E.X H F w → CF F0 w) (h1 : At (wpOp P ops bot i (wpC P ops (CF F0) K f (listed.setIfInBounds i true))) E L H F)
    (h2 : At (wpOp P ops bot j (wpC P ops (CF F0) K f (listed.setIfInBounds j true))) E L H F) : At (wpC P ops (CF F0) K (f + 1) listed) E L H F := by
  refine mxp_step hr hF fun k hk => ?_
  rcases List.mem_cons.1 hk with rfl | hk
  · exact h1
  · obtain rfl : k = j := by simpa using hk
    exact h2
theorem mxp_done {listed : Array Bool} (hr : Region.ready .any ops listed = []) (hF : ∀ w, Sat E.w0 E.X H F w → CF F0 w) (h : AtX Q .normal E L H F) : At (wpC P ops (CF F0) (Q .normal) 0 listed) E L H F :=
  fun a w fa sw => ⟨hF w sw, hr, h a w fa sw⟩
end
end Go.Proofs.Ytfddplpljjlgiaa.Fw
namespace Go.Proofs.Ytfddplpljjlgiaa.Fw
open Go Go.RowKit Go.Proofs.Ytfddplpljjlgiaa
set_option linter.unusedSimpArgs false
set_option linter.unusedVariables false
section
variable {K : Act → World → Prop} {E : Env} {L : List (Nat × Value)} {H : List (Nat × Ent)} {F : List (Nat × FE)}
theorem at_rows_nil (i : Nat) (k : At K E L H ((i, .rows []) :: F)) : At K E L H F := fun a w fa sw =>
  k a w fa (sw.read i (f := .rows []) (fun x hx => by cases hx) (fun _ _ _ _ _ x hx => by cases hx))
theorem at_rows_add {h T sz i : Nat} {v : Value} {l : List Value} {H' : List (Nat × Ent)} {rs : List (Value × Nat × List Value)} (hh : lk H h = some (.own v T sz l)) (hf : lk F i = some (.rows rs)) (hH : Sub H' H) (hno : lk H' h = none)
    (k : (∀ b, b ∈ blkOf v → E.w0.heap.size ≤ b ∨ b ∈ E.X) → At K E L H' ((i, .rows ((v, sz, l) :: rs)) :: F)) : At K E L H F := fun a w fa sw =>
  k (fun b hb => sw.fresh _ _ hh b hb) a w fa ((sw.weaken hH (.refl _)).read i (f := .rows _)
    (fun x hx => by
      rcases List.mem_cons.1 hx with rfl | hx
      · exact sw.own_rd hh
      · exact sw.rd _ _ hf x hx)
    (fun h' e hh' b hb x hx => by
      rcases List.mem_cons.1 hx with rfl | hx
      · exact .inr fun hb' => sw.apart h' e h _ (hH _ _ hh') hh (by intro e1; subst e1; rw [hno] at hh'; cases hh') b hb hb'
      · exact sw.off _ _ _ _ hf (hH _ _ hh') b hb x hx))
theorem Sat.row {w0 w : World} {X : List Nat} (sw : Sat w0 X H F w) {i sz : Nat} {v : Value} {l : List Value} {rs : List (Value × Nat × List Value)} (hf : lk F i = some (.rows rs)) (hx : (v, sz, l) ∈ rs) : Rd w v sz l := sw.rd _ _ hf _ hx
end
def PostR {ι : Type} (w : World) (Φ : ι → Prop) (v : ι → Value) (N : ι → List (Nat × Ent)) (R : ι → List (Value × Nat × List Value)) (e : Ending) (w' : World) : Prop :=
  ∃ x, Φ x ∧ e = .returned (v x) ∧ Gives w w' [] (N x) ∧ (∀ y, y ∈ R x → Rd w' y.1 y.2.1 y.2.2 ∧ ∀ b, b ∈ blkOf y.1 → w.heap.size ≤ b) ∧ ∀ h e, lk (N x) h = some e → ∀ b, b ∈ e.ids → (FE.rows (R x)).off b
section
variable {P : Program} {Q : Exit → Act → World → Prop} {ops : Array Oper} {rest : List Oper} {E : Env} {L : List (Nat × Value)} {H : List (Nat × Ent)} {F : List (Nat × FE)}
variable {ty : TypeId} {pos : String} {af : Array Edge} {gd : Option (Nat × Bool)}
theorem st_callR {dst f : Nat} {args : Array Operand} {Ts : Array TypeId} {vs : List Value} {ι : Type} {Φ : ι → Prop} {v : ι → Value} {N : ι → List (Nat × Ent)} {R : ι → List (Value × Nat × List Value)} (i : Nat) (hf : Has P f) (ha : evs L args.toList = some vs)
    (hc : ∀ w, Sat E.w0 E.X H F w → Calls P f vs.toArray w (PostR w Φ v N R)) (hg : wants ops L gd = some true) (hn : Nat.ble (dst + 1) E.n = true)
    (k : ∀ x, Φ x → (∀ y, y ∈ R x → ∀ b, b ∈ blkOf y.1 → E.w0.heap.size ≤ b) → At (wpList P ops Q rest) E ((dst, v x) :: L) (N x ++ H) ((i, .rows (R x)) :: F)) :
    At (wpList P ops Q (⟨some dst, .call { callee := .value (.func f), args := args, argTypes := Ts }, ty, pos, af, gd⟩ :: rest)) E L H F := by
  refine st_run hg fun a w fa sw => ?_
  unfold Oper.wp
  rw [run_call hf ha fa w]
  refine (hc w sw).mono ?_
  rintro e w' ⟨x, hx, rfl, hG, hR, hO⟩
  show wpList P ops Q rest (a.put (some dst) (v x)) w'
  refine k x hx (fun y hy b hb => Nat.le_trans sw.size ((hR y hy).2 b hb)) _ _ (fa.put (Nat.le_of_ble_eq_true hn) _) ((sw.step hG (fun b hb => by cases hb)).read i (f := .rows (R x)) (fun y hy => (hR y hy).1) (fun h' e hh b hb y hy => ?_))
  rw [lk_append] at hh
  cases hN : lk (N x) h' with
  | some e' =>
    rw [hN] at hh
    cases hh
    exact hO _ _ hN b hb y hy
  | none =>
    rw [hN] at hh
    refine .inr fun hb' => ?_
    have h1 := (hR y hy).2 b hb'
    have h2 := Ent.lt (sw.hold _ _ hh) hb
    omega
/-- A slice of one struct. -/
theorem st_bs1 {dst T e sz bytes : Nat} {x : Operand} {d : TypeDesc} {z : Value} {cs : List Value} (h : Nat) (hT : P.underlying T = some (.slice e)) (ht : Ty P e d sz bytes z) (hz : z.cells.size = sz)
    (hx : ev L x = some (.agg cs.toArray)) (hl : cs.length = sz) (hle : sz ≤ 16777216) (hs : 0 < sz) (hg : wants ops L gd = some true) (hn : Nat.ble (dst + 1) E.n = true)
    (k : ∀ b, At (wpList P ops Q rest) E ((dst, .slice (some ⟨b, 0, none⟩) 1 1) :: L) ((h, .own (.slice (some ⟨b, 0, none⟩) 1 1) e sz cs) :: H) F) :
    At (wpList P ops Q (⟨some dst, .buildSlice T 1 #[(0, x)], ty, pos, af, gd⟩ :: rest)) E L H F := by
  refine st_buildSlice (vs := [.agg cs.toArray]) (cells := cs) h hT ht (by simp [evs, hx]) (by omega) ?_ (by rw [hl, Nat.one_mul]) hg hn k
  have key : ∀ A : Array Value, A.size = sz → Instr.fill (fun i => some (i * sz, sz)) A [(0, .agg cs.toArray)] = some cs.toArray := fun A hA => by
    have h1 := fill_put (pl := fun i => some (i * sz, sz)) (i := 0) (off := 0) (n := sz) (z := A.toList) (vs := cs) (v := .agg cs.toArray) (rest := []) (by simp) rfl hl (by simp [hA])
    rw [Array.toArray_toList, fill_nil, wr_all (by rw [hl]; simp [hA])] at h1
    exact h1
  refine key _ ?_
  have : ¬ 1 * sz = 0 := by omega
  simp
end
end Go.Proofs.Ytfddplpljjlgiaa.Fw
namespace Go.Proofs.Ytfddplpljjlgiaa.Fw
open Go Go.RowKit Go.Proofs.Ytfddplpljjlgiaa
set_option linter.unusedSimpArgs false
set_option linter.unusedVariables false
end Go.Proofs.Ytfddplpljjlgiaa.Fw

namespace Go.Proofs.Ytfddplpljjlgiaa.Sha
open Go Fw
def turn (x n : Int) : Int := ior .u32 (ishr .u32 x n) (ishl .u32 x (32 - n))
def s0 (x : Int) : Int := ixor .u32 (ixor .u32 (turn x 7) (turn x 18)) (ishr .u32 x 3)
def s1 (x : Int) : Int := ixor .u32 (ixor .u32 (turn x 17) (turn x 19)) (ishr .u32 x 10)
def b0 (x : Int) : Int := ixor .u32 (ixor .u32 (turn x 2) (turn x 13)) (turn x 22)
def b1 (x : Int) : Int := ixor .u32 (ixor .u32 (turn x 6) (turn x 11)) (turn x 25)
def ch (x y z : Int) : Int := ixor .u32 (iand .u32 x y) (iand .u32 (inot .u32 x) z)
def mj (x y z : Int) : Int := ixor .u32 (ixor .u32 (iand .u32 x y) (iand .u32 x z)) (iand .u32 y z)
def add (x y : Int) : Int := IntKind.u32.wrap (x + y)
def conv (x : Int) : Int := IntKind.u32.wrap x
/-- the word at i -/
def word (b : List Int) (i : Nat) : Int :=
  ior .u32 (ior .u32 (ior .u32 (ishl .u32 (conv (b.getD (4 * i) 0)) 24) (ishl .u32 (conv (b.getD (4 * i + 1) 0)) 16)) (ishl .u32 (conv (b.getD (4 * i + 2) 0)) 8)) (conv (b.getD (4 * i + 3) 0))
def zero64 : List Int := List.replicate 64 0
/-- the first sixteen words, i of them -/
def w1 (b : List Int) : Nat → List Int
  | 0 => zero64
  | i + 1 => (w1 b i).set i (word b i)
def nxt (l : List Int) (i : Nat) : Int := add (add (add (l.getD (i - 16) 0) (s0 (l.getD (i - 15) 0))) (l.getD (i - 7) 0)) (s1 (l.getD (i - 2) 0))
/-- the others, up to 16 + i -/
def w2 (l : List Int) : Nat → List Int
  | 0 => l
  | i + 1 => (w2 l i).set (16 + i) (nxt (w2 l i) (16 + i))
def sched (b : List Int) : List Int := w2 (w1 b 16) 48
def tt (v : List Int) (k w : Int) : Int :=
  add (add (add (add (v.getD 7 0) (b1 (v.getD 4 0))) (ch (v.getD 4 0) (v.getD 5 0) (v.getD 6 0))) k) w
def uu (v : List Int) : Int := add (b0 (v.getD 0 0)) (mj (v.getD 0 0) (v.getD 1 0) (v.getD 2 0))
def rnd (v : List Int) (k w : Int) : List Int :=
  [add (tt v k w) (uu v), v.getD 0 0, v.getD 1 0, v.getD 2 0, add (v.getD 3 0) (tt v k w), v.getD 4 0, v.getD 5 0, v.getD 6 0]
def rnds (K W v : List Int) : Nat → List Int
  | 0 => v
  | i + 1 => rnd (rnds K W v i) (K.getD i 0) (W.getD i 0)
/-- i words added -/
def adds (s v : List Int) : Nat → List Int
  | 0 => s
  | i + 1 => (adds s v i).set i (add ((adds s v i).getD i 0) (v.getD i 0))
def comp (K s b : List Int) : List Int := adds s (rnds K (sched b) s 64) 8
def K : List Int := [
  0x428a2f98, 0x71374491, 0xb5c0fbcf, 0xe9b5dba5, 0x3956c25b, 0x59f111f1, 0x923f82a4, 0xab1c5ed5,
  0xd807aa98, 0x12835b01, 0x243185be, 0x550c7dc3, 0x72be5d74, 0x80deb1fe, 0x9bdc06a7, 0xc19bf174,
  0xe49b69c1, 0xefbe4786, 0x0fc19dc6, 0x240ca1cc, 0x2de92c6f, 0x4a7484aa, 0x5cb0a9dc, 0x76f988da,
  0x983e5152, 0xa831c66d, 0xb00327c8, 0xbf597fc7, 0xc6e00bf3, 0xd5a79147, 0x06ca6351, 0x14292967,
  0x27b70a85, 0x2e1b2138, 0x4d2c6dfc, 0x53380d13, 0x650a7354, 0x766a0abb, 0x81c2c92e, 0x92722c85,
  0xa2bfe8a1, 0xa81a664b, 0xc24b8b70, 0xc76c51a3, 0xd192e819, 0xd6990624, 0xf40e3585, 0x106aa070,
  0x19a4c116, 0x1e376c08, 0x2748774c, 0x34b0bcb5, 0x391c0cb3, 0x4ed8aa4a, 0x5b9cca4f, 0x682e6ff3,
  0x748f82ee, 0x78a5636f, 0x84c87814, 0x8cc70208, 0x90befffa, 0xa4506ceb, 0xbef9a3f7, 0xc67178f2]
def S0 : List Int := [0x6a09e667, 0xbb67ae85, 0x3c6ef372, 0xa54ff53a, 0x510e527f, 0x9b05688c, 0x1f83d9ab, 0x5be0cd19]
end Go.Proofs.Ytfddplpljjlgiaa.Sha
namespace Go.Proofs.Ytfddplpljjlgiaa.Sha
open Go Fw
set_option linter.unusedSimpArgs false
set_option linter.unusedVariables false
def absorb (s l : List Int) : Nat → List Int
  | 0 => s
  | i + 1 => comp K (absorb s l i) (l.drop (64 * i))
def u8 (x : Int) : Int := IntKind.u8.wrap x
def be (n : Int) (j : Nat) : Int := u8 (ishr .u64 n (8 * (j : Int)))
/-- how many noughts -/
def zs (n : Nat) : Nat := (119 - n % 64) % 64
def bes (n : Int) : Nat → List Int
  | 0 => []
  | i + 1 => bes n i ++ [be n (7 - i)]
def pad (p : List Int) : List Int := p ++ [128] ++ List.replicate (zs p.length) 0 ++ bes (8 * (p.length : Int)) 8
/-- the program's last block or two: i bytes of the length laid -/
def sb (base : List Int) (en : Nat) (n : Int) : Nat → List Int
  | 0 => base
  | i + 1 => (sb base en n i).set (en - 1 - i) (be n i)
def en (r : Nat) : Nat := if 56 ≤ r then 128 else 64
def base (r : List Int) : List Int := (r ++ List.replicate (128 - r.length) 0).set r.length 128
def fs (p : List Int) : List Int := absorb S0 (pad p) ((pad p).length / 64)
end Go.Proofs.Ytfddplpljjlgiaa.Sha
namespace Go.Proofs.Ytfddplpljjlgiaa.Sha
open Go Fw
/-- bytes: numbers from 0 to 255 -/
def Byt (l : List Int) : Prop := ∀ x, x ∈ l → 0 ≤ x ∧ x ≤ 255
end Go.Proofs.Ytfddplpljjlgiaa.Sha
namespace Go.Proofs.Ytfddplpljjlgiaa.Sha
open Go Fw
set_option linter.unusedSimpArgs false
set_option linter.unusedVariables false
def md (x : Nat) : Nat := Nat.mod x 4294967296
def dbl (x : Nat) : Nat := Nat.mul x 4294967297
def fb0 (x : Nat) : Nat := md (Nat.xor (Nat.xor (Nat.shiftRight (dbl x) 2) (Nat.shiftRight (dbl x) 13)) (Nat.shiftRight (dbl x) 22))
def fb1 (x : Nat) : Nat := md (Nat.xor (Nat.xor (Nat.shiftRight (dbl x) 6) (Nat.shiftRight (dbl x) 11)) (Nat.shiftRight (dbl x) 25))
def fch (x y z : Nat) : Nat := Nat.xor z (Nat.land x (Nat.xor y z))
def fmj (x y z : Nat) : Nat := Nat.lor (Nat.land x y) (Nat.land z (Nat.lor x y))
end Go.Proofs.Ytfddplpljjlgiaa.Sha
namespace Go.Proofs.Ytfddplpljjlgiaa.Sha
open Go Fw
set_option linter.unusedSimpArgs false
set_option linter.unusedVariables false
/-- the value, forced -/
def fc {α : Type} (x : Nat) (f : Nat → α) : α := match x with
  | 0 => f 0
  | n + 1 => f (n + 1)
def ft (e f g h k w : Nat) : Nat := Nat.add (Nat.add (Nat.add (Nat.add h (fb1 e)) (fch e f g)) k) w
def fu (a b c : Nat) : Nat := Nat.add (fb0 a) (fmj a b c)
def frs : List Nat → List Nat → Nat → Nat → Nat → Nat → Nat → Nat → Nat → Nat → List Nat
  | k :: ks, w :: ws, a, b, c, d, e, f, g, h => frs ks ws (md (Nat.add (ft e f g h k w) (fu a b c))) a b c (md (Nat.add d (ft e f g h k w))) e f g
  | _, _, a, b, c, d, e, f, g, h => [a, b, c, d, e, f, g, h]
def KN : List Nat := [
  0x428a2f98, 0x71374491, 0xb5c0fbcf, 0xe9b5dba5, 0x3956c25b, 0x59f111f1, 0x923f82a4, 0xab1c5ed5,
  0xd807aa98, 0x12835b01, 0x243185be, 0x550c7dc3, 0x72be5d74, 0x80deb1fe, 0x9bdc06a7, 0xc19bf174,
  0xe49b69c1, 0xefbe4786, 0x0fc19dc6, 0x240ca1cc, 0x2de92c6f, 0x4a7484aa, 0x5cb0a9dc, 0x76f988da,
  0x983e5152, 0xa831c66d, 0xb00327c8, 0xbf597fc7, 0xc6e00bf3, 0xd5a79147, 0x06ca6351, 0x14292967,
  0x27b70a85, 0x2e1b2138, 0x4d2c6dfc, 0x53380d13, 0x650a7354, 0x766a0abb, 0x81c2c92e, 0x92722c85,
  0xa2bfe8a1, 0xa81a664b, 0xc24b8b70, 0xc76c51a3, 0xd192e819, 0xd6990624, 0xf40e3585, 0x106aa070,
  0x19a4c116, 0x1e376c08, 0x2748774c, 0x34b0bcb5, 0x391c0cb3, 0x4ed8aa4a, 0x5b9cca4f, 0x682e6ff3,
  0x748f82ee, 0x78a5636f, 0x84c87814, 0x8cc70208, 0x90befffa, 0xa4506ceb, 0xbef9a3f7, 0xc67178f2]
def blk (s W : List Nat) : List Nat := match s with
  | [a, b, c, d, e, f, g, h] => match frs KN W a b c d e f g h with
    | [a', b', c', d', e', f', g', h'] => fc (md (Nat.add a a')) fun a => fc (md (Nat.add b b')) fun b => fc (md (Nat.add c c')) fun c => fc (md (Nat.add d d')) fun d => fc (md (Nat.add e e')) fun e => fc (md (Nat.add f f')) fun f => fc (md (Nat.add g g')) fun g => fc (md (Nat.add h h')) fun h => [a, b, c, d, e, f, g, h]
    | _ => []
  | _ => []
/-- the words as numbers -/
def xs (b : List Int) (i : Nat) : Nat := ((sched b).getD i 0).toNat
/-- bytes, as numbers -/
def Bn (l : List Nat) : Prop := ∀ x, x ∈ l → x < 256
theorem Bn.drop {l : List Nat} (h : Bn l) (n : Nat) : Bn (l.drop n) := fun x hx => h x (List.mem_of_mem_drop hx)
end Go.Proofs.Ytfddplpljjlgiaa.Sha

namespace Go.Proofs.Ytfddplpljjlgiaa.Fw
open Go Go.RowKit Go.WideShapes Go.ChangeShapes
set_option linter.unusedSimpArgs false
set_option linter.unusedVariables false
section
variable {H : Type} {enc : TypeId × Value → H} {P : Program} {W : World}
/-- All arguments read as they did. -/
theorem all_below (hl : laidOutB P = true) {W' : World} (hb : Below W.heap.size W W') {sp : Nat → Bool} :
    ∀ (ts : List TypeId) (vs : List Value) (ds : List (DataW H)) (ps : List MemPlace), (∀ t, t ∈ ts → P.readableRec t = true ∧ t < P.types.size) →
      DataW.TrodAll enc P W 0 (fun _ => true) true ts vs ds ps → (∀ x, x ∈ ps → x.block < W.heap.size) → (∀ x, x ∈ ps → sp x.block = true) → DataW.TrodAll enc P W' 0 sp true ts vs ds ps
  | [], [], [], _, _, h, _, _ => h
  | t :: ts, v :: vs, d :: ds, _, ht, h, hlt, hsp => by
    obtain ⟨p, q, h1, h2, rfl⟩ := h
    refine ⟨p, q, WideElems.Trod_stays hl (ht t (by simp)).1 (ht t (by simp)).2 h1 (fun x hx => hb.same (hlt x (by simp [hx]))) (fun x hx => hsp x (by simp [hx])), ?_, rfl⟩
    exact all_below hl hb ts vs ds q (fun t h => ht t (by simp [h])) h2 (fun x hx => hlt x (by simp [hx])) (fun x hx => hsp x (by simp [hx]))
  | [], [], _ :: _, _, _, h, _, _ => h.elim
  | [], _ :: _, _, _, _, h, _, _ => h.elim
  | _ :: _, [], _, _, _, h, _, _ => h.elim
  | _ :: _, _ :: _, [], _, _, h, _, _ => h.elim
theorem ok_slice {r : Reach} {base : Nat} {t e : TypeId} {v : Value} (ht : P.underlying t = some (.slice e)) (h : Value.okWide P W r base t v) :
    ∃ a len cap, v = .slice a len cap ∧ len ≤ cap ∧ (a = none → cap = 0) ∧ ∀ x, a = some x → x.spot = none := by
  obtain ⟨a, len, cap, rfl⟩ := okWide_slice ht h
  simp only [Value.okWide, ht, Cell.okWide] at h
  cases a with
  | none =>
    simp only [Cell.ok, ht] at h
    have : len = 0 ∧ cap = 0 := by split at h <;> simp_all
    obtain ⟨rfl, rfl⟩ := this
    exact ⟨none, 0, 0, rfl, Nat.le_refl _, fun _ => rfl, fun x hx => by cases hx⟩
  | some x =>
    simp only [Cell.ok, ht] at h
    obtain ⟨h1, _, h2⟩ := h
    exact ⟨_, _, _, rfl, h1, (fun hn => by cases hn), fun y hy => by cases hy; exact h2.2.1⟩
/-- No part is larger than memory. -/
def Light (P : Program) (t : TypeId) (d : DataW H) : Prop := ∀ n, n ∈ d.weights P t → n ≤ reachBytes
theorem light_of {ts : List TypeId} {ds : List (DataW H)} {j : Nat} {t : TypeId} {d : DataW H} (h : (DataW.weightsEach P ts ds).all (· ≤ reachBytes) = true) (ht : ts[j]? = some t) (hd : ds[j]? = some d) : Light P t d := fun n hn => by
  have := List.all_eq_true.1 h _ (DataW.weights_mem_each ht hd n hn)
  simpa using this
theorem weights_all {e : TypeId} : ∀ {ds : List (DataW H)} {i : Nat} {d : DataW H}, ds[i]? = some d → ∀ n, n ∈ d.weights P e → n ∈ DataW.weightsAll P e ds
  | d0 :: ds, 0, d, hd, n, hn => by
    simp only [List.getElem?_cons_zero, Option.some.injEq] at hd
    subst hd
    simp only [DataW.weightsAll, List.mem_append]
    exact .inl hn
  | d0 :: ds, i + 1, d, hd, n, hn => by
    simp only [List.getElem?_cons_succ] at hd
    simp only [DataW.weightsAll, List.mem_append]
    exact .inr (weights_all hd n hn)
  | [], _, _, hd, _, _ => by simp at hd
/-- An element's reading. -/
def Tr (enc : TypeId × Value → H) (P : Program) (W : World) (t : TypeId) (cs : List Value) : Prop := ∃ fuel d ps, DataW.trod enc P W 0 (fun _ => true) true fuel t cs = some (d, ps) ∧ Light P t d
theorem all_rows {ts : List TypeId} (h : (ts.all fun t => P.readableRec t && decide (t < P.types.size)) = true) : ∀ t, t ∈ ts → P.readableRec t = true ∧ t < P.types.size := by
  intro t ht
  have := List.all_eq_true.1 h t ht
  simpa using this
/-- A slice, opened: its cells lie, and each element reads. -/
theorem rd_of {r : Reach} {base : Nat} {t e : TypeId} {v : Value} {d : DataW H} {ps : List MemPlace} (ht : P.underlying t = some (.slice e)) (he : 0 < P.cellsOf e)
    (hval : Value.okWide P W r base t v) (hd : DataW.Trod enc P W 0 (fun _ => true) true t v d ps) (hw : Light P t d) :
    ∃ (l : List Value) (n : Nat), Rd W v (P.cellsOf e) l ∧ l.length = n * P.cellsOf e ∧ n * P.bytesOf e ≤ reachBytes ∧ ∀ i, i < n → Tr enc P W e ((l.drop (i * P.cellsOf e)).take (P.cellsOf e)) := by
  obtain ⟨a, len, cap, rfl, h1, h2, h3⟩ := ok_slice ht hval
  obtain ⟨fuel, hf⟩ := hd
  rcases DataW.trod_slice ht hf with ⟨hc, _⟩ | ⟨a, len', cap', elems, rest, n, rfl, hc, hdd, hb, hl, hm, hlen, hel, _⟩
  · simp [Value.cells] at hc
    obtain ⟨rfl, rfl, rfl⟩ := hc
    exact ⟨[], 0, ⟨none, 0, 0, rfl, by simp, by omega, fun _ => rfl, fun x hx => by cases hx⟩, by simp, by simp, fun i hi => by omega⟩
  · simp [Value.cells] at hc
    obtain ⟨rfl, rfl, rfl⟩ := hc
    obtain ⟨b, off, spot⟩ := a
    obtain rfl : spot = none := h3 _ rfl
    obtain ⟨rfl, _⟩ := Prod.mk.injEq .. ▸ hdd
    have hbytes : len * P.bytesOf e ≤ reachBytes := by
      have h := hw ((elems.length + rest.length) * P.bytesOf e) (by simp [DataW.weights, ht])
      refine Nat.le_trans (Nat.mul_le_mul_right _ ?_) h
      omega
    have one : ∀ i, i < len → ∃ cs x, W.cells? 0 ((⟨b, off, none⟩ : Addr).add (i * P.cellsOf e)) (P.cellsOf e) = some cs ∧ DataW.trod enc P W 0 (fun _ => true) true n e cs = some x ∧ Light P e x.1 := by
      intro i hi
      have h := hel i hi
      have hx : ∃ x, elems[i]? = some x := ⟨elems[i]'(by omega), List.getElem?_eq_getElem (by omega)⟩
      obtain ⟨x, hx⟩ := hx
      rw [hx] at h
      obtain ⟨cs, h4, h5⟩ := Option.bind_eq_some_iff.1 h
      exact ⟨cs, x, h4, h5, fun k hk => hw k (by
        simp only [DataW.weights, ht, List.mem_cons, List.mem_append]
        exact .inr (.inl (weights_all (i := i) (by rw [List.getElem?_map, hx]; rfl) k hk)))⟩
    have all : ∀ m, m ≤ len → ∃ l : List Value, l.length = m * P.cellsOf e ∧ (∀ i, i < l.length → W.cell? ⟨b, off + i, none⟩ = l[i]?) ∧ ∀ i, i < m → Tr enc P W e ((l.drop (i * P.cellsOf e)).take (P.cellsOf e)) := by
      intro m
      induction m with
      | zero => exact fun _ => ⟨[], by simp, fun i hi => by simp at hi, fun i hi => by omega⟩
      | succ m ih =>
        intro hm
        obtain ⟨l, h4, h5, h6⟩ := ih (by omega)
        obtain ⟨cs, x, h7, h8, h8w⟩ := one m (by omega)
        obtain ⟨_, h9, h10⟩ := World.cells?_some h7
        refine ⟨l ++ cs, by rw [List.length_append, h4, h9, Nat.succ_mul], fun i hi => ?_, fun i hi => ?_⟩
        · by_cases hil : i < l.length
          · rw [List.getElem?_append_left hil]; exact h5 i hil
          · rw [List.getElem?_append_right (by omega), ← h10 (i - l.length) (by rw [List.length_append] at hi; omega)]
            have e1 : off + i = off + m * P.cellsOf e + (i - l.length) := by omega
            rw [e1, add_plain, add_plain]
        · by_cases him : i < m
          · have hlt : i * P.cellsOf e + P.cellsOf e ≤ l.length := by rw [h4, ← Nat.succ_mul]; exact Nat.mul_le_mul_right _ him
            have := h6 i him
            rw [List.drop_append_of_le_length (by omega), List.take_append_of_le_length (by rw [List.length_drop]; omega)]
            exact this
          · obtain rfl : i = m := by omega
            rw [List.drop_left' h4, List.take_of_length_le (by omega)]
            exact ⟨n, x.1, x.2, h8, h8w⟩
    obtain ⟨l, h4, h5, h6⟩ := all len (Nat.le_refl _)
    exact ⟨l, len, ⟨_, len, cap, rfl, h4, hl, (fun hn => by cases hn), fun x hx => by cases hx; exact ⟨fun _ => rfl, h5⟩⟩, h4, hbytes, h6⟩
theorem take1 {l : List Value} {i : Nat} (hi : i < l.length) : (l.drop i).take 1 = [l[i]] := by rw [List.drop_eq_getElem_cons hi, List.take_succ_cons, List.take_zero]
/-- A row of whole numbers of one kind. -/
theorem ints_all {k : IntKind} : ∀ (l : List Value), (∀ i, i < l.length → ∃ n, l[i]? = some (.int k n) ∧ (Lit.int k n).wf = true) → ∃ zs, l = ints k zs ∧ ∀ z, z ∈ zs → (Lit.int k z).wf = true
  | [], _ => ⟨[], rfl, fun z hz => by cases hz⟩
  | v :: l, h => by
    obtain ⟨n, h1, h2⟩ := h 0 (by simp)
    obtain ⟨zs, rfl, h3⟩ := ints_all l (fun i hi => by have := h (i + 1) (by simp; omega); simpa using this)
    refine ⟨n :: zs, by simp at h1; rw [h1]; rfl, fun z hz => ?_⟩
    rcases List.mem_cons.1 hz with rfl | hz
    · exact h2
    · exact h3 z hz
theorem tr_int {t : TypeId} {k : IntKind} {cs : List Value} (ht : P.underlying t = some (.int k)) (h : Tr enc P W t cs) : ∃ n, cs = [.int k n] ∧ (Lit.int k n).wf = true := by
  obtain ⟨fuel, x, y, h, _⟩ := h
  obtain ⟨n, h1, _, h2⟩ := DataW.trod_int ht h
  exact ⟨n, h1, h2⟩
theorem wf_byt {zs : List Int} (h : ∀ z, z ∈ zs → (Lit.int .u8 z).wf = true) : Sha.Byt zs := by
  intro z hz
  have := h z hz
  simp only [Lit.wf, IntKind.has, IntKind.min, IntKind.max, IntKind.signed, IntKind.bits] at this
  simp at this
  omega
end
end Go.Proofs.Ytfddplpljjlgiaa.Fw
namespace Go.Proofs.Ytfddplpljjlgiaa.Fw
open Go Go.RowKit Go.WideShapes Go.ChangeShapes
set_option linter.unusedVariables false
section
variable {H : Type} {enc : TypeId × Value → H} {P : Program} {W : World}
/-- A slice value that may be. -/
def OkS (v : Value) : Prop := ∃ a len cap, v = .slice a len cap ∧ len ≤ cap ∧ (a = none → cap = 0) ∧ ∀ x, a = some x → x.spot = none
/-- A slice, opened. -/
theorem rd_tr {t e : TypeId} {v : Value} (ht : P.underlying t = some (.slice e)) (he : 0 < P.cellsOf e) (hok : OkS v) (h : Tr enc P W t [v]) :
    ∃ (l : List Value) (n : Nat), Rd W v (P.cellsOf e) l ∧ l.length = n * P.cellsOf e ∧ n * P.bytesOf e ≤ reachBytes ∧ ∀ i, i < n → Tr enc P W e ((l.drop (i * P.cellsOf e)).take (P.cellsOf e)) := by
  obtain ⟨fuel, d, ps, hf, hw⟩ := h
  obtain ⟨a, len, cap, rfl, h1, h2, h3⟩ := hok
  rcases DataW.trod_slice ht hf with ⟨hc, _⟩ | ⟨a, len', cap', elems, rest, n, rfl, hc, hdd, hb, hl, hm, hlen, hel, _⟩
  · simp at hc
    obtain ⟨rfl, rfl, rfl⟩ := hc
    exact ⟨[], 0, ⟨none, 0, 0, rfl, by simp, by omega, fun _ => rfl, fun x hx => by cases hx⟩, by simp, by simp, fun i hi => by omega⟩
  · simp at hc
    obtain ⟨rfl, rfl, rfl⟩ := hc
    obtain ⟨b, off, spot⟩ := a
    obtain rfl : spot = none := h3 _ rfl
    obtain ⟨rfl, _⟩ := Prod.mk.injEq .. ▸ hdd
    have hbytes : len * P.bytesOf e ≤ reachBytes := by
      have h := hw ((elems.length + rest.length) * P.bytesOf e) (by simp [DataW.weights, ht])
      refine Nat.le_trans (Nat.mul_le_mul_right _ ?_) h
      omega
    have one : ∀ i, i < len → ∃ cs x, W.cells? 0 ((⟨b, off, none⟩ : Addr).add (i * P.cellsOf e)) (P.cellsOf e) = some cs ∧ DataW.trod enc P W 0 (fun _ => true) true n e cs = some x ∧ Light P e x.1 := by
      intro i hi
      have h := hel i hi
      have hx : ∃ x, elems[i]? = some x := ⟨elems[i]'(by omega), List.getElem?_eq_getElem (by omega)⟩
      obtain ⟨x, hx⟩ := hx
      rw [hx] at h
      obtain ⟨cs, h4, h5⟩ := Option.bind_eq_some_iff.1 h
      exact ⟨cs, x, h4, h5, fun k hk => hw k (by
        simp only [DataW.weights, ht, List.mem_cons, List.mem_append]
        exact .inr (.inl (weights_all (i := i) (by rw [List.getElem?_map, hx]; rfl) k hk)))⟩
    have all : ∀ m, m ≤ len → ∃ l : List Value, l.length = m * P.cellsOf e ∧ (∀ i, i < l.length → W.cell? ⟨b, off + i, none⟩ = l[i]?) ∧ ∀ i, i < m → Tr enc P W e ((l.drop (i * P.cellsOf e)).take (P.cellsOf e)) := by
      intro m
      induction m with
      | zero => exact fun _ => ⟨[], by simp, fun i hi => by simp at hi, fun i hi => by omega⟩
      | succ m ih =>
        intro hm
        obtain ⟨l, h4, h5, h6⟩ := ih (by omega)
        obtain ⟨cs, x, h7, h8, h8w⟩ := one m (by omega)
        obtain ⟨_, h9, h10⟩ := World.cells?_some h7
        refine ⟨l ++ cs, by rw [List.length_append, h4, h9, Nat.succ_mul], fun i hi => ?_, fun i hi => ?_⟩
        · by_cases hil : i < l.length
          · rw [List.getElem?_append_left hil]; exact h5 i hil
          · rw [List.getElem?_append_right (by omega), ← h10 (i - l.length) (by rw [List.length_append] at hi; omega)]
            have e1 : off + i = off + m * P.cellsOf e + (i - l.length) := by omega
            rw [e1, add_plain, add_plain]
        · by_cases him : i < m
          · have hlt : i * P.cellsOf e + P.cellsOf e ≤ l.length := by rw [h4, ← Nat.succ_mul]; exact Nat.mul_le_mul_right _ him
            have := h6 i him
            rw [List.drop_append_of_le_length (by omega), List.take_append_of_le_length (by rw [List.length_drop]; omega)]
            exact this
          · obtain rfl : i = m := by omega
            rw [List.drop_left' h4, List.take_of_length_le (by omega)]
            exact ⟨n, x.1, x.2, h8, h8w⟩
    obtain ⟨l, h4, h5, h6⟩ := all len (Nat.le_refl _)
    exact ⟨l, len, ⟨_, len, cap, rfl, h4, hl, (fun hn => by cases hn), fun x hx => by cases hx; exact ⟨fun _ => rfl, h5⟩⟩, h4, hbytes, h6⟩
theorem two {l : List Value} (h : l.length = 2) : ∃ a b, l = [a, b] := by
  match l, h with
  | [a, b], _ => exact ⟨a, b, rfl⟩
theorem three {l : List Value} (h : l.length = 3) : ∃ a b c, l = [a, b, c] := by
  match l, h with
  | [a, b, c], _ => exact ⟨a, b, c, rfl⟩
end
end Go.Proofs.Ytfddplpljjlgiaa.Fw

namespace Go.Proofs.Ytfddplpljjlgiaa.Fw
open Go Go.RowKit Go.Proofs.Ytfddplpljjlgiaa
set_option linter.unusedSimpArgs false
set_option linter.unusedVariables false
def notIf : TypeDesc → Bool
  | .interface _ => false
  | _ => true
section
variable {P : Program} {Q : Exit → Act → World → Prop} {ops : Array Oper} {rest : List Oper} {E : Env} {L : List (Nat × Value)} {H : List (Nat × Ent)} {F : List (Nat × FE)}
variable {dst : Option Tmp} {ty : TypeId} {pos : String} {af : Array Edge} {gd : Option (Nat × Bool)}
theorem ev_mkif {x : Operand} {T : TypeId} {v : Value} {d : TypeDesc} (hT : P.underlying T = some d) (hd : notIf d = true) (hx : ev L x = some v) : Ev P ⟨dst, .makeInterface T x, ty, pos, af, gd⟩ E L H F (.iface T v) := fun a w fa sw => by
  have h : (Instr.makeInterface T v).run P w = .ok (.iface T v) w := by
    simp only [Instr.makeInterface, Sem.run_bind, run_und hT, Result.andThen_ok]
    cases d <;> first | rfl | cases hd
  simp [execOp, fa.ev hx, h]
theorem ev_assert {x : Operand} {S T : TypeId} {v : Value} {d : TypeDesc} (hT : P.underlying T = some d) (hd : notIf d = true) (hx : ev L x = some (.iface T v)) : Ev P ⟨dst, .typeAssert x S T true, ty, pos, af, gd⟩ E L H F (.tuple #[v, .bool true]) := fun a w fa sw => by
  have h : (Instr.typeAssert (.iface T v) S T true).run P w = .ok (.tuple #[v, .bool true]) w := by
    simp only [Instr.typeAssert, Sem.run_bind, run_und hT, Result.andThen_ok]
    cases d <;> first | (simp; done) | cases hd
  simp [execOp, fa.ev hx, h]
theorem run_inv {f : FuncId} {r : Operand} {name : String} {T : TypeId} {x : Value} {args : Array Operand} {Ts : Array TypeId} {vs : List Value} (hI : ∀ (w : World), (invoke (.fn (.method name) #[]) (Value.iface T x :: vs).toArray).run P w = .ok (.enter f (x :: vs).toArray) w)
    (hr : ev L r = some (.iface T x)) (ha : evs L args.toList = some vs) {a : Act} (fa : Fits E.n L a) (w : World) :
    (execOp a.eval ⟨dst, .call { callee := .invoke r name, args := args, argTypes := Ts }, ty, pos, af, gd⟩).run P w = .ok (.enter f (x :: vs).toArray) w := by
  have e1 : args.map a.eval = vs.toArray := by rw [← fa.evs ha]; cases args; simp
  have h := hI w
  have e2 : (Value.iface T x :: vs).toArray = #[Value.iface T x] ++ vs.toArray := by simp
  rw [e2] at h
  simp [execOp, resolve, fa.ev hr, e1] at h ⊢
  simp [h]
end
section
variable {P : Program} {Q : Exit → Act → World → Prop} {ops : Array Oper} {rest : List Oper} {E : Env} {L : List (Nat × Value)} {H : List (Nat × Ent)} {F : List (Nat × FE)}
variable {ty : TypeId} {pos : String} {af : Array Edge} {gd : Option (Nat × Bool)}
theorem st_inv {dst f : Nat} {r : Operand} {name : String} {T : TypeId} {x : Value} {args : Array Operand} {Ts : Array TypeId} {vs : List Value} {ι : Type} {M : List Nat} {Φ : ι → Prop} {v : ι → Value} {N : ι → List (Nat × Ent)}
    (hI : ∀ (w : World), (invoke (.fn (.method name) #[]) (Value.iface T x :: vs).toArray).run P w = .ok (.enter f (x :: vs).toArray) w) (hr : ev L r = some (.iface T x)) (ha : evs L args.toList = some vs)
    (hc : ∀ w, Sat E.w0 E.X H F w → Calls P f (x :: vs).toArray w (Post w M Φ v N)) (hM : ∀ b, b ∈ M → ∃ k e, lk H k = some e ∧ b ∈ e.ids ∧ ∀ x, lk (N x) k ≠ none) (hg : wants ops L gd = some true) (hn : Nat.ble (dst + 1) E.n = true)
    (k : ∀ x, Φ x → At (wpList P ops Q rest) E ((dst, v x) :: L) (N x ++ H) F) : At (wpList P ops Q (⟨some dst, .call { callee := .invoke r name, args := args, argTypes := Ts }, ty, pos, af, gd⟩ :: rest)) E L H F :=
  st_enter rfl hg hn (fun _ w fa => run_inv hI hr ha fa w) hc hM k
theorem st_invv {dst f : Nat} {r : Operand} {name : String} {T : TypeId} {x : Value} {args : Array Operand} {Ts : Array TypeId} {vs : List Value} {v : Value}
    (hI : ∀ (w : World), (invoke (.fn (.method name) #[]) (Value.iface T x :: vs).toArray).run P w = .ok (.enter f (x :: vs).toArray) w) (hr : ev L r = some (.iface T x)) (ha : evs L args.toList = some vs)
    (hc : ∀ w, Sat E.w0 E.X H F w → Calls P f (x :: vs).toArray w (PostV w v)) (hg : wants ops L gd = some true) (hn : Nat.ble (dst + 1) E.n = true)
    (k : At (wpList P ops Q rest) E ((dst, v) :: L) H F) : At (wpList P ops Q (⟨some dst, .call { callee := .invoke r name, args := args, argTypes := Ts }, ty, pos, af, gd⟩ :: rest)) E L H F :=
  st_enter (ι := Unit) (M := []) (Φ := fun _ => True) (v := fun _ => v) (N := fun _ => []) rfl hg hn (fun _ w fa => run_inv hI hr ha fa w) (fun w sw => (hc w sw).mono fun _ _ ⟨h1, h2⟩ => ⟨(), trivial, h1, h2⟩) nil_all (fun _ _ => k)
end
end Go.Proofs.Ytfddplpljjlgiaa.Fw

namespace Go.Proofs.Ytfddplpljjlgiaa.Fw
open Go Go.RowKit Go.Proofs.Ytfddplpljjlgiaa
section
variable {Q : Exit → Act → World → Prop} {K : Act → World → Prop} {E : Env} {L : List (Nat × Value)} {H : List (Nat × Ent)} {F : List (Nat × FE)}
theorem at_rowsub {i : Nat} {rs rs' : List (Value × Nat × List Value)} (j : Nat) (hf : lk F i = some (.rows rs)) (hs : ∀ y, y ∈ rs' → y ∈ rs) (k : At K E L H ((j, .rows rs') :: F)) : At K E L H F := fun a w fa sw =>
  k a w fa (sw.read j (f := .rows rs') (fun y hy => sw.rd _ _ hf y (hs y hy)) (fun h' e hh b hb y hy => sw.off _ _ _ _ hf hh b hb y (hs y hy)))
/-- two sets of rows as one -/
theorem at_rowsjoin {i i' : Nat} {rs rs2 rs' : List (Value × Nat × List Value)} (j : Nat) (hf : lk F i = some (.rows rs)) (hf2 : lk F i' = some (.rows rs2)) (hs : ∀ y, y ∈ rs' → y ∈ rs ∨ y ∈ rs2) (k : At K E L H ((j, .rows rs') :: F)) : At K E L H F := fun a w fa sw =>
  k a w fa (sw.read j (f := .rows rs') (fun y hy => (hs y hy).elim (sw.rd _ _ hf y) (sw.rd _ _ hf2 y)) (fun h' e hh b hb y hy => (hs y hy).elim (sw.off _ _ _ _ hf hh b hb y) (sw.off _ _ _ _ hf2 hh b hb y)))
/-- one of the rows, by itself -/
theorem at_rowsl {i sz : Nat} {v : Value} {l : List Value} {rs : List (Value × Nat × List Value)} (j : Nat) (hf : lk F i = some (.rows rs)) (hx : (v, sz, l) ∈ rs) (k : At K E L H ((j, .sl v sz l) :: F)) : At K E L H F := fun a w fa sw =>
  k a w fa (sw.read j (f := .sl v sz l) (sw.rd _ _ hf _ hx) (fun h' e hh b hb => sw.off _ _ _ _ hf hh b hb _ hx))
end
end Go.Proofs.Ytfddplpljjlgiaa.Fw

namespace Go.Proofs.Ytfddplpljjlgiaa.Fw
open Go Go.RowKit Go.Proofs.Ytfddplpljjlgiaa
set_option linter.unusedSimpArgs false
set_option linter.unusedVariables false
def PostRM {ι : Type} (w : World) (M : List Nat) (Φ : ι → Prop) (v : ι → Value) (N : ι → List (Nat × Ent)) (R : ι → List (Value × Nat × List Value)) (e : Ending) (w' : World) : Prop :=
  ∃ x, Φ x ∧ e = .returned (v x) ∧ Gives w w' M (N x) ∧ (∀ y, y ∈ R x → Rd w' y.1 y.2.1 y.2.2 ∧ ∀ b, b ∈ blkOf y.1 → w.heap.size ≤ b) ∧ ∀ h e, lk (N x) h = some e → ∀ b, b ∈ e.ids → (FE.rows (R x)).off b
section
variable {P : Program} {Q : Exit → Act → World → Prop} {ops : Array Oper} {rest : List Oper} {E : Env} {L : List (Nat × Value)} {H : List (Nat × Ent)} {F : List (Nat × FE)}
variable {ty : TypeId} {pos : String} {af : Array Edge} {gd : Option (Nat × Bool)}
theorem st_callRM {dst f : Nat} {args : Array Operand} {Ts : Array TypeId} {vs : List Value} {ι : Type} {M : List Nat} {Φ : ι → Prop} {v : ι → Value} {N : ι → List (Nat × Ent)} {R : ι → List (Value × Nat × List Value)} (i : Nat) (hf : Has P f) (ha : evs L args.toList = some vs)
    (hc : ∀ w, Sat E.w0 E.X H F w → Calls P f vs.toArray w (PostRM w M Φ v N R)) (hM : ∀ b, b ∈ M → ∃ k e, lk H k = some e ∧ b ∈ e.ids ∧ ∀ x, lk (N x) k ≠ none) (hg : wants ops L gd = some true) (hn : Nat.ble (dst + 1) E.n = true)
    (k : ∀ x, Φ x → (∀ y, y ∈ R x → ∀ b, b ∈ blkOf y.1 → E.w0.heap.size ≤ b) → At (wpList P ops Q rest) E ((dst, v x) :: L) (N x ++ H) ((i, .rows (R x)) :: F)) :
    At (wpList P ops Q (⟨some dst, .call { callee := .value (.func f), args := args, argTypes := Ts }, ty, pos, af, gd⟩ :: rest)) E L H F := by
  refine st_run hg fun a w fa sw => ?_
  unfold Oper.wp
  rw [run_call hf ha fa w]
  refine (hc w sw).mono ?_
  rintro e w' ⟨x, hx, rfl, hG, hR, hO⟩
  show wpList P ops Q rest (a.put (some dst) (v x)) w'
  refine k x hx (fun y hy b hb => Nat.le_trans sw.size ((hR y hy).2 b hb)) _ _ (fa.put (Nat.le_of_ble_eq_true hn) _) ((sw.step hG (fun b hb => by
    obtain ⟨k', e', h1, h2, h3⟩ := hM b hb
    exact ⟨k', e', h1, h2, h3 x⟩)).read i (f := .rows (R x)) (fun y hy => (hR y hy).1) (fun h' e hh b hb y hy => ?_))
  rw [lk_append] at hh
  cases hN : lk (N x) h' with
  | some e' =>
    rw [hN] at hh
    cases hh
    exact hO _ _ hN b hb y hy
  | none =>
    rw [hN] at hh
    refine .inr fun hb' => ?_
    have h1 := (hR y hy).2 b hb'
    have h2 := Ent.lt (sw.hold _ _ hh) hb
    omega
end
section
variable {K : Act → World → Prop} {E : Env} {L : List (Nat × Value)} {H : List (Nat × Ent)} {F : List (Nat × FE)}
/-- An owned slice joins the rows; it is none of what the call was handed to be written. -/
theorem at_rows_own {h T sz i : Nat} {v : Value} {l : List Value} {H' : List (Nat × Ent)} {rs : List (Value × Nat × List Value)} (hh : lk H h = some (.own v T sz l)) (hf : lk F i = some (.rows rs)) (hH : Sub H' H) (hno : lk H' h = none) (hX : ∀ b, b ∈ E.X → ∃ k e, lk H' k = some e ∧ b ∈ e.ids)
    (k : (∀ b, b ∈ blkOf v → E.w0.heap.size ≤ b) → At K E L H' ((i, .rows ((v, sz, l) :: rs)) :: F)) : At K E L H F := fun a w fa sw =>
  k (fun b hb => (sw.fresh _ _ hh b hb).elim id fun hb2 => by
      obtain ⟨k', e, h1, h2⟩ := hX b hb2
      exact absurd hb (sw.apart k' e h _ (hH _ _ h1) hh (by intro e1; subst e1; rw [hno] at h1; cases h1) b h2)) a w fa ((sw.weaken hH (.refl _)).read i (f := .rows _)
    (fun x hx => by
      rcases List.mem_cons.1 hx with rfl | hx
      · exact sw.own_rd hh
      · exact sw.rd _ _ hf x hx)
    (fun h' e hh' b hb x hx => by
      rcases List.mem_cons.1 hx with rfl | hx
      · exact .inr fun hb' => sw.apart h' e h _ (hH _ _ hh') hh (by intro e1; subst e1; rw [hno] at hh'; cases hh') b hb hb'
      · exact sw.off _ _ _ _ hf (hH _ _ hh') b hb x hx))
end
end Go.Proofs.Ytfddplpljjlgiaa.Fw

namespace Go.Proofs.Ytfddplpljjlgiaa.Bs
open Go Fw Go.Proofs.Ytfddplpljjlgiaa
set_option linter.unusedSimpArgs false
set_option linter.unusedVariables false
structure W where
  id : Int
  dv : Value
  data : List Int
  came : Int
def wcells (x : W) : List Value := [.int .i64 x.id, x.dv, .int .i64 x.came]
def wflat (l : List W) : List Value := l.flatMap wcells
def w0 : W := ⟨0, .slice none 0 0, [], 0⟩
def bef (x y : W) : Prop := x.id < y.id ∨ (x.id = y.id ∧ x.came < y.came)
instance (x y : W) : Decidable (bef x y) := by unfold bef; infer_instance
def wrows (l : List W) : List (Value × Nat × List Value) := l.map fun x => (x.dv, 1, ints .u8 x.data)
theorem wflat_len : ∀ (l : List W), (wflat l).length = l.length * 3
  | [] => rfl
  | x :: l => by
    have := wflat_len l
    rw [wflat] at this
    rw [wflat, List.flatMap_cons, List.length_append, List.length_cons, this]
    simp [wcells]
    omega
theorem wflat_append (a b : List W) : wflat a ++ wflat b = wflat (a ++ b) := by simp [wflat]
theorem wflat_snoc (a : List W) (x : W) : wflat a ++ wcells x = wflat (a ++ [x]) := by simp [wflat]
theorem wflat_drop : ∀ (l : List W) (i : Nat), (wflat l).drop (i * 3) = wflat (l.drop i)
  | l, 0 => by simp
  | [], i + 1 => by simp [wflat]
  | x :: l, i + 1 => by
    rw [wflat, List.flatMap_cons, show (i + 1) * 3 = 3 + i * 3 by omega, ← List.drop_drop, List.drop_left' (by rfl), List.drop_succ_cons]
    exact wflat_drop l i
theorem wflat_take (l : List W) {i : Nat} (hi : i ≤ l.length) : (wflat l).take (i * 3) = wflat (l.take i) := by
  have e2 : wflat l = wflat (l.take i) ++ wflat (l.drop i) := by rw [wflat_append, List.take_append_drop]
  rw [e2, List.take_left' (by rw [wflat_len, List.length_take]; congr 1; omega)]
theorem wflat_get {l : List W} {i : Nat} (hi : i < l.length) : ((wflat l).drop (i * 3)).take 3 = wcells (l.getD i w0) := by
  rw [wflat_drop, List.drop_eq_getElem_cons hi, wflat, List.flatMap_cons, List.take_left' (by rfl), List.getD_eq_getElem?_getD, List.getElem?_eq_getElem hi]
  rfl
theorem wflat_set {l : List W} {i : Nat} (hi : i < l.length) (x : W) : wr (wflat l) (i * 3) (wcells x) = wflat (l.set i x) := by
  have e1 : l = l.take i ++ l[i] :: l.drop (i + 1) := by rw [← List.drop_eq_getElem_cons hi, List.take_append_drop]
  have e2 : l.set i x = l.take i ++ x :: l.drop (i + 1) := by
    conv => lhs; rw [e1]
    rw [List.set_append_right _ _ (by rw [List.length_take]; omega), List.length_take, Nat.min_eq_left (by omega), Nat.sub_self]
    rfl
  have e3 : (wflat l).take (i * 3) = wflat (l.take i) := wflat_take l (by omega)
  have e4 : (wflat l).drop (i * 3 + 3) = wflat (l.drop (i + 1)) := by rw [show i * 3 + 3 = (i + 1) * 3 by omega, wflat_drop]
  rw [wr, e3, show (wcells x).length = 3 from rfl, e4, e2]
  simp [wflat]
theorem getD_mem {l : List W} {i : Nat} (h : i < l.length) : l.getD i w0 ∈ l := by
  rw [List.getD_eq_getElem?_getD, List.getElem?_eq_getElem h]
  exact List.getElem_mem h
theorem wcells_one {x : W} (h : x.dv.oneCell' = true) : ∀ u, u ∈ wcells x → u.oneCell' = true := fun u hu => by
  simp only [wcells, List.mem_cons, List.not_mem_nil, or_false] at hu
  rcases hu with rfl | rfl | rfl
  · rfl
  · exact h
  · rfl
def swapS (l : List W) (i k : Nat) : List W := (l.set i (l.getD k w0)).set k (l.getD i w0)
theorem swapS_len (l : List W) (i k : Nat) : (swapS l i k).length = l.length := by simp [swapS]
end Go.Proofs.Ytfddplpljjlgiaa.Bs

namespace Go.Proofs.Ytfddplpljjlgiaa
open Go Fw
set_option maxRecDepth 100000
theorem ty_mk {P : Program} {t : TypeId} {d : TypeDesc} {sz bytes : Nat} {z : Value} (h : P.underlying t = some d) (hi : (P.info? t).map (fun i => (i.size, i.bytes, i.zero)) = some (sz, bytes, some z)) : Ty P t d sz bytes z := by
  refine ⟨h, ?_⟩
  cases e : P.info? t with
  | none => rw [e] at hi; cases hi
  | some i => rw [e] at hi; simp only [Option.map_some, Option.some.injEq, Prod.mk.injEq] at hi; exact ⟨i, rfl, hi.1, hi.2.1, hi.2.2⟩
theorem hmix : Try.prog.follows .mixedOrders = true := by kernel_rfl
theorem ty3 : Ty Try.prog 3 (.int .i64) 1 8 (Value.int .i64 0) := ty_mk Try.underlying3 (by kernel_rfl)
theorem ty5 : Ty Try.prog 5 (.int .u8) 1 1 (Value.int .u8 0) := ty_mk Try.underlying5 (by kernel_rfl)
theorem ty27 : Ty Try.prog 27 (.slice 5) 1 24 (Value.slice none 0 0) := ty_mk Try.underlying27 (by kernel_rfl)
theorem ty29 : Ty Try.prog 29 (.struct #[⟨"ID", 3, 0, false, "", "", 0⟩, ⟨"Data", 27, 1, false, "", "", 8⟩]) 2 32 (.agg ([Value.int .i64 0, Value.slice none 0 0] : List Value).toArray) := ty_mk Try.underlying29 (by kernel_rfl)
theorem ty40 : Ty Try.prog 40 (.slice 29) 1 24 (Value.slice none 0 0) := ty_mk Try.underlying40 (by kernel_rfl)
theorem ty42 : Ty Try.prog 42 (.struct #[⟨"F", 40, 0, false, "", "", 0⟩]) 1 24 (.agg ([Value.slice none 0 0] : List Value).toArray) := ty_mk Try.underlying42 (by kernel_rfl)
theorem ty44 : Ty Try.prog 44 (.struct #[⟨"Kind", 3, 0, false, "", "", 0⟩, ⟨"F", 29, 1, false, "", "", 8⟩]) 3 40 (.agg ([Value.int .i64 0] ++ ([Value.int .i64 0, Value.slice none 0 0]) : List Value).toArray) := ty_mk Try.underlying44 (by kernel_rfl)
theorem ty50 : Ty Try.prog 50 (.slice 57) 1 24 (Value.slice none 0 0) := ty_mk Try.underlying50 (by kernel_rfl)
theorem ty52 : Ty Try.prog 52 (.struct #[⟨"q", 50, 0, false, "", "ostler/bus", 0⟩, ⟨"came", 3, 1, false, "", "ostler/bus", 24⟩]) 2 32 (.agg ([Value.slice none 0 0, Value.int .i64 0] : List Value).toArray) := ty_mk Try.underlying52 (by kernel_rfl)
theorem ty57 : Ty Try.prog 57 (.struct #[⟨"f", 29, 0, false, "", "ostler/bus", 0⟩, ⟨"came", 3, 2, false, "", "ostler/bus", 32⟩]) 3 40 (.agg (([Value.int .i64 0, Value.slice none 0 0]) ++ [Value.int .i64 0] : List Value).toArray) := ty_mk Try.underlying57 (by kernel_rfl)
theorem has7 : Has Try.prog 7 := ⟨_, Try.func7, by kernel_rfl, rfl⟩
theorem has8 : Has Try.prog 8 := ⟨_, Try.func8, by kernel_rfl, rfl⟩
theorem has9 : Has Try.prog 9 := ⟨_, Try.func9, by kernel_rfl, rfl⟩
theorem has10 : Has Try.prog 10 := ⟨_, Try.func10, by kernel_rfl, rfl⟩
theorem has11 : Has Try.prog 11 := ⟨_, Try.func11, by kernel_rfl, rfl⟩
theorem has12 : Has Try.prog 12 := ⟨_, Try.func12, by kernel_rfl, rfl⟩
theorem has13 : Has Try.prog 13 := ⟨_, Try.func13, by kernel_rfl, rfl⟩
theorem has14 : Has Try.prog 14 := ⟨_, Try.func14, by kernel_rfl, rfl⟩
theorem has15 : Has Try.prog 15 := ⟨_, Try.func15, by kernel_rfl, rfl⟩
theorem has16 : Has Try.prog 16 := ⟨_, Try.func16, by kernel_rfl, rfl⟩
theorem has17 : Has Try.prog 17 := ⟨_, Try.func17, by kernel_rfl, rfl⟩
theorem has18 : Has Try.prog 18 := ⟨_, Try.func18, by kernel_rfl, rfl⟩
theorem has19 : Has Try.prog 19 := ⟨_, Try.func19, by kernel_rfl, rfl⟩
theorem has20 : Has Try.prog 20 := ⟨_, Try.func20, by kernel_rfl, rfl⟩
theorem has21 : Has Try.prog 21 := ⟨_, Try.func21, by kernel_rfl, rfl⟩
theorem has22 : Has Try.prog 22 := ⟨_, Try.func22, by kernel_rfl, rfl⟩
theorem has24 : Has Try.prog 24 := ⟨_, Try.func24, by kernel_rfl, rfl⟩
theorem has25 : Has Try.prog 25 := ⟨_, Try.func25, by kernel_rfl, rfl⟩
theorem has26 : Has Try.prog 26 := ⟨_, Try.func26, by kernel_rfl, rfl⟩
theorem has27 : Has Try.prog 27 := ⟨_, Try.func27, by kernel_rfl, rfl⟩
theorem has28 : Has Try.prog 28 := ⟨_, Try.func28, by kernel_rfl, rfl⟩
theorem has29 : Has Try.prog 29 := ⟨_, Try.func29, by kernel_rfl, rfl⟩
theorem has30 : Has Try.prog 30 := ⟨_, Try.func30, by kernel_rfl, rfl⟩
theorem has39 : Has Try.prog 39 := ⟨_, Try.func39, by kernel_rfl, rfl⟩
theorem pl29 : ∀ w, ((#[⟨"ID", 3, 0, false, "", "", 0⟩, ⟨"Data", 27, 1, false, "", "", 8⟩] : Array Field).mapM fun f => (do pure (f.offset, ← sizeOf f.type) : Sem (Nat × Nat))).run Try.prog w = .ok #[(0, 1), (1, 1)] w := fun w => by
  simp [ty27.run_size, ty3.run_size]
theorem pl42 : ∀ w, ((#[⟨"F", 40, 0, false, "", "", 0⟩] : Array Field).mapM fun f => (do pure (f.offset, ← sizeOf f.type) : Sem (Nat × Nat))).run Try.prog w = .ok #[(0, 1)] w := fun w => by
  simp [ty40.run_size]
theorem pl52 : ∀ w, ((#[⟨"q", 50, 0, false, "", "ostler/bus", 0⟩, ⟨"came", 3, 1, false, "", "ostler/bus", 24⟩] : Array Field).mapM fun f => (do pure (f.offset, ← sizeOf f.type) : Sem (Nat × Nat))).run Try.prog w = .ok #[(0, 1), (1, 1)] w := fun w => by
  simp [ty3.run_size, ty50.run_size]
theorem pl57 : ∀ w, ((#[⟨"f", 29, 0, false, "", "ostler/bus", 0⟩, ⟨"came", 3, 2, false, "", "ostler/bus", 32⟩] : Array Field).mapM fun f => (do pure (f.offset, ← sizeOf f.type) : Sem (Nat × Nat))).run Try.prog w = .ok #[(0, 2), (2, 1)] w := fun w => by
  simp [ty29.run_size, ty3.run_size]
end Go.Proofs.Ytfddplpljjlgiaa

namespace Go.Proofs.Ytfddplpljjlgiaa
open Go Go.RowKit Fw
open Bs
set_option linter.unusedVariables false
set_option linter.unusedSimpArgs false
set_option maxRecDepth 20000 in
set_option maxHeartbeats 1000000 in
theorem before_any (x y : Bs.W) (w : World) (hx : x.dv.oneCell' = true) (hy : y.dv.oneCell' = true) : Calls Try.prog 24 #[.agg (List.toArray [.int .i64 x.id, x.dv, .int .i64 x.came]), .agg (List.toArray [.int .i64 y.id, y.dv, .int .i64 y.came])] w (PostV w (.bool (decide (Bs.bef x y)))) := by
  refine calls_at (vs := [.agg (List.toArray [.int .i64 x.id, x.dv, .int .i64 x.came]), .agg (List.toArray [.int .i64 y.id, y.dv, .int .i64 y.came])]) (X := []) (H := []) (F := []) 28 Try.func24 rfl rfl rfl (Sat.start0 w) ?_
  refine cd_seq ?_
  refine cd_region ?_
  refine st_box (h := 2) rfl rfl rfl rfl (fun b2 => ?_)
  refine st_box (h := 3) rfl rfl rfl rfl (fun b3 => ?_)
  refine st (ev_assign rfl) rfl rfl rfl ?_
  refine op_nil ?_
  refine ax_then ?_
  refine At.regs (L' := [(2, _), (3, _), (4, _)]) (.cons rfl (.cons rfl (.cons rfl (.nil _)))) ?_
  refine cd_seq ?_
  refine cd_region ?_
  refine st (ev_fieldAddr (b := _) Try.underlying57 (f := _) rfl ty29 (by decide) rfl) rfl rfl rfl ?_
  refine st (ev_fieldAddr (b := _) Try.underlying29 (f := _) rfl ty3 (by decide) rfl) rfl rfl rfl ?_
  refine st (ld_blk1 (h := 2) ty3 rfl rfl rfl rfl) rfl rfl rfl ?_
  refine st (ev_fieldAddr (b := _) Try.underlying57 (f := _) rfl ty29 (by decide) rfl) rfl rfl rfl ?_
  refine st (ev_fieldAddr (b := _) Try.underlying29 (f := _) rfl ty3 (by decide) rfl) rfl rfl rfl ?_
  refine st (ld_blk1 (h := 3) ty3 rfl rfl rfl rfl) rfl rfl rfl ?_
  refine st (ev_lss rfl rfl) rfl rfl rfl ?_
  refine st (ev_move rfl) rfl rfl rfl ?_
  refine at_split_if (i := 12) rfl (fun hg12 => ?_) (fun hg12 => ?_)
  ·
    refine st_skip rfl rfl rfl ?_
    refine st_skip rfl rfl rfl ?_
    refine st_skip rfl rfl rfl ?_
    refine st_skip rfl rfl rfl ?_
    refine st_skip rfl rfl rfl ?_
    refine st_skip rfl rfl rfl ?_
    refine st_skip rfl rfl rfl ?_
    refine st_skip rfl rfl rfl ?_
    refine st_skip rfl rfl rfl ?_
    refine st_skip rfl rfl rfl ?_
    refine st_skip rfl rfl rfl ?_
    refine st_skip rfl rfl rfl ?_
    refine st_skip rfl rfl rfl ?_
    refine st_skip rfl rfl rfl ?_
    refine st (ev_pick_t rfl rfl) rfl rfl rfl ?_
    refine st (ev_assign rfl) rfl rfl rfl ?_
    refine op_nil ?_
    refine ax_then ?_
    refine At.regs (L' := [(4, _)]) (.cons rfl (.nil _)) ?_
    refine cd_ret ?_
    refine rt_tmp (.inl rfl) Try.results24 rfl ?_
    exact fun w1 sw => ⟨congrArg (fun b => Ending.returned (Value.bool b)) (by exact (decide_eq_true (.inl hg12)).symm), sw.gives (.nil _)⟩
  ·
    refine st (ev_fieldAddr (b := _) Try.underlying57 (f := _) rfl ty29 (by decide) rfl) rfl rfl rfl ?_
    refine st (ev_fieldAddr (b := _) Try.underlying29 (f := _) rfl ty3 (by decide) rfl) rfl rfl rfl ?_
    refine st (ld_blk1 (h := 2) ty3 rfl rfl rfl rfl) rfl rfl rfl ?_
    refine st (ev_fieldAddr (b := _) Try.underlying57 (f := _) rfl ty29 (by decide) rfl) rfl rfl rfl ?_
    refine st (ev_fieldAddr (b := _) Try.underlying29 (f := _) rfl ty3 (by decide) rfl) rfl rfl rfl ?_
    refine st (ld_blk1 (h := 3) ty3 rfl rfl rfl rfl) rfl rfl rfl ?_
    refine st (ev_eql rfl rfl) rfl rfl rfl ?_
    refine st (ev_move rfl) rfl rfl rfl ?_
    refine at_split_if (i := 20) rfl (fun hg20 => ?_) (fun hg20 => ?_)
    ·
      refine st (ev_fieldAddr (b := _) Try.underlying57 (f := _) rfl ty3 (by decide) rfl) rfl rfl rfl ?_
      refine st (ld_blk1 (h := 2) ty3 rfl rfl rfl rfl) rfl rfl rfl ?_
      refine st (ev_fieldAddr (b := _) Try.underlying57 (f := _) rfl ty3 (by decide) rfl) rfl rfl rfl ?_
      refine st (ld_blk1 (h := 3) ty3 rfl rfl rfl rfl) rfl rfl rfl ?_
      refine st (ev_lss rfl rfl) rfl rfl rfl ?_
      refine st (ev_pick_t rfl rfl) rfl rfl rfl ?_
      refine st (ev_pick_f rfl rfl) rfl rfl rfl ?_
      refine st (ev_assign rfl) rfl rfl rfl ?_
      refine op_nil ?_
      refine ax_then ?_
      refine At.regs (L' := [(4, _)]) (.cons rfl (.nil _)) ?_
      refine cd_ret ?_
      refine rt_tmp (.inl rfl) Try.results24 rfl ?_
      exact fun w1 sw => ⟨congrArg (fun b => Ending.returned (Value.bool b)) (by exact decide_eq_decide.2 ⟨fun hh => .inr ⟨hg20, hh⟩, fun hh => (hh.resolve_left hg12).2⟩), sw.gives (.nil _)⟩
    ·
      refine st_skip rfl rfl rfl ?_
      refine st_skip rfl rfl rfl ?_
      refine st_skip rfl rfl rfl ?_
      refine st_skip rfl rfl rfl ?_
      refine st_skip rfl rfl rfl ?_
      refine st (ev_pick_f rfl rfl) rfl rfl rfl ?_
      refine st (ev_pick_f rfl rfl) rfl rfl rfl ?_
      refine st (ev_assign rfl) rfl rfl rfl ?_
      refine op_nil ?_
      refine ax_then ?_
      refine At.regs (L' := [(4, _)]) (.cons rfl (.nil _)) ?_
      refine cd_ret ?_
      refine rt_tmp (.inl rfl) Try.results24 rfl ?_
      exact fun w1 sw => ⟨congrArg (fun b => Ending.returned (Value.bool b)) (by exact (decide_eq_false (fun hh => hg20 (hh.resolve_left hg12).1)).symm), sw.gives (.nil _)⟩
set_option maxRecDepth 20000 in
set_option maxHeartbeats 1000000 in
theorem qlen_any (b : Nat) (qv c : Value) (l : List Bs.W) (w : World) (h : Lies w b 0 [qv, c]) (h' : Rd w qv 3 (Bs.wflat l)) : Calls Try.prog 63 #[.pointer (some ⟨b, 0, none⟩)] w (PostV w (.int .i64 (l.length : Nat))) := by
  refine calls_at (vs := [.pointer (some ⟨b, 0, none⟩)]) (X := []) (H := []) (F := [(21, .mem b 0 [qv, c]), (20, .sl (qv) 3 (Bs.wflat (l)))]) 7 Try.func63 rfl rfl rfl ((Sat.rd0 20 h').read (f := .mem b 0 [qv, c]) 21 h off_nil) ?_
  refine cd_seq ?_
  refine cd_region ?_
  refine st (ev_assign rfl) rfl rfl rfl ?_
  refine op_nil ?_
  refine ax_then ?_
  refine At.regs (L' := [(0, _), (2, _)]) (.cons rfl (.cons rfl (.nil _))) ?_
  refine cd_seq ?_
  refine cd_region ?_
  refine st (ev_move rfl) rfl rfl rfl ?_
  refine st (ev_nilCheck rfl) rfl rfl rfl ?_
  refine st (ld_mem1 (h := 21) ty50 rfl rfl rfl (Nat.zero_add _).symm rfl) rfl rfl rfl ?_
  refine st (ev_len_rd (h := 20) (n := l.length) Try.underlying50 rfl rfl (Bs.wflat_len l) (by decide)) rfl rfl rfl ?_
  refine st (ev_assign rfl) rfl rfl rfl ?_
  refine op_nil ?_
  refine ax_then ?_
  refine At.regs (L' := [(2, _)]) (.cons rfl (.nil _)) ?_
  refine cd_ret ?_
  refine rt_tmp (.inl rfl) Try.results63 rfl ?_
  exact fun w1 sw => ⟨rfl, sw.gives (.nil _)⟩
set_option maxRecDepth 20000 in
set_option maxHeartbeats 1000000 in
theorem qless_any (b : Nat) (qv c : Value) (l : List Bs.W) (i k : Nat) (w : World) (hi : i < l.length) (hk : k < l.length) (ho : ∀ x, x ∈ l → x.dv.oneCell' = true) (h : Lies w b 0 [qv, c]) (h' : Rd w qv 3 (Bs.wflat l)) : Calls Try.prog 64 #[.pointer (some ⟨b, 0, none⟩), .int .i64 (i : Nat), .int .i64 (k : Nat)] w (PostV w (.bool (decide (Bs.bef (l.getD i Bs.w0) (l.getD k Bs.w0))))) := by
  refine calls_at (vs := [.pointer (some ⟨b, 0, none⟩), .int .i64 (i : Nat), .int .i64 (k : Nat)]) (X := []) (H := []) (F := [(21, .mem b 0 [qv, c]), (20, .sl (qv) 3 (Bs.wflat (l)))]) 20 Try.func64 rfl rfl rfl ((Sat.rd0 20 h').read (f := .mem b 0 [qv, c]) 21 h off_nil) ?_
  refine cd_seq ?_
  refine cd_region ?_
  refine st (ev_assign rfl) rfl rfl rfl ?_
  refine op_nil ?_
  refine ax_then ?_
  refine At.regs (L' := [(0, _), (1, _), (2, _), (6, _)]) (.cons rfl (.cons rfl (.cons rfl (.cons rfl (.nil _))))) ?_
  refine cd_seq ?_
  refine cd_mix hmix ?_
  refine mx (i := 0) rfl (by decide +kernel) (by decide +kernel) (by decide +kernel) rfl (fun w0 => ev_move rfl) rfl rfl (Sub.refl _) ?_
  refine mx (i := 1) rfl (by decide +kernel) (by decide +kernel) (by decide +kernel) rfl (fun w0 => ev_nilCheck rfl) rfl rfl (Sub.refl _) ?_
  refine mx (i := 2) rfl (by decide +kernel) (by decide +kernel) (by decide +kernel) rfl (fun w0 => ld_mem1 (h := 21) ty50 rfl rfl rfl (Nat.zero_add _).symm rfl) rfl rfl (Sub.refl _) ?_
  refine mx (i := 3) rfl (by decide +kernel) (by decide +kernel) (by decide +kernel) rfl (fun w0 => ev_move rfl) rfl rfl (Sub.refl _) ?_
  refine mx (i := 4) rfl (by decide +kernel) (by decide +kernel) (by decide +kernel) rfl (fun w0 => ev_indexAddr_rd (h := 20) (n := l.length) Try.underlying50 ty57 rfl rfl rfl (Bs.wflat_len l) (by decide) (by omega) (by omega)) rfl rfl (Sub.refl _) ?_
  refine mx (i := 5) rfl (by decide +kernel) (by decide +kernel) (by decide +kernel) rfl (fun w0 => ld_rd (k := (i : Int).toNat * 3) (h := 20) ty57 rfl rfl rfl (by decide) (by rw [Bs.wflat_len]; omega)) rfl rfl (Sub.refl _) ?_
  refine at_eq (i := 12) (v' := .agg (List.toArray [.int .i64 (l.getD i Bs.w0).id, (l.getD i Bs.w0).dv, .int .i64 (l.getD i Bs.w0).came])) rfl (congrArg (fun x => Value.agg (List.toArray x)) (by rw [show ((i : Nat) : Int).toNat = i by omega]; exact Bs.wflat_get (by omega))) ?_
  refine mx (i := 6) rfl (by decide +kernel) (by decide +kernel) (by decide +kernel) rfl (fun w0 => ev_move rfl) rfl rfl (Sub.refl _) ?_
  refine mx (i := 7) rfl (by decide +kernel) (by decide +kernel) (by decide +kernel) rfl (fun w0 => ev_nilCheck rfl) rfl rfl (Sub.refl _) ?_
  refine mx (i := 8) rfl (by decide +kernel) (by decide +kernel) (by decide +kernel) rfl (fun w0 => ld_mem1 (h := 21) ty50 rfl rfl rfl (Nat.zero_add _).symm rfl) rfl rfl (Sub.refl _) ?_
  refine mx (i := 9) rfl (by decide +kernel) (by decide +kernel) (by decide +kernel) rfl (fun w0 => ev_move rfl) rfl rfl (Sub.refl _) ?_
  refine mx (i := 10) rfl (by decide +kernel) (by decide +kernel) (by decide +kernel) rfl (fun w0 => ev_indexAddr_rd (h := 20) (n := l.length) Try.underlying50 ty57 rfl rfl rfl (Bs.wflat_len l) (by decide) (by omega) (by omega)) rfl rfl (Sub.refl _) ?_
  refine mx (i := 11) rfl (by decide +kernel) (by decide +kernel) (by decide +kernel) rfl (fun w0 => ld_rd (k := (k : Int).toNat * 3) (h := 20) ty57 rfl rfl rfl (by decide) (by rw [Bs.wflat_len]; omega)) rfl rfl (Sub.refl _) ?_
  refine at_eq (i := 18) (v' := .agg (List.toArray [.int .i64 (l.getD k Bs.w0).id, (l.getD k Bs.w0).dv, .int .i64 (l.getD k Bs.w0).came])) rfl (congrArg (fun x => Value.agg (List.toArray x)) (by rw [show ((k : Nat) : Int).toNat = k by omega]; exact Bs.wflat_get (by omega))) ?_
  refine mx_one (i := 12) (by decide +kernel) (Sub.refl _) ?_
  refine wo (i := 12) rfl ?_
  refine st_callv has24 rfl (fun w1 sw => before_any (l.getD i Bs.w0) (l.getD k Bs.w0) w1 (ho _ (Bs.getD_mem hi)) (ho _ (Bs.getD_mem hk))) rfl rfl ?_
  refine op_nil ?_
  refine ax_then ?_
  refine mx (i := 13) rfl (by decide +kernel) (by decide +kernel) (by decide +kernel) rfl (fun w0 => ev_assign rfl) rfl rfl (Sub.refl _) ?_
  refine mx_done (by decide +kernel) (Sub.refl _) ?_
  refine ax_then ?_
  refine At.regs (L' := [(6, _)]) (.cons rfl (.nil _)) ?_
  refine cd_ret ?_
  refine rt_tmp (.inl rfl) Try.results64 rfl ?_
  exact fun w1 sw => ⟨rfl, sw.gives (.nil _)⟩
set_option maxRecDepth 20000 in
set_option maxHeartbeats 1000000 in
theorem qswap_lit (b bq qc : Nat) (c : Value) (l : List Bs.W) (i k : Nat) (w : World) (hi : i < l.length) (hk : k < l.length) (ho : ∀ x, x ∈ l → x.dv.oneCell' = true) (hb : w.heap[b]? = some (.cells (List.toArray [(.slice (some ⟨bq, 0, none⟩) l.length qc), c]) 52)) (hv : Own w (.slice (some ⟨bq, 0, none⟩) l.length qc) 57 3 (Bs.wflat l)) (hbv : b ∉ blkOf (.slice (some ⟨bq, 0, none⟩) l.length qc)) : Calls Try.prog 67 #[.pointer (some ⟨b, 0, none⟩), .int .i64 (i : Nat), .int .i64 (k : Nat)] w (Post (ι := Unit) w (b :: blkOf (.slice (some ⟨bq, 0, none⟩) l.length qc)) (fun _ => True) (fun _ => .tuple #[]) (fun _ => [(0, .blk (b) (.cells ([(.slice (some ⟨bq, 0, none⟩) l.length qc), c]).toArray 52)), (1, .own ((.slice (some ⟨bq, 0, none⟩) l.length qc)) 57 3 (Bs.wflat (Bs.swapS l i k)))])) := by
  refine calls_at (vs := [.pointer (some ⟨b, 0, none⟩), .int .i64 (i : Nat), .int .i64 (k : Nat)]) (X := b :: blkOf (.slice (some ⟨bq, 0, none⟩) l.length qc)) (H := [(0, .blk (b) (.cells ([(.slice (some ⟨bq, 0, none⟩) l.length qc), c]).toArray 52)), (1, .own ((.slice (some ⟨bq, 0, none⟩) l.length qc)) 57 3 (Bs.wflat (l)))]) (F := []) 28 Try.func67 rfl rfl rfl (Sat.two 0 1 (by decide) hb hv hbv) ?_
  refine cd_mixp [(300, .mem b 0 [(.slice (some ⟨bq, 0, none⟩) l.length qc), c])] hmix ?_
  refine mxp (i := 0) rfl (by decide +kernel) (by decide +kernel) (by decide +kernel) rfl (fun w0 => ev_move rfl) rfl rfl (fun w sw => CF.cons (lies_blk (sw.blk_eq (h := 0) rfl)) (sw.cf (.nil _))) ?_
  refine mxp (i := 1) rfl (by decide +kernel) (by decide +kernel) (by decide +kernel) rfl (fun w0 => ev_nilCheck rfl) rfl rfl (fun w sw => CF.cons (lies_blk (sw.blk_eq (h := 0) rfl)) (sw.cf (.nil _))) ?_
  refine mxp (i := 2) rfl (by decide +kernel) (by decide +kernel) (by decide +kernel) rfl (fun w0 => ld_mem1 (h := 300) ty50 rfl rfl rfl (Nat.zero_add _).symm rfl) rfl rfl (fun w sw => CF.cons (lies_blk (sw.blk_eq (h := 0) rfl)) (sw.cf (.nil _))) ?_
  refine mxp (i := 3) rfl (by decide +kernel) (by decide +kernel) (by decide +kernel) rfl (fun w0 => ev_move rfl) rfl rfl (fun w sw => CF.cons (lies_blk (sw.blk_eq (h := 0) rfl)) (sw.cf (.nil _))) ?_
  refine mxp (i := 4) rfl (by decide +kernel) (by decide +kernel) (by decide +kernel) rfl (fun w0 => ev_move rfl) rfl rfl (fun w sw => CF.cons (lies_blk (sw.blk_eq (h := 0) rfl)) (sw.cf (.nil _))) ?_
  refine mxp (i := 5) rfl (by decide +kernel) (by decide +kernel) (by decide +kernel) rfl (fun w0 => ev_nilCheck rfl) rfl rfl (fun w sw => CF.cons (lies_blk (sw.blk_eq (h := 0) rfl)) (sw.cf (.nil _))) ?_
  refine mxp (i := 6) rfl (by decide +kernel) (by decide +kernel) (by decide +kernel) rfl (fun w0 => ld_mem1 (h := 300) ty50 rfl rfl rfl (Nat.zero_add _).symm rfl) rfl rfl (fun w sw => CF.cons (lies_blk (sw.blk_eq (h := 0) rfl)) (sw.cf (.nil _))) ?_
  refine mxp (i := 7) rfl (by decide +kernel) (by decide +kernel) (by decide +kernel) rfl (fun w0 => ev_move rfl) rfl rfl (fun w sw => CF.cons (lies_blk (sw.blk_eq (h := 0) rfl)) (sw.cf (.nil _))) ?_
  refine mxp (i := 8) rfl (by decide +kernel) (by decide +kernel) (by decide +kernel) rfl (fun w0 => ev_move rfl) rfl rfl (fun w sw => CF.cons (lies_blk (sw.blk_eq (h := 0) rfl)) (sw.cf (.nil _))) ?_
  refine mxp (i := 9) rfl (by decide +kernel) (by decide +kernel) (by decide +kernel) rfl (fun w0 => ev_nilCheck rfl) rfl rfl (fun w sw => CF.cons (lies_blk (sw.blk_eq (h := 0) rfl)) (sw.cf (.nil _))) ?_
  refine mxp (i := 10) rfl (by decide +kernel) (by decide +kernel) (by decide +kernel) rfl (fun w0 => ld_mem1 (h := 300) ty50 rfl rfl rfl (Nat.zero_add _).symm rfl) rfl rfl (fun w sw => CF.cons (lies_blk (sw.blk_eq (h := 0) rfl)) (sw.cf (.nil _))) ?_
  refine mxp (i := 11) rfl (by decide +kernel) (by decide +kernel) (by decide +kernel) rfl (fun w0 => ev_move rfl) rfl rfl (fun w sw => CF.cons (lies_blk (sw.blk_eq (h := 0) rfl)) (sw.cf (.nil _))) ?_
  refine mxp (i := 12) rfl (by decide +kernel) (by decide +kernel) (by decide +kernel) rfl (fun w0 => ev_indexAddr_sl Try.underlying50 ty57 rfl rfl (by omega) (by omega)) rfl rfl (fun w sw => CF.cons (lies_blk (sw.blk_eq (h := 0) rfl)) (sw.cf (.nil _))) ?_
  refine mxp (i := 14) rfl (by decide +kernel) (by decide +kernel) (by decide +kernel) rfl (fun w0 => ev_move rfl) rfl rfl (fun w sw => CF.cons (lies_blk (sw.blk_eq (h := 0) rfl)) (sw.cf (.nil _))) ?_
  refine mxp (i := 15) rfl (by decide +kernel) (by decide +kernel) (by decide +kernel) rfl (fun w0 => ev_nilCheck rfl) rfl rfl (fun w sw => CF.cons (lies_blk (sw.blk_eq (h := 0) rfl)) (sw.cf (.nil _))) ?_
  refine mxp (i := 16) rfl (by decide +kernel) (by decide +kernel) (by decide +kernel) rfl (fun w0 => ld_mem1 (h := 300) ty50 rfl rfl rfl (Nat.zero_add _).symm rfl) rfl rfl (fun w sw => CF.cons (lies_blk (sw.blk_eq (h := 0) rfl)) (sw.cf (.nil _))) ?_
  refine mxp (i := 17) rfl (by decide +kernel) (by decide +kernel) (by decide +kernel) rfl (fun w0 => ev_move rfl) rfl rfl (fun w sw => CF.cons (lies_blk (sw.blk_eq (h := 0) rfl)) (sw.cf (.nil _))) ?_
  refine mxp (i := 18) rfl (by decide +kernel) (by decide +kernel) (by decide +kernel) rfl (fun w0 => ev_indexAddr_sl Try.underlying50 ty57 rfl rfl (by omega) (by omega)) rfl rfl (fun w sw => CF.cons (lies_blk (sw.blk_eq (h := 0) rfl)) (sw.cf (.nil _))) ?_
  refine mxp_two (i := 13) (j := 19) (by decide +kernel) (fun w sw => CF.cons (lies_blk (sw.blk_eq (h := 0) rfl)) (sw.cf (.nil _))) ?_ ?_
  ·
    refine wo (i := 13) rfl ?_
    refine st (ld_own (v := (.slice (some ⟨bq, 0, none⟩) l.length qc)) (k := (k : Int).toNat * 3) (h := 1) ty57 rfl rfl rfl (by decide) (by rw [Bs.wflat_len]; omega)) rfl rfl rfl ?_
    refine at_eq (i := 19) (v' := .agg (List.toArray [.int .i64 (l.getD k Bs.w0).id, (l.getD k Bs.w0).dv, .int .i64 (l.getD k Bs.w0).came])) rfl (congrArg (fun x => Value.agg (List.toArray x)) (by rw [show ((k : Nat) : Int).toNat = k by omega]; exact Bs.wflat_get (by omega))) ?_
    refine op_nil ?_
    refine ax_then ?_
    refine mxp_one (i := 19) (by decide +kernel) (fun w sw => CF.cons (lies_blk (sw.blk_eq (h := 0) rfl)) (sw.cf (.nil _))) ?_
    refine wo (i := 19) rfl ?_
    refine st (ld_own (v := (.slice (some ⟨bq, 0, none⟩) l.length qc)) (k := (i : Int).toNat * 3) (h := 1) ty57 rfl rfl rfl (by decide) (by rw [Bs.wflat_len]; omega)) rfl rfl rfl ?_
    refine at_eq (i := 25) (v' := .agg (List.toArray [.int .i64 (l.getD i Bs.w0).id, (l.getD i Bs.w0).dv, .int .i64 (l.getD i Bs.w0).came])) rfl (congrArg (fun x => Value.agg (List.toArray x)) (by rw [show ((i : Nat) : Int).toNat = i by omega]; exact Bs.wflat_get (by omega))) ?_
    refine op_nil ?_
    refine ax_then ?_
    refine mxp (i := 20) rfl (by decide +kernel) (by decide +kernel) (by decide +kernel) rfl (fun w0 => ev_indexAddr_sl Try.underlying50 ty57 rfl rfl (by omega) (by omega)) rfl rfl (fun w sw => CF.cons (lies_blk (sw.blk_eq (h := 0) rfl)) (sw.cf (.nil _))) ?_
    refine mxp_one (i := 21) (by decide +kernel) (fun w sw => CF.cons (lies_blk (sw.blk_eq (h := 0) rfl)) (sw.cf (.nil _))) ?_
    refine wo (i := 21) rfl ?_
    refine st_store_own (v0 := (.slice (some ⟨bq, 0, none⟩) l.length qc)) (ki := (i : Int).toNat * 3) (vl := Bs.wcells (l.getD k Bs.w0)) 1 ty57 rfl rfl rfl rfl rfl (Bs.wcells_one (ho _ (Bs.getD_mem (by omega)))) (by simp only [Bs.wflat_len, List.length_set]; omega) (by decide) rfl ?_
    refine at_heq (i := 1) (v' := .own ((.slice (some ⟨bq, 0, none⟩) l.length qc)) 57 3 (Bs.wflat (l.set i (l.getD k Bs.w0)))) rfl (congrArg (Ent.own (.slice (some ⟨bq, 0, none⟩) l.length qc) 57 3) (by rw [show ((i : Nat) : Int).toNat = i by omega]; exact Bs.wflat_set (by first | omega | (simp only [List.length_set]; omega)) _)) ?_
    refine op_nil ?_
    refine ax_then ?_
    refine mxp (i := 22) rfl (by decide +kernel) (by decide +kernel) (by decide +kernel) rfl (fun w0 => ev_indexAddr_sl Try.underlying50 ty57 rfl rfl (by omega) (by omega)) rfl rfl (fun w sw => CF.cons (lies_blk (sw.blk_eq (h := 0) rfl)) (sw.cf (.nil _))) ?_
    refine mxp_one (i := 23) (by decide +kernel) (fun w sw => CF.cons (lies_blk (sw.blk_eq (h := 0) rfl)) (sw.cf (.nil _))) ?_
    refine wo (i := 23) rfl ?_
    refine st_store_own (v0 := (.slice (some ⟨bq, 0, none⟩) l.length qc)) (ki := (k : Int).toNat * 3) (vl := Bs.wcells (l.getD i Bs.w0)) 1 ty57 rfl rfl rfl rfl rfl (Bs.wcells_one (ho _ (Bs.getD_mem (by omega)))) (by simp only [Bs.wflat_len, List.length_set]; omega) (by decide) rfl ?_
    refine at_heq (i := 1) (v' := .own ((.slice (some ⟨bq, 0, none⟩) l.length qc)) 57 3 (Bs.wflat (Bs.swapS l i k))) rfl (congrArg (Ent.own (.slice (some ⟨bq, 0, none⟩) l.length qc) 57 3) (by rw [show ((k : Nat) : Int).toNat = k by omega]; exact Bs.wflat_set (by first | omega | (simp only [List.length_set]; omega)) _)) ?_
    refine op_nil ?_
    refine ax_then ?_
    refine mxp_done (by decide +kernel) (fun w sw => CF.cons (lies_blk (sw.blk_eq (h := 0) rfl)) (sw.cf (.nil _))) ?_
    refine rt_none (.inr rfl) Try.results67 ?_
    exact fun w1 sw => ⟨(), trivial, rfl, sw.gives (N := [(0, _), (1, _)]) (.cons rfl (.cons rfl (.nil _)))⟩
  ·
    refine wo (i := 19) rfl ?_
    refine st (ld_own (v := (.slice (some ⟨bq, 0, none⟩) l.length qc)) (k := (i : Int).toNat * 3) (h := 1) ty57 rfl rfl rfl (by decide) (by rw [Bs.wflat_len]; omega)) rfl rfl rfl ?_
    refine at_eq (i := 25) (v' := .agg (List.toArray [.int .i64 (l.getD i Bs.w0).id, (l.getD i Bs.w0).dv, .int .i64 (l.getD i Bs.w0).came])) rfl (congrArg (fun x => Value.agg (List.toArray x)) (by rw [show ((i : Nat) : Int).toNat = i by omega]; exact Bs.wflat_get (by omega))) ?_
    refine op_nil ?_
    refine ax_then ?_
    refine mxp_one (i := 13) (by decide +kernel) (fun w sw => CF.cons (lies_blk (sw.blk_eq (h := 0) rfl)) (sw.cf (.nil _))) ?_
    refine wo (i := 13) rfl ?_
    refine st (ld_own (v := (.slice (some ⟨bq, 0, none⟩) l.length qc)) (k := (k : Int).toNat * 3) (h := 1) ty57 rfl rfl rfl (by decide) (by rw [Bs.wflat_len]; omega)) rfl rfl rfl ?_
    refine at_eq (i := 19) (v' := .agg (List.toArray [.int .i64 (l.getD k Bs.w0).id, (l.getD k Bs.w0).dv, .int .i64 (l.getD k Bs.w0).came])) rfl (congrArg (fun x => Value.agg (List.toArray x)) (by rw [show ((k : Nat) : Int).toNat = k by omega]; exact Bs.wflat_get (by omega))) ?_
    refine op_nil ?_
    refine ax_then ?_
    refine mxp (i := 20) rfl (by decide +kernel) (by decide +kernel) (by decide +kernel) rfl (fun w0 => ev_indexAddr_sl Try.underlying50 ty57 rfl rfl (by omega) (by omega)) rfl rfl (fun w sw => CF.cons (lies_blk (sw.blk_eq (h := 0) rfl)) (sw.cf (.nil _))) ?_
    refine mxp_one (i := 21) (by decide +kernel) (fun w sw => CF.cons (lies_blk (sw.blk_eq (h := 0) rfl)) (sw.cf (.nil _))) ?_
    refine wo (i := 21) rfl ?_
    refine st_store_own (v0 := (.slice (some ⟨bq, 0, none⟩) l.length qc)) (ki := (i : Int).toNat * 3) (vl := Bs.wcells (l.getD k Bs.w0)) 1 ty57 rfl rfl rfl rfl rfl (Bs.wcells_one (ho _ (Bs.getD_mem (by omega)))) (by simp only [Bs.wflat_len, List.length_set]; omega) (by decide) rfl ?_
    refine at_heq (i := 1) (v' := .own ((.slice (some ⟨bq, 0, none⟩) l.length qc)) 57 3 (Bs.wflat (l.set i (l.getD k Bs.w0)))) rfl (congrArg (Ent.own (.slice (some ⟨bq, 0, none⟩) l.length qc) 57 3) (by rw [show ((i : Nat) : Int).toNat = i by omega]; exact Bs.wflat_set (by first | omega | (simp only [List.length_set]; omega)) _)) ?_
    refine op_nil ?_
    refine ax_then ?_
    refine mxp (i := 22) rfl (by decide +kernel) (by decide +kernel) (by decide +kernel) rfl (fun w0 => ev_indexAddr_sl Try.underlying50 ty57 rfl rfl (by omega) (by omega)) rfl rfl (fun w sw => CF.cons (lies_blk (sw.blk_eq (h := 0) rfl)) (sw.cf (.nil _))) ?_
    refine mxp_one (i := 23) (by decide +kernel) (fun w sw => CF.cons (lies_blk (sw.blk_eq (h := 0) rfl)) (sw.cf (.nil _))) ?_
    refine wo (i := 23) rfl ?_
    refine st_store_own (v0 := (.slice (some ⟨bq, 0, none⟩) l.length qc)) (ki := (k : Int).toNat * 3) (vl := Bs.wcells (l.getD i Bs.w0)) 1 ty57 rfl rfl rfl rfl rfl (Bs.wcells_one (ho _ (Bs.getD_mem (by omega)))) (by simp only [Bs.wflat_len, List.length_set]; omega) (by decide) rfl ?_
    refine at_heq (i := 1) (v' := .own ((.slice (some ⟨bq, 0, none⟩) l.length qc)) 57 3 (Bs.wflat (Bs.swapS l i k))) rfl (congrArg (Ent.own (.slice (some ⟨bq, 0, none⟩) l.length qc) 57 3) (by rw [show ((k : Nat) : Int).toNat = k by omega]; exact Bs.wflat_set (by first | omega | (simp only [List.length_set]; omega)) _)) ?_
    refine op_nil ?_
    refine ax_then ?_
    refine mxp_done (by decide +kernel) (fun w sw => CF.cons (lies_blk (sw.blk_eq (h := 0) rfl)) (sw.cf (.nil _))) ?_
    refine rt_none (.inr rfl) Try.results67 ?_
    exact fun w1 sw => ⟨(), trivial, rfl, sw.gives (N := [(0, _), (1, _)]) (.cons rfl (.cons rfl (.nil _)))⟩
theorem own_lit {w : World} {qv : Value} {l : List Bs.W} (hv : Own w qv 57 3 (Bs.wflat l)) (h : 0 < l.length) : ∃ bq qc, qv = .slice (some ⟨bq, 0, none⟩) l.length qc := by
  have hl := Bs.wflat_len l
  rcases hv with ⟨_, h2⟩ | ⟨b, len, cap, junk, rfl, h2, _⟩
  · rw [h2] at hl; simp at hl; omega
  · have : len = l.length := by omega
    subst this
    exact ⟨b, cap, rfl⟩
theorem qswap_any (b : Nat) (qv c : Value) (l : List Bs.W) (i k : Nat) (w : World) (hi : i < l.length) (hk : k < l.length) (ho : ∀ x, x ∈ l → x.dv.oneCell' = true) (hb : w.heap[b]? = some (.cells (List.toArray [qv, c]) 52)) (hv : Own w qv 57 3 (Bs.wflat l)) (hbv : b ∉ blkOf qv) : Calls Try.prog 67 #[.pointer (some ⟨b, 0, none⟩), .int .i64 (i : Nat), .int .i64 (k : Nat)] w (Post (ι := Unit) w (b :: blkOf qv) (fun _ => True) (fun _ => .tuple #[]) (fun _ => [(0, .blk (b) (.cells ([qv, c]).toArray 52)), (1, .own (qv) 57 3 (Bs.wflat (Bs.swapS l i k)))])) := by
  obtain ⟨bq, qc, rfl⟩ := own_lit hv (by omega)
  exact qswap_lit b bq qc c l i k w hi hk ho hb hv hbv
end Go.Proofs.Ytfddplpljjlgiaa

namespace Go.Proofs.Ytfddplpljjlgiaa.Bs
open Go Fw Go.Proofs.Ytfddplpljjlgiaa
set_option linter.unusedSimpArgs false
set_option linter.unusedVariables false
theorem par (i : Nat) (hi : i ≤ 1000000) : IntKind.i64.wrap (((i : Int) - 1).tdiv 2) = (((i - 1) / 2 : Nat) : Int) := by
  by_cases h : i = 0
  · subst h; decide
  · have e : ((i : Int) - 1).tdiv 2 = (((i - 1) / 2 : Nat) : Int) := by
      rw [Int.tdiv_eq_ediv_of_nonneg (by omega)]
      omega
    rw [e]
    exact Fw.wrap64_id (by omega) (by omega)
/-- the way up: by fuel -/
def upF : Nat → List W → Nat → List W
  | 0, l, _ => l
  | f + 1, l, j => if j = 0 ∨ ¬ bef (l.getD j w0) (l.getD ((j - 1) / 2) w0) then l else upF f (swapS l ((j - 1) / 2) j) ((j - 1) / 2)
theorem upF_more : ∀ (f g : Nat) (l : List W) (j : Nat), j < f → j < g → upF f l j = upF g l j
  | 0, _, _, _, h, _ => absurd h (Nat.not_lt_zero _)
  | _ + 1, 0, _, _, _, h => absurd h (Nat.not_lt_zero _)
  | f + 1, g + 1, l, j, h1, h2 => by
    rw [upF, upF]
    split
    · rfl
    · next h =>
      have hj : j ≠ 0 := fun hc => h (.inl hc)
      exact upF_more f g _ _ (by omega) (by omega)
def upS (l : List W) (j : Nat) : List W := upF (j + 1) l j
theorem upS_stop {l : List W} {j : Nat} (h : j = 0 ∨ ¬ bef (l.getD j w0) (l.getD ((j - 1) / 2) w0)) : upS l j = l := by
  rw [upS, upF, if_pos h]
theorem upS_step {l : List W} {j : Nat} (h0 : j ≠ 0) (hb : bef (l.getD j w0) (l.getD ((j - 1) / 2) w0)) : upS l j = upS (swapS l ((j - 1) / 2) j) ((j - 1) / 2) := by
  rw [upS, upF, if_neg (fun h => h.elim h0 (fun h => h hb)), upS]
  exact upF_more _ _ _ _ (by omega) (by omega)
/-- the lesser one below -/
def child (l : List W) (i n : Nat) : Nat := if 2 * i + 1 + 1 < n ∧ bef (l.getD (2 * i + 1 + 1) w0) (l.getD (2 * i + 1) w0) then 2 * i + 1 + 1 else 2 * i + 1
theorem child_gt (l : List W) (i n : Nat) : i < child l i n := by unfold child; split <;> omega
theorem child_lt {l : List W} {i n : Nat} (h : 2 * i + 1 < n) : child l i n < n := by
  unfold child
  split
  · next hh => exact hh.1
  · exact h
def downF : Nat → List W → Nat → Nat → List W
  | 0, l, _, _ => l
  | f + 1, l, i, n => if n ≤ 2 * i + 1 ∨ ¬ bef (l.getD (child l i n) w0) (l.getD i w0) then l else downF f (swapS l i (child l i n)) (child l i n) n
theorem downF_more : ∀ (f g : Nat) (l : List W) (i n : Nat), n - i < f → n - i < g → downF f l i n = downF g l i n
  | 0, _, _, _, _, h, _ => absurd h (Nat.not_lt_zero _)
  | _ + 1, 0, _, _, _, _, h => absurd h (Nat.not_lt_zero _)
  | f + 1, g + 1, l, i, n, h1, h2 => by
    rw [downF, downF]
    split
    · rfl
    · next h =>
      have hn : 2 * i + 1 < n := by
        apply Classical.byContradiction
        intro hc
        exact h (.inl (by omega))
      have h3 := child_gt l i n
      have h4 := child_lt (l := l) hn
      exact downF_more f g _ _ _ (by omega) (by omega)
def downS (l : List W) (i n : Nat) : List W := downF (n - i + 1) l i n
theorem downS_stop {l : List W} {i n : Nat} (h : n ≤ 2 * i + 1 ∨ ¬ bef (l.getD (child l i n) w0) (l.getD i w0)) : downS l i n = l := by
  rw [downS, downF, if_pos h]
theorem downS_step {l : List W} {i n : Nat} (hn : 2 * i + 1 < n) (hb : bef (l.getD (child l i n) w0) (l.getD i w0)) : downS l i n = downS (swapS l i (child l i n)) (child l i n) n := by
  have h3 := child_gt l i n
  have h4 := child_lt (l := l) hn
  rw [downS, downF, if_neg (fun h => h.elim (fun h => by omega) (fun h => h hb)), downS]
  exact downF_more _ _ _ _ _ (by omega) (by omega)
theorem swapS_one {l : List W} (h : ∀ x, x ∈ l → x.dv.oneCell' = true) {i k : Nat} (hi : i < l.length) (hk : k < l.length) : ∀ x, x ∈ swapS l i k → x.dv.oneCell' = true := fun x hx => by
  rcases List.mem_or_eq_of_mem_set hx with hx | rfl
  · rcases List.mem_or_eq_of_mem_set hx with hx | rfl
    · exact h x hx
    · exact h _ (getD_mem hk)
  · exact h _ (getD_mem hi)
theorem downF_len : ∀ (f : Nat) (l : List W) (i n : Nat), (downF f l i n).length = l.length
  | 0, _, _, _ => rfl
  | f + 1, l, i, n => by
    rw [downF]
    split
    · rfl
    · rw [downF_len f, swapS_len]
theorem downS_len (l : List W) (i n : Nat) : (downS l i n).length = l.length := downF_len _ _ _ _
theorem downF_one : ∀ (f : Nat) {l : List W} (h : ∀ x, x ∈ l → x.dv.oneCell' = true) (i n : Nat), n ≤ l.length → ∀ x, x ∈ downF f l i n → x.dv.oneCell' = true
  | 0, _, h, _, _, _ => h
  | f + 1, l, h, i, n, hn => by
    rw [downF]
    split
    · exact h
    · next hh =>
      have hlt : 2 * i + 1 < n := by
        apply Classical.byContradiction
        intro hc
        exact hh (.inl (by omega))
      have h3 := child_gt l i n
      have h4 := child_lt (l := l) hlt
      exact downF_one f (swapS_one h (by omega) (by omega)) _ n (by rw [swapS_len]; exact hn)
theorem downS_one {l : List W} (h : ∀ x, x ∈ l → x.dv.oneCell' = true) (i n : Nat) (hn : n ≤ l.length) : ∀ x, x ∈ downS l i n → x.dv.oneCell' = true := downF_one _ h i n hn
end Go.Proofs.Ytfddplpljjlgiaa.Bs

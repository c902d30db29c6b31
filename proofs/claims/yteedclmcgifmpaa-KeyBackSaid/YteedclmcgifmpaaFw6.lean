/- Regions whose order is open; arrays compared; copy; calls; a function's begin and end. -/
import Derived.Test.YteedclmcgifmpaaFw5
namespace Go.Proofs.Yteedclmcgifmpaa.Fw
open Go Go.RowKit

/-! ### Regions that draw their order -/
section
variable {P : Program} {ops : Array Oper} {md : Region.Mode} {C : World → Prop}

def wpAnyLQ (P : Program) (md : Region.Mode) (ops : Array Oper) (C : World → Prop) (n : Nat) (L : Array Bool → Act → Prop) : Nat → Array Bool → Act → Prop
  | 0, listed, a => L listed a
  | f + 1, listed, a =>
    Region.ready md ops listed ≠ [] ∧ ∀ i ∈ Region.ready md ops listed, i < n ∧ qOp P ops C i (wpAnyLQ P md ops C n L f (listed.setIfInBounds i true)) a

theorem wpAny_of_headQ {n g : Nat} {L : Array Bool → Act → Prop} {Q' : Exit → Act → World → Prop} (hL : ∀ listed a w, C w → L listed a → wpAny P md ops Q' g listed a w) :
    ∀ (f : Nat) (listed : Array Bool) (a : Act) (w : World), C w → wpAnyLQ P md ops C n L f listed a → wpAny P md ops Q' (f + g) listed a w
  | 0, listed, a, w, hw, h => by rw [Nat.zero_add]; exact hL _ _ _ hw h
  | f + 1, listed, a, w, hw, h => by
    rw [show f + 1 + g = (f + g) + 1 by omega]
    exact ⟨fun h0 => absurd h0 h.1, fun i hi => wpOp_of_qOp hw (fun a' w' hw' h' => wpAny_of_headQ hL f _ a' w' hw' h') (h.2 i hi).2⟩

theorem wpAnyLQ_first {n i : Nat} {oi : Oper} {v : Value} {L : Array Bool → Act → Prop} (hi : ops[i]? = some oi) (hsel : ∀ (j : Nat) (o : Oper) cs b, ops[j]? = some o → o.op ≠ .select cs b)
    (hs : Region.sinkB md ops n = true) (hc : Region.chainB md ops n = true) (hn : n < ops.size) (hin : i < n)
    (hdone : ∀ listed a, L listed a → ∀ j ∈ Region.ready md ops listed, n ≤ j) :
    ∀ (f : Nat) (listed : Array Bool) (a : Act), HeadInv md ops n listed →
      (∀ j oj, ops[j]? = some oj → j ≠ i → listed.getD j true = false → (∀ e ∈ oj.after, Region.binds md e = true → e.on ≠ i) → oi.apart ops oj = true) →
      i ∈ Region.ready md ops listed → YieldsIn P ops C oi v a →
      wpAnyLQ P md ops C n L f (listed.setIfInBounds i true) (a.put oi.dst v) → wpAnyLQ P md ops C n L (f + 1) listed a := by
  intro f
  induction f with
  | zero =>
    intro listed a inv _ hr hy H
    have hun := (mem_ready.1 hr).1
    refine ⟨fun h => (by rw [h] at hr; cases hr), fun j hj => ?_⟩
    have hjn : j < n := by
      rcases Nat.lt_or_ge j n with h | h
      · exact h
      · exact absurd hj (tail_waits hs hc hn inv _ i rfl hin hun j h)
    refine ⟨hjn, ?_⟩
    by_cases hji : j = i
    · subst hji; exact hy.qOp hi H
    · have := hdone _ _ H j (ready_mono hj hji)
      omega
  | succ f ih =>
    intro listed a inv hfree hr hy H
    have hun := (mem_ready.1 hr).1
    refine ⟨fun h => (by rw [h] at hr; cases hr), fun j hj => ?_⟩
    have hjn : j < n := by
      rcases Nat.lt_or_ge j n with h | h
      · exact h
      · exact absurd hj (tail_waits hs hc hn inv _ i rfl hin hun j h)
    refine ⟨hjn, ?_⟩
    by_cases hji : j = i
    · subst hji; exact hy.qOp hi H
    · have h1 := (H.2 j (ready_mono hj hji)).2
      obtain ⟨hjun, oj, hoj, hall⟩ := mem_ready.1 hj
      have hnot : ∀ e ∈ oj.after, Region.binds md e = true → e.on ≠ i := fun e he hb heq => by
        have h1 := hall e he hb
        rw [heq, getD_both hun] at h1
        cases h1
      have h2 := qOp_put hoj (hfree j oj hoj hji hjun hnot) (fun cs b => hsel i oi cs b hi) (fun cs b => hsel j oj cs b hoj) hy h1
      have hfree' : ∀ k ok, ops[k]? = some ok → k ≠ i → (listed.setIfInBounds j true).getD k true = false →
          (∀ e ∈ ok.after, Region.binds md e = true → e.on ≠ i) → oi.apart ops ok = true := fun k ok hk hki hun hno => by
        refine hfree k ok hk hki ?_ hno
        by_cases hjk : j = k
        · subst hjk; exact hjun
        · rw [getD_set_ne true hjk] at hun; exact hun
      refine qOp_mono (fun a' h3 => ih (listed.setIfInBounds j true) a' (inv.set hj hjn) hfree' (ready_mono hr (Ne.symm hji)) h3.1 ?_) h2
      rw [Array.setIfInBounds_comm _ _ hji]
      exact h3.2

theorem wpAnyLQ_lex {n g : Nat} {Lq : Act → Prop} (hsel : Region.noSelect ops = true) (hs : Region.sinkB md ops n = true) (hc : Region.chainB md ops n = true) (hn : n < ops.size) :
    ∀ (l : List Oper) (k : Nat) (listed : Array Bool) (a : Act), (∀ j, j < l.length → l[j]? = ops[k + j]?) → k + l.length = n → HeadInv md ops n listed →
    Region.lexHead md ops g l.length k listed = true → wpQuiet P ops C Lq l a →
    wpAnyLQ P md ops C n (fun listed' a' => Region.seqB md ops g n listed' = true ∧ Lq a') l.length listed a
  | [], k, listed, a, _, hk, _, hB, h => by
    have : k = n := by simpa using hk
    subst this
    exact ⟨by simpa [Region.lexHead] using hB, h⟩
  | o :: l, k, listed, a, hl, hk, inv, hB, h => by
    have h0 : ops[k]? = some o := by simpa using (hl 0 (by simp)).symm
    simp only [List.length_cons, Region.lexHead, Bool.and_eq_true] at hB
    obtain ⟨⟨hr, hf⟩, hB'⟩ := hB
    have hkn : k < n := by simp only [List.length_cons] at hk; omega
    have hr' : k ∈ Region.ready md ops listed := by simpa using hr
    have hst : qOp P ops C k (wpQuiet P ops C Lq l) a := by unfold qOp; simp only [h0]; exact h
    obtain ⟨v, hy, hK⟩ := yieldsIn_of_qOp h0 hst
    exact wpAnyLQ_first h0 (Region.noSelect_spec hsel) hs hc hn hkn (fun listed' a' hL => seqB_ready hL.1) l.length listed a inv (Region.free_spec h0 hf) hr' hy
      (wpAnyLQ_lex hsel hs hc hn l (k + 1) _ _ (fun j hj => by have := hl (j + 1) (by simp; omega); simpa [Nat.add_assoc, Nat.add_comm 1 j] using this) (by simp only [List.length_cons] at hk; omega) (inv.set hr' hkn) hB' hK)

/-- Some operations that are quiet in a class of worlds, in an order that is open, then others, in theirs. -/
theorem wp_region_quiet_tail {id : Nat} {Q : Exit → Act → World → Prop} {a : Act} {w : World} {l : List Oper} (n : Nat) (hm : P.follows .mixedOrders = true) (hB : Region.lexTailB .any l.toArray n = true) (hC : C { w with drawn := w.drawn + 1 })
    (h : wpQuiet P l.toArray C (fun a' => ∀ w', C w' → wpList P l.toArray Q (l.drop n) a' w') (l.take n) a) : (Code.region id l.toArray true).wp P Q a w := by
  simp only [Region.lexTailB, Bool.and_eq_true, decide_eq_true_eq] at hB
  obtain ⟨⟨⟨⟨hsel, hn⟩, hs⟩, hc⟩, hlex⟩ := hB
  have hn' : n < l.length := by simpa using hn
  have htl : (l.take n).length = n := by simp; omega
  have hdl : (l.drop n).length = l.toArray.size - n := by simp
  have inv0 : HeadInv .any l.toArray n (Array.replicate l.toArray.size false) :=
    ⟨by simp, fun j oj _ hl => (by rw [getD_replicate_false] at hl; cases hl), fun t _ ht => getD_in (by simpa using ht) (getD_replicate_false _ _)⟩
  have H := wpAnyLQ_lex (md := .any) (g := l.toArray.size - n) hsel hs hc hn (l.take n) 0 _ a (fun j hj => by
    have hj' : j < n := by rw [htl] at hj; exact hj
    simp [hj']) (by simpa using htl) inv0 (by rw [htl]; exact hlex) h
  refine wp_region_any hm ?_
  have := wpAny_of_headQ (Q' := Q) (g := l.toArray.size - n) (fun listed a' w' hw' hL => by
    have := wpAny_of_seq (md := .any) (Q' := Q) (l.drop n) n listed a' w' (fun j => by simp [List.getElem?_drop]) (by rw [hdl]; exact hL.1) (hL.2 w' hw')
    rwa [hdl] at this) _ _ _ _ hC H
  rw [htl, show n + (l.toArray.size - n) = l.toArray.size by omega] at this
  exact this
end

/-- The lexical walk of a region whose order is open. -/
def QAt (P : Program) (ops : Array Oper) (K : Act → Prop) (l : List Oper) (E : Env) (L : List (Nat × Value)) (H : List (Nat × Ent)) (F : List (Nat × FE)) : Prop :=
  ∀ a, Fits E.n L a → wpQuiet P ops (Sat E.w0 E.X H F) K l a

/-- What stands behind the quiet operations. -/
def Tail (P : Program) (ops : Array Oper) (Q : Exit → Act → World → Prop) (l : List Oper) (E : Env) (H : List (Nat × Ent)) (F : List (Nat × FE)) (a : Act) : Prop :=
  ∀ w, Sat E.w0 E.X H F w → wpList P ops Q l a w

section
variable {P : Program} {Q : Exit → Act → World → Prop} {ops : Array Oper} {rest : List Oper} {E : Env} {L : List (Nat × Value)} {H : List (Nat × Ent)} {F : List (Nat × FE)}
variable {ty : TypeId} {pos : String} {af : Array Edge} {gd : Option (Nat × Bool)} {K : Act → Prop}

theorem cd_open {id : Nat} {l : List Oper} (hm : P.follows .mixedOrders = true) (hB : Region.lexB .any l.toArray = true) (h : QAt P l.toArray (Tail P l.toArray Q [] E H F) l E L H F) :
    At ((Code.region id l.toArray true).wp P Q) E L H F :=
  fun a _w fa sw => wp_region_quiet (C := Sat E.w0 E.X H F) hm hB (sw.drawn _) (by
    have h' := h a fa
    have e : Tail P l.toArray Q [] E H F = fun a' => ∀ w', Sat E.w0 E.X H F w' → Q .normal a' w' := rfl
    rw [e] at h'
    exact h')

theorem cd_open_tail {id : Nat} {l : List Oper} (n : Nat) (hm : P.follows .mixedOrders = true) (hB : Region.lexTailB .any l.toArray n = true) (h : QAt P l.toArray (Tail P l.toArray Q (l.drop n) E H F) (l.take n) E L H F) :
    At ((Code.region id l.toArray true).wp P Q) E L H F :=
  fun a _w fa sw => wp_region_quiet_tail (C := Sat E.w0 E.X H F) n hm hB (sw.drawn _) (h a fa)

theorem qt {o : Oper} {v : Value} {d : Nat} (he : Ev P o E L H F v) (hg : wants ops L o.guard = some true) (hd : o.dst = some d) (hn : Nat.ble (d + 1) E.n = true)
    (k : QAt P ops K rest E ((d, v) :: L) H F) : QAt P ops K (o :: rest) E L H F := by
  intro a fa
  unfold wpQuiet
  rw [if_pos (wants_eq fa hg)]
  refine ⟨v, fun w hw => ?_, ?_⟩
  · unfold Oper.quietAt
    rw [he a w fa hw]
    exact ⟨rfl, rfl⟩
  · rw [hd]
    exact k _ (fa.put (Nat.le_of_ble_eq_true hn) v)
theorem qt_skip {o : Oper} {d : Nat} (hg : wants ops L o.guard = some false) (hd : o.dst = some d) (hn : Nat.ble (d + 1) E.n = true)
    (k : QAt P ops K rest E ((d, undef) :: L) H F) : QAt P ops K (o :: rest) E L H F := by
  intro a fa
  unfold wpQuiet
  rw [if_neg (by rw [wants_eq fa hg]; simp), hd]
  exact k _ (fa.put (Nat.le_of_ble_eq_true hn) undef)
theorem qt_end {l : List Oper} (h : At (wpList P ops Q l) E L H F) : QAt P ops (Tail P ops Q l E H F) [] E L H F :=
  fun a fa => wpQuiet_nil fun w sw => h a w fa sw
theorem qt_split {c : Bool} {i : Nat} {l : List Oper} (hc : lk L i = some (.bool c)) (h1 : c = true → QAt P ops K l E ((i, .bool true) :: L) H F) (h2 : c = false → QAt P ops K l E ((i, .bool false) :: L) H F) : QAt P ops K l E L H F := by
  intro a fa
  cases c with
  | true => exact h1 rfl a (fa.sub (.cons hc (.refl _)))
  | false => exact h2 rfl a (fa.sub (.cons hc (.refl _)))
theorem qt_split_if {p : Prop} [Decidable p] {i : Nat} {l : List Oper} (hc : lk L i = some (.bool (decide p))) (h1 : p → QAt P ops K l E ((i, .bool true) :: L) H F) (h2 : ¬ p → QAt P ops K l E ((i, .bool false) :: L) H F) : QAt P ops K l E L H F :=
  qt_split hc (fun h => h1 (of_decide_eq_true h)) (fun h => h2 (of_decide_eq_false h))
theorem qt_eq {i : Nat} {v v' : Value} {l : List Oper} (hc : lk L i = some v) (hv : v = v') (h : QAt P ops K l E ((i, v') :: L) H F) : QAt P ops K l E L H F := by
  subst hv
  exact fun a fa => h a (fa.sub (.cons hc (.refl _)))
theorem qt_regs {L' : List (Nat × Value)} {l : List Oper} (hL : Sub L' L) (h : QAt P ops K l E L' H F) : QAt P ops K l E L H F := fun a fa => h a (fa.sub hL)

/-! ### Whatever order is picked, one operation at a time -/
theorem cd_any {id : Nat} {l : List Oper} (hm : P.follows .mixedOrders = true) (h : At (wpAny P .any l.toArray Q l.length (Array.replicate l.length false)) E L H F) : At ((Code.region id l.toArray true).wp P Q) E L H F :=
  fun a w fa sw => wp_region_any hm (by have := h a _ fa (sw.drawn (w.drawn + 1)); simpa using this)
theorem ra_step {f : Nat} {listed : Array Bool} {i : Nat} {rs : List Nat} (hr : Region.ready .any ops listed = i :: rs) (h : ∀ j, j ∈ i :: rs → At (wpOp P ops Q j (wpAny P .any ops Q f (listed.setIfInBounds j true))) E L H F) :
    At (wpAny P .any ops Q (f + 1) listed) E L H F :=
  fun a w fa sw => ⟨fun h0 => by (rw [hr] at h0; cases h0), fun j hj => h j (by rw [hr] at hj; exact hj) a w fa sw⟩
theorem ra_one {f : Nat} {listed : Array Bool} {i : Nat} (hr : Region.ready .any ops listed = [i]) (h : At (wpOp P ops Q i (wpAny P .any ops Q f (listed.setIfInBounds i true))) E L H F) :
    At (wpAny P .any ops Q (f + 1) listed) E L H F := by
  refine ra_step hr fun j hj => ?_
  obtain rfl : j = i := by simpa using hj
  exact h
theorem ra_two {f : Nat} {listed : Array Bool} {i j : Nat} (hr : Region.ready .any ops listed = [i, j]) (h1 : At (wpOp P ops Q i (wpAny P .any ops Q f (listed.setIfInBounds i true))) E L H F)
    (h2 : At (wpOp P ops Q j (wpAny P .any ops Q f (listed.setIfInBounds j true))) E L H F) :
    At (wpAny P .any ops Q (f + 1) listed) E L H F := by
  refine ra_step hr fun k hk => ?_
  rcases List.mem_cons.1 hk with rfl | hk
  · exact h1
  · obtain rfl : k = j := by simpa using hk
    exact h2
theorem ra_done {listed : Array Bool} (hr : Region.ready .any ops listed = []) (h : AtX Q .normal E L H F) : At (wpAny P .any ops Q 0 listed) E L H F :=
  fun a w fa sw => ⟨hr, h a w fa sw⟩
theorem wo {i : Nat} {o : Oper} {K' : Act → World → Prop} (ho : ops[i]? = some o) (h : At (wpList P ops (Exit.then K' Q) [o]) E L H F) : At (wpOp P ops Q i K') E L H F := by
  intro a w fa sw
  have h' := h a w fa sw
  unfold wpOp
  simp only [ho]
  unfold wpList at h'
  split
  · rename_i hw
    rw [if_pos hw] at h'
    rcases h' with h' | h'
    · refine .inl ?_
      unfold Oper.wp at h' ⊢
      generalize (execOp a.eval o).run P w = r at h' ⊢
      cases r with
      | ok n w' => cases n <;> exact h'
      | halt x w' => cases x <;> exact h'
    · exact .inr h'
  · rename_i hw
    rw [if_neg hw] at h'
    exact h'

/-! ### Calls -/
structure Has (P : Program) (f : FuncId) : Prop where
  it : ∃ fn, P.funcs[f]? = some fn ∧ (fn.name == "runtime.NumGoroutine") = false ∧ fn.body.isNone = false

theorem run_callFunc {f : FuncId} (hf : Has P f) (args : Array Value) (w : World) : (callFunc f args).run P w = .ok (.enter f args) w := by
  obtain ⟨fn, h1, h2, h3⟩ := hf.it
  simp only [callFunc, Sem.run_bind, run_program, Result.andThen_ok, h1, h2, h3, Bool.false_eq_true, if_false, Sem.run_pure]

/-- What a call comes to: a value, blocks M written, what is new. -/
def Post {ι : Type} (w : World) (M : List Nat) (Φ : ι → Prop) (v : ι → Value) (N : ι → List (Nat × Ent)) (e : Ending) (w' : World) : Prop :=
  ∃ x, Φ x ∧ e = .returned (v x) ∧ Gives w w' M (N x)
/-- It only answers. -/
def PostV (w : World) (v : Value) (e : Ending) (w' : World) : Prop := e = .returned v ∧ Gives w w' [] []

theorem PostV.of_post {w : World} {v : Value} {ι : Type} {Φ : ι → Prop} {N : ι → List (Nat × Ent)} {e : Ending} {w' : World} (h : Post w [] Φ (fun _ => v) N e w') : PostV w v e w' := by
  obtain ⟨x, _, h1, h2⟩ := h
  exact ⟨h1, h2.tape, h2.os, h2.output, h2.size, h2.old, fun _ _ h => (lk_nil h).elim, fun _ _ h => (lk_nil h).elim, fun _ _ _ _ h => (lk_nil h).elim⟩

theorem run_call {dst : Option Tmp} {f : FuncId} {args : Array Operand} {Ts : Array TypeId} {vs : List Value} (hf : Has P f) (ha : evs L args.toList = some vs) {a : Act} (fa : Fits E.n L a) (w : World) :
    (execOp a.eval ⟨dst, .call { callee := .value (.func f), args := args, argTypes := Ts }, ty, pos, af, gd⟩).run P w = .ok (.enter f vs.toArray) w := by
  have e1 : args.map a.eval = vs.toArray := by rw [← fa.evs ha]; cases args; simp
  simp [execOp, resolve, Deferred.ofValue, Act.eval, e1, invoke, run_callFunc hf]

theorem run_call_fn {dst : Option Tmp} {f : FuncId} {c : Operand} {args : Array Operand} {Ts : Array TypeId} {vs ws : List Value} {vf vc : List Value} (hf : Has P f) (hc : ev L c = some (.func (.func f) vf.toArray vc.toArray)) (ha : evs L args.toList = some vs) (hw : vf ++ vs ++ vc = ws) {a : Act} (fa : Fits E.n L a) (w : World) :
    (execOp a.eval ⟨dst, .call { callee := .value c, args := args, argTypes := Ts }, ty, pos, af, gd⟩).run P w = .ok (.enter f ws.toArray) w := by
  have e1 : args.map a.eval = vs.toArray := by rw [← fa.evs ha]; cases args; simp
  subst hw
  simp [execOp, resolve, Deferred.ofValue, fa.ev hc, e1, invoke, run_callFunc hf]

theorem st_enter {o : Oper} {dst : Nat} {ι : Type} {M : List Nat} {Φ : ι → Prop} {v : ι → Value} {N : ι → List (Nat × Ent)} {f : FuncId} {vs : Array Value} (hd : o.dst = some dst) (hg : wants ops L o.guard = some true) (hn : Nat.ble (dst + 1) E.n = true)
    (hr : ∀ a w, Fits E.n L a → (execOp a.eval o).run P w = .ok (.enter f vs) w) (hc : ∀ w, Sat E.w0 E.X H F w → Calls P f vs w (Post w M Φ v N))
    (hM : ∀ b, b ∈ M → ∃ k e, lk H k = some e ∧ b ∈ e.ids ∧ ∀ x, lk (N x) k ≠ none) (k : ∀ x, Φ x → At (wpList P ops Q rest) E ((dst, v x) :: L) (N x ++ H) F) : At (wpList P ops Q (o :: rest)) E L H F := by
  refine st_run hg fun a w fa sw => ?_
  unfold Oper.wp
  rw [hr a w fa]
  refine (hc w sw).mono ?_
  rintro e w' ⟨x, hx, rfl, hG⟩
  show wpList P ops Q rest (a.put o.dst (v x)) w'
  rw [hd]
  exact k x hx _ _ (fa.put (Nat.le_of_ble_eq_true hn) _) (sw.step hG fun b hb => let ⟨k, e, h1, h2, h3⟩ := hM b hb; ⟨k, e, h1, h2, h3 x⟩)

theorem st_call {dst f : Nat} {args : Array Operand} {Ts : Array TypeId} {vs : List Value} {ι : Type} {M : List Nat} {Φ : ι → Prop} {v : ι → Value} {N : ι → List (Nat × Ent)} (hf : Has P f) (ha : evs L args.toList = some vs)
    (hc : ∀ w, Sat E.w0 E.X H F w → Calls P f vs.toArray w (Post w M Φ v N)) (hM : ∀ b, b ∈ M → ∃ k e, lk H k = some e ∧ b ∈ e.ids ∧ ∀ x, lk (N x) k ≠ none) (hg : wants ops L gd = some true) (hn : Nat.ble (dst + 1) E.n = true)
    (k : ∀ x, Φ x → At (wpList P ops Q rest) E ((dst, v x) :: L) (N x ++ H) F) : At (wpList P ops Q (⟨some dst, .call { callee := .value (.func f), args := args, argTypes := Ts }, ty, pos, af, gd⟩ :: rest)) E L H F :=
  st_enter rfl hg hn (fun _ w fa => run_call hf ha fa w) hc hM k

theorem st_callv {dst f : Nat} {args : Array Operand} {Ts : Array TypeId} {vs : List Value} {v : Value} (hf : Has P f) (ha : evs L args.toList = some vs)
    (hc : ∀ w, Sat E.w0 E.X H F w → Calls P f vs.toArray w (PostV w v)) (hg : wants ops L gd = some true) (hn : Nat.ble (dst + 1) E.n = true)
    (k : At (wpList P ops Q rest) E ((dst, v) :: L) H F) : At (wpList P ops Q (⟨some dst, .call { callee := .value (.func f), args := args, argTypes := Ts }, ty, pos, af, gd⟩ :: rest)) E L H F :=
  st_enter (ι := Unit) (M := []) (Φ := fun _ => True) (v := fun _ => v) (N := fun _ => []) rfl hg hn (fun _ w fa => run_call hf ha fa w) (fun w sw => (hc w sw).mono fun _ _ ⟨h1, h2⟩ => ⟨(), trivial, h1, h2⟩) nil_all (fun _ _ => k)

theorem st_call_fn {dst f : Nat} {c : Operand} {args : Array Operand} {Ts : Array TypeId} {vs ws vf vc : List Value} {ι : Type} {M : List Nat} {Φ : ι → Prop} {v : ι → Value} {N : ι → List (Nat × Ent)} (hf : Has P f) (hcv : ev L c = some (.func (.func f) vf.toArray vc.toArray)) (ha : evs L args.toList = some vs) (hw : vf ++ vs ++ vc = ws)
    (hc : ∀ w, Sat E.w0 E.X H F w → Calls P f ws.toArray w (Post w M Φ v N)) (hM : ∀ b, b ∈ M → ∃ k e, lk H k = some e ∧ b ∈ e.ids ∧ ∀ x, lk (N x) k ≠ none) (hg : wants ops L gd = some true) (hn : Nat.ble (dst + 1) E.n = true)
    (k : ∀ x, Φ x → At (wpList P ops Q rest) E ((dst, v x) :: L) (N x ++ H) F) : At (wpList P ops Q (⟨some dst, .call { callee := .value c, args := args, argTypes := Ts }, ty, pos, af, gd⟩ :: rest)) E L H F :=
  st_enter rfl hg hn (fun _ w fa => run_call_fn hf hcv ha hw fa w) hc hM k

theorem st_callv_fn {dst f : Nat} {c : Operand} {args : Array Operand} {Ts : Array TypeId} {vs ws vf vc : List Value} {v : Value} (hf : Has P f) (hcv : ev L c = some (.func (.func f) vf.toArray vc.toArray)) (ha : evs L args.toList = some vs) (hw : vf ++ vs ++ vc = ws)
    (hc : ∀ w, Sat E.w0 E.X H F w → Calls P f ws.toArray w (PostV w v)) (hg : wants ops L gd = some true) (hn : Nat.ble (dst + 1) E.n = true)
    (k : At (wpList P ops Q rest) E ((dst, v) :: L) H F) : At (wpList P ops Q (⟨some dst, .call { callee := .value c, args := args, argTypes := Ts }, ty, pos, af, gd⟩ :: rest)) E L H F :=
  st_enter (ι := Unit) (M := []) (Φ := fun _ => True) (v := fun _ => v) (N := fun _ => []) rfl hg hn (fun _ w fa => run_call_fn hf hcv ha hw fa w) (fun w sw => (hc w sw).mono fun _ _ ⟨h1, h2⟩ => ⟨(), trivial, h1, h2⟩) nil_all (fun _ _ => k)

theorem qt_enter {o : Oper} {dst : Nat} {f : FuncId} {vs : Array Value} {v : Value} (hd : o.dst = some dst) (hg : wants ops L o.guard = some true) (hn : Nat.ble (dst + 1) E.n = true)
    (hr : ∀ a w, Fits E.n L a → (execOp a.eval o).run P w = .ok (.enter f vs) w) (hc : ∀ w, Sat E.w0 E.X H F w → Calls P f vs w (PostV w v))
    (k : QAt P ops K rest E ((dst, v) :: L) H F) : QAt P ops K (o :: rest) E L H F := by
  intro a fa
  unfold wpQuiet
  rw [if_pos (wants_eq fa hg)]
  refine ⟨v, fun w hw => ?_, ?_⟩
  · unfold Oper.quietAt
    rw [hr a w fa]
    refine ⟨rfl, (hc w hw).mono ?_⟩
    rintro e w' ⟨rfl, hG⟩
    exact ⟨rfl, by have := hw.step hG nil_all; exact this⟩
  · rw [hd]
    exact k _ (fa.put (Nat.le_of_ble_eq_true hn) v)
theorem qt_callv {dst f : Nat} {args : Array Operand} {Ts : Array TypeId} {vs : List Value} {v : Value} (hf : Has P f) (ha : evs L args.toList = some vs)
    (hc : ∀ w, Sat E.w0 E.X H F w → Calls P f vs.toArray w (PostV w v)) (hg : wants ops L gd = some true) (hn : Nat.ble (dst + 1) E.n = true)
    (k : QAt P ops K rest E ((dst, v) :: L) H F) : QAt P ops K (⟨some dst, .call { callee := .value (.func f), args := args, argTypes := Ts }, ty, pos, af, gd⟩ :: rest) E L H F :=
  qt_enter rfl hg hn (fun _ w fa => run_call hf ha fa w) hc k

/-! ### A function's begin and end -/
def params : Nat → List Value → List (Nat × Value)
  | _, [] => []
  | i, v :: r => (i, v) :: params (i + 1) r

theorem lk_params {vs : List Value} : ∀ {i j : Nat} {v : Value}, lk (params i vs) j = some v → i ≤ j ∧ vs[j - i]? = some v := by
  induction vs with
  | nil => intro i j v h; exact (lk_nil h).elim
  | cons u r ih =>
    intro i j v h
    simp only [params] at h
    by_cases e : i = j
    · subst e; rw [lk_cons_same] at h; simpa using h
    · rw [lk_cons_ne e] at h
      obtain ⟨h1, h2⟩ := ih h
      refine ⟨by omega, ?_⟩
      rw [show j - i = (j - (i + 1)) + 1 by omega, List.getElem?_cons_succ]
      exact h2

theorem calls_at {f : FuncId} {fn : Func} {c : Code} {vs : List Value} {w : World} {R : Ending → World → Prop} {X : List Nat} (n : Nat) (hf : P.funcs[f]? = some fn) (hb : fn.body = some c) (hn : fn.ntmps = n) (hlen : Nat.ble vs.length n = true)
    (hS : Sat w X H F w) (h : At (c.wp P (bodyPost P fn R)) ⟨n, w, X⟩ (params 0 vs) H F) : Calls P f vs.toArray w R := by
  have hlen' := Nat.le_of_ble_eq_true hlen
  refine calls_of_wp hf hb (h _ w ⟨rfl, ?_, fun i v hi => ?_⟩ hS)
  · simp [hn]; omega
  · obtain ⟨_, h2⟩ := lk_params hi
    simp only [Nat.sub_zero] at h2
    have hlt := (List.getElem?_eq_some_iff.1 h2).1
    rw [Array.getD_eq_getD_getElem?, Array.getElem?_append_left (by simpa using hlt)]
    simp [h2]

variable {fn : Func} {R : Ending → World → Prop}
theorem rt_tmp {t : Tmp} {v : Value} {e : Exit} (he : e = .ret ∨ e = .normal) (hr : fn.results = #[.tmp t]) (hv : lk L t = some v) (h : ∀ w, Sat E.w0 E.X H F w → R (.returned v) w) : AtX (bodyPost P fn R) e E L H F := by
  intro a w fa sw
  have hx := fa.2.2 t v hv
  rcases he with rfl | rfl <;> exact ⟨fa.1, v, by rw [results_tmp hr, hx], h w sw⟩
theorem rt_none {e : Exit} (he : e = .ret ∨ e = .normal) (hr : fn.results = #[]) (h : ∀ w, Sat E.w0 E.X H F w → R (.returned (.tuple #[])) w) : AtX (bodyPost P fn R) e E L H F := by
  intro a w fa sw
  rcases he with rfl | rfl <;> exact ⟨fa.1, _, results_none hr _ _ _, h w sw⟩
theorem rt_tmp2 {t u : Tmp} {v v' : Value} {e : Exit} (he : e = .ret ∨ e = .normal) (hr : fn.results = #[.tmp t, .tmp u]) (hv : lk L t = some v) (hv' : lk L u = some v') (h : ∀ w, Sat E.w0 E.X H F w → R (.returned (.tuple #[v, v'])) w) : AtX (bodyPost P fn R) e E L H F := by
  intro a w fa sw
  have hx := fa.2.2 t v hv
  have hx' := fa.2.2 u v' hv'
  rcases he with rfl | rfl <;> exact ⟨fa.1, _, by rw [results_tmp2 hr, hx, hx'], h w sw⟩
theorem rt_tmp3 {t u s : Tmp} {v v' v'' : Value} {e : Exit} (he : e = .ret ∨ e = .normal) (hr : fn.results = #[.tmp t, .tmp u, .tmp s]) (hv : lk L t = some v) (hv' : lk L u = some v') (hv'' : lk L s = some v'') (h : ∀ w, Sat E.w0 E.X H F w → R (.returned (.tuple #[v, v', v''])) w) : AtX (bodyPost P fn R) e E L H F := by
  intro a w fa sw
  have hx := fa.2.2 t v hv
  have hx' := fa.2.2 u v' hv'
  have hx'' := fa.2.2 s v'' hv''
  rw [Array.getD_eq_getD_getElem?] at hx hx' hx''
  have : (results fn a.tmps).run P w = .ok (.tuple #[v, v', v'']) w := by simp [results, hr, hx, hx', hx'']
  rcases he with rfl | rfl <;> exact ⟨fa.1, _, this, h w sw⟩
/-- A result that lies in a block that is owned. -/
theorem rt_cell {ta T h0 b sz bytes : Nat} {d : TypeDesc} {z : Value} {l : List Value} {TT : TypeId} {fz : Nat × Nat} {e : Exit} (he : e = .ret ∨ e = .normal) (hr : fn.results = #[.cell ta T]) (ht : Ty P T d sz bytes z) (hd : aggD d = true)
    (hv : lk L ta = some (.pointer (some ⟨b, 0, none⟩))) (hh : lk H h0 = some (.blk b (.cells l.toArray TT fz))) (hl : l.length = sz) (h : ∀ w, Sat E.w0 E.X H F w → R (.returned (.agg l.toArray)) w) : AtX (bodyPost P fn R) e E L H F := by
  intro a w fa sw
  have hx := fa.2.2 ta _ hv
  have : (results fn a.tmps).run P w = .ok (.agg l.toArray) w := by
    have h2 := run_loadVar_agg (P := P) ht hd (lies_blk (sw.blk_eq hh)) hl
    have h3 : (a.tmps[ta]?.getD undef) = .pointer (some ⟨b, 0, none⟩) := by rw [← Array.getD_eq_getD_getElem?]; exact hx
    simp [results, hr, h3, asAddr, h2]
  rcases he with rfl | rfl <;> exact ⟨fa.1, _, this, h w sw⟩
end

end Go.Proofs.Yteedclmcgifmpaa.Fw

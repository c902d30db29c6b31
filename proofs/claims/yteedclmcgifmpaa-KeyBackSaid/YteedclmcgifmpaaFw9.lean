/- Regions whose order is open and that write or make memory: what leaves memory alone may be taken first; of the rest every order is walked. -/
import Derived.Test.YteedclmcgifmpaaFw8
namespace Go.Proofs.Yteedclmcgifmpaa.Fw
open Go Go.RowKit

/-- What is read, holds. -/
def CF (F : List (Nat × FE)) (w : World) : Prop := ∀ h f, lk F h = some f → f.holds w

def bot : Exit → Act → World → Prop := fun _ _ _ => False

def wpC (P : Program) (ops : Array Oper) (C : World → Prop) (K : Act → World → Prop) : Nat → Array Bool → Act → World → Prop
  | 0, listed, a, w => C w ∧ Region.ready .any ops listed = [] ∧ K a w
  | f + 1, listed, a, w => C w ∧ Region.ready .any ops listed ≠ [] ∧ ∀ i ∈ Region.ready .any ops listed, wpOp P ops bot i (wpC P ops C K f (listed.setIfInBounds i true)) a w

section
variable {P : Program} {ops : Array Oper} {C : World → Prop}

theorem letsOut_bot : ¬ LetsOut bot := fun ⟨_, _, h⟩ => h

theorem wp_of_bot {o : Oper} {a : Act} {w : World} {K K' : Act → World → Prop} {Q : Exit → Act → World → Prop} (hk : ∀ a w, K a w → K' a w) (h : o.wp P a w K bot) : o.wp P a w K' Q := by
  unfold Oper.wp at *
  generalize (execOp a.eval o).run P w = r at *
  cases r with
  | ok n w' =>
    cases n <;> simp only [Oper.upon] at h ⊢ <;>
      first
        | exact hk _ _ h
        | exact Calls.mono h (fun e w'' he => by
            cases e
            · exact hk _ _ he
            · exact he.elim
            · exact (letsOut_bot he).elim)
        | exact Rows.mono h (fun _ _ he => hk _ _ he)
  | halt x w' => cases x <;> simp only [Oper.upon] at h ⊢ <;> exact h.elim
theorem wpOp_of_bot {i : Nat} {a : Act} {w : World} {K K' : Act → World → Prop} {Q : Exit → Act → World → Prop} (hk : ∀ a w, K a w → K' a w) (h : wpOp P ops bot i K a w) : wpOp P ops Q i K' a w := by
  unfold wpOp at *
  split
  · rename_i ho; simp only [ho] at h; exact hk _ _ h
  · rename_i o ho
    simp only [ho] at h
    split
    · rename_i hw
      simp only [hw, if_true] at h
      rcases h with h | h
      · exact .inl (wp_of_bot hk h)
      · exact (letsOut_bot h.2).elim
    · rename_i hw; simp only [hw] at h; exact hk _ _ h
theorem wpAny_of_wpC {Q : Exit → Act → World → Prop} : ∀ (f : Nat) (listed : Array Bool) (a : Act) (w : World), wpC P ops C (Q .normal) f listed a w → wpAny P .any ops Q f listed a w
  | 0, _, _, _, h => ⟨h.2.1, h.2.2⟩
  | f + 1, _, _, _, h => ⟨fun h0 => absurd h0 h.2.1, fun i hi => wpOp_of_bot (fun a' w' h' => wpAny_of_wpC f _ a' w' h') (h.2.2 i hi)⟩

def Yd (P : Program) (ops : Array Oper) (C : World → Prop) (o : Oper) (v : Value) (a : Act) : Prop :=
  (Region.wanted o (yielded ops a.tmps) = true ∧ ∀ w, C w → (execOp a.eval o).run P w = .ok (.value v) w) ∨ (Region.wanted o (yielded ops a.tmps) = false ∧ v = undef)

theorem Yd.wpOp {i : Nat} {o : Oper} {v : Value} {a : Act} {w : World} {K : Act → World → Prop} (hi : ops[i]? = some o) (hy : Yd P ops C o v a) (hw : C w) (h : K (a.put o.dst v) w) : Go.wpOp P ops bot i K a w := by
  unfold Go.wpOp
  simp only [hi]
  rcases hy with ⟨h1, h2⟩ | ⟨h1, rfl⟩
  · rw [if_pos h1]
    refine .inl ?_
    unfold Oper.wp
    rw [h2 w hw]
    exact h
  · rw [if_neg (by rw [h1]; simp)]
    exact h

theorem wpOp_put {j : Nat} {oi oj : Oper} {v : Value} (hj : ops[j]? = some oj) (hap : oi.apart ops oj = true)
    (hsi : ∀ cs b, oi.op ≠ .select cs b) (hsj : ∀ cs b, oj.op ≠ .select cs b) {K : Act → World → Prop} {a : Act} {w : World}
    (hy : Yd P ops C oi v a) (h : wpOp P ops bot j K (a.put oi.dst v) w) :
    wpOp P ops bot j (fun a' w' => Yd P ops C oi v a' ∧ K (a'.put oi.dst v) w') a w := by
  obtain ⟨h1, h2, h3⟩ := Oper.apart_spec hap
  have keep : ∀ (a b : Act), b.tmps = a.tmps → Yd P ops C oi v a → ∀ u, Yd P ops C oi v (b.put oj.dst u) := fun a b hb hy u => by
    have hbe : b.eval = a.eval := by funext x; cases x <;> simp [Act.eval, hb]
    unfold Yd at *
    rw [execOp_put oi hsi b oj.dst u h3, wanted_put oi b oj.dst u h3, hbe, hb]
    exact hy
  unfold wpOp at *
  simp only [hj] at *
  rw [wanted_put oj a oi.dst v h1] at h
  split
  · rename_i hw
    simp only [hw, if_true] at h
    rcases h with h | h
    · refine .inl ?_
      unfold Oper.wp at *
      rw [execOp_put oj hsj a oi.dst v h1] at h
      generalize (execOp a.eval oj).run P w = r at *
      have hc : ∀ u, (a.put oi.dst v).put oj.dst u = (a.put oj.dst u).put oi.dst v := fun u => Act.put_comm a v u h2
      cases r with
      | ok n w' =>
        cases n <;> simp only [Oper.upon] at h ⊢
        case value u => rw [hc] at h; exact ⟨keep a a rfl hy u, h⟩
        case skip => rw [hc] at h; exact ⟨keep a a rfl hy undef, h⟩
        case defer d =>
          rw [Act.put_defers, Act.put_comm _ v undef h2] at h
          exact ⟨keep a { a with defers := d :: a.defers } rfl hy undef, h⟩
        case enter f args =>
          exact Calls.mono h (fun e w'' he => by
            cases e
            · rename_i u; simp only at he ⊢; rw [hc] at he; exact ⟨keep a a rfl hy u, he⟩
            · exact he
            · exact he)
        case row r args => exact Rows.mono h (fun u _ he => by rw [hc] at he; exact ⟨keep a a rfl hy u, he⟩)
      | halt x w' => cases x <;> simp only [Oper.upon] at h ⊢ <;> exact h.elim
    · exact (letsOut_bot h.2).elim
  · rename_i hw
    simp only [hw] at h
    rw [Act.put_comm a v undef h2] at h
    exact ⟨keep a a rfl hy undef, h⟩

theorem wpC_first {K : Act → World → Prop} {i : Nat} {oi : Oper} {v : Value} (hi : ops[i]? = some oi) (hsel : ∀ (j : Nat) (o : Oper) cs b, ops[j]? = some o → o.op ≠ .select cs b) :
    ∀ (f : Nat) (listed : Array Bool) (a : Act) (w : World),
      (∀ j oj, ops[j]? = some oj → j ≠ i → listed.getD j true = false → (∀ e ∈ oj.after, Region.binds .any e = true → e.on ≠ i) → oi.apart ops oj = true) →
      i ∈ Region.ready .any ops listed → Yd P ops C oi v a → C w →
      wpC P ops C K f (listed.setIfInBounds i true) (a.put oi.dst v) w → wpC P ops C K (f + 1) listed a w := by
  intro f
  induction f with
  | zero =>
    intro listed a w _ hr hy hw H
    refine ⟨hw, fun h => (by rw [h] at hr; cases hr), fun j hj => ?_⟩
    by_cases hji : j = i
    · subst hji; exact hy.wpOp hi hw H
    · have := ready_mono hj hji
      rw [H.2.1] at this
      cases this
  | succ f ih =>
    intro listed a w hfree hr hy hw H
    refine ⟨hw, fun h => (by rw [h] at hr; cases hr), fun j hj => ?_⟩
    by_cases hji : j = i
    · subst hji; exact hy.wpOp hi hw H
    · have h1 := H.2.2 j (ready_mono hj hji)
      obtain ⟨hjun, oj, hoj, hall⟩ := mem_ready.1 hj
      have hnot : ∀ e ∈ oj.after, Region.binds .any e = true → e.on ≠ i := fun e he hb heq => by
        have h1 := hall e he hb
        have h0 := (mem_ready.1 hr).1
        rw [heq] at h1
        rcases Nat.lt_or_ge i listed.size with h' | h'
        · simp [h'] at h0 h1; rw [h0] at h1; cases h1
        · simp [Array.getElem?_eq_none h'] at h1
      have h2 := wpOp_put hoj (hfree j oj hoj hji hjun hnot) (fun cs b => hsel i oi cs b hi) (fun cs b => hsel j oj cs b hoj) hy h1
      have hfree' : ∀ k ok, ops[k]? = some ok → k ≠ i → (listed.setIfInBounds j true).getD k true = false →
          (∀ e ∈ ok.after, Region.binds .any e = true → e.on ≠ i) → oi.apart ops ok = true := fun k ok hk hki hun hno => by
        refine hfree k ok hk hki ?_ hno
        by_cases hjk : j = k
        · subst hjk; exact hjun
        · rw [getD_set_ne true hjk] at hun; exact hun
      refine wpOp_mono (fun a' w' h3 => ?_) h2
      rw [Array.setIfInBounds_comm _ _ (Ne.symm hji)] at h3
      have hC : C w' := by
        cases f with
        | zero => exact h3.2.1
        | succ f => exact h3.2.1
      exact ih (listed.setIfInBounds j true) a' w' hfree' (ready_mono hr (Ne.symm hji)) h3.1 hC h3.2
end

section
variable {P : Program} {Q : Exit → Act → World → Prop} {ops : Array Oper} {E : Env} {L : List (Nat × Value)} {H : List (Nat × Ent)} {F F0 : List (Nat × FE)} {K : Act → World → Prop}

theorem Sat.cf {w0 w : World} {X : List Nat} (sw : Sat w0 X H F w) (hF : Sub F0 F) : CF F0 w := fun h f hf => sw.rd h f (hF h f hf)

theorem cd_mix {id : Nat} {l : List Oper} (hm : P.follows .mixedOrders = true) (h : At (wpC P l.toArray (CF F) (Q .normal) l.length (Array.replicate l.length false)) E L H F) : At ((Code.region id l.toArray true).wp P Q) E L H F :=
  fun a w fa sw => wp_region_any hm (by
    have := h a _ fa (sw.drawn (w.drawn + 1))
    have h2 := wpAny_of_wpC _ _ _ _ this
    simpa using h2)
/-- What leaves memory alone, and reads what is only read, goes first. -/
theorem mx {f i d : Nat} {o : Oper} {v : Value} {listed : Array Bool} (hi : ops[i]? = some o) (hs : Region.noSelect ops = true) (hr : (Region.ready .any ops listed).contains i = true) (hf : Region.free .any ops listed i = true) (hg : wants ops L o.guard = some true)
    (he : ∀ w, Ev P o ⟨E.n, w, []⟩ L [] F0 v) (hd : o.dst = some d) (hn : Nat.ble (d + 1) E.n = true) (hF : Sub F0 F)
    (k : At (wpC P ops (CF F0) K f (listed.setIfInBounds i true)) E ((d, v) :: L) H F) : At (wpC P ops (CF F0) K (f + 1) listed) E L H F := by
  intro a w fa sw
  refine wpC_first (v := v) hi (Region.noSelect_spec hs) f listed a w (Region.free_spec hi hf) (by simpa using hr) (.inl ⟨wants_eq fa hg, fun w' hw' => ?_⟩) (sw.cf hF) ?_
  · exact he w' a w' fa (.start w' _ _ _ (fun _ _ h => (lk_nil h).elim) (fun _ _ h => (lk_nil h).elim) (fun _ _ _ _ h => (lk_nil h).elim) hw' (fun _ _ _ _ _ h => (lk_nil h).elim))
  · rw [hd]
    exact k _ w (fa.put (Nat.le_of_ble_eq_true hn) v) sw
theorem mx_skip {f i d : Nat} {o : Oper} {listed : Array Bool} (hi : ops[i]? = some o) (hs : Region.noSelect ops = true) (hr : (Region.ready .any ops listed).contains i = true) (hf : Region.free .any ops listed i = true) (hg : wants ops L o.guard = some false)
    (hd : o.dst = some d) (hn : Nat.ble (d + 1) E.n = true) (hF : Sub F0 F)
    (k : At (wpC P ops (CF F0) K f (listed.setIfInBounds i true)) E ((d, undef) :: L) H F) : At (wpC P ops (CF F0) K (f + 1) listed) E L H F := by
  intro a w fa sw
  refine wpC_first (v := undef) hi (Region.noSelect_spec hs) f listed a w (Region.free_spec hi hf) (by simpa using hr) (.inr ⟨wants_eq fa hg, rfl⟩) (sw.cf hF) ?_
  rw [hd]
  exact k _ w (fa.put (Nat.le_of_ble_eq_true hn) undef) sw
theorem mx_step {f : Nat} {listed : Array Bool} {i : Nat} {rs : List Nat} (hr : Region.ready .any ops listed = i :: rs) (hF : Sub F0 F) (h : ∀ j, j ∈ i :: rs → At (wpOp P ops bot j (wpC P ops (CF F0) K f (listed.setIfInBounds j true))) E L H F) :
    At (wpC P ops (CF F0) K (f + 1) listed) E L H F :=
  fun a w fa sw => ⟨sw.cf hF, fun h0 => by (rw [hr] at h0; cases h0), fun j hj => h j (by rw [hr] at hj; exact hj) a w fa sw⟩
theorem mx_one {f : Nat} {listed : Array Bool} {i : Nat} (hr : Region.ready .any ops listed = [i]) (hF : Sub F0 F) (h : At (wpOp P ops bot i (wpC P ops (CF F0) K f (listed.setIfInBounds i true))) E L H F) :
    At (wpC P ops (CF F0) K (f + 1) listed) E L H F := by
  refine mx_step hr hF fun j hj => ?_
  obtain rfl : j = i := by simpa using hj
  exact h
theorem mx_two {f : Nat} {listed : Array Bool} {i j : Nat} (hr : Region.ready .any ops listed = [i, j]) (hF : Sub F0 F) (h1 : At (wpOp P ops bot i (wpC P ops (CF F0) K f (listed.setIfInBounds i true))) E L H F)
    (h2 : At (wpOp P ops bot j (wpC P ops (CF F0) K f (listed.setIfInBounds j true))) E L H F) : At (wpC P ops (CF F0) K (f + 1) listed) E L H F := by
  refine mx_step hr hF fun k hk => ?_
  rcases List.mem_cons.1 hk with rfl | hk
  · exact h1
  · obtain rfl : k = j := by simpa using hk
    exact h2
theorem mx_done {listed : Array Bool} (hr : Region.ready .any ops listed = []) (hF : Sub F0 F) (h : AtX Q .normal E L H F) : At (wpC P ops (CF F0) (Q .normal) 0 listed) E L H F :=
  fun a w fa sw => ⟨sw.cf hF, hr, h a w fa sw⟩
end

end Go.Proofs.Yteedclmcgifmpaa.Fw

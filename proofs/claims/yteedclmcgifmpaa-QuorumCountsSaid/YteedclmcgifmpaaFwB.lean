/- Merged: Fw9, Fw11, Fw12, Fw14, Fw15, Fw16, Fw17, Fw18, Fw19, Fw20, Fw21. -/
import Derived.Test.YteedclmcgifmpaaFwA
import Derived.Laws.IdiomStrings
/- Regions whose order is open and that write or make memory: what leaves memory alone may be taken first; of the rest every order is walked. -/
namespace Go.Proofs.Yteedclmcgifmpaa.Fw
open Go Go.RowKit

/-- What is read, holds. -/
def CF (F : List (Nat × FE)) (w : World) : Prop := ∀ h f, lk F h = some f → f.holds w

def bot : Exit → Act → World → Prop := fun _ _ _ => False

def wpC (P : Program) (ops : Array Oper) (C : World → Prop) (K : Act → World → Prop) : Nat → Array Bool → Act → World → Prop
  | 0, listed, a, w => C w ∧ Region.ready .any ops listed = [] ∧ K a w
  | f + 1, listed, a, w => C w ∧ Region.ready .any ops listed ≠ [] ∧ ∀ i ∈ Region.ready .any ops listed, wpOp P ops bot i (wpC P ops C K f (listed.setIfInBounds i true)) a w

section
variable {P : Program} {ops : Array Oper} {C : World → Prop}

theorem letsOut_bot : ¬ LetsOut bot := fun ⟨_, _, h⟩ => h

theorem wp_of_bot {o : Oper} {a : Act} {w : World} {K K' : Act → World → Prop} {Q : Exit → Act → World → Prop} (hk : ∀ a w, K a w → K' a w) (h : o.wp P a w K bot) : o.wp P a w K' Q := by
  unfold Oper.wp at *
  generalize (execOp a.eval o).run P w = r at *
  cases r with
  | ok n w' =>
    cases n <;> simp only [Oper.upon] at h ⊢ <;>
      first
        | exact hk _ _ h
        | exact Calls.mono h (fun e w'' he => by
            cases e
            · exact hk _ _ he
            · exact he.elim
            · exact (letsOut_bot he).elim)
        | exact Rows.mono h (fun _ _ he => hk _ _ he)
  | halt x w' => cases x <;> simp only [Oper.upon] at h ⊢ <;> exact h.elim
theorem wpOp_of_bot {i : Nat} {a : Act} {w : World} {K K' : Act → World → Prop} {Q : Exit → Act → World → Prop} (hk : ∀ a w, K a w → K' a w) (h : wpOp P ops bot i K a w) : wpOp P ops Q i K' a w := by
  unfold wpOp at *
  split
  · rename_i ho; simp only [ho] at h; exact hk _ _ h
  · rename_i o ho
    simp only [ho] at h
    split
    · rename_i hw
      simp only [hw, if_true] at h
      rcases h with h | h
      · exact .inl (wp_of_bot hk h)
      · exact (letsOut_bot h.2).elim
    · rename_i hw; simp only [hw] at h; exact hk _ _ h
theorem wpAny_of_wpC {Q : Exit → Act → World → Prop} : ∀ (f : Nat) (listed : Array Bool) (a : Act) (w : World), wpC P ops C (Q .normal) f listed a w → wpAny P .any ops Q f listed a w
  | 0, _, _, _, h => ⟨h.2.1, h.2.2⟩
  | f + 1, _, _, _, h => ⟨fun h0 => absurd h0 h.2.1, fun i hi => wpOp_of_bot (fun a' w' h' => wpAny_of_wpC f _ a' w' h') (h.2.2 i hi)⟩

def Yd (P : Program) (ops : Array Oper) (C : World → Prop) (o : Oper) (v : Value) (a : Act) : Prop :=
  (Region.wanted o (yielded ops a.tmps) = true ∧ ∀ w, C w → (execOp a.eval o).run P w = .ok (.value v) w) ∨ (Region.wanted o (yielded ops a.tmps) = false ∧ v = undef)

theorem Yd.wpOp {i : Nat} {o : Oper} {v : Value} {a : Act} {w : World} {K : Act → World → Prop} (hi : ops[i]? = some o) (hy : Yd P ops C o v a) (hw : C w) (h : K (a.put o.dst v) w) : Go.wpOp P ops bot i K a w := by
  unfold Go.wpOp
  simp only [hi]
  rcases hy with ⟨h1, h2⟩ | ⟨h1, rfl⟩
  · rw [if_pos h1]
    refine .inl ?_
    unfold Oper.wp
    rw [h2 w hw]
    exact h
  · rw [if_neg (by rw [h1]; simp)]
    exact h

theorem wpOp_put {j : Nat} {oi oj : Oper} {v : Value} (hj : ops[j]? = some oj) (hap : oi.apart ops oj = true)
    (hsi : ∀ cs b, oi.op ≠ .select cs b) (hsj : ∀ cs b, oj.op ≠ .select cs b) {K : Act → World → Prop} {a : Act} {w : World}
    (hy : Yd P ops C oi v a) (h : wpOp P ops bot j K (a.put oi.dst v) w) :
    wpOp P ops bot j (fun a' w' => Yd P ops C oi v a' ∧ K (a'.put oi.dst v) w') a w := by
  obtain ⟨h1, h2, h3⟩ := Oper.apart_spec hap
  have keep : ∀ (a b : Act), b.tmps = a.tmps → Yd P ops C oi v a → ∀ u, Yd P ops C oi v (b.put oj.dst u) := fun a b hb hy u => by
    have hbe : b.eval = a.eval := by funext x; cases x <;> simp [Act.eval, hb]
    unfold Yd at *
    rw [execOp_put oi hsi b oj.dst u h3, wanted_put oi b oj.dst u h3, hbe, hb]
    exact hy
  unfold wpOp at *
  simp only [hj] at *
  rw [wanted_put oj a oi.dst v h1] at h
  split
  · rename_i hw
    simp only [hw, if_true] at h
    rcases h with h | h
    · refine .inl ?_
      unfold Oper.wp at *
      rw [execOp_put oj hsj a oi.dst v h1] at h
      generalize (execOp a.eval oj).run P w = r at *
      have hc : ∀ u, (a.put oi.dst v).put oj.dst u = (a.put oj.dst u).put oi.dst v := fun u => Act.put_comm a v u h2
      cases r with
      | ok n w' =>
        cases n <;> simp only [Oper.upon] at h ⊢
        case value u => rw [hc] at h; exact ⟨keep a a rfl hy u, h⟩
        case skip => rw [hc] at h; exact ⟨keep a a rfl hy undef, h⟩
        case defer d =>
          rw [Act.put_defers, Act.put_comm _ v undef h2] at h
          exact ⟨keep a { a with defers := d :: a.defers } rfl hy undef, h⟩
        case enter f args =>
          exact Calls.mono h (fun e w'' he => by
            cases e
            · rename_i u; simp only at he ⊢; rw [hc] at he; exact ⟨keep a a rfl hy u, he⟩
            · exact he
            · exact he)
        case row r args => exact Rows.mono h (fun u _ he => by rw [hc] at he; exact ⟨keep a a rfl hy u, he⟩)
      | halt x w' => cases x <;> simp only [Oper.upon] at h ⊢ <;> exact h.elim
    · exact (letsOut_bot h.2).elim
  · rename_i hw
    simp only [hw] at h
    rw [Act.put_comm a v undef h2] at h
    exact ⟨keep a a rfl hy undef, h⟩

theorem wpC_first {K : Act → World → Prop} {i : Nat} {oi : Oper} {v : Value} (hi : ops[i]? = some oi) (hsel : ∀ (j : Nat) (o : Oper) cs b, ops[j]? = some o → o.op ≠ .select cs b) :
    ∀ (f : Nat) (listed : Array Bool) (a : Act) (w : World),
      (∀ j oj, ops[j]? = some oj → j ≠ i → listed.getD j true = false → (∀ e ∈ oj.after, Region.binds .any e = true → e.on ≠ i) → oi.apart ops oj = true) →
      i ∈ Region.ready .any ops listed → Yd P ops C oi v a → C w →
      wpC P ops C K f (listed.setIfInBounds i true) (a.put oi.dst v) w → wpC P ops C K (f + 1) listed a w := by
  intro f
  induction f with
  | zero =>
    intro listed a w _ hr hy hw H
    refine ⟨hw, fun h => (by rw [h] at hr; cases hr), fun j hj => ?_⟩
    by_cases hji : j = i
    · subst hji; exact hy.wpOp hi hw H
    · have := ready_mono hj hji
      rw [H.2.1] at this
      cases this
  | succ f ih =>
    intro listed a w hfree hr hy hw H
    refine ⟨hw, fun h => (by rw [h] at hr; cases hr), fun j hj => ?_⟩
    by_cases hji : j = i
    · subst hji; exact hy.wpOp hi hw H
    · have h1 := H.2.2 j (ready_mono hj hji)
      obtain ⟨hjun, oj, hoj, hall⟩ := mem_ready.1 hj
      have hnot : ∀ e ∈ oj.after, Region.binds .any e = true → e.on ≠ i := fun e he hb heq => by
        have h1 := hall e he hb
        have h0 := (mem_ready.1 hr).1
        rw [heq] at h1
        rcases Nat.lt_or_ge i listed.size with h' | h'
        · simp [h'] at h0 h1; rw [h0] at h1; cases h1
        · simp [Array.getElem?_eq_none h'] at h1
      have h2 := wpOp_put hoj (hfree j oj hoj hji hjun hnot) (fun cs b => hsel i oi cs b hi) (fun cs b => hsel j oj cs b hoj) hy h1
      have hfree' : ∀ k ok, ops[k]? = some ok → k ≠ i → (listed.setIfInBounds j true).getD k true = false →
          (∀ e ∈ ok.after, Region.binds .any e = true → e.on ≠ i) → oi.apart ops ok = true := fun k ok hk hki hun hno => by
        refine hfree k ok hk hki ?_ hno
        by_cases hjk : j = k
        · subst hjk; exact hjun
        · rw [getD_set_ne true hjk] at hun; exact hun
      refine wpOp_mono (fun a' w' h3 => ?_) h2
      rw [Array.setIfInBounds_comm _ _ (Ne.symm hji)] at h3
      have hC : C w' := by
        cases f with
        | zero => exact h3.2.1
        | succ f => exact h3.2.1
      exact ih (listed.setIfInBounds j true) a' w' hfree' (ready_mono hr (Ne.symm hji)) h3.1 hC h3.2
end

section
variable {P : Program} {Q : Exit → Act → World → Prop} {ops : Array Oper} {E : Env} {L : List (Nat × Value)} {H : List (Nat × Ent)} {F F0 : List (Nat × FE)} {K : Act → World → Prop}

theorem Sat.cf {w0 w : World} {X : List Nat} (sw : Sat w0 X H F w) (hF : Sub F0 F) : CF F0 w := fun h f hf => sw.rd h f (hF h f hf)

theorem cd_mix {id : Nat} {l : List Oper} (hm : P.follows .mixedOrders = true) (h : At (wpC P l.toArray (CF F) (Q .normal) l.length (Array.replicate l.length false)) E L H F) : At ((Code.region id l.toArray true).wp P Q) E L H F :=
  fun a w fa sw => wp_region_any hm (by
    have := h a _ fa (sw.drawn (w.drawn + 1))
    have h2 := wpAny_of_wpC _ _ _ _ this
    simpa using h2)
/-- What leaves memory alone, and reads what is only read, goes first. -/
theorem mx {f i d : Nat} {o : Oper} {v : Value} {listed : Array Bool} (hi : ops[i]? = some o) (hs : Region.noSelect ops = true) (hr : (Region.ready .any ops listed).contains i = true) (hf : Region.free .any ops listed i = true) (hg : wants ops L o.guard = some true)
    (he : ∀ w, Ev P o ⟨E.n, w, []⟩ L [] F0 v) (hd : o.dst = some d) (hn : Nat.ble (d + 1) E.n = true) (hF : Sub F0 F)
    (k : At (wpC P ops (CF F0) K f (listed.setIfInBounds i true)) E ((d, v) :: L) H F) : At (wpC P ops (CF F0) K (f + 1) listed) E L H F := by
  intro a w fa sw
  refine wpC_first (v := v) hi (Region.noSelect_spec hs) f listed a w (Region.free_spec hi hf) (by simpa using hr) (.inl ⟨wants_eq fa hg, fun w' hw' => ?_⟩) (sw.cf hF) ?_
  · exact he w' a w' fa (.start w' _ _ _ (fun _ _ h => (lk_nil h).elim) (fun _ _ h => (lk_nil h).elim) (fun _ _ _ _ h => (lk_nil h).elim) hw' (fun _ _ _ _ _ h => (lk_nil h).elim))
  · rw [hd]
    exact k _ w (fa.put (Nat.le_of_ble_eq_true hn) v) sw
theorem mx_skip {f i d : Nat} {o : Oper} {listed : Array Bool} (hi : ops[i]? = some o) (hs : Region.noSelect ops = true) (hr : (Region.ready .any ops listed).contains i = true) (hf : Region.free .any ops listed i = true) (hg : wants ops L o.guard = some false)
    (hd : o.dst = some d) (hn : Nat.ble (d + 1) E.n = true) (hF : Sub F0 F)
    (k : At (wpC P ops (CF F0) K f (listed.setIfInBounds i true)) E ((d, undef) :: L) H F) : At (wpC P ops (CF F0) K (f + 1) listed) E L H F := by
  intro a w fa sw
  refine wpC_first (v := undef) hi (Region.noSelect_spec hs) f listed a w (Region.free_spec hi hf) (by simpa using hr) (.inr ⟨wants_eq fa hg, rfl⟩) (sw.cf hF) ?_
  rw [hd]
  exact k _ w (fa.put (Nat.le_of_ble_eq_true hn) undef) sw
theorem mx_step {f : Nat} {listed : Array Bool} {i : Nat} {rs : List Nat} (hr : Region.ready .any ops listed = i :: rs) (hF : Sub F0 F) (h : ∀ j, j ∈ i :: rs → At (wpOp P ops bot j (wpC P ops (CF F0) K f (listed.setIfInBounds j true))) E L H F) :
    At (wpC P ops (CF F0) K (f + 1) listed) E L H F :=
  fun a w fa sw => ⟨sw.cf hF, fun h0 => by (rw [hr] at h0; cases h0), fun j hj => h j (by rw [hr] at hj; exact hj) a w fa sw⟩
theorem mx_one {f : Nat} {listed : Array Bool} {i : Nat} (hr : Region.ready .any ops listed = [i]) (hF : Sub F0 F) (h : At (wpOp P ops bot i (wpC P ops (CF F0) K f (listed.setIfInBounds i true))) E L H F) :
    At (wpC P ops (CF F0) K (f + 1) listed) E L H F := by
  refine mx_step hr hF fun j hj => ?_
  obtain rfl : j = i := by simpa using hj
  exact h
theorem mx_two {f : Nat} {listed : Array Bool} {i j : Nat} (hr : Region.ready .any ops listed = [i, j]) (hF : Sub F0 F) (h1 : At (wpOp P ops bot i (wpC P ops (CF F0) K f (listed.setIfInBounds i true))) E L H F)
    (h2 : At (wpOp P ops bot j (wpC P ops (CF F0) K f (listed.setIfInBounds j true))) E L H F) : At (wpC P ops (CF F0) K (f + 1) listed) E L H F := by
  refine mx_step hr hF fun k hk => ?_
  rcases List.mem_cons.1 hk with rfl | hk
  · exact h1
  · obtain rfl : k = j := by simpa using hk
    exact h2
theorem mx_done {listed : Array Bool} (hr : Region.ready .any ops listed = []) (hF : Sub F0 F) (h : AtX Q .normal E L H F) : At (wpC P ops (CF F0) (Q .normal) 0 listed) E L H F :=
  fun a w fa sw => ⟨sw.cf hF, hr, h a w fa sw⟩
end

end Go.Proofs.Yteedclmcgifmpaa.Fw

/- More rules: a constant string's bytes. -/
namespace Go.Proofs.Yteedclmcgifmpaa.Fw
open Go Go.RowKit
set_option linter.unusedVariables false
set_option linter.unusedSimpArgs false

section
variable {P : Program} {Q : Exit → Act → World → Prop} {ops : Array Oper} {rest : List Oper} {E : Env} {L : List (Nat × Value)} {H : List (Nat × Ent)} {F : List (Nat × FE)}
variable {dst : Nat} {ty : TypeId} {pos : String} {af : Array Edge} {gd : Option (Nat × Bool)}

theorem freeze_setBlk {w : World} {b n e : Nat} {c : Array Value} (h : w.heap[b]? = some (.cells c e)) : w.freeze ⟨b, n, none⟩ 1 = setBlk w b (.cells c e (n, n + 1)) := by
  obtain ⟨hb, hv⟩ := Array.getElem?_eq_some_iff.1 h
  unfold World.freeze setBlk
  rw [if_neg (by decide)]
  congr 1
  apply Array.ext_getElem?
  intro i
  rw [Array.getElem?_modify, Array.getElem?_setIfInBounds]
  by_cases hi : b = i
  · subst hi
    rw [if_pos rfl, if_pos rfl, h, if_pos hb]
    simp
  · rw [if_neg hi, if_neg hi]

theorem st_mark {T e b n : Nat} {x : Operand} {l : List Int} (h : Nat) (hT : P.underlying T = some (.slice e)) (he : P.underlying e = some (.int .u8)) (hx : ev L x = some (.slice (some ⟨b, 0, none⟩) n n))
    (hh : lk H h = some (.own (.slice (some ⟨b, 0, none⟩) n n) e 1 (ints .u8 l))) (hg : wants ops L gd = some true) (hn : Nat.ble (dst + 1) E.n = true)
    (k : At (wpList P ops Q rest) E ((dst, .slice (some ⟨b, 0, none⟩) n n) :: L) ((h, .blk b (.cells (ints .u8 l).toArray e (n, n + 1))) :: H) F) :
    At (wpList P ops Q (⟨some dst, .convert T T x, ty, pos, af, gd⟩ :: rest)) E L H F := by
  refine st_gives hg rfl hn fun a w fa sw => ?_
  have ho := sw.hold _ _ hh
  rcases ho with ⟨h0, _⟩ | ⟨b', len, cap, junk, h1, h2, h3, _, h5⟩
  · cases h0
  · cases h1
    obtain rfl : junk = [] := List.length_eq_zero_iff.1 (by rw [h3, Nat.sub_self, Nat.zero_mul])
    rw [List.append_nil] at h5
    rw [Nat.mul_one] at h2
    have hlt := (Array.getElem?_eq_some_iff.1 h5).1
    refine ⟨.slice (some ⟨b, 0, none⟩) n n, setBlk w b (.cells (ints .u8 l).toArray e (n, n + 1)), [b], [(h, .blk b (.cells (ints .u8 l).toArray e (n, n + 1)))], ?_, gives_setBlk hlt h (.blk b _) (heap_setBlk hlt) rfl, (fun b' hb' => ⟨h, _, hh, by simpa [Ent.ids, blkOf] using hb', by simp [lk_cons_same]⟩), k⟩
    have hsh : w.shape? b = some (e, n) := by
      unfold World.shape?
      rw [h5]
      simp [h2]
    have hf := freeze_setBlk (n := n) h5
    simp [execOp, fa.ev hx, convert, run_und hT, run_und he, markStringish, hsh, hf]

theorem ints_zeros (k : IntKind) (l : List Int) (m : Nat) : ints k l ++ List.replicate m (.int k 0) = ints k (l ++ List.replicate m 0) := by simp [ints]
theorem iand_mask (x : Int) (m : Nat) (hm : m ≤ 1073741824) : 0 ≤ iand .i64 x m ∧ iand .i64 x m ≤ m := by
  have h : (BitVec.ofInt IntKind.i64.bits x &&& BitVec.ofInt IntKind.i64.bits (m : Int)).toNat ≤ m := by
    rw [BitVec.toNat_and]
    refine Nat.le_trans Nat.and_le_right ?_
    rw [BitVec.ofInt_natCast, BitVec.toNat_ofNat]
    exact Nat.mod_le _ _
  unfold iand
  rw [wrap64_id (by omega) (by omega)]
  omega
/-- What is read as a slice is read as cells. -/
theorem at_mem_of {K : Act → World → Prop} {f b n c sz : Nat} {l : List Value} (g : Nat) (hf : lk F f = some (.sl (.slice (some ⟨b, 0, none⟩) n c) sz l)) (k : At K E L H ((g, .mem b 0 l) :: F)) : At K E L H F := by
  intro a w fa sw
  refine k a w fa (sw.read g ?_ fun k' e hk b' hb => ?_)
  · obtain ⟨a, len, cap, hv, _, _, _, h4⟩ := sw.rd _ _ hf
    cases hv
    exact (h4 _ rfl).2
  · rcases sw.off _ _ _ _ hf hk b' hb with h | h
    · exact .inl h
    · exact .inr (by simpa [blkOf] using h)
theorem ld_mem_all {x : Operand} {T : TypeId} {h b sz bytes : Nat} {z : Value} {d : TypeDesc} {l : List Value} (ht : Ty P T d sz bytes z) (hd : aggD d = true) (hx : ev L x = some (.pointer (some ⟨b, 0, none⟩)))
    (hh : lk F h = some (.mem b 0 l)) (hl : l.length = sz) : Ev P ⟨dst, .load T x, ty, pos, af, gd⟩ E L H F (.agg l.toArray) := by
  have := ld_mem (P := P) (E := E) (H := H) (dst := dst) (ty := ty) (pos := pos) (af := af) (gd := gd) (k := 0) ht hd hx hh rfl (by omega)
  rwa [List.drop_zero, List.take_of_length_le (by omega)] at this
/-! ### append of zeros: 'append(x, make([]T, n)...)' -/
theorem zero_new {z : Value} (hz : z.cells = #[z]) (m : Nat) : Builtin.zeroCells z.cells m = (List.replicate m z).toArray := by
  apply Array.ext
  · simp [Builtin.zeroCells, hz]
  · intro i h1 h2
    simp [Builtin.zeroCells, hz, Nat.mod_one]
theorem run_zeros (w1 : World) {e bytes m : Nat} {d : TypeDesc} {z : Value} (ht : Ty P e d 1 bytes z) (hz : z.cells = #[z]) :
    (if m * 1 = 0 then Result.ok #[] w1 else ((zeroValue e).run P w1).andThen fun a w' => Result.ok (Builtin.zeroCells a.cells m) w') = Result.ok (List.replicate m z).toArray w1 := by
  by_cases hm : m = 0
  · subst hm; rfl
  · rw [if_neg (by omega)]
    simp only [ht.run_zero, Result.andThen_ok, zero_new hz]
theorem run_appendz_grow {w : World} {T e X ty bytes len cap m : Nat} {kx kX : IntKind} {d : TypeDesc} {z : Value} {base : Option Addr} {l : List Value} (hT : P.underlying T = some (.slice e)) (ht : Ty P e d 1 bytes z)
    (hX : P.underlying X = some (.int kX)) (hz : z.cells = #[z]) (hr : Rd w (.slice base len cap) 1 l) (hl : l.length = len) (hcap : cap < len + m) (hsz : len + m ≤ 1073741824) (hby : bytes ≤ 1024) :
    ∃ newCap junk, len + m ≤ newCap ∧ junk.length = newCap - (len + m) ∧
      (Builtin.append_ #[T, X] ty #[.slice base len cap, .int kx m]).run P w = .ok (.slice (some ⟨w.heap.size, 0, none⟩) (len + m) newCap) ({ w with drawn := w.drawn + 1 }.alloc (.cells (l ++ List.replicate m z ++ junk).toArray e)) := by
  obtain ⟨i, hi, h1, h2, h3⟩ := ht.info
  generalize hq : Question.cut (.appendCap (len + m) cap e) (w.tape w.drawn (.appendCap (len + m) cap e)) = newCap
  have hnew : len + m ≤ newCap := by rw [← hq]; simp only [Question.cut]; omega
  refine ⟨newCap, (Builtin.zeroCells z.cells (newCap - (len + m))).toList, hnew, by simp [zeroCells_size, hz], ?_⟩
  have hb1 : ¬ (len + m ≤ cap) := by omega
  have hcap2 : ¬ (Builtin.nextslicecap (len + m) cap * i.bytes > 281474976710656) := by
    rw [h2]
    have a1 := nextslicecap_le hcap
    have a2 : Builtin.nextslicecap (len + m) cap * bytes ≤ (2 * (len + m) + 512) * 1024 := Nat.mul_le_mul a1 hby
    omega
  have hmax : ¬ (((len + m : Nat) : Int) > IntKind.i64.max) := by
    have : IntKind.i64.max = 9223372036854775807 := by decide
    omega
  have hm0 : ¬ ((m : Int) < 0) := by omega
  have hm1 : ¬ ((m : Int) * (i.bytes : Int) > 2 ^ 48) := by
    rw [h2]
    have : m * bytes ≤ 1073741824 * 1024 := Nat.mul_le_mul (by omega) hby
    have h4 : ((m * bytes : Nat) : Int) ≤ 1073741824 * 1024 := by omega
    push_cast at h4
    omega
  have hw : IntKind.i64.wrap (m : Int) = m := wrap64_id (by omega) (by omega)
  have hA : ∀ w, (asInt (.int kx (m : Int))).run P w = .ok (m : Int) w := fun _ => rfl
  have hi' : ∀ w, (typeInfo e).run P w = .ok i w := fun w => by simp [typeInfo, hi]
  have hr' : ∀ k, Rd { w with drawn := k } (.slice base len cap) 1 l := fun k => Rd.keep hr fun _ _ _ _ => rfl
  simp only [Builtin.append_, List.getElem?_toArray, List.getElem?_cons_zero, List.getElem?_cons_succ, Sem.run_bind, run_und hT, Result.andThen_ok, ht.run_size, run_und hX, Sem.run_pure, if_true, hA, hw, if_neg hm0, hi', Sem.run_ite, if_neg hm1, Int.toNat_natCast]
  have hcap3 : ¬ (Builtin.nextslicecap (len + m) cap * i.bytes > 2 ^ 48) := hcap2
  simp only [if_neg hb1, hmax, false_and, if_false, Sem.run_bind, hi', Result.andThen_ok, if_neg hcap3, run_choose, Question.forced, Bool.false_eq_true, hq, run_askRoom, run_firstCells (hr' _) (by rw [hl, Nat.mul_one]), Bool.not_true]
  rw [run_zeros _ ht hz]
  simp only [Result.andThen_ok, ht.run_zero, newRow, run_newObj]
  have e1 : l.toArray ++ (List.replicate m z).toArray ++ Builtin.zeroCells z.cells (newCap - (len + m)) = (l ++ List.replicate m z ++ (Builtin.zeroCells z.cells (newCap - (len + m))).toList).toArray := by simp
  rw [e1]
  rfl
theorem run_appendz_room {w : World} {T e X ty bytes len cap m b : Nat} {kx kX : IntKind} {d : TypeDesc} {z : Value} {l junk : List Value} (hT : P.underlying T = some (.slice e)) (ht : Ty P e d 1 bytes z)
    (hX : P.underlying X = some (.int kX)) (hz : z.cells = #[z]) (hb : w.heap[b]? = some (.cells (l ++ junk).toArray e)) (hl : l.length = len) (hj : junk.length = cap - len) (hcap : len + m ≤ cap) (hsz : m ≤ 1073741824) (hby : bytes ≤ 1024) (h1 : z.oneCell' = true) :
    (Builtin.append_ #[T, X] ty #[.slice (some ⟨b, 0, none⟩) len cap, .int kx m]).run P w = .ok (.slice (some ⟨b, 0, none⟩) (len + m) cap) (setBlk w b (.cells (l ++ List.replicate m z ++ junk.drop m).toArray e)) := by
  obtain ⟨i, hi, _, h2, h3⟩ := ht.info
  have hst := run_storeCells (P := P) (List.replicate m z) (l ++ junk) w (0 + len * 1) 0 hb (by simp; omega) (fun u hu => by rw [(List.mem_replicate.1 hu).2]; exact h1)
  have e1 : wr (l ++ junk) (0 + len * 1 + 0) (List.replicate m z) = l ++ List.replicate m z ++ junk.drop m := by
    simp only [wr, Nat.zero_add, Nat.add_zero, Nat.mul_one, List.length_replicate]
    rw [← hl, List.take_left', List.drop_append]
    · simp
    · rfl
  rw [e1] at hst
  have hm0 : ¬ ((m : Int) < 0) := by omega
  have hm1 : ¬ ((m : Int) * (i.bytes : Int) > 2 ^ 48) := by
    rw [h2]
    have : m * bytes ≤ 1073741824 * 1024 := Nat.mul_le_mul (by omega) hby
    have h4 : ((m * bytes : Nat) : Int) ≤ 1073741824 * 1024 := by omega
    push_cast at h4
    omega
  have hw : IntKind.i64.wrap (m : Int) = m := wrap64_id (by omega) (by omega)
  have hA : ∀ w, (asInt (.int kx (m : Int))).run P w = .ok (m : Int) w := fun _ => rfl
  have hi' : ∀ w, (typeInfo e).run P w = .ok i w := fun w => by simp [typeInfo, hi]
  simp only [Builtin.append_, List.getElem?_toArray, List.getElem?_cons_zero, List.getElem?_cons_succ, Sem.run_bind, run_und hT, Result.andThen_ok, ht.run_size, run_und hX, Sem.run_pure, if_true, hA, hw, if_neg hm0, hi', Sem.run_ite, if_neg hm1, Int.toNat_natCast, if_pos hcap, Bool.not_true, Bool.false_eq_true, if_false]
  rw [run_zeros _ ht hz]
  simp only [Result.andThen_ok, add_mk]
  rw [hst]
  rfl
theorem st_appendz {T e X bytes m : Nat} {s x : Operand} {kx kX : IntKind} {d : TypeDesc} {z v : Value} {l : List Value} (h : Nat) (hT : P.underlying T = some (.slice e)) (hX : P.underlying X = some (.int kX)) (ht : Ty P e d 1 bytes z) (hz : z.cells = #[z])
    (hv : ev L s = some v) (hx : ev L x = some (.int kx m)) (hh : lk H h = some (.own v e 1 l)) (hsz : l.length + m ≤ 1073741824) (hby : bytes ≤ 1024)
    (h1 : z.oneCell' = true) (hg : wants ops L gd = some true) (hn : Nat.ble (dst + 1) E.n = true)
    (k : ∀ v', At (wpList P ops Q rest) E ((dst, v') :: L) ((h, .own v' e 1 (l ++ List.replicate m z)) :: H) F) :
    At (wpList P ops Q (⟨some dst, .call { callee := .builtin .append, args := #[s, x], argTypes := #[T, X] }, ty, pos, af, gd⟩ :: rest)) E L H F := by
  refine st_gives hg rfl hn fun a w fa sw => ?_
  have hex : ∀ r w', (Builtin.append_ #[T, X] ty #[v, .int kx m]).run P w = .ok r w' →
      (execOp a.eval ⟨some dst, .call { callee := .builtin .append, args := #[s, x], argTypes := #[T, X] }, ty, pos, af, gd⟩).run P w = .ok (.value r) w' := fun r w' hr' => by
    simp [execOp, resolve, invoke, builtin, fa.ev hv, fa.ev hx, hr']
  have grow : ∀ base len cap, v = .slice base len cap → cap < len + m → len = l.length → ∃ v' w' M N, (execOp a.eval ⟨some dst, .call { callee := .builtin .append, args := #[s, x], argTypes := #[T, X] }, ty, pos, af, gd⟩).run P w = .ok (.value v') w' ∧ Gives w w' M N ∧
      (∀ b, b ∈ M → ∃ k e, lk H k = some e ∧ b ∈ e.ids ∧ lk N k ≠ none) ∧ At (wpList P ops Q rest) E ((dst, v') :: L) (N ++ H) F := by
    intro base len cap hv' hc hlen
    subst hv'
    subst hlen
    obtain ⟨nc, junk, g1, g2, g3⟩ := run_appendz_grow (P := P) (w := w) (ty := ty) (kx := kx) hT ht hX hz (sw.own_rd hh) rfl hc hsz hby
    refine ⟨_, _, [], [(h, .own (.slice (some ⟨w.heap.size, 0, none⟩) (l.length + m) nc) e 1 (l ++ List.replicate m z))], hex _ _ g3, ?_, nil_all, k _⟩
    refine Gives.drawn (gives_alloc { w with drawn := w.drawn + 1 } _ h _ (.inr ⟨_, _, nc, junk, rfl, ?_, by rw [g2, Nat.mul_one], g1, ?_⟩) (by simp [Ent.ids, blkOf]))
    · rw [List.length_append, List.length_replicate, Nat.mul_one]
    · exact heap_alloc_new { w with drawn := w.drawn + 1 } _
  rcases sw.hold _ _ hh with ⟨rfl, rfl⟩ | ⟨b, len, cap, junk, rfl, g1, g2, g3, g4⟩
  · rcases Nat.eq_zero_or_pos m with hm | hm
    · subst hm
      refine ⟨.slice none 0 0, w, [], [(h, .own (.slice none 0 0) e 1 ([] ++ List.replicate 0 z))], hex _ _ ?_, ?_, nil_all, k _⟩
      · obtain ⟨i, hi, _, h2, h3⟩ := ht.info
        have hA : ∀ w, (asInt (.int kx ((0 : Nat) : Int))).run P w = .ok ((0 : Nat) : Int) w := fun _ => rfl
        have hw : IntKind.i64.wrap ((0 : Nat) : Int) = ((0 : Nat) : Int) := by decide
        have hi' : ∀ w, (typeInfo e).run P w = .ok i w := fun w => by simp [typeInfo, hi]
        have hm0 : ¬ (((0 : Nat) : Int) < 0) := by omega
        have hm1 : ¬ (((0 : Nat) : Int) * (i.bytes : Int) > 2 ^ 48) := by simp
        simp only [Builtin.append_, List.getElem?_toArray, List.getElem?_cons_zero, List.getElem?_cons_succ, Sem.run_bind, run_und hT, Result.andThen_ok, ht.run_size, run_und hX, Sem.run_pure, if_true, hA, hw, if_neg hm0, hi', Sem.run_ite, if_neg hm1, Int.toNat_natCast, Nat.add_zero, Nat.le_refl, Bool.not_true, Bool.false_eq_true, if_false]
      · refine ⟨rfl, rfl, rfl, Nat.le_refl _, fun _ _ _ => rfl, fun k e' hk => ?_, fun k e' hk b hb => ?_, fun k e1 k' e2 hk hk' hne => ?_⟩
        · obtain ⟨rfl, rfl⟩ := lk_one hk; exact .inl ⟨rfl, rfl⟩
        · obtain ⟨rfl, rfl⟩ := lk_one hk; simp [Ent.ids, blkOf] at hb
        · obtain ⟨rfl, rfl⟩ := lk_one hk; obtain ⟨rfl, rfl⟩ := lk_one hk'; exact absurd rfl hne
    · exact grow none 0 0 rfl (by omega) rfl
  · rw [Nat.mul_one] at g1 g2
    by_cases hc : len + m ≤ cap
    · refine ⟨_, _, [b], [(h, .own (.slice (some ⟨b, 0, none⟩) (len + m) cap) e 1 (l ++ List.replicate m z))], hex _ _ (run_appendz_room hT ht hX hz g4 g1 g2 hc (by omega) hby h1), ?_, ?_, k _⟩
      · have hlt := (Array.getElem?_eq_some_iff.1 g4).1
        refine gives_setBlk hlt h _ (.inr ⟨b, len + m, cap, junk.drop m, rfl, ?_, ?_, hc, ?_⟩) rfl
        · rw [List.length_append, List.length_replicate, Nat.mul_one, g1]
        · rw [List.length_drop, g2, Nat.mul_one]; omega
        · exact heap_setBlk hlt
      · intro b' hb'
        exact ⟨h, _, hh, by simpa [Ent.ids, blkOf] using hb', by simp [lk_cons_same]⟩
    · exact grow _ len cap rfl (by omega) (by omega)
end
end Go.Proofs.Yteedclmcgifmpaa.Fw

/- Rows of hashes. -/
namespace Go.Proofs.Yteedclmcgifmpaa.Fw
open Go Go.RowKit
set_option linter.unusedVariables false

def H32 (hs : List (List Int)) : Prop := ∀ h, h ∈ hs → h.length = 32
def flat (hs : List (List Int)) : List Value := ints .u8 hs.flatten
theorem H32.nil : H32 [] := fun h hh => by cases hh
theorem H32.cons {h : List Int} {hs : List (List Int)} (h1 : h.length = 32) (h2 : H32 hs) : H32 (h :: hs) := fun x hx => by
  rcases List.mem_cons.1 hx with rfl | hx
  · exact h1
  · exact h2 x hx
theorem H32.head {h : List Int} {hs : List (List Int)} (hu : H32 (h :: hs)) : h.length = 32 := hu h (by simp)
theorem H32.tail {h : List Int} {hs : List (List Int)} (hu : H32 (h :: hs)) : H32 hs := fun x hx => hu x (by simp [hx])
theorem H32.append {a b : List (List Int)} (ha : H32 a) (hb : H32 b) : H32 (a ++ b) := fun x hx => (List.mem_append.1 hx).elim (ha x) (hb x)
theorem H32.one {h : List Int} (h1 : h.length = 32) : H32 [h] := .cons h1 .nil
theorem H32.snoc {a : List (List Int)} {h : List Int} (ha : H32 a) (h1 : h.length = 32) : H32 (a ++ [h]) := ha.append (.one h1)
theorem H32.take {a : List (List Int)} (ha : H32 a) (n : Nat) : H32 (a.take n) := fun x hx => ha x (List.mem_of_mem_take hx)
theorem H32.drop {a : List (List Int)} (ha : H32 a) (n : Nat) : H32 (a.drop n) := fun x hx => ha x (List.mem_of_mem_drop hx)
theorem H32.set {a : List (List Int)} (ha : H32 a) (i : Nat) {h : List Int} (h1 : h.length = 32) : H32 (a.set i h) := fun x hx => by
  rcases List.mem_or_eq_of_mem_set hx with hx | rfl
  · exact ha x hx
  · exact h1
theorem H32.replicate {h : List Int} (n : Nat) (h1 : h.length = 32) : H32 (List.replicate n h) := fun x hx => by rw [(List.mem_replicate.1 hx).2]; exact h1
theorem H32.get {hs : List (List Int)} (hu : H32 hs) {i : Nat} (hi : i < hs.length) : (hs.getD i []).length = 32 := by
  rw [List.getD_eq_getElem?_getD, List.getElem?_eq_getElem hi]
  exact hu _ (List.getElem_mem hi)

theorem flat_nil : flat [] = [] := rfl
theorem flat_cons (h : List Int) (hs : List (List Int)) : flat (h :: hs) = ints .u8 h ++ flat hs := by simp [flat, ints]
theorem flat_append (a b : List (List Int)) : flat (a ++ b) = flat a ++ flat b := by simp [flat, ints]
theorem flat_one (h : List Int) : flat [h] = ints .u8 h := by simp [flat]
theorem flat_snoc (a : List (List Int)) (h : List Int) : flat a ++ ints .u8 h = flat (a ++ [h]) := by rw [flat_append, flat_one]
theorem flat_len : ∀ {hs : List (List Int)}, H32 hs → (flat hs).length = hs.length * 32
  | [], _ => rfl
  | h :: hs, hu => by rw [flat_cons, List.length_append, ints_length, hu.head, flat_len hu.tail, List.length_cons]; omega
theorem flat_drop : ∀ {hs : List (List Int)} (i : Nat), H32 hs → (flat hs).drop (i * 32) = flat (hs.drop i)
  | [], _, _ => by simp [flat, ints]
  | h :: hs, 0, _ => by simp
  | h :: hs, i + 1, hu => by
    have h1 := hu.head
    rw [flat_cons, List.drop_append, List.drop_of_length_le (by rw [ints_length]; omega), List.nil_append, ints_length, h1, List.drop_succ_cons, ← flat_drop i hu.tail]
    congr 1
    omega
theorem flat_take : ∀ {hs : List (List Int)} (i : Nat), H32 hs → (flat hs).take (i * 32) = flat (hs.take i)
  | [], _, _ => by simp [flat, ints]
  | h :: hs, 0, _ => by simp [flat, ints]
  | h :: hs, i + 1, hu => by
    have h1 := hu.head
    rw [flat_cons, List.take_append, List.take_of_length_le (by rw [ints_length]; omega), ints_length, h1, List.take_succ_cons, flat_cons, ← flat_take i hu.tail]
    congr 2
    omega
theorem flat_get {hs : List (List Int)} {i : Nat} (hu : H32 hs) (hi : i < hs.length) : ((flat hs).drop (i * 32)).take 32 = ints .u8 (hs.getD i []) := by
  rw [flat_drop i hu, List.drop_eq_getElem_cons hi, flat_cons, List.take_left' (by rw [ints_length]; exact hu _ (List.getElem_mem hi)), List.getD_eq_getElem?_getD, List.getElem?_eq_getElem hi]
  rfl
theorem flat_wr {hs : List (List Int)} {i : Nat} {h : List Int} (hu : H32 hs) (hi : i < hs.length) (h1 : h.length = 32) : wr (flat hs) (i * 32) (ints .u8 h) = flat (hs.set i h) := by
  have e1 : i * 32 + (ints IntKind.u8 h).length = (i + 1) * 32 := by rw [ints_length, h1]; omega
  rw [wr, flat_take i hu, e1, flat_drop (i + 1) hu, flat_snoc, ← flat_append, List.set_eq_take_append_cons_drop, if_pos hi]
  simp

section
variable {P : Program} {Q : Exit → Act → World → Prop} {ops : Array Oper} {rest : List Oper} {E : Env} {L : List (Nat × Value)} {H : List (Nat × Ent)} {F : List (Nat × FE)}
variable {dst : Option Tmp} {ty : TypeId} {pos : String} {af : Array Edge} {gd : Option (Nat × Bool)}

theorem Rd.cuth {w : World} {v : Value} {hs : List (List Int)} {lo hi : Nat} (h : Rd w v 32 (flat hs)) (hu : H32 hs) (h1 : lo ≤ hi) (h2 : hi ≤ hs.length) : Rd w (cutAt 32 v lo hi) 32 (flat ((hs.drop lo).take (hi - lo))) := by
  have := rd_cut (n := hs.length) h (by decide) (flat_len hu) h1 h2
  rwa [flat_drop lo hu, flat_take _ (hu.drop lo)] at this
theorem at_cuth {K : Act → World → Prop} {h lo hi : Nat} {v : Value} {hs : List (List Int)} (h' : Nat) (hh : lk F h = some (.sl v 32 (flat hs))) (hu : H32 hs) (h1 : lo ≤ hi) (h2 : hi ≤ hs.length)
    (c : At K E L H ((h', .sl (cutAt 32 v lo hi) 32 (flat ((hs.drop lo).take (hi - lo)))) :: F)) : At K E L H F := by
  refine at_cut (n := hs.length) (lo := lo) (hi := hi) h' hh (by decide) (flat_len hu) h1 h2 ?_
  rw [flat_drop lo hu, flat_take _ (hu.drop lo)]
  exact c
theorem ev_sliceh {T e bytes : Nat} {x lo hi : Operand} {v z : Value} {d : TypeDesc} {hs : List (List Int)} {k k' : IntKind} {i j : Int} (hT : P.underlying T = some (.slice e)) (ht : Ty P e d 32 bytes z) (hx : ev L x = some v)
    (hlo : ev L lo = some (.int k i)) (hhi : ev L hi = some (.int k' j)) (hr : ∀ w, Sat E.w0 E.X H F w → Rd w v 32 (flat hs)) (hu : H32 hs) (h0 : 0 ≤ i) (h1 : i ≤ j) (h2 : j ≤ (hs.length : Nat)) :
    Ev P ⟨dst, .slice T x (some lo) (some hi) none, ty, pos, af, gd⟩ E L H F (cutAt 32 v i.toNat j.toNat) :=
  ev_slice_rd (n := hs.length) hT ht hx hlo hhi hr (by decide) (flat_len hu) h0 h1 h2
theorem ev_sliceh_lo {T e bytes : Nat} {x lo : Operand} {v z : Value} {d : TypeDesc} {hs : List (List Int)} {k : IntKind} {i : Int} (hT : P.underlying T = some (.slice e)) (ht : Ty P e d 32 bytes z) (hx : ev L x = some v)
    (hlo : ev L lo = some (.int k i)) (hr : ∀ w, Sat E.w0 E.X H F w → Rd w v 32 (flat hs)) (hu : H32 hs) (h0 : 0 ≤ i) (h1 : i ≤ (hs.length : Nat)) :
    Ev P ⟨dst, .slice T x (some lo) none none, ty, pos, af, gd⟩ E L H F (cutAt 32 v i.toNat hs.length) :=
  ev_slice_rd_lo (n := hs.length) hT ht hx hlo hr (by decide) (flat_len hu) h0 h1
theorem ev_sliceh_hi {T e bytes : Nat} {x hi : Operand} {v z : Value} {d : TypeDesc} {hs : List (List Int)} {k : IntKind} {j : Int} (hT : P.underlying T = some (.slice e)) (ht : Ty P e d 32 bytes z) (hx : ev L x = some v)
    (hhi : ev L hi = some (.int k j)) (hr : ∀ w, Sat E.w0 E.X H F w → Rd w v 32 (flat hs)) (hu : H32 hs) (h0 : 0 ≤ j) (h1 : j ≤ (hs.length : Nat)) :
    Ev P ⟨dst, .slice T x none (some hi) none, ty, pos, af, gd⟩ E L H F (cutAt 32 v 0 j.toNat) :=
  ev_slice_rd_hi (n := hs.length) hT ht hx hhi hr (by decide) (flat_len hu) h0 h1
theorem ev_len_rdh {x : Operand} {T e : TypeId} {v : Value} {h : Nat} {hs : List (List Int)} (hT : P.underlying T = some (.slice e)) (hx : ev L x = some v) (hh : lk F h = some (.sl v 32 (flat hs))) (hu : H32 hs) :
    Ev P ⟨dst, .call { callee := .builtin .len, args := #[x], argTypes := #[T] }, ty, pos, af, gd⟩ E L H F (.int .i64 (hs.length : Nat)) :=
  ev_len_rd hT hx hh (flat_len hu) (by decide)
theorem ev_len_ownh {x : Operand} {T e tt : TypeId} {v : Value} {h : Nat} {hs : List (List Int)} (hT : P.underlying T = some (.slice e)) (hx : ev L x = some v) (hh : lk H h = some (.own v tt 32 (flat hs))) (hu : H32 hs) :
    Ev P ⟨dst, .call { callee := .builtin .len, args := #[x], argTypes := #[T] }, ty, pos, af, gd⟩ E L H F (.int .i64 (hs.length : Nat)) :=
  ev_len_own hT hx hh (flat_len hu) (by decide)
theorem ev_indexAddr_rdh {x y : Operand} {T e : TypeId} {v : Value} {h bytes : Nat} {z : Value} {d : TypeDesc} {hs : List (List Int)} {k : IntKind} {i : Int} (hT : P.underlying T = some (.slice e)) (ht : Ty P e d 32 bytes z)
    (hx : ev L x = some v) (hy : ev L y = some (.int k i)) (hh : lk F h = some (.sl v 32 (flat hs))) (hu : H32 hs) (h0 : 0 ≤ i) (h1 : i < (hs.length : Nat)) :
    Ev P ⟨dst, .indexAddr T x y, ty, pos, af, gd⟩ E L H F (ptrAt v (i.toNat * 32)) :=
  ev_indexAddr_rd hT ht hx hy hh (flat_len hu) (by decide) h0 h1
theorem ev_indexAddr_ownh {x y : Operand} {T e tt : TypeId} {v : Value} {h bytes : Nat} {z : Value} {d : TypeDesc} {hs : List (List Int)} {k : IntKind} {i : Int} (hT : P.underlying T = some (.slice e)) (ht : Ty P e d 32 bytes z)
    (hx : ev L x = some v) (hy : ev L y = some (.int k i)) (hh : lk H h = some (.own v tt 32 (flat hs))) (hu : H32 hs) (h0 : 0 ≤ i) (h1 : i < (hs.length : Nat)) :
    Ev P ⟨dst, .indexAddr T x y, ty, pos, af, gd⟩ E L H F (ptrAt v (i.toNat * 32)) :=
  ev_indexAddr_own hT ht hx hy hh (flat_len hu) (by decide) h0 h1
theorem ld_rdh {x : Operand} {T : TypeId} {h i bytes : Nat} {v z : Value} {d : TypeDesc} {hs : List (List Int)} (ht : Ty P T d 32 bytes z) (hd : aggD d = true) (hx : ev L x = some (ptrAt v (i * 32))) (hh : lk F h = some (.sl v 32 (flat hs))) (hu : H32 hs) (hi : i < hs.length) :
    Ev P ⟨dst, .load T x, ty, pos, af, gd⟩ E L H F (.agg (ints .u8 (hs.getD i [])).toArray) := by
  have := ld_rd (P := P) (E := E) (H := H) (dst := dst) (ty := ty) (pos := pos) (af := af) (gd := gd) ht hd hx hh (by decide) (by rw [flat_len hu]; omega)
  rwa [flat_get hu hi] at this
theorem ld_ownh {x : Operand} {T tt : TypeId} {h i bytes : Nat} {v z : Value} {d : TypeDesc} {hs : List (List Int)} (ht : Ty P T d 32 bytes z) (hd : aggD d = true) (hx : ev L x = some (ptrAt v (i * 32))) (hh : lk H h = some (.own v tt 32 (flat hs))) (hu : H32 hs) (hi : i < hs.length) :
    Ev P ⟨dst, .load T x, ty, pos, af, gd⟩ E L H F (.agg (ints .u8 (hs.getD i [])).toArray) := by
  have := ld_own (P := P) (E := E) (F := F) (dst := dst) (ty := ty) (pos := pos) (af := af) (gd := gd) ht hd hx hh (by decide) (by rw [flat_len hu]; omega)
  rwa [flat_get hu hi] at this
end
section
variable {P : Program} {Q : Exit → Act → World → Prop} {ops : Array Oper} {rest : List Oper} {E : Env} {L : List (Nat × Value)} {H : List (Nat × Ent)} {F : List (Nat × FE)}
variable {ty : TypeId} {pos : String} {af : Array Edge} {gd : Option (Nat × Bool)}
theorem st_appendh {dd T e X eX bytes : Nat} {s x : Operand} {d : TypeDesc} {z v xv : Value} {l cs : List (List Int)} (h : Nat) (hT : P.underlying T = some (.slice e)) (hX : P.underlying X = some (.slice eX)) (ht : Ty P e d 32 bytes z) (hz : z.cells.size = 32)
    (hv : ev L s = some v) (hx : ev L x = some xv) (hh : lk H h = some (.own v e 32 (flat l))) (hr : ∀ w, Sat E.w0 E.X H F w → Rd w xv 32 (flat cs)) (hu : H32 l) (hu' : H32 cs) (hsz : l.length + cs.length ≤ 1073741824) (hby : bytes ≤ 1024)
    (hg : wants ops L gd = some true) (hn : Nat.ble (dd + 1) E.n = true)
    (c : ∀ v', H32 (l ++ cs) → At (wpList P ops Q rest) E ((dd, v') :: L) ((h, .own v' e 32 (flat (l ++ cs))) :: H) F) :
    At (wpList P ops Q (⟨some dd, .call { callee := .builtin .append, args := #[s, x], argTypes := #[T, X] }, ty, pos, af, gd⟩ :: rest)) E L H F :=
  st_append (n := l.length) (m := cs.length) h hT hX ht hz hv hx hh hr (by decide) (flat_len hu) (flat_len hu') hsz hby (ints_one _ _) hg hn (fun v' => by rw [← flat_append]; exact c v' (hu.append hu'))
theorem st_store_ownh {x y : Operand} {T TT : TypeId} {v0 : Value} {i bytes : Nat} {z : Value} {d : TypeDesc} {l : List (List Int)} {hv : List Int} (h : Nat) (ht : Ty P T d 32 bytes z) (hx : ev L x = some (ptrAt v0 (i * 32))) (hy : ev L y = some (.agg (ints .u8 hv).toArray))
    (hh : lk H h = some (.own v0 TT 32 (flat l))) (hu : H32 l) (h1 : hv.length = 32) (hl : i < l.length) (hg : wants ops L gd = some true)
    (k : At (wpList P ops Q rest) E L ((h, .own v0 TT 32 (flat (l.set i hv))) :: H) F) : At (wpList P ops Q (⟨none, .store T x y, ty, pos, af, gd⟩ :: rest)) E L H F := by
  refine st_store_own (vl := ints .u8 hv) h ht hx hy hh rfl (by rw [ints_length, h1]) (ints_one _ _) (by rw [flat_len hu]; omega) (by decide) hg ?_
  rw [flat_wr hu hl h1]
  exact k
end
end Go.Proofs.Yteedclmcgifmpaa.Fw

/- Structs built of parts. -/
namespace Go.Proofs.Yteedclmcgifmpaa.Fw
open Go Go.RowKit
set_option linter.unusedVariables false
set_option linter.unusedSimpArgs false

theorem wr_none (z : List Value) (k : Nat) : wr z k [] = z := by simp [wr]
theorem fold_put : ∀ (vs : List Value) (k off : Nat) (z : List Value), off + k + vs.length ≤ z.length → (vs.zipIdx k).foldl (fun (cs : Array Value) (x : Value × Nat) => cs.setIfInBounds (off + x.2) x.1) z.toArray = (wr z (off + k) vs).toArray
  | [], k, off, z, _ => by rw [wr_none]; rfl
  | v :: vs, k, off, z, h => by
    simp only [List.length_cons] at h
    rw [List.zipIdx_cons, List.foldl_cons, List.setIfInBounds_toArray, fold_put vs (k + 1) off (z.set (off + k) v) (by rw [List.length_set]; omega), wr_cons (by omega)]
    rfl
theorem fill_nil {pl : Nat → Option (Nat × Nat)} {z : Array Value} : Instr.fill pl z [] = some z := by simp [Instr.fill]
theorem fill_put {pl : Nat → Option (Nat × Nat)} {i off n : Nat} {z vs : List Value} {v : Value} {rest : List (Nat × Value)} (hp : pl i = some (off, n)) (hv : v.cells = vs.toArray) (hn : vs.length = n) (hl : off + n ≤ z.length) :
    Instr.fill pl z.toArray ((i, v) :: rest) = Instr.fill pl (wr z off vs).toArray rest := by
  have h2 : (vs.toArray.size != n || decide (off + vs.toArray.size > z.toArray.size)) = false := by simp; omega
  have h3 := fold_put vs 0 off z (by omega)
  rw [Nat.add_zero] at h3
  have h4 : vs.toArray.zipIdx.foldl (fun (cs : Array Value) (x : Value × Nat) => cs.setIfInBounds (off + x.2) x.1) z.toArray = (wr z off vs).toArray := by
    rw [← h3]
    simp
  simp only [Instr.fill, hp, hv]
  rw [if_neg (by simp; omega)]
  exact congrArg (fun x => Instr.fill pl x rest) h4
theorem put_last {z a : List Value} {x : Value} {n : Nat} (ha : a.length = n) (hz : z.length = n + 1) : wr (wr z 0 a) n [x] = a ++ [x] := by
  simp [wr, ha, hz, List.take_append_of_le_length, List.drop_append, List.take_of_length_le, List.drop_of_length_le]

/-- an array among a slice's cells, as a slice -/
def arrAt (v : Value) (k n : Nat) : Value := match v with
  | .slice (some a) _ _ => .slice (some ⟨a.block, a.off + k, none⟩) n n
  | _ => .slice none 0 0
theorem rd_arr {w : World} {v : Value} {sz k n : Nat} {l : List Value} (hr : Rd w v sz l) (hk : k + n ≤ l.length) (hn : 0 < n) : Rd w (arrAt v k n) 1 ((l.drop k).take n) := by
  obtain ⟨a, len, cap, rfl, h1, h2, h3, h4⟩ := hr
  cases a with
  | none =>
    have := h3 rfl
    have : len = 0 := by omega
    subst this
    simp at h1
    simp [h1] at hk
    omega
  | some x =>
    refine ⟨_, n, n, rfl, by simp; omega, Nat.le_refl _, (fun h => by cases h), fun y hy => ?_⟩
    cases hy
    refine ⟨fun _ => rfl, fun i hi => ?_⟩
    have hi' : i < n := by simp at hi; omega
    have := (h4 x rfl).2 (k + i) (by omega)
    show w.cell? ⟨x.block, x.off + k + i, none⟩ = _
    rw [Nat.add_assoc, this, List.getElem?_take, if_pos hi', List.getElem?_drop]
theorem rd_arrh {w : World} {v : Value} {i : Nat} {hs : List (List Int)} (hr : Rd w v 32 (flat hs)) (hu : H32 hs) (hi : i < hs.length) : Rd w (arrAt v (i * 32) 32) 1 (ints .u8 (hs.getD i [])) := by
  have := rd_arr (k := i * 32) (n := 32) hr (by rw [flat_len hu]; omega) (by decide)
  rwa [flat_get hu hi] at this
section
variable {P : Program} {E : Env} {L : List (Nat × Value)} {H : List (Nat × Ent)} {F : List (Nat × FE)}
variable {dst : Option Tmp} {ty : TypeId} {pos : String} {af : Array Edge} {gd : Option (Nat × Bool)}
theorem ev_arrAt {x : Operand} {T e n k sz sz' bytes : Nat} {v z : Value} {d : TypeDesc} {l : List Value} (hT : P.underlying T = some (.array n e)) (ht : Ty P e d sz' bytes z) (hx : ev L x = some (ptrAt v k)) (hr : ∀ w, Sat E.w0 E.X H F w → Rd w v sz l)
    (hk : k < l.length) : Ev P ⟨dst, .slice T x none none none, ty, pos, af, gd⟩ E L H F (arrAt v k n) :=
  fun a w fa sw => by
    obtain ⟨b, len, cap, rfl, h1, h2, h3, h4⟩ := hr w sw
    cases b with
    | none =>
      have := h3 rfl
      have : len = 0 := by omega
      subst this
      simp at h1
      simp [h1] at hk
    | some y =>
      have e1 : ptrAt (.slice (some y) len cap) k = .pointer (some ⟨y.block, y.off + k, none⟩) := rfl
      rw [e1] at hx
      exact ev_slice_arr_all (P := P) (E := E) (L := L) (H := H) (F := F) (dst := dst) (ty := ty) (pos := pos) (af := af) (gd := gd) hT ht hx a w fa sw
end
section
variable {P : Program} {Q : Exit → Act → World → Prop} {ops : Array Oper} {rest : List Oper} {E : Env} {L : List (Nat × Value)} {H : List (Nat × Ent)} {F : List (Nat × FE)}
variable {ty : TypeId} {pos : String} {af : Array Edge} {gd : Option (Nat × Bool)}
/-- A slice of one hash. -/
theorem st_bsh1 {dst T e bytes : Nat} {x : Operand} {d : TypeDesc} {z : Value} {hv : List Int} (h : Nat) (hT : P.underlying T = some (.slice e)) (ht : Ty P e d 32 bytes z)
    (hx : ev L x = some (.agg (ints .u8 hv).toArray)) (h1 : hv.length = 32) (hg : wants ops L gd = some true) (hn : Nat.ble (dst + 1) E.n = true)
    (k : ∀ b, H32 [hv] → At (wpList P ops Q rest) E ((dst, .slice (some ⟨b, 0, none⟩) 1 1) :: L) ((h, .own (.slice (some ⟨b, 0, none⟩) 1 1) e 32 (flat [hv])) :: H) F) :
    At (wpList P ops Q (⟨some dst, .buildSlice T 1 #[(0, x)], ty, pos, af, gd⟩ :: rest)) E L H F := by
  refine st_buildSlice (vs := [.agg (ints .u8 hv).toArray]) (cells := flat [hv]) h hT ht (by simp [evs, hx]) (by decide) ?_ (by rw [flat_len (.one h1)]; rfl) hg hn (fun b => k b (.one h1))
  generalize hA : (Array.range (1 * 32)).map (fun i => (if 1 * 32 = 0 then #[] else z.cells)[i % (if 1 * 32 = 0 then #[] else z.cells : Array Value).size]!) = A
  have hl : A.size = 32 := by rw [← hA]; simp
  have h2 := fill_put (pl := fun i => some (i * 32, 32)) (i := 0) (off := 0) (n := 32) (z := A.toList) (vs := ints .u8 hv) (v := .agg (ints .u8 hv).toArray) (rest := []) rfl rfl (by rw [ints_length, h1]) (by simp [hl])
  rw [Array.toArray_toList, fill_nil, wr_all (by rw [ints_length, h1]; simp [hl])] at h2
  rw [flat_one]
  exact h2
end
section
variable {P : Program} {fn : Func} {R : Ending → World → Prop} {E : Env} {L : List (Nat × Value)} {H : List (Nat × Ent)} {F : List (Nat × FE)}
/-- Two results: one lies in a block, one in a register. -/
theorem rt_cell_tmp {ta T h0 b sz bytes : Nat} {u : Tmp} {v' : Value} {d : TypeDesc} {z : Value} {l : List Value} {TT : TypeId} {fz : Nat × Nat} {e : Exit} (he : e = .ret ∨ e = .normal) (hr : fn.results = #[.cell ta T, .tmp u]) (ht : Ty P T d sz bytes z) (hd : aggD d = true)
    (hv : lk L ta = some (.pointer (some ⟨b, 0, none⟩))) (hh : lk H h0 = some (.blk b (.cells l.toArray TT fz))) (hl : l.length = sz) (hv' : lk L u = some v') (h : ∀ w, Sat E.w0 E.X H F w → R (.returned (.tuple #[.agg l.toArray, v'])) w) : AtX (bodyPost P fn R) e E L H F := by
  intro a w fa sw
  have hx := fa.2.2 ta _ hv
  have hx' := fa.2.2 u v' hv'
  have : (results fn a.tmps).run P w = .ok (.tuple #[.agg l.toArray, v']) w := by
    have h2 := run_loadVar_agg (P := P) ht hd (lies_blk (sw.blk_eq hh)) hl
    have h3 : (a.tmps[ta]?.getD undef) = .pointer (some ⟨b, 0, none⟩) := by rw [← Array.getD_eq_getD_getElem?]; exact hx
    have h4 : (a.tmps[u]?.getD undef) = v' := by rw [← Array.getD_eq_getD_getElem?]; exact hx'
    simp [results, hr, h3, h4, asAddr, h2]
  rcases he with rfl | rfl <;> exact ⟨fa.1, _, this, h w sw⟩
end
end Go.Proofs.Yteedclmcgifmpaa.Fw

/- Two operations that may go in either order, and meet. -/
namespace Go.Proofs.Yteedclmcgifmpaa.Fw
open Go Go.RowKit Go.Proofs.Yteedclmcgifmpaa
set_option linter.unusedSimpArgs false
set_option linter.unusedVariables false
section
variable {P : Program} {ops : Array Oper} {E : Env} {L L' : List (Nat × Value)} {H H' : List (Nat × Ent)} {F F' F0 : List (Nat × FE)} {K K' : Act → World → Prop}
def Mid (F0 : List (Nat × FE)) (K : Act → World → Prop) : Act → World → Prop := fun a w => CF F0 w ∧ K a w
theorem at_mid (hF : Sub F0 F) (h : At K E L H F) : At (Mid F0 K) E L H F := fun a w fa sw => ⟨sw.cf hF, h a w fa sw⟩
def One (E : Env) (L : List (Nat × Value)) (H : List (Nat × Ent)) (F : List (Nat × FE)) : Act → World → Prop := fun a w => Fits E.n L a ∧ Sat E.w0 E.X H F w
theorem mx_dia {f i j : Nat} {listed : Array Bool} (hr : Region.ready .any ops listed = [i, j]) (hri : Region.ready .any ops (listed.setIfInBounds i true) = [j]) (hrj : Region.ready .any ops (listed.setIfInBounds j true) = [i]) (hF : Sub F0 F)
    (h1 : At (wpOp P ops bot i (Mid F0 (wpOp P ops bot j K'))) E L H F) (h2 : At (wpOp P ops bot j (Mid F0 (wpOp P ops bot i K'))) E L H F)
    (h : ∀ a w, K' a w → wpC P ops (CF F0) K f ((listed.setIfInBounds i true).setIfInBounds j true) a w) : At (wpC P ops (CF F0) K (f + 2) listed) E L H F := by
  by_cases hij : i = j
  · subst hij
    refine mx_step hr hF fun k hk => ?_
    obtain rfl : k = i := by rcases List.mem_cons.1 hk with h | h <;> simpa using h
    intro a w fa sw
    refine wpOp_mono (fun a' w' h3 => ?_) (h1 a w fa sw)
    exact ⟨h3.1, by rw [hri]; simp, fun j' hj' => by
      rw [hri] at hj'
      obtain rfl : j' = k := by simpa using hj'
      exact wpOp_mono (fun a'' w'' h4 => h a'' w'' h4) h3.2⟩
  refine mx_step hr hF fun k hk => ?_
  rcases List.mem_cons.1 hk with rfl | hk
  · intro a w fa sw
    refine wpOp_mono (fun a' w' h3 => ?_) (h1 a w fa sw)
    exact ⟨h3.1, by rw [hri]; simp, fun j' hj' => by
      rw [hri] at hj'
      obtain rfl : j' = j := by simpa using hj'
      exact wpOp_mono (fun a'' w'' h4 => h a'' w'' h4) h3.2⟩
  · obtain rfl : k = j := by simpa using hk
    intro a w fa sw
    refine wpOp_mono (fun a' w' h3 => ?_) (h2 a w fa sw)
    exact ⟨h3.1, by rw [hrj]; simp, fun j' hj' => by
      rw [hrj] at hj'
      obtain rfl : j' = i := by simpa using hj'
      refine wpOp_mono (fun a'' w'' h4 => ?_) h3.2
      have := h a'' w'' h4
      rwa [Array.setIfInBounds_comm _ _ hij] at this⟩
theorem mx_dia0 {f i j : Nat} {listed : Array Bool} (hr : Region.ready .any ops listed = [i, j]) (hri : Region.ready .any ops (listed.setIfInBounds i true) = [j]) (hrj : Region.ready .any ops (listed.setIfInBounds j true) = [i]) (hF : Sub F0 F)
    (h1 : At (wpOp P ops bot i (Mid F0 (wpOp P ops bot j (One E L' H' F)))) E L H F) (h2 : At (wpOp P ops bot j (Mid F0 (wpOp P ops bot i (One E L' H' F)))) E L H F)
    (h : At (wpC P ops (CF F0) K f ((listed.setIfInBounds i true).setIfInBounds j true)) E L' H' F) : At (wpC P ops (CF F0) K (f + 2) listed) E L H F :=
  mx_dia hr hri hrj hF h1 h2 fun a w hk => h a w hk.1 hk.2
theorem mx_dia1 {f i j : Nat} {listed : Array Bool} {Ls : Value → List (Nat × Value)} {Hs : Value → List (Nat × Ent)} (hr : Region.ready .any ops listed = [i, j]) (hri : Region.ready .any ops (listed.setIfInBounds i true) = [j]) (hrj : Region.ready .any ops (listed.setIfInBounds j true) = [i]) (hF : Sub F0 F)
    (h1 : At (wpOp P ops bot i (Mid F0 (wpOp P ops bot j (fun a w => ∃ x, One E (Ls x) (Hs x) F a w)))) E L H F) (h2 : At (wpOp P ops bot j (Mid F0 (wpOp P ops bot i (fun a w => ∃ x, One E (Ls x) (Hs x) F a w)))) E L H F)
    (h : ∀ x, At (wpC P ops (CF F0) K f ((listed.setIfInBounds i true).setIfInBounds j true)) E (Ls x) (Hs x) F) : At (wpC P ops (CF F0) K (f + 2) listed) E L H F :=
  mx_dia hr hri hrj hF h1 h2 fun a w ⟨x, hk⟩ => h x a w hk.1 hk.2
theorem mx_dia2 {f i j : Nat} {listed : Array Bool} {Ls : Value → Value → List (Nat × Value)} {Hs : Value → Value → List (Nat × Ent)} (hr : Region.ready .any ops listed = [i, j]) (hri : Region.ready .any ops (listed.setIfInBounds i true) = [j]) (hrj : Region.ready .any ops (listed.setIfInBounds j true) = [i]) (hF : Sub F0 F)
    (h1 : At (wpOp P ops bot i (Mid F0 (wpOp P ops bot j (fun a w => ∃ x y, One E (Ls x y) (Hs x y) F a w)))) E L H F) (h2 : At (wpOp P ops bot j (Mid F0 (wpOp P ops bot i (fun a w => ∃ x y, One E (Ls x y) (Hs x y) F a w)))) E L H F)
    (h : ∀ x y, At (wpC P ops (CF F0) K f ((listed.setIfInBounds i true).setIfInBounds j true)) E (Ls x y) (Hs x y) F) : At (wpC P ops (CF F0) K (f + 2) listed) E L H F :=
  mx_dia hr hri hrj hF h1 h2 fun a w ⟨x, y, hk⟩ => h x y a w hk.1 hk.2
end
end Go.Proofs.Yteedclmcgifmpaa.Fw

/- A cell of an array that lies among a slice's cells. -/
namespace Go.Proofs.Yteedclmcgifmpaa.Fw
open Go Go.RowKit Go.Proofs.Yteedclmcgifmpaa
set_option linter.unusedSimpArgs false
set_option linter.unusedVariables false
section
variable {P : Program} {E : Env} {L : List (Nat × Value)} {H : List (Nat × Ent)} {F : List (Nat × FE)}
variable {dst : Option Tmp} {ty : TypeId} {pos : String} {af : Array Edge} {gd : Option (Nat × Bool)}
theorem ptrIn_rd {w : World} {v : Value} {sz k : Nat} {l : List Value} (hr : Rd w v sz l) (hk : k < l.length) : ∃ b off, ptrAt v k = .pointer (some ⟨b, off, none⟩) ∧ ∀ j, ptrAt v (k + j) = .pointer (some ⟨b, off + j, none⟩) := by
  obtain ⟨b, len, cap, rfl, h1, h2, h3, h4⟩ := hr
  cases b with
  | none =>
    have := h3 rfl
    have : len = 0 := by omega
    subst this
    simp at h1
    simp [h1] at hk
  | some y => exact ⟨y.block, y.off + k, rfl, fun j => by simp [ptrAt, Nat.add_assoc]⟩
theorem ev_idxIn {x y : Operand} {T e : TypeId} {n k sz sz' bytes : Nat} {v z : Value} {d : TypeDesc} {l : List Value} {kk : IntKind} {i : Int} (hT : P.underlying T = some (.array n e)) (ht : Ty P e d sz' bytes z)
    (hx : ev L x = some (ptrAt v k)) (hy : ev L y = some (.int kk i)) (hr : ∀ w, Sat E.w0 E.X H F w → Rd w v sz l) (hk : k < l.length) (h0 : 0 ≤ i) (h1 : i < n) :
    Ev P ⟨dst, .indexAddr T x y, ty, pos, af, gd⟩ E L H F (ptrAt v (k + i.toNat * sz')) :=
  fun a w fa sw => by
    obtain ⟨b, off, e1, e2⟩ := ptrIn_rd (hr w sw) hk
    rw [e2]
    rw [e1] at hx
    exact ev_indexAddr_arr (P := P) (E := E) (H := H) (F := F) (dst := dst) (ty := ty) (pos := pos) (af := af) (gd := gd) hT ht hx hy h0 h1 a w fa sw
/-- A part of a struct that lies among a slice's cells. -/
theorem ev_fieldIn {x : Operand} {T : TypeId} {n k sz off' i : Nat} {v : Value} {l : List Value} {fs : Array Field} {f : Field} (hT : P.underlying T = some (.struct fs)) (hi : fs[i]? = some f) (ho : f.offset = off')
    (hx : ev L x = some (ptrAt v k)) (hr : ∀ w, Sat E.w0 E.X H F w → Rd w v sz l) (hk : k < l.length) (hf : ∀ b off, ev L x = some (.pointer (some ⟨b, off, none⟩)) → Ev P ⟨dst, .fieldAddr T x i, ty, pos, af, gd⟩ E L H F (.pointer (some ⟨b, off + off', none⟩))) :
    Ev P ⟨dst, .fieldAddr T x i, ty, pos, af, gd⟩ E L H F (ptrAt v (k + off')) :=
  fun a w fa sw => by
    obtain ⟨b, off, e1, e2⟩ := ptrIn_rd (hr w sw) hk
    rw [e2]
    exact hf b off (by rw [hx, e1]) a w fa sw
end
end Go.Proofs.Yteedclmcgifmpaa.Fw

/- A block handed in to be written; more than one new thing. -/
namespace Go.Proofs.Yteedclmcgifmpaa.Fw
open Go Go.RowKit Go.Proofs.Yteedclmcgifmpaa
set_option linter.unusedSimpArgs false
set_option linter.unusedVariables false
theorem Gives.rnf {w w' : World} {M : List Nat} {N N' : List (Nat × Ent)} (φ : Nat → Nat) (hφ : ∀ h e, lk N' h = some e → lk N (φ h) = some e) (hi : ∀ h h' e e', lk N' h = some e → lk N' h' = some e' → φ h = φ h' → h = h') (g : Gives w w' M N) : Gives w w' M N' :=
  ⟨g.tape, g.os, g.output, g.size, g.old, fun h e hh => g.hold _ _ (hφ h e hh), fun h e hh => g.fresh _ _ (hφ h e hh),
    fun h e h' e' hh hh' hne => g.apart _ _ _ _ (hφ h e hh) (hφ h' e' hh') fun hc => hne (hi h h' e e' hh hh' hc)⟩
theorem lk_two {e f x : Ent} {i j h : Nat} (hh : lk [(i, e), (j, f)] h = some x) : (h = i ∧ x = e) ∨ (h = j ∧ h ≠ i ∧ x = f) := by
  by_cases h1 : i = h
  · subst h1; rw [lk_cons_same] at hh; exact .inl ⟨rfl, (Option.some.inj hh).symm⟩
  · rw [lk_cons_ne h1] at hh
    obtain ⟨rfl, rfl⟩ := lk_one hh
    exact .inr ⟨rfl, fun h => h1 h.symm, rfl⟩
theorem Gives.rn2 {w w' : World} {M : List Nat} {e f : Ent} {a b : Nat} (hab : a ≠ b) (i j : Nat) (g : Gives w w' M [(a, e), (b, f)]) : Gives w w' M [(i, e), (j, f)] := by
  refine g.rnf (fun h => if h = i then a else b) (fun h x hh => ?_) (fun h h' x x' hh hh' hc => ?_)
  · rcases lk_two hh with ⟨rfl, rfl⟩ | ⟨rfl, hne, rfl⟩
    · rw [if_pos rfl, lk_cons_same]
    · rw [if_neg hne, lk_cons_ne hab, lk_cons_same]
  · rcases lk_two hh with ⟨rfl, rfl⟩ | ⟨rfl, hne, rfl⟩ <;> rcases lk_two hh' with ⟨rfl, rfl⟩ | ⟨rfl, hne', rfl⟩
    · rfl
    · rw [if_pos rfl, if_neg hne'] at hc; exact absurd hc hab
    · rw [if_pos rfl, if_neg hne] at hc; exact absurd hc.symm hab
    · rfl
theorem lk_three {e f d x : Ent} {i j k h : Nat} (hh : lk [(i, e), (j, f), (k, d)] h = some x) : (h = i ∧ x = e) ∨ (h = j ∧ h ≠ i ∧ x = f) ∨ (h = k ∧ h ≠ i ∧ h ≠ j ∧ x = d) := by
  by_cases h1 : i = h
  · subst h1; rw [lk_cons_same] at hh; exact .inl ⟨rfl, (Option.some.inj hh).symm⟩
  · rw [lk_cons_ne h1] at hh
    rcases lk_two hh with ⟨rfl, rfl⟩ | ⟨rfl, h2, rfl⟩
    · exact .inr (.inl ⟨rfl, fun h => h1 h.symm, rfl⟩)
    · exact .inr (.inr ⟨rfl, fun h => h1 h.symm, h2, rfl⟩)
theorem Gives.rn3 {w w' : World} {M : List Nat} {e f d : Ent} {a b c : Nat} (hab : a ≠ b) (hac : a ≠ c) (hbc : b ≠ c) (i j k : Nat) (g : Gives w w' M [(a, e), (b, f), (c, d)]) : Gives w w' M [(i, e), (j, f), (k, d)] := by
  refine g.rnf (fun h => if h = i then a else if h = j then b else c) (fun h x hh => ?_) (fun h h' x x' hh hh' hc => ?_)
  · rcases lk_three hh with ⟨rfl, rfl⟩ | ⟨rfl, hne, rfl⟩ | ⟨rfl, hne, hne2, rfl⟩
    · rw [if_pos rfl, lk_cons_same]
    · rw [if_neg hne, if_pos rfl, lk_cons_ne hab, lk_cons_same]
    · rw [if_neg hne, if_neg hne2, lk_cons_ne hac, lk_cons_ne hbc, lk_cons_same]
  · rcases lk_three hh with ⟨rfl, rfl⟩ | ⟨rfl, hne, rfl⟩ | ⟨rfl, hne, hne2, rfl⟩ <;> rcases lk_three hh' with ⟨rfl, rfl⟩ | ⟨rfl, hne', rfl⟩ | ⟨rfl, hne', hne2', rfl⟩ <;> first | rfl | (simp_all; done) | (exfalso; simp_all [eq_comm]; done) | (exfalso; simp only [if_pos, if_neg, *, not_false_eq_true, if_true, if_false] at hc; first | exact hab hc | exact hab hc.symm | exact hac hc | exact hac hc.symm | exact hbc hc | exact hbc hc.symm)
theorem rn2 {P : Program} {f : FuncId} {vs : Array Value} {w : World} {ι : Type} {M : List Nat} {Φ : ι → Prop} {v : ι → Value} {e e2 : ι → Ent} (i j : Nat) (h : Calls P f vs w (Post w M Φ v fun x => [(0, e x), (1, e2 x)])) :
    Calls P f vs w (Post w M Φ v fun x => [(i, e x), (j, e2 x)]) :=
  h.mono fun _ _ ⟨x, h1, h2, h3⟩ => ⟨x, h1, h2, h3.rn2 (by decide) i j⟩
theorem rn3 {P : Program} {f : FuncId} {vs : Array Value} {w : World} {ι : Type} {M : List Nat} {Φ : ι → Prop} {v : ι → Value} {e e2 e3 : ι → Ent} (i j k : Nat) (h : Calls P f vs w (Post w M Φ v fun x => [(0, e x), (1, e2 x), (2, e3 x)])) :
    Calls P f vs w (Post w M Φ v fun x => [(i, e x), (j, e2 x), (k, e3 x)]) :=
  h.mono fun _ _ ⟨x, h1, h2, h3⟩ => ⟨x, h1, h2, h3.rn3 (by decide) (by decide) (by decide) i j k⟩
theorem Sat.blkX {w : World} {b : Nat} {o : Obj} (i : Nat) (hb : w.heap[b]? = some o) : Sat w [b] [(i, .blk b o)] [] w :=
  .start w _ _ _ (fun h e hh => by obtain ⟨rfl, rfl⟩ := lk_one hh; exact hb) (fun h e hh b' hb' => by obtain ⟨rfl, rfl⟩ := lk_one hh; exact hb')
    (fun h e h' e' hh hh' hne => by obtain ⟨rfl, rfl⟩ := lk_one hh; obtain ⟨rfl, rfl⟩ := lk_one hh'; exact absurd rfl hne) (fun _ _ h => (lk_nil h).elim) (fun _ _ _ _ h => (lk_nil h).elim)
theorem Sat.readb {w0 w : World} {X : List Nat} {b i : Nat} {o : Obj} {F : List (Nat × FE)} (sw : Sat w0 X [(i, .blk b o)] F w) (j : Nat) {f : FE} (hf : f.holds w) (ho : f.off b) : Sat w0 X [(i, .blk b o)] ((j, f) :: F) w :=
  sw.read j hf fun h' e hh b' hb' => by
    obtain ⟨rfl, rfl⟩ := lk_one hh
    obtain rfl := mem_one hb'
    exact ho
theorem Sat.own_off {w0 w : World} {X : List Nat} {H : List (Nat × Ent)} {F : List (Nat × FE)} (sw : Sat w0 X H F w) {h h' b T sz : Nat} {v : Value} {l : List Value} {o : Obj} (hh : lk H h = some (.blk b o)) (hv : lk H h' = some (.own v T sz l)) (hne : h ≠ h') : FE.off b (.sl v sz l) :=
  .inr fun hb => sw.apart h _ h' _ hh hv hne b (by simp [Ent.ids]) hb
/-- what one written block stands for -/
theorem mod_blk3 {H : List (Nat × Ent)} {ι : Type} {k b j m : Nat} {o : Obj} {e' e2 e3 : ι → Ent} (hh : lk H k = some (.blk b o)) : ∀ b', b' ∈ [b] → ∃ k' e, lk H k' = some e ∧ b' ∈ e.ids ∧ ∀ x, lk [(k, e' x), (j, e2 x), (m, e3 x)] k' ≠ none :=
  fun b' hb => ⟨k, _, hh, by simpa [Ent.ids] using hb, fun x => by simp [lk_cons_same]⟩
theorem own_shape {w : World} {v : Value} {T sz : Nat} {l : List Value} (h : Own w v T sz l) : v.cells = #[v] ∧ v.oneCell' = true := by
  rcases h with ⟨rfl, _⟩ | ⟨b, len, cap, junk, rfl, _⟩ <;> exact ⟨rfl, rfl⟩
theorem at_own_shape {K : Act → World → Prop} {E : Env} {L : List (Nat × Value)} {H : List (Nat × Ent)} {F : List (Nat × FE)} {h T sz : Nat} {v : Value} {l : List Value} (hh : lk H h = some (.own v T sz l)) (k : v.cells = #[v] ∧ v.oneCell' = true → At K E L H F) : At K E L H F :=
  fun a w fa sw => k (own_shape (sw.hold _ _ hh)) a w fa sw
theorem rd_shape {w : World} {v : Value} {sz : Nat} {l : List Value} (h : Rd w v sz l) : v.cells = #[v] ∧ v.oneCell' = true := by
  obtain ⟨a, len, cap, rfl, _⟩ := h
  exact ⟨rfl, rfl⟩
end Go.Proofs.Yteedclmcgifmpaa.Fw

/- A block and what it owns, handed in to be written; zeros appended to nothing. -/
namespace Go.Proofs.Yteedclmcgifmpaa.Fw
open Go Go.RowKit Go.Proofs.Yteedclmcgifmpaa
set_option linter.unusedSimpArgs false
set_option linter.unusedVariables false
theorem Sat.two {w : World} {b : Nat} {o : Obj} {v : Value} {T sz : Nat} {l : List Value} (i j : Nat) (hij : i ≠ j) (hb : w.heap[b]? = some o) (hv : Own w v T sz l) (hbv : b ∉ blkOf v) : Sat w (b :: blkOf v) [(i, .blk b o), (j, .own v T sz l)] [] w := by
  refine .start w _ _ _ (fun h e hh => ?_) (fun h e hh b' hb' => ?_) (fun h e h' e' hh hh' hne b' hb' hb2 => ?_) (fun _ _ h => (lk_nil h).elim) (fun _ _ _ _ h => (lk_nil h).elim)
  · rcases lk_two hh with ⟨rfl, rfl⟩ | ⟨rfl, _, rfl⟩
    · exact hb
    · exact hv
  · rcases lk_two hh with ⟨rfl, rfl⟩ | ⟨rfl, _, rfl⟩
    · simp only [Ent.ids, List.mem_singleton] at hb'; subst hb'; exact List.mem_cons_self ..
    · exact List.mem_cons_of_mem _ hb'
  · rcases lk_two hh with ⟨rfl, rfl⟩ | ⟨rfl, _, rfl⟩ <;> rcases lk_two hh' with ⟨rfl, rfl⟩ | ⟨rfl, _, rfl⟩
    · exact hne rfl
    · simp only [Ent.ids, List.mem_singleton] at hb'; subst hb'; exact hbv hb2
    · simp only [Ent.ids, List.mem_singleton] at hb2; subst hb2; exact hbv hb'
    · exact hne rfl
theorem Sat.read2 {w0 w : World} {X : List Nat} {b i j T sz : Nat} {o : Obj} {v : Value} {l : List Value} {F : List (Nat × FE)} (sw : Sat w0 X [(i, .blk b o), (j, .own v T sz l)] F w) (k : Nat) {f : FE} (hf : f.holds w) (ho : f.off b) (ho2 : ∀ x, x ∈ blkOf v → f.off x) : Sat w0 X [(i, .blk b o), (j, .own v T sz l)] ((k, f) :: F) w :=
  sw.read k hf fun h' e hh b' hb' => by
    rcases lk_two hh with ⟨rfl, rfl⟩ | ⟨rfl, _, rfl⟩
    · obtain rfl := mem_one hb'; exact ho
    · exact ho2 _ hb'
theorem mod_two {H : List (Nat × Ent)} {ι : Type} {k j b T sz : Nat} {o : Obj} {v : Value} {l : List Value} {e' e2 : ι → Ent} (hh : lk H k = some (.blk b o)) (hv : lk H j = some (.own v T sz l)) : ∀ b', b' ∈ b :: blkOf v → ∃ k' e, lk H k' = some e ∧ b' ∈ e.ids ∧ ∀ x, lk [(k, e' x), (j, e2 x)] k' ≠ none := by
  intro b' hb
  rcases List.mem_cons.1 hb with rfl | hb
  · exact ⟨k, _, hh, by simp [Ent.ids], fun x => by simp [lk_cons_same]⟩
  · refine ⟨j, _, hv, hb, fun x => ?_⟩
    by_cases hkj : k = j
    · subst hkj; simp [lk_cons_same]
    · rw [lk_cons_ne hkj, lk_cons_same]; simp
theorem mod_blk2 {H : List (Nat × Ent)} {ι : Type} {k b j : Nat} {o : Obj} {e' e2 : ι → Ent} (hh : lk H k = some (.blk b o)) : ∀ b', b' ∈ [b] → ∃ k' e, lk H k' = some e ∧ b' ∈ e.ids ∧ ∀ x, lk [(k, e' x), (j, e2 x)] k' ≠ none :=
  fun b' hb => ⟨k, _, hh, by simpa [Ent.ids] using hb, fun x => by simp [lk_cons_same]⟩
theorem Sat.own_notin {w0 w : World} {X : List Nat} {H : List (Nat × Ent)} {F : List (Nat × FE)} (sw : Sat w0 X H F w) {h h' b T sz : Nat} {v : Value} {l : List Value} {o : Obj} (hh : lk H h = some (.blk b o)) (hv : lk H h' = some (.own v T sz l)) (hne : h ≠ h') : b ∉ blkOf v :=
  fun hb => sw.apart h _ h' _ hh hv hne b (by simp [Ent.ids]) hb
theorem Sat.own_own {w0 w : World} {X : List Nat} {H : List (Nat × Ent)} {F : List (Nat × FE)} (sw : Sat w0 X H F w) {h h' T sz T' sz' : Nat} {v v' : Value} {l l' : List Value} (hh : lk H h = some (.own v T sz l)) (hv : lk H h' = some (.own v' T' sz' l')) (hne : h ≠ h') : ∀ x, x ∈ blkOf v → FE.off x (.sl v' sz' l') :=
  fun x hx => .inr fun hb => sw.apart h _ h' _ hh hv hne x hx hb
theorem Sat.blk_off {w0 w : World} {X : List Nat} {H : List (Nat × Ent)} {F : List (Nat × FE)} (sw : Sat w0 X H F w) {h h' b b' : Nat} {o o' : Obj} {n c sz : Nat} {l : List Value} (hh : lk H h = some (.blk b o)) (hv : lk H h' = some (.blk b' o')) (hne : h ≠ h') : FE.off b (.sl (.slice (some ⟨b', 0, none⟩) n c) sz l) :=
  .inr fun hb => sw.apart h _ h' _ hh hv hne b (by simp [Ent.ids]) (by simpa [Ent.ids, blkOf] using hb)
theorem Sat.ownblk_off {w0 w : World} {X : List Nat} {H : List (Nat × Ent)} {F : List (Nat × FE)} (sw : Sat w0 X H F w) {h h' b' T sz' : Nat} {v : Value} {l' : List Value} {o' : Obj} {n c sz : Nat} {l : List Value} (hh : lk H h = some (.own v T sz' l')) (hv : lk H h' = some (.blk b' o')) (hne : h ≠ h') : ∀ x, x ∈ blkOf v → FE.off x (.sl (.slice (some ⟨b', 0, none⟩) n c) sz l) :=
  fun x hx => .inr fun hb => sw.apart h _ h' _ hh hv hne x hx (by simpa [Ent.ids, blkOf] using hb)
section
variable {P : Program} {Q : Exit → Act → World → Prop} {ops : Array Oper} {rest : List Oper} {E : Env} {L : List (Nat × Value)} {H : List (Nat × Ent)} {F : List (Nat × FE)}
variable {dst : Nat} {ty : TypeId} {pos : String} {af : Array Edge} {gd : Option (Nat × Bool)}
theorem ev_cap {ds : Option Tmp} {x : Operand} {T e : TypeId} {b : Option Addr} {n c : Nat} (hT : P.underlying T = some (.slice e)) (hx : ev L x = some (.slice b n c)) :
    Ev P ⟨ds, .call { callee := .builtin .cap, args := #[x], argTypes := #[T] }, ty, pos, af, gd⟩ E L H F (.int .i64 c) :=
  fun a w fa _ => by simp [execOp, resolve, invoke, builtin, Builtin.cap_, fa.ev hx, run_und hT, goInt]
theorem ev_len_of {ds : Option Tmp} {x : Operand} {T e : TypeId} {v : Value} {sz n : Nat} {l : List Value} (hT : P.underlying T = some (.slice e)) (hx : ev L x = some v) (hr : ∀ w, Sat E.w0 E.X H F w → Rd w v sz l)
    (hl : l.length = n * sz) (hs : 0 < sz) :
    Ev P ⟨ds, .call { callee := .builtin .len, args := #[x], argTypes := #[T] }, ty, pos, af, gd⟩ E L H F (.int .i64 n) :=
  fun a w fa sw => by
    obtain ⟨b, len, cap, rfl, h1, _⟩ := hr w sw
    have : len = n := Nat.eq_of_mul_eq_mul_right hs (by omega)
    simp [execOp, resolve, invoke, builtin, Builtin.len_, fa.ev hx, run_und hT, goInt, this]
theorem run_appendz_nil {w : World} {T e X ty bytes m sz : Nat} {kx kX : IntKind} {d : TypeDesc} {z : Value} (hT : P.underlying T = some (.slice e)) (ht : Ty P e d sz bytes z)
    (hX : P.underlying X = some (.int kX)) (hz : z.cells.size = sz) (hs : 0 < sz) (hm : 0 < m) (hsz : m ≤ 1073741824) (hby : bytes ≤ 1024) :
    ∃ newCap junk, m ≤ newCap ∧ junk.length = (newCap - m) * sz ∧
      (Builtin.append_ #[T, X] ty #[.slice none 0 0, .int kx m]).run P w = .ok (.slice (some ⟨w.heap.size, 0, none⟩) m newCap) ({ w with drawn := w.drawn + 1 }.alloc (.cells ((Builtin.zeroCells z.cells m).toList ++ junk).toArray e)) := by
  obtain ⟨i, hi, h1, h2, h3⟩ := ht.info
  generalize hq : Question.cut (.appendCap (0 + m) 0 e) (w.tape w.drawn (.appendCap (0 + m) 0 e)) = newCap
  have hnew : 0 + m ≤ newCap := by rw [← hq]; simp only [Question.cut]; omega
  refine ⟨newCap, (Builtin.zeroCells z.cells (newCap - (0 + m))).toList, by omega, by simp [zeroCells_size, hz], ?_⟩
  have hb1 : ¬ (0 + m ≤ 0) := by omega
  have hcap2 : ¬ (Builtin.nextslicecap (0 + m) 0 * i.bytes > 281474976710656) := by
    rw [h2]
    have a1 := nextslicecap_le (show 0 < 0 + m by omega)
    have a2 : Builtin.nextslicecap (0 + m) 0 * bytes ≤ (2 * (0 + m) + 512) * 1024 := Nat.mul_le_mul a1 hby
    omega
  have hmax : ¬ (((0 + m : Nat) : Int) > IntKind.i64.max) := by
    have : IntKind.i64.max = 9223372036854775807 := by decide
    omega
  have hm0 : ¬ ((m : Int) < 0) := by omega
  have hm1 : ¬ ((m : Int) * (i.bytes : Int) > 2 ^ 48) := by
    rw [h2]
    have : m * bytes ≤ 1073741824 * 1024 := Nat.mul_le_mul (by omega) hby
    have h4 : ((m * bytes : Nat) : Int) ≤ 1073741824 * 1024 := by omega
    push_cast at h4
    omega
  have hw : IntKind.i64.wrap (m : Int) = m := wrap64_id (by omega) (by omega)
  have hA : ∀ w, (asInt (.int kx (m : Int))).run P w = .ok (m : Int) w := fun _ => rfl
  have hi' : ∀ w, (typeInfo e).run P w = .ok i w := fun w => by simp [typeInfo, hi]
  have hms : ¬ (m * sz = 0) := by have := Nat.mul_pos hm hs; omega
  simp only [Builtin.append_, List.getElem?_toArray, List.getElem?_cons_zero, List.getElem?_cons_succ, Sem.run_bind, run_und hT, Result.andThen_ok, ht.run_size, run_und hX, Sem.run_pure, if_true, hA, hw, if_neg hm0, hi', Sem.run_ite, if_neg hm1, Int.toNat_natCast]
  have hcap3 : ¬ (Builtin.nextslicecap (0 + m) 0 * i.bytes > 2 ^ 48) := hcap2
  simp only [if_neg hb1, hmax, false_and, if_false, Sem.run_bind, hi', Result.andThen_ok, if_neg hcap3, run_choose, Question.forced, Bool.false_eq_true, hq, run_askRoom, Builtin.firstCells, Sem.run_pure, Bool.not_true, if_neg hms, ht.run_zero, newRow, run_newObj]
  have e1 : (#[] : Array Value) ++ Builtin.zeroCells z.cells m ++ Builtin.zeroCells z.cells (newCap - (0 + m)) = ((Builtin.zeroCells z.cells m).toList ++ (Builtin.zeroCells z.cells (newCap - (0 + m))).toList).toArray := by simp
  rw [e1, Nat.zero_add]
  rfl
theorem st_appendz_nil {T e X bytes m sz : Nat} {s x : Operand} {kx kX : IntKind} {d : TypeDesc} {z : Value} (h : Nat) (hT : P.underlying T = some (.slice e)) (hX : P.underlying X = some (.int kX)) (ht : Ty P e d sz bytes z) (hz : z.cells.size = sz) (hs : 0 < sz)
    (hv : ev L s = some (.slice none 0 0)) (hx : ev L x = some (.int kx m)) (hm : 0 < m) (hsz : m ≤ 1073741824) (hby : bytes ≤ 1024) (hg : wants ops L gd = some true) (hn : Nat.ble (dst + 1) E.n = true)
    (k : ∀ v' l, l.length = m * sz → At (wpList P ops Q rest) E ((dst, v') :: L) ((h, .own v' e sz l) :: H) F) :
    At (wpList P ops Q (⟨some dst, .call { callee := .builtin .append, args := #[s, x], argTypes := #[T, X] }, ty, pos, af, gd⟩ :: rest)) E L H F := by
  refine st_gives hg rfl hn fun a w fa sw => ?_
  obtain ⟨nc, junk, g1, g2, g3⟩ := run_appendz_nil (P := P) (w := w) (ty := ty) (kx := kx) hT ht hX hz hs hm hsz hby
  have hex : (execOp a.eval ⟨some dst, .call { callee := .builtin .append, args := #[s, x], argTypes := #[T, X] }, ty, pos, af, gd⟩).run P w = .ok (.value (.slice (some ⟨w.heap.size, 0, none⟩) m nc)) ({ w with drawn := w.drawn + 1 }.alloc (.cells ((Builtin.zeroCells z.cells m).toList ++ junk).toArray e)) := by
    simp [execOp, resolve, invoke, builtin, fa.ev hv, fa.ev hx, g3]
  have hl : (Builtin.zeroCells z.cells m).toList.length = m * sz := by simp [zeroCells_size, hz]
  refine ⟨_, _, [], [(h, .own (.slice (some ⟨w.heap.size, 0, none⟩) m nc) e sz (Builtin.zeroCells z.cells m).toList)], hex, ?_, nil_all, k _ _ hl⟩
  refine Gives.drawn (gives_alloc { w with drawn := w.drawn + 1 } _ h _ (.inr ⟨_, _, nc, junk, rfl, hl, by rw [g2], g1, ?_⟩) (by simp [Ent.ids, blkOf]))
  exact heap_alloc_new { w with drawn := w.drawn + 1 } _
end
end Go.Proofs.Yteedclmcgifmpaa.Fw

/- Regions whose order is open: what is owned and not written there may be read, too. -/
namespace Go.Proofs.Yteedclmcgifmpaa.Fw
open Go Go.RowKit Go.Proofs.Yteedclmcgifmpaa
set_option linter.unusedSimpArgs false
set_option linter.unusedVariables false
section
variable {P : Program} {Q : Exit → Act → World → Prop} {ops : Array Oper} {E : Env} {L : List (Nat × Value)} {H : List (Nat × Ent)} {F F0 : List (Nat × FE)} {K : Act → World → Prop}
theorem CF.cons {w : World} {i : Nat} {f : FE} {F : List (Nat × FE)} (hf : f.holds w) (h : CF F w) : CF ((i, f) :: F) w := fun k e hk => by
  by_cases e1 : i = k
  · subst e1; rw [lk_cons_same] at hk; cases hk; exact hf
  · rw [lk_cons_ne e1] at hk; exact h k e hk
theorem cd_mixp {id : Nat} {l : List Oper} (F0 : List (Nat × FE)) (hm : P.follows .mixedOrders = true) (h : At (wpC P l.toArray (CF F0) (Q .normal) l.length (Array.replicate l.length false)) E L H F) : At ((Code.region id l.toArray true).wp P Q) E L H F :=
  fun a w fa sw => wp_region_any hm (by
    have := h a _ fa (sw.drawn (w.drawn + 1))
    have h2 := wpAny_of_wpC _ _ _ _ this
    simpa using h2)
/-- What leaves memory alone, and reads what is only read, goes first. -/
theorem mxp {f i d : Nat} {o : Oper} {v : Value} {listed : Array Bool} (hi : ops[i]? = some o) (hs : Region.noSelect ops = true) (hr : (Region.ready .any ops listed).contains i = true) (hf : Region.free .any ops listed i = true) (hg : wants ops L o.guard = some true)
    (he : ∀ w, Ev P o ⟨E.n, w, []⟩ L [] F0 v) (hd : o.dst = some d) (hn : Nat.ble (d + 1) E.n = true) (hF : ∀ w, Sat E.w0 E.X H F w → CF F0 w)
    (k : At (wpC P ops (CF F0) K f (listed.setIfInBounds i true)) E ((d, v) :: L) H F) : At (wpC P ops (CF F0) K (f + 1) listed) E L H F := by
  intro a w fa sw
  refine wpC_first (v := v) hi (Region.noSelect_spec hs) f listed a w (Region.free_spec hi hf) (by simpa using hr) (.inl ⟨wants_eq fa hg, fun w' hw' => ?_⟩) (hF w sw) ?_
  · exact he w' a w' fa (.start w' _ _ _ (fun _ _ h => (lk_nil h).elim) (fun _ _ h => (lk_nil h).elim) (fun _ _ _ _ h => (lk_nil h).elim) hw' (fun _ _ _ _ _ h => (lk_nil h).elim))
  · rw [hd]
    exact k _ w (fa.put (Nat.le_of_ble_eq_true hn) v) sw
theorem mxp_skip {f i d : Nat} {o : Oper} {listed : Array Bool} (hi : ops[i]? = some o) (hs : Region.noSelect ops = true) (hr : (Region.ready .any ops listed).contains i = true) (hf : Region.free .any ops listed i = true) (hg : wants ops L o.guard = some false)
    (hd : o.dst = some d) (hn : Nat.ble (d + 1) E.n = true) (hF : ∀ w, Sat E.w0 E.X H F w → CF F0 w)
    (k : At (wpC P ops (CF F0) K f (listed.setIfInBounds i true)) E ((d, undef) :: L) H F) : At (wpC P ops (CF F0) K (f + 1) listed) E L H F := by
  intro a w fa sw
  refine wpC_first (v := undef) hi (Region.noSelect_spec hs) f listed a w (Region.free_spec hi hf) (by simpa using hr) (.inr ⟨wants_eq fa hg, rfl⟩) (hF w sw) ?_
  rw [hd]
  exact k _ w (fa.put (Nat.le_of_ble_eq_true hn) undef) sw
theorem mxp_step {f : Nat} {listed : Array Bool} {i : Nat} {rs : List Nat} (hr : Region.ready .any ops listed = i :: rs) (hF : ∀ w, Sat E.w0 E.X H F w → CF F0 w) (h : ∀ j, j ∈ i :: rs → At (wpOp P ops bot j (wpC P ops (CF F0) K f (listed.setIfInBounds j true))) E L H F) :
    At (wpC P ops (CF F0) K (f + 1) listed) E L H F :=
  fun a w fa sw => ⟨hF w sw, fun h0 => by (rw [hr] at h0; cases h0), fun j hj => h j (by rw [hr] at hj; exact hj) a w fa sw⟩
theorem mxp_one {f : Nat} {listed : Array Bool} {i : Nat} (hr : Region.ready .any ops listed = [i]) (hF : ∀ w, Sat E.w0 E.X H F w → CF F0 w) (h : At (wpOp P ops bot i (wpC P ops (CF F0) K f (listed.setIfInBounds i true))) E L H F) :
    At (wpC P ops (CF F0) K (f + 1) listed) E L H F := by
  refine mxp_step hr hF fun j hj => ?_
  obtain rfl : j = i := by simpa using hj
  exact h
theorem mxp_two {f : Nat} {listed : Array Bool} {i j : Nat} (hr : Region.ready .any ops listed = [i, j]) (hF : ∀ w, Sat E.w0 E.X H F w → CF F0 w) (h1 : At (wpOp P ops bot i (wpC P ops (CF F0) K f (listed.setIfInBounds i true))) E L H F)
    (h2 : At (wpOp P ops bot j (wpC P ops (CF F0) K f (listed.setIfInBounds j true))) E L H F) : At (wpC P ops (CF F0) K (f + 1) listed) E L H F := by
  refine mxp_step hr hF fun k hk => ?_
  rcases List.mem_cons.1 hk with rfl | hk
  · exact h1
  · obtain rfl : k = j := by simpa using hk
    exact h2
theorem mxp_done {listed : Array Bool} (hr : Region.ready .any ops listed = []) (hF : ∀ w, Sat E.w0 E.X H F w → CF F0 w) (h : AtX Q .normal E L H F) : At (wpC P ops (CF F0) (Q .normal) 0 listed) E L H F :=
  fun a w fa sw => ⟨hF w sw, hr, h a w fa sw⟩
end
end Go.Proofs.Yteedclmcgifmpaa.Fw

/- Rows of slices that are read; calls that hand back more than they name; one struct as a slice. -/
namespace Go.Proofs.Yteedclmcgifmpaa.Fw
open Go Go.RowKit Go.Proofs.Yteedclmcgifmpaa
set_option linter.unusedSimpArgs false
set_option linter.unusedVariables false
section
variable {K : Act → World → Prop} {E : Env} {L : List (Nat × Value)} {H : List (Nat × Ent)} {F : List (Nat × FE)}
theorem at_rows_nil (i : Nat) (k : At K E L H ((i, .rows []) :: F)) : At K E L H F := fun a w fa sw =>
  k a w fa (sw.read i (f := .rows []) (fun x hx => by cases hx) (fun _ _ _ _ _ x hx => by cases hx))
theorem at_rows_add {h T sz i : Nat} {v : Value} {l : List Value} {H' : List (Nat × Ent)} {rs : List (Value × Nat × List Value)} (hh : lk H h = some (.own v T sz l)) (hf : lk F i = some (.rows rs)) (hH : Sub H' H) (hno : lk H' h = none)
    (k : (∀ b, b ∈ blkOf v → E.w0.heap.size ≤ b ∨ b ∈ E.X) → At K E L H' ((i, .rows ((v, sz, l) :: rs)) :: F)) : At K E L H F := fun a w fa sw =>
  k (fun b hb => sw.fresh _ _ hh b hb) a w fa ((sw.weaken hH (.refl _)).read i (f := .rows _)
    (fun x hx => by
      rcases List.mem_cons.1 hx with rfl | hx
      · exact sw.own_rd hh
      · exact sw.rd _ _ hf x hx)
    (fun h' e hh' b hb x hx => by
      rcases List.mem_cons.1 hx with rfl | hx
      · exact .inr fun hb' => sw.apart h' e h _ (hH _ _ hh') hh (by intro e1; subst e1; rw [hno] at hh'; cases hh') b hb hb'
      · exact sw.off _ _ _ _ hf (hH _ _ hh') b hb x hx))
theorem Sat.row {w0 w : World} {X : List Nat} (sw : Sat w0 X H F w) {i sz : Nat} {v : Value} {l : List Value} {rs : List (Value × Nat × List Value)} (hf : lk F i = some (.rows rs)) (hx : (v, sz, l) ∈ rs) : Rd w v sz l := sw.rd _ _ hf _ hx
end
def PostR {ι : Type} (w : World) (Φ : ι → Prop) (v : ι → Value) (N : ι → List (Nat × Ent)) (R : ι → List (Value × Nat × List Value)) (e : Ending) (w' : World) : Prop :=
  ∃ x, Φ x ∧ e = .returned (v x) ∧ Gives w w' [] (N x) ∧ (∀ y, y ∈ R x → Rd w' y.1 y.2.1 y.2.2 ∧ ∀ b, b ∈ blkOf y.1 → w.heap.size ≤ b) ∧ ∀ h e, lk (N x) h = some e → ∀ b, b ∈ e.ids → (FE.rows (R x)).off b
section
variable {P : Program} {Q : Exit → Act → World → Prop} {ops : Array Oper} {rest : List Oper} {E : Env} {L : List (Nat × Value)} {H : List (Nat × Ent)} {F : List (Nat × FE)}
variable {ty : TypeId} {pos : String} {af : Array Edge} {gd : Option (Nat × Bool)}
theorem st_callR {dst f : Nat} {args : Array Operand} {Ts : Array TypeId} {vs : List Value} {ι : Type} {Φ : ι → Prop} {v : ι → Value} {N : ι → List (Nat × Ent)} {R : ι → List (Value × Nat × List Value)} (i : Nat) (hf : Has P f) (ha : evs L args.toList = some vs)
    (hc : ∀ w, Sat E.w0 E.X H F w → Calls P f vs.toArray w (PostR w Φ v N R)) (hg : wants ops L gd = some true) (hn : Nat.ble (dst + 1) E.n = true)
    (k : ∀ x, Φ x → (∀ y, y ∈ R x → ∀ b, b ∈ blkOf y.1 → E.w0.heap.size ≤ b) → At (wpList P ops Q rest) E ((dst, v x) :: L) (N x ++ H) ((i, .rows (R x)) :: F)) :
    At (wpList P ops Q (⟨some dst, .call { callee := .value (.func f), args := args, argTypes := Ts }, ty, pos, af, gd⟩ :: rest)) E L H F := by
  refine st_run hg fun a w fa sw => ?_
  unfold Oper.wp
  rw [run_call hf ha fa w]
  refine (hc w sw).mono ?_
  rintro e w' ⟨x, hx, rfl, hG, hR, hO⟩
  show wpList P ops Q rest (a.put (some dst) (v x)) w'
  refine k x hx (fun y hy b hb => Nat.le_trans sw.size ((hR y hy).2 b hb)) _ _ (fa.put (Nat.le_of_ble_eq_true hn) _) ((sw.step hG (fun b hb => by cases hb)).read i (f := .rows (R x)) (fun y hy => (hR y hy).1) (fun h' e hh b hb y hy => ?_))
  rw [lk_append] at hh
  cases hN : lk (N x) h' with
  | some e' =>
    rw [hN] at hh
    cases hh
    exact hO _ _ hN b hb y hy
  | none =>
    rw [hN] at hh
    refine .inr fun hb' => ?_
    have h1 := (hR y hy).2 b hb'
    have h2 := Ent.lt (sw.hold _ _ hh) hb
    omega
/-- A slice of one struct. -/
theorem st_bs1 {dst T e sz bytes : Nat} {x : Operand} {d : TypeDesc} {z : Value} {cs : List Value} (h : Nat) (hT : P.underlying T = some (.slice e)) (ht : Ty P e d sz bytes z) (hz : z.cells.size = sz)
    (hx : ev L x = some (.agg cs.toArray)) (hl : cs.length = sz) (hle : sz ≤ 16777216) (hs : 0 < sz) (hg : wants ops L gd = some true) (hn : Nat.ble (dst + 1) E.n = true)
    (k : ∀ b, At (wpList P ops Q rest) E ((dst, .slice (some ⟨b, 0, none⟩) 1 1) :: L) ((h, .own (.slice (some ⟨b, 0, none⟩) 1 1) e sz cs) :: H) F) :
    At (wpList P ops Q (⟨some dst, .buildSlice T 1 #[(0, x)], ty, pos, af, gd⟩ :: rest)) E L H F := by
  refine st_buildSlice (vs := [.agg cs.toArray]) (cells := cs) h hT ht (by simp [evs, hx]) (by omega) ?_ (by rw [hl, Nat.one_mul]) hg hn k
  have key : ∀ A : Array Value, A.size = sz → Instr.fill (fun i => some (i * sz, sz)) A [(0, .agg cs.toArray)] = some cs.toArray := fun A hA => by
    have h1 := fill_put (pl := fun i => some (i * sz, sz)) (i := 0) (off := 0) (n := sz) (z := A.toList) (vs := cs) (v := .agg cs.toArray) (rest := []) (by simp) rfl hl (by simp [hA])
    rw [Array.toArray_toList, fill_nil, wr_all (by rw [hl]; simp [hA])] at h1
    exact h1
  refine key _ ?_
  have : ¬ 1 * sz = 0 := by omega
  simp
end
section
variable {P : Program} {fn : Func} {R : Ending → World → Prop} {E : Env} {L : List (Nat × Value)} {H : List (Nat × Ent)} {F : List (Nat × FE)}
/-- Two results, each in a block. -/
theorem rt_cell2 {ta tb T T' h0 h1 b b' sz sz' bytes bytes' : Nat} {d d' : TypeDesc} {z z' : Value} {l l' : List Value} {TT TT' : TypeId} {fz fz' : Nat × Nat} {e : Exit} (he : e = .ret ∨ e = .normal) (hr : fn.results = #[.cell ta T, .cell tb T'])
    (ht : Ty P T d sz bytes z) (hd : aggD d = true) (ht' : Ty P T' d' sz' bytes' z') (hd' : aggD d' = true)
    (hv : lk L ta = some (.pointer (some ⟨b, 0, none⟩))) (hh : lk H h0 = some (.blk b (.cells l.toArray TT fz))) (hl : l.length = sz)
    (hv' : lk L tb = some (.pointer (some ⟨b', 0, none⟩))) (hh' : lk H h1 = some (.blk b' (.cells l'.toArray TT' fz'))) (hl' : l'.length = sz')
    (h : ∀ w, Sat E.w0 E.X H F w → R (.returned (.tuple #[.agg l.toArray, .agg l'.toArray])) w) : AtX (bodyPost P fn R) e E L H F := by
  intro a w fa sw
  have hx := fa.2.2 ta _ hv
  have hx' := fa.2.2 tb _ hv'
  have : (results fn a.tmps).run P w = .ok (.tuple #[.agg l.toArray, .agg l'.toArray]) w := by
    have h2 := run_loadVar_agg (P := P) ht hd (lies_blk (sw.blk_eq hh)) hl
    have h2' := run_loadVar_agg (P := P) ht' hd' (lies_blk (sw.blk_eq hh')) hl'
    have h3 : (a.tmps[ta]?.getD undef) = .pointer (some ⟨b, 0, none⟩) := by rw [← Array.getD_eq_getD_getElem?]; exact hx
    have h4 : (a.tmps[tb]?.getD undef) = .pointer (some ⟨b', 0, none⟩) := by rw [← Array.getD_eq_getD_getElem?]; exact hx'
    simp [results, hr, h3, h4, asAddr, h2, h2']
  rcases he with rfl | rfl <;> exact ⟨fa.1, _, this, h w sw⟩
end
end Go.Proofs.Yteedclmcgifmpaa.Fw

/- A slice of two structs. -/
namespace Go.Proofs.Yteedclmcgifmpaa.Fw
open Go Go.RowKit Go.Proofs.Yteedclmcgifmpaa
set_option linter.unusedSimpArgs false
set_option linter.unusedVariables false
section
variable {P : Program} {Q : Exit → Act → World → Prop} {ops : Array Oper} {rest : List Oper} {E : Env} {L : List (Nat × Value)} {H : List (Nat × Ent)} {F : List (Nat × FE)}
variable {ty : TypeId} {pos : String} {af : Array Edge} {gd : Option (Nat × Bool)}
theorem wr_two {z cs ds : List Value} {n : Nat} (hz : z.length = 2 * n) (hc : cs.length = n) (hd : ds.length = n) : wr (wr z 0 cs) n ds = cs ++ ds := by
  have h1 : wr z 0 cs = cs ++ z.drop n := by rw [wr, List.take_zero, List.nil_append, hc, Nat.zero_add]
  rw [h1, wr, List.take_left' hc, List.drop_append, hc, hd, List.drop_eq_nil_of_le (by omega), List.nil_append, List.drop_drop, List.drop_eq_nil_of_le (by omega), List.append_nil]
/-- A slice of two structs. -/
theorem st_bs2 {dst T e sz bytes : Nat} {x y : Operand} {d : TypeDesc} {z : Value} {cs ds : List Value} (h : Nat) (hT : P.underlying T = some (.slice e)) (ht : Ty P e d sz bytes z) (hz : z.cells.size = sz)
    (hx : ev L x = some (.agg cs.toArray)) (hy : ev L y = some (.agg ds.toArray)) (hl : cs.length = sz) (hl2 : ds.length = sz) (hle : 2 * sz ≤ 16777216) (hs : 0 < sz) (hg : wants ops L gd = some true) (hn : Nat.ble (dst + 1) E.n = true)
    (k : ∀ b, At (wpList P ops Q rest) E ((dst, .slice (some ⟨b, 0, none⟩) 2 2) :: L) ((h, .own (.slice (some ⟨b, 0, none⟩) 2 2) e sz (cs ++ ds)) :: H) F) :
    At (wpList P ops Q (⟨some dst, .buildSlice T 2 #[(0, x), (1, y)], ty, pos, af, gd⟩ :: rest)) E L H F := by
  refine st_buildSlice (vs := [.agg cs.toArray, .agg ds.toArray]) (cells := cs ++ ds) h hT ht (by simp [evs, hx, hy]) hle ?_ (by rw [List.length_append, hl, hl2]; omega) hg hn k
  have key : ∀ A : Array Value, A.size = 2 * sz → Instr.fill (fun i => some (i * sz, sz)) A [(0, .agg cs.toArray), (1, .agg ds.toArray)] = some (cs ++ ds).toArray := fun A hA => by
    have h1 := fill_put (pl := fun i => some (i * sz, sz)) (i := 0) (off := 0) (n := sz) (z := A.toList) (vs := cs) (v := .agg cs.toArray) (rest := [(1, .agg ds.toArray)]) (by simp) rfl hl (by simp [hA]; omega)
    have h2 := fill_put (pl := fun i => some (i * sz, sz)) (i := 1) (off := sz) (n := sz) (z := wr A.toList 0 cs) (vs := ds) (v := .agg ds.toArray) (rest := []) (by simp) rfl hl2 (by rw [wr_length (by simp [hA, hl]; omega)]; simp [hA]; omega)
    rw [Array.toArray_toList, h2, fill_nil, wr_two (by simp [hA]) hl hl2] at h1
    exact h1
  refine key _ ?_
  simp
end
end Go.Proofs.Yteedclmcgifmpaa.Fw

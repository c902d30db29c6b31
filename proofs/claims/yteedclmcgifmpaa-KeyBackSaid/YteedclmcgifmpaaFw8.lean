/- Beginnings of a walk; small words. -/
import Derived.Test.YteedclmcgifmpaaFw7
import Derived.Laws.BytesString
namespace Go.Proofs.Yteedclmcgifmpaa.Fw
open Go Go.RowKit

theorem Sat.blk0 (w : World) (i b : Nat) (o : Obj) (h : w.heap[b]? = some o) : Sat w [b] [(i, .blk b o)] [] w := by
  refine .start w _ _ _ (fun k e hk => ?_) (fun k e hk b' hb => ?_) (fun k e k' e' hk hk' hne => ?_) (fun _ _ h => (lk_nil h).elim) (fun _ _ _ _ h => (lk_nil h).elim)
  · obtain ⟨rfl, rfl⟩ := lk_one hk; exact h
  · obtain ⟨rfl, rfl⟩ := lk_one hk; simpa [Ent.ids] using hb
  · obtain ⟨rfl, rfl⟩ := lk_one hk; obtain ⟨rfl, rfl⟩ := lk_one hk'; exact absurd rfl hne
theorem Sat.own0 (w : World) (i : Nat) (v : Value) (T sz : Nat) (l : List Value) (h : Own w v T sz l) : Sat w (blkOf v) [(i, .own v T sz l)] [] w := by
  refine .start w _ _ _ (fun k e hk => ?_) (fun k e hk b' hb => ?_) (fun k e k' e' hk hk' hne => ?_) (fun _ _ h => (lk_nil h).elim) (fun _ _ _ _ h => (lk_nil h).elim)
  · obtain ⟨rfl, rfl⟩ := lk_one hk; exact h
  · obtain ⟨rfl, rfl⟩ := lk_one hk; simpa [Ent.ids] using hb
  · obtain ⟨rfl, rfl⟩ := lk_one hk; obtain ⟨rfl, rfl⟩ := lk_one hk'; exact absurd rfl hne
theorem off_one {f : FE} {i : Nat} {e : Ent} (hf : ∀ b, b ∈ e.ids → f.off b) : ∀ h' e', lk [(i, e)] h' = some e' → ∀ b, b ∈ e'.ids → f.off b :=
  fun _ _ hk b hb => by obtain ⟨rfl, rfl⟩ := lk_one hk; exact hf b hb
theorem off_nil {f : FE} : ∀ h' e', lk ([] : List (Nat × Ent)) h' = some e' → ∀ b, b ∈ e'.ids → f.off b := fun _ _ hk => (lk_nil hk).elim
/-- One slice that is read. -/
theorem Sat.rd0 {w : World} {v : Value} {sz : Nat} {l : List Value} (i : Nat) (h : Rd w v sz l) : Sat w [] [] [(i, .sl v sz l)] w := (Sat.start0 w).read i h off_nil
theorem Sat.more {w : World} {F : List (Nat × FE)} (sw : Sat w [] [] F w) {v : Value} {sz : Nat} {l : List Value} (i : Nat) (h : Rd w v sz l) : Sat w [] [] ((i, .sl v sz l) :: F) w := sw.read i h off_nil
theorem rd_blk_all {w0 w : World} {X : List Nat} {H : List (Nat × Ent)} {F : List (Nat × FE)} (sw : Sat w0 X H F w) {h b n sz : Nat} {l : List Value} {T : TypeId} {fz : Nat × Nat} (hh : lk H h = some (.blk b (.cells l.toArray T fz))) (hl : l.length = n * sz) :
    Rd w (.slice (some ⟨b, 0, none⟩) n n) sz l := by
  have := sw.rd_blk (n := n) (c := n) (sz := sz) (off := 0) hh (Nat.le_refl _) (by omega)
  simpa [← hl] using this
theorem Gives.rd {w w' : World} {M : List Nat} {N : List (Nat × Ent)} (g : Gives w w' M N) {v : Value} {sz : Nat} {l : List Value} (h : Rd w v sz l) (hM : ∀ b, b ∈ M → b ∉ blkOf v) : Rd w' v sz l :=
  h.keep fun b hb hv _ => g.old b hb fun hm => hM b hm hv
theorem off_sl {v : Value} {sz b : Nat} {l : List Value} (h : b ∉ blkOf v) : FE.off b (.sl v sz l) := .inr h
theorem Sat.off_sl {w0 w : World} {X : List Nat} {H : List (Nat × Ent)} {F : List (Nat × FE)} (sw : Sat w0 X H F w) {f h sz b : Nat} {v : Value} {l : List Value} {e : Ent} (hf : lk F f = some (.sl v sz l)) (hh : lk H h = some e) (hb : b ∈ e.ids) (hl : l ≠ []) : b ∉ blkOf v :=
  (sw.off f _ h _ hf hh b hb).resolve_left hl
theorem Sat.off_mem {w0 w : World} {X : List Nat} {H : List (Nat × Ent)} {F : List (Nat × FE)} (sw : Sat w0 X H F w) {f h b b' off : Nat} {l : List Value} {e : Ent} (hf : lk F f = some (.mem b' off l)) (hh : lk H h = some e) (hb : b ∈ e.ids) (hl : l ≠ []) : b ≠ b' :=
  (sw.off f _ h _ hf hh b hb).resolve_left hl
theorem Sat.ne_blk {w0 w : World} {X : List Nat} {H : List (Nat × Ent)} {F : List (Nat × FE)} (sw : Sat w0 X H F w) {h h' b b' : Nat} {o o' : Obj} (hh : lk H h = some (.blk b o)) (hh' : lk H h' = some (.blk b' o')) (hne : h ≠ h') : b ≠ b' :=
  fun e => sw.apart h _ h' _ hh hh' hne b (by simp [Ent.ids]) (by simp [Ent.ids, e])
theorem Gives.rn {w w' : World} {M : List Nat} {i : Nat} {e : Ent} (j : Nat) (g : Gives w w' M [(i, e)]) : Gives w w' M [(j, e)] :=
  ⟨g.tape, g.os, g.output, g.size, g.old, fun h e' hh => by obtain ⟨rfl, rfl⟩ := lk_one hh; exact g.hold i _ (lk_cons_same _ _ _),
    fun h e' hh => by obtain ⟨rfl, rfl⟩ := lk_one hh; exact g.fresh i _ (lk_cons_same _ _ _),
    fun h e1 h' e2 hh hh' hne => by obtain ⟨rfl, rfl⟩ := lk_one hh; obtain ⟨rfl, rfl⟩ := lk_one hh'; exact absurd rfl hne⟩
theorem rn {P : Program} {f : FuncId} {vs : Array Value} {w : World} {ι : Type} {M : List Nat} {Φ : ι → Prop} {v : ι → Value} {i : Nat} {e : ι → Ent} (j : Nat) (h : Calls P f vs w (Post w M Φ v fun x => [(i, e x)])) :
    Calls P f vs w (Post w M Φ v fun x => [(j, e x)]) :=
  h.mono fun _ _ ⟨x, h1, h2, h3⟩ => ⟨x, h1, h2, h3.rn j⟩
theorem mod_blk {H : List (Nat × Ent)} {ι : Type} {k b : Nat} {o : Obj} {e' : ι → Ent} (hh : lk H k = some (.blk b o)) : ∀ b', b' ∈ [b] → ∃ k' e, lk H k' = some e ∧ b' ∈ e.ids ∧ ∀ x, lk [(k, e' x)] k' ≠ none :=
  fun b' hb => ⟨k, _, hh, by simpa [Ent.ids] using hb, fun x => by simp [lk_cons_same]⟩
theorem Sat.rd_tail {w0 w : World} {X : List Nat} {H : List (Nat × Ent)} {F : List (Nat × FE)} (sw : Sat w0 X H F w) {h b off n : Nat} {k : IntKind} {l : List Int} {T : TypeId} {fz : Nat × Nat} (hh : lk H h = some (.blk b (.cells (ints k l).toArray T fz))) (ho : off + n = l.length) :
    Rd w (.slice (some ⟨b, off, none⟩) n n) 1 (ints k (l.drop off)) := by
  have := sw.rd_blk (n := n) (c := n) (sz := 1) (off := off) hh (Nat.le_refl _) (by rw [ints_length]; omega)
  rw [ints_drop, ints_take, List.take_of_length_le (by simp; omega)] at this
  exact this
theorem mem_one {b c : Nat} (h : b ∈ [c]) : b = c := by simpa using h

theorem fill_one (vs : List Value) : ∀ (i : Nat) (cl : List Value), i + vs.length ≤ cl.length → (∀ v, v ∈ vs → v.cells = #[v]) →
    Instr.fill (fun i => some (i * 1, 1)) cl.toArray ((List.range' i vs.length).zip vs) = some (wr cl i vs).toArray := by
  induction vs with
  | nil => intro i cl _ _; simp [Instr.fill, wr]
  | cons v r ih =>
    intro i cl h hv
    simp only [List.length_cons] at h
    have h1 := hv v (by simp)
    simp only [List.length_cons, List.range'_succ, List.zip_cons_cons, Instr.fill, h1, Nat.mul_one]
    have h2 : ¬ (#[v].size ≠ 1 ∨ i + #[v].size > cl.toArray.size) := by simp; omega
    have h3 : (if #[v].size ≠ 1 || i + #[v].size > cl.toArray.size then none else
        Instr.fill (fun i => some (i * 1, 1)) (#[v].zipIdx.foldl (fun cs (c, j) => cs.setIfInBounds (i + j) c) cl.toArray) ((List.range' (i + 1) r.length).zip r)) =
        Instr.fill (fun i => some (i * 1, 1)) (#[v].zipIdx.foldl (fun cs (c, j) => cs.setIfInBounds (i + j) c) cl.toArray) ((List.range' (i + 1) r.length).zip r) := by
      rw [if_neg]
      simpa using h2
    simp only [Nat.mul_one] at h3
    rw [h3]
    have h4 : (#[v].zipIdx.foldl (fun cs (c, j) => cs.setIfInBounds (i + j) c) cl.toArray) = (cl.set i v).toArray := by simp
    rw [h4]
    have := ih (i + 1) (cl.set i v) (by simp; omega) (fun u hu => hv u (by simp [hu]))
    simp only [Nat.mul_one] at this
    rw [this, wr_cons (by omega)]

section
variable {P : Program} {E : Env} {L : List (Nat × Value)} {H : List (Nat × Ent)} {F : List (Nat × FE)}
variable {dst : Option Tmp} {ty : TypeId} {pos : String} {af : Array Edge} {gd : Option (Nat × Bool)}
/-- What is read, once more under another key. -/
theorem at_alias {K : Act → World → Prop} {h : Nat} {f : FE} (i : Nat) (hh : lk F h = some f) (k : At K E L H ((i, f) :: F)) : At K E L H F :=
  fun a w fa sw => k a w fa (sw.read i (sw.rd h f hh) fun k' e hk b hb => sw.off h f k' e hh hk b hb)
theorem at_feq {K : Act → World → Prop} {i : Nat} {v v' : FE} (hc : lk F i = some v) (hv : v = v') (h : At K E L H ((i, v') :: F)) : At K E L H F := by
  subst hv
  exact fun a w fa sw => h a w fa (sw.weaken (.refl _) (.cons hc (.refl _)))
theorem ax_feq {Q : Exit → Act → World → Prop} {e : Exit} {i : Nat} {v v' : FE} (hc : lk F i = some v) (hv : v = v') (h : AtX Q e E L H ((i, v') :: F)) : AtX Q e E L H F := by
  subst hv
  exact fun a w fa sw => h a w fa (sw.weaken (.refl _) (.cons hc (.refl _)))
/-- A part of a slice of numbers. -/
theorem at_cuti {K : Act → World → Prop} {h lo hi : Nat} {v : Value} {k : IntKind} {l : List Int} (h' : Nat) (hh : lk F h = some (.sl v 1 (ints k l))) (h1 : lo ≤ hi) (h2 : hi ≤ l.length)
    (c : At K E L H ((h', .sl (cutAt 1 v lo hi) 1 (ints k ((l.drop lo).take (hi - lo)))) :: F)) : At K E L H F := by
  refine at_cut (n := l.length) (lo := lo) (hi := hi) h' hh (by decide) (by rw [ints_length, Nat.mul_one]) h1 h2 ?_
  simp only [Nat.mul_one, ints_drop, ints_take]
  exact c
/-- A part of a slice that is owned, handed on to be read. -/
theorem Rd.cuti {w : World} {v : Value} {k : IntKind} {l : List Int} {lo hi : Nat} (h : Rd w v 1 (ints k l)) (h1 : lo ≤ hi) (h2 : hi ≤ l.length) : Rd w (cutAt 1 v lo hi) 1 (ints k ((l.drop lo).take (hi - lo))) := by
  have := rd_cut (n := l.length) h (by decide) (by rw [ints_length, Nat.mul_one]) h1 h2
  simpa only [Nat.mul_one, ints_drop, ints_take] using this
theorem ev_slicei {T e bytes : Nat} {x lo hi : Operand} {v z : Value} {d : TypeDesc} {kk : IntKind} {l : List Int} {k k' : IntKind} {i j : Int} (hT : P.underlying T = some (.slice e)) (ht : Ty P e d 1 bytes z) (hx : ev L x = some v)
    (hlo : ev L lo = some (.int k i)) (hhi : ev L hi = some (.int k' j)) (hr : ∀ w, Sat E.w0 E.X H F w → Rd w v 1 (ints kk l)) (h0 : 0 ≤ i) (h1 : i ≤ j) (h2 : j ≤ (l.length : Nat)) :
    Ev P ⟨dst, .slice T x (some lo) (some hi) none, ty, pos, af, gd⟩ E L H F (cutAt 1 v i.toNat j.toNat) :=
  ev_slice_rd (n := l.length) hT ht hx hlo hhi hr (by decide) (by rw [ints_length, Nat.mul_one]) h0 h1 h2
theorem ev_slicei_lo {T e bytes : Nat} {x lo : Operand} {v z : Value} {d : TypeDesc} {kk : IntKind} {l : List Int} {k : IntKind} {i : Int} (hT : P.underlying T = some (.slice e)) (ht : Ty P e d 1 bytes z) (hx : ev L x = some v)
    (hlo : ev L lo = some (.int k i)) (hr : ∀ w, Sat E.w0 E.X H F w → Rd w v 1 (ints kk l)) (h0 : 0 ≤ i) (h1 : i ≤ (l.length : Nat)) :
    Ev P ⟨dst, .slice T x (some lo) none none, ty, pos, af, gd⟩ E L H F (cutAt 1 v i.toNat l.length) :=
  ev_slice_rd_lo (n := l.length) hT ht hx hlo hr (by decide) (by rw [ints_length, Nat.mul_one]) h0 h1
theorem ev_slicei_hi {T e bytes : Nat} {x hi : Operand} {v z : Value} {d : TypeDesc} {kk : IntKind} {l : List Int} {k : IntKind} {j : Int} (hT : P.underlying T = some (.slice e)) (ht : Ty P e d 1 bytes z) (hx : ev L x = some v)
    (hhi : ev L hi = some (.int k j)) (hr : ∀ w, Sat E.w0 E.X H F w → Rd w v 1 (ints kk l)) (h0 : 0 ≤ j) (h1 : j ≤ (l.length : Nat)) :
    Ev P ⟨dst, .slice T x none (some hi) none, ty, pos, af, gd⟩ E L H F (cutAt 1 v 0 j.toNat) :=
  ev_slice_rd_hi (n := l.length) hT ht hx hhi hr (by decide) (by rw [ints_length, Nat.mul_one]) h0 h1
theorem st_bsi {Q : Exit → Act → World → Prop} {ops : Array Oper} {rest : List Oper} {dd T e n bytes : Nat} {ps : Array (Nat × Operand)} {z : Value} {k : IntKind} {xs : List Int} (h : Nat) (hT : P.underlying T = some (.slice e)) (ht : Ty P e (.int k) 1 bytes z)
    (hi : ps.toList.map (·.1) = List.range' 0 n) (hx : evs L (ps.toList.map (·.2)) = some (ints k xs)) (hl : xs.length = n) (hle : n ≤ 16777216) (hg : wants ops L gd = some true) (hn : Nat.ble (dd + 1) E.n = true)
    (c : ∀ b, At (wpList P ops Q rest) E ((dd, .slice (some ⟨b, 0, none⟩) n n) :: L) ((h, .own (.slice (some ⟨b, 0, none⟩) n n) e 1 (ints k xs)) :: H) F) :
    At (wpList P ops Q (⟨some dd, .buildSlice T n ps, ty, pos, af, gd⟩ :: rest)) E L H F := by
  refine st_buildSlice (sz := 1) (cells := ints k xs) h hT ht hx (by omega) ?_ (by rw [ints_length, hl, Nat.mul_one]) hg hn c
  rw [hi]
  generalize hA : (Array.range (n * 1)).map ((if n * 1 = 0 then #[] else z.cells)[· % (if n * 1 = 0 then #[] else z.cells : Array Value).size]!) = A
  have hAl : A.size = n := by rw [← hA]; simp
  have := fill_one (ints k xs) 0 A.toList (by simp [ints_length, hl, hAl]) (fun v hv => by
    simp only [ints, List.mem_map] at hv
    obtain ⟨x, _, rfl⟩ := hv
    rfl)
  rw [ints_length, hl, wr_all (by simp [ints_length, hl, hAl]), Array.toArray_toList] at this
  exact this
/-- Numbers behind numbers. -/
theorem st_appendi {Q : Exit → Act → World → Prop} {ops : Array Oper} {rest : List Oper} {dd T e X eX bytes : Nat} {s x : Operand} {z v xv : Value} {k : IntKind} {l cs : List Int} (h : Nat) (hT : P.underlying T = some (.slice e)) (hX : P.underlying X = some (.slice eX)) (ht : Ty P e (.int k) 1 bytes z) (hz : z.cells.size = 1)
    (hv : ev L s = some v) (hx : ev L x = some xv) (hh : lk H h = some (.own v e 1 (ints k l))) (hr : ∀ w, Sat E.w0 E.X H F w → Rd w xv 1 (ints k cs)) (hsz : l.length + cs.length ≤ 1073741824) (hby : bytes ≤ 1024)
    (hg : wants ops L gd = some true) (hn : Nat.ble (dd + 1) E.n = true)
    (c : ∀ v', At (wpList P ops Q rest) E ((dd, v') :: L) ((h, .own v' e 1 (ints k (l ++ cs))) :: H) F) :
    At (wpList P ops Q (⟨some dd, .call { callee := .builtin .append, args := #[s, x], argTypes := #[T, X] }, ty, pos, af, gd⟩ :: rest)) E L H F :=
  st_append (n := l.length) (m := cs.length) h hT hX ht hz hv hx hh hr (by decide) (by rw [ints_length, Nat.mul_one]) (by rw [ints_length, Nat.mul_one]) hsz hby (ints_one _ _) hg hn (fun v' => by rw [← ints_append]; exact c v')
/-- The begin of numbers that are owned. -/
theorem at_own_takei {K : Act → World → Prop} {h T hi : Nat} {v : Value} {k : IntKind} {l : List Int} (hh : lk H h = some (.own v T 1 (ints k l))) (h1 : hi ≤ l.length)
    (c : At K E L ((h, .own (cutAt 1 v 0 hi) T 1 (ints k (l.take hi))) :: H) F) : At K E L H F := by
  refine at_own_take (n := l.length) (hi := hi) hh (by decide) (by rw [ints_length, Nat.mul_one]) h1 ?_
  rw [Nat.mul_one, ints_take]
  exact c
/-- append of nothing to a slice that is only read -/
theorem ev_append_none {T e X eX sz bytes : Nat} {s x : Operand} {d : TypeDesc} {z xv : Value} {b : Addr} {n c : Nat} (hT : P.underlying T = some (.slice e)) (hX : P.underlying X = some (.slice eX)) (ht : Ty P e d sz bytes z)
    (hv : ev L s = some (.slice (some b) n c)) (hx : ev L x = some xv) (hr : ∀ w, Sat E.w0 E.X H F w → Rd w xv sz []) (hs : 0 < sz) (hnc : n ≤ c) :
    Ev P ⟨dst, .call { callee := .builtin .append, args := #[s, x], argTypes := #[T, X] }, ty, pos, af, gd⟩ E L H F (.slice (some b) n c) :=
  fun a w fa sw => by
    have e1 := run_lenOf (P := P) (n := 0) (hr w sw) hs (by simp)
    have e2 := run_firstCells (P := P) (n := 0) (hr w sw) (by simp)
    have h1 : n + 0 ≤ c := hnc
    have e3 : (Builtin.append_ #[T, X] ty #[.slice (some b) n c, xv]).run P w = .ok (.slice (some b) n c) w := by
      simp only [Builtin.append_, List.getElem?_toArray, List.getElem?_cons_zero, List.getElem?_cons_succ, Sem.run_bind, run_und hT, Result.andThen_ok, ht.run_size, run_und hX, Sem.run_pure, Bool.false_eq_true, if_false, e1]
      simp only [if_pos h1, Sem.run_bind, Bool.not_false, if_true, e2, Result.andThen_ok]
      rfl
    simp only [execOp, resolve, invoke, builtin, List.map_toArray, List.map_cons, List.map_nil, fa.ev hv, fa.ev hx, Sem.run_bind, Sem.run_pure, Result.andThen_ok, e3]
/-- append to a full slice that is only read: a new block -/
theorem st_append_full {Q : Exit → Act → World → Prop} {ops : Array Oper} {rest : List Oper} {dd T e X eX sz bytes n m : Nat} {s x : Operand} {d : TypeDesc} {z xv : Value} {b : Option Addr} {l cs : List Value} (h : Nat) (hT : P.underlying T = some (.slice e)) (hX : P.underlying X = some (.slice eX)) (ht : Ty P e d sz bytes z) (hz : z.cells.size = sz)
    (hv : ev L s = some (.slice b n n)) (hx : ev L x = some xv) (hr0 : ∀ w, Sat E.w0 E.X H F w → Rd w (.slice b n n) sz l) (hr : ∀ w, Sat E.w0 E.X H F w → Rd w xv sz cs) (hs : 0 < sz) (hl : l.length = n * sz) (hcs : cs.length = m * sz) (hm : 0 < m) (hsz : n + m ≤ 1073741824) (hby : bytes ≤ 1024)
    (hg : wants ops L gd = some true) (hn : Nat.ble (dd + 1) E.n = true)
    (k : ∀ v', At (wpList P ops Q rest) E ((dd, v') :: L) ((h, .own v' e sz (l ++ cs)) :: H) F) :
    At (wpList P ops Q (⟨some dd, .call { callee := .builtin .append, args := #[s, x], argTypes := #[T, X] }, ty, pos, af, gd⟩ :: rest)) E L H F := by
  refine st_gives hg rfl hn fun a w fa sw => ?_
  obtain ⟨nc, junk, g1, g2, g3⟩ := run_append_grow (P := P) (w := w) (ty := ty) hT ht hX hz (hr0 w sw) hl (hr w sw) hcs hs (by omega) hsz hby
  have hrun : (execOp a.eval ⟨some dd, .call { callee := .builtin .append, args := #[s, x], argTypes := #[T, X] }, ty, pos, af, gd⟩).run P w = .ok (.value (.slice (some ⟨w.heap.size, 0, none⟩) (n + m) nc)) ({ w with drawn := w.drawn + 1 }.alloc (.cells (l ++ cs ++ junk).toArray e)) := by
    simp only [execOp, resolve, invoke, builtin, List.map_toArray, List.map_cons, List.map_nil, fa.ev hv, fa.ev hx, Sem.run_bind, Sem.run_pure, Result.andThen_ok, g3]
  refine ⟨_, _, [], [(h, .own (.slice (some ⟨w.heap.size, 0, none⟩) (n + m) nc) e sz (l ++ cs))], hrun, ?_, nil_all, k _⟩
  refine Gives.drawn (gives_alloc { w with drawn := w.drawn + 1 } _ h _ (.inr ⟨_, _, nc, junk, rfl, ?_, g2, g1, ?_⟩) (by simp [Ent.ids, blkOf]))
  · rw [List.length_append, hl, hcs, Nat.add_mul]
  · exact heap_alloc_new { w with drawn := w.drawn + 1 } _
/-- A block that is owned, whole, as a slice that is only read from here on. -/
theorem at_freeze_sl {K : Act → World → Prop} {h T b n : Nat} {k : IntKind} {l : List Int} {fz : Nat × Nat} {H' : List (Nat × Ent)} (f : Nat) (hh : lk H h = some (.blk b (.cells (ints k l).toArray T fz))) (hn : l.length = n) (hH : Sub H' H) (hno : lk H' h = none)
    (c : At K E L H' ((f, .sl (.slice (some ⟨b, 0, none⟩) n n) 1 (ints k l)) :: F)) : At K E L H F := by
  intro a w fa sw
  refine c a w fa ((sw.weaken hH (.refl _)).read f (rd_blk_all sw hh (by rw [ints_length, hn, Nat.mul_one])) fun k' e hk b' hb => .inr fun hb' => ?_)
  have hne : k' ≠ h := by intro e1; subst e1; rw [hno] at hk; cases hk
  simp only [blkOf, List.mem_singleton] at hb'
  subst hb'
  exact sw.apart k' e h _ (hH _ _ hk) hh hne _ hb (by simp [Ent.ids])
/-- bytes of what is owned or read, as a string -/
def strOf (l : List Int) : ByteArray := ⟨(l.map fun x => UInt8.ofNat x.toNat).toArray⟩
theorem run_toString {w : World} {v : Value} {l : List Int} (hr : Rd w v 1 (ints .u8 l)) : (Conv.bytesToString v).run P w = .ok (.string (strOf l)) w := by
  obtain ⟨b, len, cap, rfl, g1, g2, g3, g4⟩ := hr
  rw [ints_length, Nat.mul_one] at g1
  cases b with
  | none =>
    have := g3 rfl
    have : len = 0 := by omega
    subst this
    have : l = [] := List.length_eq_zero_iff.1 g1
    subst this
    rfl
  | some x =>
    obtain ⟨xb, xo, xs⟩ := x
    have hx := (g4 _ rfl).1
    simp only at hx
    subst hx
    have h2 : Lies w xb xo (ints .u8 l) := (g4 _ rfl).2
    have h3 := run_loadCells (P := P) h2
    rw [ints_length, g1] at h3
    rw [Go.run_bytesToString w _ len cap l (by simpa [ints] using h3)]
    have key : ∀ (l : List Int) (s : ByteArray), l.foldl (fun r n => r.push (UInt8.ofNat n.toNat)) s = ⟨s.data ++ (l.map fun x => UInt8.ofNat x.toNat).toArray⟩ := by
      intro l
      induction l with
      | nil => intro s; simp
      | cons x r ih => intro s; simp only [List.foldl_cons]; rw [ih]; simp [ByteArray.push]
    rw [key]
    have e : ByteArray.empty.data = #[] := rfl
    rw [e, Array.empty_append]
    rfl
theorem ev_string {T T' e : TypeId} {x : Operand} {v : Value} {l : List Int} (h1 : P.underlying T = some (.slice e)) (h3 : P.underlying e = some (.int .u8)) (h2 : P.underlying T' = some .string) (hx : ev L x = some v) (hr : ∀ w, Sat E.w0 E.X H F w → Rd w v 1 (ints .u8 l)) :
    Ev P ⟨dst, .convert T T' x, ty, pos, af, gd⟩ E L H F (.string (strOf l)) :=
  fun a w fa sw => by
    obtain ⟨b, len, cap, rfl, _⟩ := hr w sw
    have := run_toString (P := P) (hr w sw)
    simp only [execOp, fa.ev hx, convert, Sem.run_bind, run_und h1, run_und h2, Result.andThen_ok, run_und h3, this, Sem.run_pure]
theorem ev_concat {T T' : Nat} {x y : Operand} {b c : ByteArray} (hx : ev L x = some (.string b)) (hy : ev L y = some (.string c)) (hsz : b.size + c.size ≤ 1073741824) : Ev P ⟨dst, .binOp .add T x y T', ty, pos, af, gd⟩ E L H F (.string (b ++ c)) :=
  fun a w fa _ => by
    have h1 : ¬ (((b.size + c.size : Nat) : Int) > IntKind.i64.max) := by
      have : IntKind.i64.max = 9223372036854775807 := by decide
      omega
    simp only [execOp, fa.ev hx, fa.ev hy, eqGuard, binOp, Op.stringOp, Sem.run_bind, if_neg h1]
    rfl
theorem ev_slice_str {T : TypeId} {x lo hi : Operand} {s : ByteArray} {k k' : IntKind} {i j : Int} (hT : P.underlying T = some .string) (hx : ev L x = some (.string s)) (hlo : ev L lo = some (.int k i)) (hhi : ev L hi = some (.int k' j)) (h0 : 0 ≤ i) (h1 : i ≤ j) (h2 : j ≤ s.size) :
    Ev P ⟨dst, .slice T x (some lo) (some hi) none, ty, pos, af, gd⟩ E L H F (.string (s.extract i.toNat j.toNat)) :=
  fun a w fa _ => by
    have h3 : 0 ≤ j := by omega
    have h4 : max j 0 = j := by omega
    simp [execOp, fa.ev hx, fa.ev hlo, fa.ev hhi, Instr.sliceAt, run_und hT, Instr.slice, Instr.sliceBounds, Instr.sliceBound, asIntOf, h0, h1, h2, h3, h4]
theorem ev_quou8 {T T' : TypeId} {x y : Operand} {i j : Int} (hx : ev L x = some (.int .u8 i)) (hy : ev L y = some (.int .u8 j)) (h1 : 0 ≤ i) (h2 : i ≤ 255) (h3 : 0 < j) : Ev P ⟨dst, .binOp .quo T x y T', ty, pos, af, gd⟩ E L H F (.int .u8 (i / j)) := by
  have := ev_quo (P := P) (E := E) (H := H) (F := F) (dst := dst) (ty := ty) (pos := pos) (af := af) (gd := gd) (T := T) (T' := T') hx hy (by omega)
  rw [Int.tdiv_eq_ediv_of_nonneg h1] at this
  have h4 : 0 ≤ i / j := Int.ediv_nonneg h1 (by omega)
  have h5 : i / j ≤ i := Int.ediv_le_self j h1
  rwa [wrapu8_id h4 (by omega)] at this
theorem ev_remu8 {T T' : TypeId} {x y : Operand} {i j : Int} (hx : ev L x = some (.int .u8 i)) (hy : ev L y = some (.int .u8 j)) (h1 : 0 ≤ i) (h3 : 0 < j) : Ev P ⟨dst, .binOp .rem T x y T', ty, pos, af, gd⟩ E L H F (.int .u8 (i % j)) := by
  have := ev_rem (P := P) (E := E) (H := H) (F := F) (dst := dst) (ty := ty) (pos := pos) (af := af) (gd := gd) (T := T) (T' := T') hx hy (by omega); rwa [Int.tmod_eq_emod_of_nonneg h1] at this
theorem ev_addu8 {T T' : TypeId} {x y : Operand} {i j : Int} (hx : ev L x = some (.int .u8 i)) (hy : ev L y = some (.int .u8 j)) (h1 : 0 ≤ i + j) (h2 : i + j ≤ 255) : Ev P ⟨dst, .binOp .add T x y T', ty, pos, af, gd⟩ E L H F (.int .u8 (i + j)) := by
  have := ev_add (P := P) (E := E) (H := H) (F := F) (dst := dst) (ty := ty) (pos := pos) (af := af) (gd := gd) (T := T) (T' := T') hx hy; rwa [wrapu8_id h1 h2] at this
theorem ev_indexi {x y : Operand} {T e n bytes : Nat} {z : Value} {kk k : IntKind} {l : List Int} {i : Int} (hT : P.underlying T = some (.array n e)) (ht : Ty P e (.int kk) 1 bytes z)
    (hx : ev L x = some (.agg (ints kk l).toArray)) (hy : ev L y = some (.int k i)) (h0 : 0 ≤ i) (h1 : i < n) (hl : l.length = n) : Ev P ⟨dst, .index T x y, ty, pos, af, gd⟩ E L H F (.int kk (l.getD i.toNat 0)) :=
  ev_index1 hT ht rfl hx hy h0 h1 (by rw [Nat.mul_one, List.getElem?_toArray]; exact ints_get kk l _ (by omega))
theorem ev_indexAddr_arrm {x y : Operand} {T e : TypeId} {n b off sz bytes : Nat} {z : Value} {d : TypeDesc} {k : IntKind} {i : Int} (m : Nat) (hm : off + i.toNat * sz = m) (hT : P.underlying T = some (.array n e)) (ht : Ty P e d sz bytes z)
    (hx : ev L x = some (.pointer (some ⟨b, off, none⟩))) (hy : ev L y = some (.int k i)) (h0 : 0 ≤ i) (h1 : i < n) :
    Ev P ⟨dst, .indexAddr T x y, ty, pos, af, gd⟩ E L H F (.pointer (some ⟨b, m, none⟩)) := by
  subst hm; exact ev_indexAddr_arr hT ht hx hy h0 h1
/-- An array of numbers, all told. -/
theorem ev_build_ints {T e n sz bytes bytes' : Nat} {ps : Array (Nat × Operand)} {d : TypeDesc} {z z' : Value} {k : IntKind} {xs zs : List Int} (ht : Ty P T d sz bytes z) (hd : d = .array n e) (he : Ty P e (.int k) 1 bytes' z')
    (hz : z.cells = (ints k zs).toArray) (hzl : zs.length = n) (hi : ps.toList.map (·.1) = List.range' 0 n) (hx : evs L (ps.toList.map (·.2)) = some (ints k xs)) (hl : xs.length = n) :
    Ev P ⟨dst, .build T ps, ty, pos, af, gd⟩ E L H F (.agg (ints k xs).toArray) := by
  refine ev_build_array ht hd he hx ?_
  rw [hi, hz]
  have := fill_one (ints k xs) 0 (ints k zs) (by simp [ints_length, hl, hzl]) (fun v hv => by
    simp only [ints, List.mem_map] at hv
    obtain ⟨x, _, rfl⟩ := hv
    rfl)
  rw [ints_length, hl] at this
  rw [this, wr_all (by simp [ints_length, hl, hzl])]
theorem ev_len_rdi {x : Operand} {T e : TypeId} {v : Value} {h : Nat} {k : IntKind} {l : List Int} (hT : P.underlying T = some (.slice e)) (hx : ev L x = some v) (hh : lk F h = some (.sl v 1 (ints k l))) :
    Ev P ⟨dst, .call { callee := .builtin .len, args := #[x], argTypes := #[T] }, ty, pos, af, gd⟩ E L H F (.int .i64 (l.length : Nat)) :=
  ev_len_rd hT hx hh (by rw [ints_length, Nat.mul_one]) (by decide)
theorem ev_len_owni {x : Operand} {T e : TypeId} {v : Value} {h tt : Nat} {k : IntKind} {l : List Int} (hT : P.underlying T = some (.slice e)) (hx : ev L x = some v) (hh : lk H h = some (.own v tt 1 (ints k l))) :
    Ev P ⟨dst, .call { callee := .builtin .len, args := #[x], argTypes := #[T] }, ty, pos, af, gd⟩ E L H F (.int .i64 (l.length : Nat)) :=
  ev_len_own hT hx hh (by rw [ints_length, Nat.mul_one]) (by decide)
theorem ev_indexAddr_rdi {x y : Operand} {T e : TypeId} {v : Value} {h bytes : Nat} {z : Value} {d : TypeDesc} {kk : IntKind} {l : List Int} {k : IntKind} {i : Int} (hT : P.underlying T = some (.slice e)) (ht : Ty P e d 1 bytes z)
    (hx : ev L x = some v) (hy : ev L y = some (.int k i)) (hh : lk F h = some (.sl v 1 (ints kk l))) (h0 : 0 ≤ i) (h1 : i < (l.length : Nat)) :
    Ev P ⟨dst, .indexAddr T x y, ty, pos, af, gd⟩ E L H F (ptrAt v i.toNat) := by
  have := ev_indexAddr_rd (P := P) (E := E) (L := L) (H := H) (F := F) (dst := dst) (ty := ty) (pos := pos) (af := af) (gd := gd) hT ht hx hy hh (n := l.length) (by rw [ints_length, Nat.mul_one]) (by decide) h0 h1
  rwa [Nat.mul_one] at this
theorem ev_indexAddr_owni {x y : Operand} {T e : TypeId} {v : Value} {h tt bytes : Nat} {z : Value} {d : TypeDesc} {kk : IntKind} {l : List Int} {k : IntKind} {i : Int} (hT : P.underlying T = some (.slice e)) (ht : Ty P e d 1 bytes z)
    (hx : ev L x = some v) (hy : ev L y = some (.int k i)) (hh : lk H h = some (.own v tt 1 (ints kk l))) (h0 : 0 ≤ i) (h1 : i < (l.length : Nat)) :
    Ev P ⟨dst, .indexAddr T x y, ty, pos, af, gd⟩ E L H F (ptrAt v i.toNat) := by
  have := ev_indexAddr_own (P := P) (E := E) (L := L) (H := H) (F := F) (dst := dst) (ty := ty) (pos := pos) (af := af) (gd := gd) hT ht hx hy hh (n := l.length) (by rw [ints_length, Nat.mul_one]) (by decide) h0 h1
  rwa [Nat.mul_one] at this
end

end Go.Proofs.Yteedclmcgifmpaa.Fw

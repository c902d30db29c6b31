/- The rules for operations that write or make memory; calls; a function's begin and end. -/
import Derived.Test.YteedclmcgifmpaaFw4
namespace Go.Proofs.Yteedclmcgifmpaa.Fw
open Go Go.RowKit

section
variable {P : Program} {Q : Exit → Act → World → Prop} {ops : Array Oper} {rest : List Oper} {E : Env} {L : List (Nat × Value)} {H : List (Nat × Ent)} {F : List (Nat × FE)}
variable {ty : TypeId} {pos : String} {af : Array Edge} {gd : Option (Nat × Bool)}

/-- An operation that yields a value and turns the world as 'Gives' says. -/
theorem st_gives {o : Oper} {dst : Nat} (hg : wants ops L o.guard = some true) (hd : o.dst = some dst) (hn : Nat.ble (dst + 1) E.n = true)
    (h : ∀ a w, Fits E.n L a → Sat E.w0 E.X H F w → ∃ v w' M N, (execOp a.eval o).run P w = .ok (.value v) w' ∧ Gives w w' M N ∧ (∀ b, b ∈ M → ∃ k e, lk H k = some e ∧ b ∈ e.ids ∧ lk N k ≠ none) ∧
      At (wpList P ops Q rest) E ((dst, v) :: L) (N ++ H) F) : At (wpList P ops Q (o :: rest)) E L H F := by
  refine st_run hg fun a w fa sw => ?_
  obtain ⟨v, w', M, N, hr, hG, hM, k⟩ := h a w fa sw
  unfold Oper.wp
  rw [hr]
  show wpList P ops Q rest (a.put o.dst v) w'
  rw [hd]
  exact k _ _ (fa.put (Nat.le_of_ble_eq_true hn) v) (sw.step hG hM)

theorem nil_all {M : Nat → Prop} : ∀ b, b ∈ ([] : List Nat) → M b := fun _ h => by cases h

theorem st_alloc {dst T : Nat} {d : TypeDesc} {sz bytes : Nat} {z : Value} {zl : List Value} (h : Nat) (ht : Ty P T d sz bytes z) (hz : z.cells = zl.toArray) (hg : wants ops L gd = some true) (hn : Nat.ble (dst + 1) E.n = true)
    (k : ∀ b, At (wpList P ops Q rest) E ((dst, .pointer (some ⟨b, 0, none⟩)) :: L) ((h, .blk b (.cells zl.toArray T)) :: H) F) : At (wpList P ops Q (⟨some dst, .alloc T, ty, pos, af, gd⟩ :: rest)) E L H F := by
  refine st_gives hg rfl hn fun a w fa sw => ⟨.pointer (some ⟨w.heap.size, 0, none⟩), w.alloc (.cells zl.toArray T), [], [(h, .blk w.heap.size (.cells zl.toArray T))], ?_, ?_, nil_all, k _⟩
  · simp [execOp, Instr.alloc, ht.run_zero, newVar, newRow, hz]
  · exact gives_alloc w _ _ _ (heap_alloc_new _ _) (by simp [Ent.ids])

theorem st_box {dst T : Nat} {x : Operand} {v : Value} {vl : List Value} (h : Nat) (hx : ev L x = some v) (hz : v.cells = vl.toArray) (hg : wants ops L gd = some true) (hn : Nat.ble (dst + 1) E.n = true)
    (k : ∀ b, At (wpList P ops Q rest) E ((dst, .pointer (some ⟨b, 0, none⟩)) :: L) ((h, .blk b (.cells vl.toArray T)) :: H) F) : At (wpList P ops Q (⟨some dst, .box T x, ty, pos, af, gd⟩ :: rest)) E L H F := by
  refine st_gives hg rfl hn fun a w fa sw => ⟨.pointer (some ⟨w.heap.size, 0, none⟩), w.alloc (.cells vl.toArray T), [], [(h, .blk w.heap.size (.cells vl.toArray T))], ?_, ?_, nil_all, k _⟩
  · simp [execOp, Instr.box, fa.ev hx, newVar, newRow, hz]
  · exact gives_alloc w _ _ _ (heap_alloc_new _ _) (by simp [Ent.ids])

/-- A store into a block that is owned. -/
theorem st_store {x y : Operand} {T TT : TypeId} {b off sz bytes : Nat} {z v : Value} {d : TypeDesc} {l vl : List Value} (h : Nat) (ht : Ty P T d sz bytes z) (hx : ev L x = some (.pointer (some ⟨b, off, none⟩))) (hy : ev L y = some v)
    (hh : lk H h = some (.blk b (.cells l.toArray TT))) (hv : v.cells = vl.toArray) (hs : vl.length = sz) (h1 : ∀ u, u ∈ vl → u.oneCell' = true) (hl : off + sz ≤ l.length) (hg : wants ops L gd = some true)
    (k : At (wpList P ops Q rest) E L ((h, .blk b (.cells (wr l off vl).toArray TT)) :: H) F) : At (wpList P ops Q (⟨none, .store T x y, ty, pos, af, gd⟩ :: rest)) E L H F := by
  refine st_run hg fun a w fa sw => ?_
  have hb := sw.blk_eq hh
  have hr := run_storeVar (P := P) (w := w) (off := off) ht hv hs hb (by omega) h1
  have e : (execOp a.eval ⟨none, .store T x y, ty, pos, af, gd⟩).run P w = .ok .skip (setBlk w b (.cells (wr l off vl).toArray TT)) := by
    simp [execOp, fa.ev hx, fa.ev hy, Instr.storeAt, Instr.sureAddr, hr]
  unfold Oper.wp
  rw [e]
  have hlt := (Array.getElem?_eq_some_iff.1 hb).1
  exact k a _ fa (sw.step (gives_setBlk hlt h (.blk b _) (heap_setBlk hlt) rfl) (fun b' hb' => ⟨h, _, hh, by simpa [Ent.ids] using hb', by simp [lk_cons_same]⟩))
/-- of one cell -/
theorem st_store1 {x y : Operand} {T TT : TypeId} {b off bytes : Nat} {z v : Value} {d : TypeDesc} {l : List Value} (h : Nat) (ht : Ty P T d 1 bytes z) (hx : ev L x = some (.pointer (some ⟨b, off, none⟩))) (hy : ev L y = some v)
    (hh : lk H h = some (.blk b (.cells l.toArray TT))) (h1 : v.oneCell' = true) (hl : off < l.length) (hg : wants ops L gd = some true)
    (k : At (wpList P ops Q rest) E L ((h, .blk b (.cells (l.set off v).toArray TT)) :: H) F) : At (wpList P ops Q (⟨none, .store T x y, ty, pos, af, gd⟩ :: rest)) E L H F := by
  refine st_store (vl := [v]) h ht hx hy hh ?_ rfl (by simpa using h1) (by omega) hg ?_
  · cases v <;> first | rfl | cases h1
  · rw [wr_one hl]; exact k
/-- of the whole block -/
theorem st_store_all {x y : Operand} {T TT : TypeId} {b sz bytes : Nat} {z v : Value} {d : TypeDesc} {l vl : List Value} (h : Nat) (ht : Ty P T d sz bytes z) (hx : ev L x = some (.pointer (some ⟨b, 0, none⟩))) (hy : ev L y = some v)
    (hh : lk H h = some (.blk b (.cells l.toArray TT))) (hv : v.cells = vl.toArray) (hs : vl.length = sz) (h1 : ∀ u, u ∈ vl → u.oneCell' = true) (hl : l.length = sz) (hg : wants ops L gd = some true)
    (k : At (wpList P ops Q rest) E L ((h, .blk b (.cells vl.toArray TT)) :: H) F) : At (wpList P ops Q (⟨none, .store T x y, ty, pos, af, gd⟩ :: rest)) E L H F := by
  refine st_store h ht hx hy hh hv hs h1 (by omega) hg ?_
  rw [wr_all (by omega)]; exact k

/-- A store into a slice that is owned. -/
theorem st_store_own {x y : Operand} {T TT : TypeId} {v0 : Value} {ki sz0 sz bytes : Nat} {z v : Value} {d : TypeDesc} {l vl : List Value} (h : Nat) (ht : Ty P T d sz bytes z) (hx : ev L x = some (ptrAt v0 ki)) (hy : ev L y = some v)
    (hh : lk H h = some (.own v0 TT sz0 l)) (hv : v.cells = vl.toArray) (hs : vl.length = sz) (h1 : ∀ u, u ∈ vl → u.oneCell' = true) (hl : ki + sz ≤ l.length) (hp : 0 < sz) (hg : wants ops L gd = some true)
    (k : At (wpList P ops Q rest) E L ((h, .own v0 TT sz0 (wr l ki vl)) :: H) F) : At (wpList P ops Q (⟨none, .store T x y, ty, pos, af, gd⟩ :: rest)) E L H F := by
  refine st_run hg fun a w fa sw => ?_
  rcases sw.hold _ _ hh with ⟨rfl, rfl⟩ | ⟨b, len, cap, junk, rfl, g1, g2, g3, g4⟩
  · simp at hl; omega
  have hr := run_storeVar (P := P) (w := w) (off := 0 + ki) ht hv hs g4 (by simp; omega) h1
  have e1 : wr (l ++ junk) (0 + ki) vl = wr l ki vl ++ junk := by
    simp only [wr, Nat.zero_add]
    rw [List.take_append_of_le_length (by omega), List.drop_append_of_le_length (by omega)]
    simp
  rw [e1] at hr
  have e : (execOp a.eval ⟨none, .store T x y, ty, pos, af, gd⟩).run P w = .ok .skip (setBlk w b (.cells (wr l ki vl ++ junk).toArray TT)) := by
    simp only [ptrAt] at hx
    simp only [execOp, fa.ev hx, fa.ev hy, Instr.storeAt, Instr.sureAddr, Sem.run_bind, Sem.run_pure, Result.andThen_ok, hr]
  unfold Oper.wp
  rw [e]
  have hlt := (Array.getElem?_eq_some_iff.1 g4).1
  exact k a _ fa (sw.step (gives_setBlk hlt h (.own _ _ _ _) (.inr ⟨b, len, cap, junk, rfl, by rw [wr_length (by omega)]; exact g1, g2, g3, heap_setBlk hlt⟩) rfl) (fun b' hb' => ⟨h, _, hh, by simpa [Ent.ids, blkOf] using hb', by simp [lk_cons_same]⟩))

/-! ### Slices that are made -/
theorem zero_mod (n : Nat) : n % 1 = 0 := Nat.mod_one n

theorem st_buildSlice {dst T e n sz bytes : Nat} {ps : Array (Nat × Operand)} {d : TypeDesc} {z : Value} {vs : List Value} {cells : List Value} (h : Nat) (hT : P.underlying T = some (.slice e)) (ht : Ty P e d sz bytes z)
    (hx : evs L (ps.toList.map (·.2)) = some vs) (hle : n * sz ≤ 16777216)
    (hc : Instr.fill (fun i => some (i * sz, sz)) ((Array.range (n * sz)).map ((if n * sz = 0 then #[] else z.cells)[· % (if n * sz = 0 then #[] else z.cells : Array Value).size]!)) ((ps.toList.map (·.1)).zip vs) = some cells.toArray) (hlen : cells.length = n * sz)
    (hg : wants ops L gd = some true) (hn : Nat.ble (dst + 1) E.n = true)
    (k : ∀ b, At (wpList P ops Q rest) E ((dst, .slice (some ⟨b, 0, none⟩) n n) :: L) ((h, .own (.slice (some ⟨b, 0, none⟩) n n) e sz cells) :: H) F) :
    At (wpList P ops Q (⟨some dst, .buildSlice T n ps, ty, pos, af, gd⟩ :: rest)) E L H F := by
  refine st_gives hg rfl hn fun a w fa sw => ⟨.slice (some ⟨w.heap.size, 0, none⟩) n n, w.alloc (.cells cells.toArray e), [], [(h, .own (.slice (some ⟨w.heap.size, 0, none⟩) n n) e sz cells)], ?_, ?_, nil_all, k _⟩
  · have e1 : (ps.map fun (i, x) => (i, a.eval x)).toList = (ps.toList.map (·.1)).zip vs := by
      rw [← fa.evs hx]
      simp only [Array.toList_map, List.map_map]
      induction ps.toList with
      | nil => rfl
      | cons p r ih => simp only [List.map_cons, List.zip_cons_cons]; rw [ih]; rfl
    have h24 : ¬ (n * sz > 2 ^ 24) := by omega
    by_cases h0 : n * sz = 0
    · simp only [if_pos h0] at hc
      simp only [execOp, Instr.buildSlice, Sem.run_bind, run_und hT, ht.run_size, Result.andThen_ok, if_neg h24, if_pos h0, Sem.run_pure, e1, hc, newRow, run_newObj]
      rfl
    · simp only [if_neg h0] at hc
      simp only [execOp, Instr.buildSlice, Sem.run_bind, run_und hT, ht.run_size, Result.andThen_ok, if_neg h24, if_neg h0, ht.run_zero, Sem.run_pure, e1, hc, newRow, run_newObj]
      rfl
  · exact gives_alloc w _ _ _ (.inr ⟨_, n, n, [], rfl, hlen, by simp, Nat.le_refl _, by simpa using heap_alloc_new _ _⟩) (by simp [Ent.ids, blkOf])

theorem range_map_mod (zs : List Value) (n : Nat) (h : zs.length = 1) : ((Array.range n).map (zs.toArray[· % zs.toArray.size]!)) = (List.replicate n (zs.getD 0 undef)).toArray := by
  obtain ⟨z, rfl⟩ : ∃ z, zs = [z] := List.length_eq_one_iff.1 h
  apply Array.ext
  · simp
  · intro i h1 h2
    simp [Nat.mod_one]

theorem st_makeSlice {dst T e bytes : Nat} {x y : Operand} {d : TypeDesc} {z : Value} {kl kc : IntKind} {n c : Nat} (h : Nat) (hT : P.underlying T = some (.slice e)) (ht : Ty P e d 1 bytes z) (hz : z.cells = #[z])
    (hx : ev L x = some (.int kl n)) (hy : ev L y = some (.int kc c)) (hnc : n ≤ c) (hb : bytes * c ≤ 281474976710656) (hc63 : c ≤ 9223372036854775807) (hg : wants ops L gd = some true) (hn : Nat.ble (dst + 1) E.n = true)
    (k : ∀ b, At (wpList P ops Q rest) E ((dst, .slice (some ⟨b, 0, none⟩) n c) :: L) ((h, .own (.slice (some ⟨b, 0, none⟩) n c) e 1 (List.replicate n z)) :: H) F) :
    At (wpList P ops Q (⟨some dst, .makeSlice T x y, ty, pos, af, gd⟩ :: rest)) E L H F := by
  refine st_gives hg rfl hn fun a w fa sw => ⟨.slice (some ⟨w.heap.size, 0, none⟩) n c, w.alloc (.cells (List.replicate c z).toArray e), [], [(h, .own (.slice (some ⟨w.heap.size, 0, none⟩) n c) e 1 (List.replicate n z))], ?_, ?_, nil_all, k _⟩
  · obtain ⟨i, hi, h1, h2, h3⟩ := ht.run_info w
    have w1 : IntKind.i64.wrap (n : Int) = n := wrap64_id (by omega) (by omega)
    have w2 : IntKind.i64.wrap (c : Int) = c := wrap64_id (by omega) (by omega)
    have hb' : ¬ ((bytes : Int) * (c : Int) > 281474976710656) := by
      have : ((bytes * c : Nat) : Int) ≤ 281474976710656 := by omega
      rw [Int.natCast_mul] at this
      omega
    have hn0 : ¬ ((n : Int) < 0) := by omega
    have hnc' : ¬ ((n : Int) > (c : Int)) := by omega
    have hc0 : ¬ ((c : Int) < 0) := by omega
    simp only [execOp, fa.ev hx, fa.ev hy, Instr.makeSlice, Sem.run_bind, run_und hT, asInt, asIntOf, Sem.run_pure, Result.andThen_ok, hi, h2, w1, w2]
    by_cases h0 : c = 0
    · subst h0
      have hn00 : n = 0 := by omega
      subst hn00
      have hr0 : ((Array.range 0).map (fun _ => (default : Value))) = #[] := by apply Array.ext <;> simp
      simp [ht.run_size, newRow, hr0]
    · have hr : ((Array.range c).map fun x => ([z] : List Value)[x % 1]?.getD default) = Array.replicate c z := by
        apply Array.ext
        · simp
        · intro i h1 h2
          simp [Nat.mod_one]
      have hor : ¬ ((n : Int) < 0 ∨ c < n) := by omega
      simp [hb', hc0, hor, ht.run_size, h0, ht.run_zero, hz, newRow, hr]
  · refine gives_alloc w _ _ _ (.inr ⟨_, n, c, List.replicate (c - n) z, rfl, by simp, by simp, hnc, ?_⟩) (by simp [Ent.ids, blkOf])
    rw [List.replicate_append_replicate, Nat.add_sub_cancel' hnc]
    exact heap_alloc_new _ _

/-! ### append -/
theorem growBy_le (newLen : Nat) : ∀ r c, c ≤ 2 * newLen + 512 → Builtin.growBy newLen r c ≤ 2 * newLen + 512 := by
  intro r
  induction r with
  | zero => intro c h; exact h
  | succ r ih =>
    intro c h
    unfold Builtin.growBy
    split
    · exact h
    · exact ih _ (by omega)

theorem nextslicecap_le {need cap : Nat} (h : cap < need) : Builtin.nextslicecap need cap ≤ 2 * need + 512 := by
  unfold Builtin.nextslicecap
  split
  · omega
  · split
    · omega
    · exact growBy_le _ _ _ (by omega)

theorem run_lenOf {w : World} {v : Value} {sz n : Nat} {l : List Value} (hr : Rd w v sz l) (hs : 0 < sz) (hl : l.length = n * sz) : (Builtin.lenOf v).run P w = .ok n w := by
  obtain ⟨b, len, cap, rfl, g1, _⟩ := hr
  have : len = n := Nat.eq_of_mul_eq_mul_right hs (by omega)
  subst this
  rfl
theorem run_firstCells {w : World} {v : Value} {sz n : Nat} {l : List Value} (hr : Rd w v sz l) (hl : l.length = n * sz) : (Builtin.firstCells sz n v).run P w = .ok l.toArray w := by
  obtain ⟨b, len, cap, rfl, g1, g2, g3, g4⟩ := hr
  cases b with
  | none =>
    have := g3 rfl
    have : len = 0 := by omega
    subst this
    simp at g1
    subst g1
    rfl
  | some x =>
    obtain ⟨xb, xo, xs⟩ := x
    have hx := (g4 _ rfl).1
    simp only at hx
    subst hx
    simp only [Builtin.firstCells]
    rw [← hl]
    exact run_loadCells (g4 _ rfl).2

theorem zeroCells_size (zero : Array Value) (n : Nat) : (Builtin.zeroCells zero n).size = n * zero.size := by simp [Builtin.zeroCells]

/-- append, where it grows: a new block -/
theorem run_append_grow {w : World} {T e X eX ty sz bytes len cap n : Nat} {d : TypeDesc} {z : Value} {base : Option Addr} {xv : Value} {l cs : List Value} (hT : P.underlying T = some (.slice e)) (ht : Ty P e d sz bytes z)
    (hX : P.underlying X = some (.slice eX)) (hz : z.cells.size = sz) (hr : Rd w (.slice base len cap) sz l) (hl : l.length = len * sz) (hxv : Rd w xv sz cs) (hcs : cs.length = n * sz) (hs : 0 < sz) (hcap : cap < len + n) (hsz : len + n ≤ 1073741824) (hby : bytes ≤ 1024) :
    ∃ newCap junk, len + n ≤ newCap ∧ junk.length = (newCap - (len + n)) * sz ∧
      (Builtin.append_ #[T, X] ty #[.slice base len cap, xv]).run P w = .ok (.slice (some ⟨w.heap.size, 0, none⟩) (len + n) newCap) ({ w with drawn := w.drawn + 1 }.alloc (.cells (l ++ cs ++ junk).toArray e)) := by
  obtain ⟨i, hi, h1, h2, h3⟩ := ht.info
  generalize hq : Question.cut (.appendCap (len + n) cap e) (w.tape w.drawn (.appendCap (len + n) cap e)) = newCap
  have hnew : len + n ≤ newCap := by rw [← hq]; simp only [Question.cut]; omega
  refine ⟨newCap, (Builtin.zeroCells z.cells (newCap - (len + n))).toList, hnew, by simp [zeroCells_size, hz], ?_⟩
  have hb1 : ¬ (len + n ≤ cap) := by omega
  have hcap2 : ¬ (Builtin.nextslicecap (len + n) cap * i.bytes > 281474976710656) := by
    rw [h2]
    have a1 := nextslicecap_le hcap
    have a2 : Builtin.nextslicecap (len + n) cap * bytes ≤ (2 * (len + n) + 512) * 1024 := Nat.mul_le_mul a1 hby
    omega
  have hmax : ¬ (((len + n : Nat) : Int) > IntKind.i64.max) := by
    have : IntKind.i64.max = 9223372036854775807 := by decide
    omega
  have hi' : ∀ w, (typeInfo e).run P w = .ok i w := fun w => by simp [typeInfo, hi]
  have hr' : ∀ k, Rd { w with drawn := k } (.slice base len cap) sz l := fun k => Rd.keep hr fun _ _ _ _ => rfl
  have hxv' : ∀ k, Rd { w with drawn := k } xv sz cs := fun k => Rd.keep hxv fun _ _ _ _ => rfl
  simp only [Builtin.append_, List.getElem?_toArray, List.getElem?_cons_zero, List.getElem?_cons_succ, Sem.run_bind, run_und hT, Result.andThen_ok, ht.run_size, run_und hX, Sem.run_pure, Bool.false_eq_true, if_false, run_lenOf hxv hs hcs]
  simp only [if_neg hb1, Sem.run_ite, hmax, false_and, if_false, Sem.run_bind, hi', Result.andThen_ok]
  have hcap3 : ¬ (Builtin.nextslicecap (len + n) cap * i.bytes > 2 ^ 48) := hcap2
  simp only [if_neg hcap3, Sem.run_bind, run_choose, Question.forced, Bool.false_eq_true, if_false, Result.andThen_ok, hq, run_askRoom, run_firstCells (hr' _) hl, Bool.not_false, if_true, run_firstCells (hxv' _) hcs, ht.run_zero, newRow, run_newObj, Sem.run_pure]
  have e1 : l.toArray ++ cs.toArray ++ Builtin.zeroCells z.cells (newCap - (len + n)) = (l ++ cs ++ (Builtin.zeroCells z.cells (newCap - (len + n))).toList).toArray := by simp
  rw [e1]
  rfl

/-- append, where there is room. -/
theorem run_append_room {w : World} {T e X eX ty sz bytes len cap n b : Nat} {d : TypeDesc} {z : Value} {xv : Value} {l cs junk : List Value} (hT : P.underlying T = some (.slice e)) (ht : Ty P e d sz bytes z)
    (hX : P.underlying X = some (.slice eX)) (hb : w.heap[b]? = some (.cells (l ++ junk).toArray e)) (hl : l.length = len * sz) (hj : junk.length = (cap - len) * sz) (hxv : Rd w xv sz cs) (hcs : cs.length = n * sz) (hs : 0 < sz) (hcap : len + n ≤ cap) (h1 : ∀ u, u ∈ cs → u.oneCell' = true) :
    (Builtin.append_ #[T, X] ty #[.slice (some ⟨b, 0, none⟩) len cap, xv]).run P w = .ok (.slice (some ⟨b, 0, none⟩) (len + n) cap) (setBlk w b (.cells (l ++ cs ++ junk.drop cs.length).toArray e)) := by
  have hle : len * sz + n * sz ≤ len * sz + (cap - len) * sz := Nat.add_le_add_left (Nat.mul_le_mul_right _ (by omega)) _
  have hst := run_storeCells (P := P) cs (l ++ junk) w (0 + len * sz) 0 hb (by simp; omega) h1
  have e1 : wr (l ++ junk) (0 + len * sz + 0) cs = l ++ cs ++ junk.drop cs.length := by
    simp only [wr, Nat.zero_add, Nat.add_zero]
    rw [← hl, List.take_left', List.drop_append]
    · simp
    · rfl
  rw [e1] at hst
  simp only [Builtin.append_, List.getElem?_toArray, List.getElem?_cons_zero, List.getElem?_cons_succ, Sem.run_bind, run_und hT, Result.andThen_ok, ht.run_size, run_und hX, Sem.run_pure, Bool.false_eq_true, if_false, run_lenOf hxv hs hcs]
  simp only [if_pos hcap, Sem.run_bind, Bool.not_false, if_true, run_firstCells hxv hcs, Result.andThen_ok, add_mk]
  rw [hst]
  rfl

/-- append to a slice that is owned. -/
theorem st_append {dst T e X eX sz bytes n m : Nat} {s x : Operand} {d : TypeDesc} {z v xv : Value} {l cs : List Value} (h : Nat) (hT : P.underlying T = some (.slice e)) (hX : P.underlying X = some (.slice eX)) (ht : Ty P e d sz bytes z) (hz : z.cells.size = sz)
    (hv : ev L s = some v) (hx : ev L x = some xv) (hh : lk H h = some (.own v e sz l)) (hr : ∀ w, Sat E.w0 E.X H F w → Rd w xv sz cs) (hs : 0 < sz) (hl : l.length = n * sz) (hcs : cs.length = m * sz) (hsz : n + m ≤ 1073741824) (hby : bytes ≤ 1024)
    (h1 : ∀ u, u ∈ cs → u.oneCell' = true) (hg : wants ops L gd = some true) (hn : Nat.ble (dst + 1) E.n = true)
    (k : ∀ v', At (wpList P ops Q rest) E ((dst, v') :: L) ((h, .own v' e sz (l ++ cs)) :: H) F) :
    At (wpList P ops Q (⟨some dst, .call { callee := .builtin .append, args := #[s, x], argTypes := #[T, X] }, ty, pos, af, gd⟩ :: rest)) E L H F := by
  refine st_gives hg rfl hn fun a w fa sw => ?_
  have hxr := hr w sw
  have hex : ∀ r w', (Builtin.append_ #[T, X] ty #[v, xv]).run P w = .ok r w' →
      (execOp a.eval ⟨some dst, .call { callee := .builtin .append, args := #[s, x], argTypes := #[T, X] }, ty, pos, af, gd⟩).run P w = .ok (.value r) w' := fun r w' hr' => by
    simp [execOp, resolve, invoke, builtin, fa.ev hv, fa.ev hx, hr']
  have grow : ∀ base len cap, v = .slice base len cap → cap < len + m → len = n → ∃ v' w' M N, (execOp a.eval ⟨some dst, .call { callee := .builtin .append, args := #[s, x], argTypes := #[T, X] }, ty, pos, af, gd⟩).run P w = .ok (.value v') w' ∧ Gives w w' M N ∧
      (∀ b, b ∈ M → ∃ k e, lk H k = some e ∧ b ∈ e.ids ∧ lk N k ≠ none) ∧ At (wpList P ops Q rest) E ((dst, v') :: L) (N ++ H) F := by
    intro base len cap hv' hc hlen
    subst hv'
    subst hlen
    obtain ⟨nc, junk, g1, g2, g3⟩ := run_append_grow (P := P) (w := w) (ty := ty) hT ht hX hz (sw.own_rd hh) hl hxr hcs hs hc hsz hby
    refine ⟨_, _, [], [(h, .own (.slice (some ⟨w.heap.size, 0, none⟩) (len + m) nc) e sz (l ++ cs))], hex _ _ g3, ?_, nil_all, k _⟩
    refine Gives.drawn (gives_alloc { w with drawn := w.drawn + 1 } _ h _ (.inr ⟨_, _, nc, junk, rfl, ?_, g2, g1, ?_⟩) (by simp [Ent.ids, blkOf]))
    · rw [List.length_append, hl, hcs, Nat.add_mul]
    · exact heap_alloc_new { w with drawn := w.drawn + 1 } _
  rcases sw.hold _ _ hh with ⟨rfl, rfl⟩ | ⟨b, len, cap, junk, rfl, g1, g2, g3, g4⟩
  · have hn0 : n = 0 := by
      rcases Nat.eq_zero_or_pos n with h' | h'
      · exact h'
      · have := Nat.mul_pos h' hs; simp at hl; omega
    subst hn0
    rcases Nat.eq_zero_or_pos m with hm | hm
    · subst hm
      have hc0 : cs = [] := List.length_eq_zero_iff.1 (by omega)
      subst hc0
      refine ⟨.slice none 0 0, w, [], [(h, .own (.slice none 0 0) e sz ([] ++ []))], hex _ _ ?_, ?_, nil_all, k _⟩
      · simp only [Builtin.append_, List.getElem?_toArray, List.getElem?_cons_zero, List.getElem?_cons_succ, Sem.run_bind, run_und hT, Result.andThen_ok, ht.run_size, run_und hX, Sem.run_pure, Bool.false_eq_true, if_false, run_lenOf hxr hs hcs]
        simp only [Nat.add_zero, Nat.le_refl, if_true, Sem.run_bind, Bool.not_false, run_firstCells hxr hcs, Result.andThen_ok]
        rfl
      · refine ⟨rfl, rfl, rfl, Nat.le_refl _, fun _ _ _ => rfl, fun k e' hk => ?_, fun k e' hk b hb => ?_, fun k e1 k' e2 hk hk' hne => ?_⟩
        · obtain ⟨rfl, rfl⟩ := lk_one hk; exact .inl ⟨rfl, rfl⟩
        · obtain ⟨rfl, rfl⟩ := lk_one hk; simp [Ent.ids, blkOf] at hb
        · obtain ⟨rfl, rfl⟩ := lk_one hk; obtain ⟨rfl, rfl⟩ := lk_one hk'; exact absurd rfl hne
    · exact grow none 0 0 rfl (by omega) rfl
  · have hlen : len = n := Nat.eq_of_mul_eq_mul_right hs (by omega)
    subst hlen
    by_cases hc : len + m ≤ cap
    · refine ⟨_, _, [b], [(h, .own (.slice (some ⟨b, 0, none⟩) (len + m) cap) e sz (l ++ cs))], hex _ _ (run_append_room hT ht hX g4 hl g2 hxr hcs hs hc h1), ?_, ?_, k _⟩
      · have hlt := (Array.getElem?_eq_some_iff.1 g4).1
        refine gives_setBlk hlt h _ (.inr ⟨b, len + m, cap, junk.drop cs.length, rfl, ?_, ?_, hc, ?_⟩) rfl
        · rw [List.length_append, hl, hcs, Nat.add_mul]
        · rw [List.length_drop, g2, hcs, ← Nat.sub_mul]; congr 1; omega
        · exact heap_setBlk hlt
      · intro b' hb'
        exact ⟨h, _, hh, by simpa [Ent.ids, blkOf] using hb', by simp [lk_cons_same]⟩
    · exact grow _ len cap rfl (by omega) rfl

/-- A nil slice is owned. -/
theorem at_own_nil {K : Act → World → Prop} (h T sz : Nat) (k : At K E L ((h, .own (.slice none 0 0) T sz []) :: H) F) : At K E L H F := by
  intro a w fa sw
  refine k a w fa ?_
  have := sw.step (N := [(h, .own (.slice none 0 0) T sz [])]) (M := []) (w' := w) ?_ nil_all
  · exact this
  · refine ⟨rfl, rfl, rfl, Nat.le_refl _, fun _ _ _ => rfl, fun k e' hk => ?_, fun k e' hk b hb => ?_, fun k e1 k' e2 hk hk' hne => ?_⟩
    · obtain ⟨rfl, rfl⟩ := lk_one hk; exact .inl ⟨rfl, rfl⟩
    · obtain ⟨rfl, rfl⟩ := lk_one hk; simp [Ent.ids, blkOf] at hb
    · obtain ⟨rfl, rfl⟩ := lk_one hk; obtain ⟨rfl, rfl⟩ := lk_one hk'; exact absurd rfl hne
end

end Go.Proofs.Yteedclmcgifmpaa.Fw

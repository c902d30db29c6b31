/- More rules: a constant string's bytes. -/
import Derived.Test.YteedclmcgifmpaaFw9
import Derived.Laws.IdiomStrings
namespace Go.Proofs.Yteedclmcgifmpaa.Fw
open Go Go.RowKit
set_option linter.unusedVariables false
set_option linter.unusedSimpArgs false

section
variable {P : Program} {Q : Exit → Act → World → Prop} {ops : Array Oper} {rest : List Oper} {E : Env} {L : List (Nat × Value)} {H : List (Nat × Ent)} {F : List (Nat × FE)}
variable {dst : Nat} {ty : TypeId} {pos : String} {af : Array Edge} {gd : Option (Nat × Bool)}

theorem freeze_setBlk {w : World} {b n e : Nat} {c : Array Value} (h : w.heap[b]? = some (.cells c e)) : w.freeze ⟨b, n, none⟩ 1 = setBlk w b (.cells c e (n, n + 1)) := by
  obtain ⟨hb, hv⟩ := Array.getElem?_eq_some_iff.1 h
  unfold World.freeze setBlk
  rw [if_neg (by decide)]
  congr 1
  apply Array.ext_getElem?
  intro i
  rw [Array.getElem?_modify, Array.getElem?_setIfInBounds]
  by_cases hi : b = i
  · subst hi
    rw [if_pos rfl, if_pos rfl, h, if_pos hb]
    simp
  · rw [if_neg hi, if_neg hi]

theorem st_mark {T e b n : Nat} {x : Operand} {l : List Int} (h : Nat) (hT : P.underlying T = some (.slice e)) (he : P.underlying e = some (.int .u8)) (hx : ev L x = some (.slice (some ⟨b, 0, none⟩) n n))
    (hh : lk H h = some (.own (.slice (some ⟨b, 0, none⟩) n n) e 1 (ints .u8 l))) (hg : wants ops L gd = some true) (hn : Nat.ble (dst + 1) E.n = true)
    (k : At (wpList P ops Q rest) E ((dst, .slice (some ⟨b, 0, none⟩) n n) :: L) ((h, .blk b (.cells (ints .u8 l).toArray e (n, n + 1))) :: H) F) :
    At (wpList P ops Q (⟨some dst, .convert T T x, ty, pos, af, gd⟩ :: rest)) E L H F := by
  refine st_gives hg rfl hn fun a w fa sw => ?_
  have ho := sw.hold _ _ hh
  rcases ho with ⟨h0, _⟩ | ⟨b', len, cap, junk, h1, h2, h3, _, h5⟩
  · cases h0
  · cases h1
    obtain rfl : junk = [] := List.length_eq_zero_iff.1 (by rw [h3, Nat.sub_self, Nat.zero_mul])
    rw [List.append_nil] at h5
    rw [Nat.mul_one] at h2
    have hlt := (Array.getElem?_eq_some_iff.1 h5).1
    refine ⟨.slice (some ⟨b, 0, none⟩) n n, setBlk w b (.cells (ints .u8 l).toArray e (n, n + 1)), [b], [(h, .blk b (.cells (ints .u8 l).toArray e (n, n + 1)))], ?_, gives_setBlk hlt h (.blk b _) (heap_setBlk hlt) rfl, (fun b' hb' => ⟨h, _, hh, by simpa [Ent.ids, blkOf] using hb', by simp [lk_cons_same]⟩), k⟩
    have hsh : w.shape? b = some (e, n) := by
      unfold World.shape?
      rw [h5]
      simp [h2]
    have hf := freeze_setBlk (n := n) h5
    simp [execOp, fa.ev hx, convert, run_und hT, run_und he, markStringish, hsh, hf]

theorem ints_zeros (k : IntKind) (l : List Int) (m : Nat) : ints k l ++ List.replicate m (.int k 0) = ints k (l ++ List.replicate m 0) := by simp [ints]
theorem iand_mask (x : Int) (m : Nat) (hm : m ≤ 1073741824) : 0 ≤ iand .i64 x m ∧ iand .i64 x m ≤ m := by
  have h : (BitVec.ofInt IntKind.i64.bits x &&& BitVec.ofInt IntKind.i64.bits (m : Int)).toNat ≤ m := by
    rw [BitVec.toNat_and]
    refine Nat.le_trans Nat.and_le_right ?_
    rw [BitVec.ofInt_natCast, BitVec.toNat_ofNat]
    exact Nat.mod_le _ _
  unfold iand
  rw [wrap64_id (by omega) (by omega)]
  omega
/-- What is read as a slice is read as cells. -/
theorem at_mem_of {K : Act → World → Prop} {f b n c sz : Nat} {l : List Value} (g : Nat) (hf : lk F f = some (.sl (.slice (some ⟨b, 0, none⟩) n c) sz l)) (k : At K E L H ((g, .mem b 0 l) :: F)) : At K E L H F := by
  intro a w fa sw
  refine k a w fa (sw.read g ?_ fun k' e hk b' hb => ?_)
  · obtain ⟨a, len, cap, hv, _, _, _, h4⟩ := sw.rd _ _ hf
    cases hv
    exact (h4 _ rfl).2
  · rcases sw.off _ _ _ _ hf hk b' hb with h | h
    · exact .inl h
    · exact .inr (by simpa [blkOf] using h)
theorem ld_mem_all {x : Operand} {T : TypeId} {h b sz bytes : Nat} {z : Value} {d : TypeDesc} {l : List Value} (ht : Ty P T d sz bytes z) (hd : aggD d = true) (hx : ev L x = some (.pointer (some ⟨b, 0, none⟩)))
    (hh : lk F h = some (.mem b 0 l)) (hl : l.length = sz) : Ev P ⟨dst, .load T x, ty, pos, af, gd⟩ E L H F (.agg l.toArray) := by
  have := ld_mem (P := P) (E := E) (H := H) (dst := dst) (ty := ty) (pos := pos) (af := af) (gd := gd) (k := 0) ht hd hx hh rfl (by omega)
  rwa [List.drop_zero, List.take_of_length_le (by omega)] at this
/-! ### append of zeros: 'append(x, make([]T, n)...)' -/
theorem zero_new {z : Value} (hz : z.cells = #[z]) (m : Nat) : Builtin.zeroCells z.cells m = (List.replicate m z).toArray := by
  apply Array.ext
  · simp [Builtin.zeroCells, hz]
  · intro i h1 h2
    simp [Builtin.zeroCells, hz, Nat.mod_one]
theorem run_zeros (w1 : World) {e bytes m : Nat} {d : TypeDesc} {z : Value} (ht : Ty P e d 1 bytes z) (hz : z.cells = #[z]) :
    (if m * 1 = 0 then Result.ok #[] w1 else ((zeroValue e).run P w1).andThen fun a w' => Result.ok (Builtin.zeroCells a.cells m) w') = Result.ok (List.replicate m z).toArray w1 := by
  by_cases hm : m = 0
  · subst hm; rfl
  · rw [if_neg (by omega)]
    simp only [ht.run_zero, Result.andThen_ok, zero_new hz]
theorem run_appendz_grow {w : World} {T e X ty bytes len cap m : Nat} {kx kX : IntKind} {d : TypeDesc} {z : Value} {base : Option Addr} {l : List Value} (hT : P.underlying T = some (.slice e)) (ht : Ty P e d 1 bytes z)
    (hX : P.underlying X = some (.int kX)) (hz : z.cells = #[z]) (hr : Rd w (.slice base len cap) 1 l) (hl : l.length = len) (hcap : cap < len + m) (hsz : len + m ≤ 1073741824) (hby : bytes ≤ 1024) :
    ∃ newCap junk, len + m ≤ newCap ∧ junk.length = newCap - (len + m) ∧
      (Builtin.append_ #[T, X] ty #[.slice base len cap, .int kx m]).run P w = .ok (.slice (some ⟨w.heap.size, 0, none⟩) (len + m) newCap) ({ w with drawn := w.drawn + 1 }.alloc (.cells (l ++ List.replicate m z ++ junk).toArray e)) := by
  obtain ⟨i, hi, h1, h2, h3⟩ := ht.info
  generalize hq : Question.cut (.appendCap (len + m) cap e) (w.tape w.drawn (.appendCap (len + m) cap e)) = newCap
  have hnew : len + m ≤ newCap := by rw [← hq]; simp only [Question.cut]; omega
  refine ⟨newCap, (Builtin.zeroCells z.cells (newCap - (len + m))).toList, hnew, by simp [zeroCells_size, hz], ?_⟩
  have hb1 : ¬ (len + m ≤ cap) := by omega
  have hcap2 : ¬ (Builtin.nextslicecap (len + m) cap * i.bytes > 281474976710656) := by
    rw [h2]
    have a1 := nextslicecap_le hcap
    have a2 : Builtin.nextslicecap (len + m) cap * bytes ≤ (2 * (len + m) + 512) * 1024 := Nat.mul_le_mul a1 hby
    omega
  have hmax : ¬ (((len + m : Nat) : Int) > IntKind.i64.max) := by
    have : IntKind.i64.max = 9223372036854775807 := by decide
    omega
  have hm0 : ¬ ((m : Int) < 0) := by omega
  have hm1 : ¬ ((m : Int) * (i.bytes : Int) > 2 ^ 48) := by
    rw [h2]
    have : m * bytes ≤ 1073741824 * 1024 := Nat.mul_le_mul (by omega) hby
    have h4 : ((m * bytes : Nat) : Int) ≤ 1073741824 * 1024 := by omega
    push_cast at h4
    omega
  have hw : IntKind.i64.wrap (m : Int) = m := wrap64_id (by omega) (by omega)
  have hA : ∀ w, (asInt (.int kx (m : Int))).run P w = .ok (m : Int) w := fun _ => rfl
  have hi' : ∀ w, (typeInfo e).run P w = .ok i w := fun w => by simp [typeInfo, hi]
  have hr' : ∀ k, Rd { w with drawn := k } (.slice base len cap) 1 l := fun k => Rd.keep hr fun _ _ _ _ => rfl
  simp only [Builtin.append_, List.getElem?_toArray, List.getElem?_cons_zero, List.getElem?_cons_succ, Sem.run_bind, run_und hT, Result.andThen_ok, ht.run_size, run_und hX, Sem.run_pure, if_true, hA, hw, if_neg hm0, hi', Sem.run_ite, if_neg hm1, Int.toNat_natCast]
  have hcap3 : ¬ (Builtin.nextslicecap (len + m) cap * i.bytes > 2 ^ 48) := hcap2
  simp only [if_neg hb1, hmax, false_and, if_false, Sem.run_bind, hi', Result.andThen_ok, if_neg hcap3, run_choose, Question.forced, Bool.false_eq_true, hq, run_askRoom, run_firstCells (hr' _) (by rw [hl, Nat.mul_one]), Bool.not_true]
  rw [run_zeros _ ht hz]
  simp only [Result.andThen_ok, ht.run_zero, newRow, run_newObj]
  have e1 : l.toArray ++ (List.replicate m z).toArray ++ Builtin.zeroCells z.cells (newCap - (len + m)) = (l ++ List.replicate m z ++ (Builtin.zeroCells z.cells (newCap - (len + m))).toList).toArray := by simp
  rw [e1]
  rfl
theorem run_appendz_room {w : World} {T e X ty bytes len cap m b : Nat} {kx kX : IntKind} {d : TypeDesc} {z : Value} {l junk : List Value} (hT : P.underlying T = some (.slice e)) (ht : Ty P e d 1 bytes z)
    (hX : P.underlying X = some (.int kX)) (hz : z.cells = #[z]) (hb : w.heap[b]? = some (.cells (l ++ junk).toArray e)) (hl : l.length = len) (hj : junk.length = cap - len) (hcap : len + m ≤ cap) (hsz : m ≤ 1073741824) (hby : bytes ≤ 1024) (h1 : z.oneCell' = true) :
    (Builtin.append_ #[T, X] ty #[.slice (some ⟨b, 0, none⟩) len cap, .int kx m]).run P w = .ok (.slice (some ⟨b, 0, none⟩) (len + m) cap) (setBlk w b (.cells (l ++ List.replicate m z ++ junk.drop m).toArray e)) := by
  obtain ⟨i, hi, _, h2, h3⟩ := ht.info
  have hst := run_storeCells (P := P) (List.replicate m z) (l ++ junk) w (0 + len * 1) 0 hb (by simp; omega) (fun u hu => by rw [(List.mem_replicate.1 hu).2]; exact h1)
  have e1 : wr (l ++ junk) (0 + len * 1 + 0) (List.replicate m z) = l ++ List.replicate m z ++ junk.drop m := by
    simp only [wr, Nat.zero_add, Nat.add_zero, Nat.mul_one, List.length_replicate]
    rw [← hl, List.take_left', List.drop_append]
    · simp
    · rfl
  rw [e1] at hst
  have hm0 : ¬ ((m : Int) < 0) := by omega
  have hm1 : ¬ ((m : Int) * (i.bytes : Int) > 2 ^ 48) := by
    rw [h2]
    have : m * bytes ≤ 1073741824 * 1024 := Nat.mul_le_mul (by omega) hby
    have h4 : ((m * bytes : Nat) : Int) ≤ 1073741824 * 1024 := by omega
    push_cast at h4
    omega
  have hw : IntKind.i64.wrap (m : Int) = m := wrap64_id (by omega) (by omega)
  have hA : ∀ w, (asInt (.int kx (m : Int))).run P w = .ok (m : Int) w := fun _ => rfl
  have hi' : ∀ w, (typeInfo e).run P w = .ok i w := fun w => by simp [typeInfo, hi]
  simp only [Builtin.append_, List.getElem?_toArray, List.getElem?_cons_zero, List.getElem?_cons_succ, Sem.run_bind, run_und hT, Result.andThen_ok, ht.run_size, run_und hX, Sem.run_pure, if_true, hA, hw, if_neg hm0, hi', Sem.run_ite, if_neg hm1, Int.toNat_natCast, if_pos hcap, Bool.not_true, Bool.false_eq_true, if_false]
  rw [run_zeros _ ht hz]
  simp only [Result.andThen_ok, add_mk]
  rw [hst]
  rfl
theorem st_appendz {T e X bytes m : Nat} {s x : Operand} {kx kX : IntKind} {d : TypeDesc} {z v : Value} {l : List Value} (h : Nat) (hT : P.underlying T = some (.slice e)) (hX : P.underlying X = some (.int kX)) (ht : Ty P e d 1 bytes z) (hz : z.cells = #[z])
    (hv : ev L s = some v) (hx : ev L x = some (.int kx m)) (hh : lk H h = some (.own v e 1 l)) (hsz : l.length + m ≤ 1073741824) (hby : bytes ≤ 1024)
    (h1 : z.oneCell' = true) (hg : wants ops L gd = some true) (hn : Nat.ble (dst + 1) E.n = true)
    (k : ∀ v', At (wpList P ops Q rest) E ((dst, v') :: L) ((h, .own v' e 1 (l ++ List.replicate m z)) :: H) F) :
    At (wpList P ops Q (⟨some dst, .call { callee := .builtin .append, args := #[s, x], argTypes := #[T, X] }, ty, pos, af, gd⟩ :: rest)) E L H F := by
  refine st_gives hg rfl hn fun a w fa sw => ?_
  have hex : ∀ r w', (Builtin.append_ #[T, X] ty #[v, .int kx m]).run P w = .ok r w' →
      (execOp a.eval ⟨some dst, .call { callee := .builtin .append, args := #[s, x], argTypes := #[T, X] }, ty, pos, af, gd⟩).run P w = .ok (.value r) w' := fun r w' hr' => by
    simp [execOp, resolve, invoke, builtin, fa.ev hv, fa.ev hx, hr']
  have grow : ∀ base len cap, v = .slice base len cap → cap < len + m → len = l.length → ∃ v' w' M N, (execOp a.eval ⟨some dst, .call { callee := .builtin .append, args := #[s, x], argTypes := #[T, X] }, ty, pos, af, gd⟩).run P w = .ok (.value v') w' ∧ Gives w w' M N ∧
      (∀ b, b ∈ M → ∃ k e, lk H k = some e ∧ b ∈ e.ids ∧ lk N k ≠ none) ∧ At (wpList P ops Q rest) E ((dst, v') :: L) (N ++ H) F := by
    intro base len cap hv' hc hlen
    subst hv'
    subst hlen
    obtain ⟨nc, junk, g1, g2, g3⟩ := run_appendz_grow (P := P) (w := w) (ty := ty) (kx := kx) hT ht hX hz (sw.own_rd hh) rfl hc hsz hby
    refine ⟨_, _, [], [(h, .own (.slice (some ⟨w.heap.size, 0, none⟩) (l.length + m) nc) e 1 (l ++ List.replicate m z))], hex _ _ g3, ?_, nil_all, k _⟩
    refine Gives.drawn (gives_alloc { w with drawn := w.drawn + 1 } _ h _ (.inr ⟨_, _, nc, junk, rfl, ?_, by rw [g2, Nat.mul_one], g1, ?_⟩) (by simp [Ent.ids, blkOf]))
    · rw [List.length_append, List.length_replicate, Nat.mul_one]
    · exact heap_alloc_new { w with drawn := w.drawn + 1 } _
  rcases sw.hold _ _ hh with ⟨rfl, rfl⟩ | ⟨b, len, cap, junk, rfl, g1, g2, g3, g4⟩
  · rcases Nat.eq_zero_or_pos m with hm | hm
    · subst hm
      refine ⟨.slice none 0 0, w, [], [(h, .own (.slice none 0 0) e 1 ([] ++ List.replicate 0 z))], hex _ _ ?_, ?_, nil_all, k _⟩
      · obtain ⟨i, hi, _, h2, h3⟩ := ht.info
        have hA : ∀ w, (asInt (.int kx ((0 : Nat) : Int))).run P w = .ok ((0 : Nat) : Int) w := fun _ => rfl
        have hw : IntKind.i64.wrap ((0 : Nat) : Int) = ((0 : Nat) : Int) := by decide
        have hi' : ∀ w, (typeInfo e).run P w = .ok i w := fun w => by simp [typeInfo, hi]
        have hm0 : ¬ (((0 : Nat) : Int) < 0) := by omega
        have hm1 : ¬ (((0 : Nat) : Int) * (i.bytes : Int) > 2 ^ 48) := by simp
        simp only [Builtin.append_, List.getElem?_toArray, List.getElem?_cons_zero, List.getElem?_cons_succ, Sem.run_bind, run_und hT, Result.andThen_ok, ht.run_size, run_und hX, Sem.run_pure, if_true, hA, hw, if_neg hm0, hi', Sem.run_ite, if_neg hm1, Int.toNat_natCast, Nat.add_zero, Nat.le_refl, Bool.not_true, Bool.false_eq_true, if_false]
      · refine ⟨rfl, rfl, rfl, Nat.le_refl _, fun _ _ _ => rfl, fun k e' hk => ?_, fun k e' hk b hb => ?_, fun k e1 k' e2 hk hk' hne => ?_⟩
        · obtain ⟨rfl, rfl⟩ := lk_one hk; exact .inl ⟨rfl, rfl⟩
        · obtain ⟨rfl, rfl⟩ := lk_one hk; simp [Ent.ids, blkOf] at hb
        · obtain ⟨rfl, rfl⟩ := lk_one hk; obtain ⟨rfl, rfl⟩ := lk_one hk'; exact absurd rfl hne
    · exact grow none 0 0 rfl (by omega) rfl
  · rw [Nat.mul_one] at g1 g2
    by_cases hc : len + m ≤ cap
    · refine ⟨_, _, [b], [(h, .own (.slice (some ⟨b, 0, none⟩) (len + m) cap) e 1 (l ++ List.replicate m z))], hex _ _ (run_appendz_room hT ht hX hz g4 g1 g2 hc (by omega) hby h1), ?_, ?_, k _⟩
      · have hlt := (Array.getElem?_eq_some_iff.1 g4).1
        refine gives_setBlk hlt h _ (.inr ⟨b, len + m, cap, junk.drop m, rfl, ?_, ?_, hc, ?_⟩) rfl
        · rw [List.length_append, List.length_replicate, Nat.mul_one, g1]
        · rw [List.length_drop, g2, Nat.mul_one]; omega
        · exact heap_setBlk hlt
      · intro b' hb'
        exact ⟨h, _, hh, by simpa [Ent.ids, blkOf] using hb', by simp [lk_cons_same]⟩
    · exact grow _ len cap rfl (by omega) (by omega)
end
end Go.Proofs.Yteedclmcgifmpaa.Fw

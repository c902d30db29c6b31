/- A block and what it owns, handed in to be written; zeros appended to nothing. -/
import Derived.Test.YteedclmcgifmpaaFw17
import Derived.Test.YteedclmcgifmpaaFw11
namespace Go.Proofs.Yteedclmcgifmpaa.Fw
open Go Go.RowKit Go.Proofs.Yteedclmcgifmpaa
set_option linter.unusedSimpArgs false
set_option linter.unusedVariables false
theorem Sat.two {w : World} {b : Nat} {o : Obj} {v : Value} {T sz : Nat} {l : List Value} (i j : Nat) (hij : i ≠ j) (hb : w.heap[b]? = some o) (hv : Own w v T sz l) (hbv : b ∉ blkOf v) : Sat w (b :: blkOf v) [(i, .blk b o), (j, .own v T sz l)] [] w := by
  refine .start w _ _ _ (fun h e hh => ?_) (fun h e hh b' hb' => ?_) (fun h e h' e' hh hh' hne b' hb' hb2 => ?_) (fun _ _ h => (lk_nil h).elim) (fun _ _ _ _ h => (lk_nil h).elim)
  · rcases lk_two hh with ⟨rfl, rfl⟩ | ⟨rfl, _, rfl⟩
    · exact hb
    · exact hv
  · rcases lk_two hh with ⟨rfl, rfl⟩ | ⟨rfl, _, rfl⟩
    · simp only [Ent.ids, List.mem_singleton] at hb'; subst hb'; exact List.mem_cons_self ..
    · exact List.mem_cons_of_mem _ hb'
  · rcases lk_two hh with ⟨rfl, rfl⟩ | ⟨rfl, _, rfl⟩ <;> rcases lk_two hh' with ⟨rfl, rfl⟩ | ⟨rfl, _, rfl⟩
    · exact hne rfl
    · simp only [Ent.ids, List.mem_singleton] at hb'; subst hb'; exact hbv hb2
    · simp only [Ent.ids, List.mem_singleton] at hb2; subst hb2; exact hbv hb'
    · exact hne rfl
theorem Sat.read2 {w0 w : World} {X : List Nat} {b i j T sz : Nat} {o : Obj} {v : Value} {l : List Value} {F : List (Nat × FE)} (sw : Sat w0 X [(i, .blk b o), (j, .own v T sz l)] F w) (k : Nat) {f : FE} (hf : f.holds w) (ho : f.off b) (ho2 : ∀ x, x ∈ blkOf v → f.off x) : Sat w0 X [(i, .blk b o), (j, .own v T sz l)] ((k, f) :: F) w :=
  sw.read k hf fun h' e hh b' hb' => by
    rcases lk_two hh with ⟨rfl, rfl⟩ | ⟨rfl, _, rfl⟩
    · obtain rfl := mem_one hb'; exact ho
    · exact ho2 _ hb'
theorem mod_two {H : List (Nat × Ent)} {ι : Type} {k j b T sz : Nat} {o : Obj} {v : Value} {l : List Value} {e' e2 : ι → Ent} (hh : lk H k = some (.blk b o)) (hv : lk H j = some (.own v T sz l)) : ∀ b', b' ∈ b :: blkOf v → ∃ k' e, lk H k' = some e ∧ b' ∈ e.ids ∧ ∀ x, lk [(k, e' x), (j, e2 x)] k' ≠ none := by
  intro b' hb
  rcases List.mem_cons.1 hb with rfl | hb
  · exact ⟨k, _, hh, by simp [Ent.ids], fun x => by simp [lk_cons_same]⟩
  · refine ⟨j, _, hv, hb, fun x => ?_⟩
    by_cases hkj : k = j
    · subst hkj; simp [lk_cons_same]
    · rw [lk_cons_ne hkj, lk_cons_same]; simp
theorem mod_blk2 {H : List (Nat × Ent)} {ι : Type} {k b j : Nat} {o : Obj} {e' e2 : ι → Ent} (hh : lk H k = some (.blk b o)) : ∀ b', b' ∈ [b] → ∃ k' e, lk H k' = some e ∧ b' ∈ e.ids ∧ ∀ x, lk [(k, e' x), (j, e2 x)] k' ≠ none :=
  fun b' hb => ⟨k, _, hh, by simpa [Ent.ids] using hb, fun x => by simp [lk_cons_same]⟩
theorem Sat.own_notin {w0 w : World} {X : List Nat} {H : List (Nat × Ent)} {F : List (Nat × FE)} (sw : Sat w0 X H F w) {h h' b T sz : Nat} {v : Value} {l : List Value} {o : Obj} (hh : lk H h = some (.blk b o)) (hv : lk H h' = some (.own v T sz l)) (hne : h ≠ h') : b ∉ blkOf v :=
  fun hb => sw.apart h _ h' _ hh hv hne b (by simp [Ent.ids]) hb
theorem Sat.own_own {w0 w : World} {X : List Nat} {H : List (Nat × Ent)} {F : List (Nat × FE)} (sw : Sat w0 X H F w) {h h' T sz T' sz' : Nat} {v v' : Value} {l l' : List Value} (hh : lk H h = some (.own v T sz l)) (hv : lk H h' = some (.own v' T' sz' l')) (hne : h ≠ h') : ∀ x, x ∈ blkOf v → FE.off x (.sl v' sz' l') :=
  fun x hx => .inr fun hb => sw.apart h _ h' _ hh hv hne x hx hb
theorem Sat.blk_off {w0 w : World} {X : List Nat} {H : List (Nat × Ent)} {F : List (Nat × FE)} (sw : Sat w0 X H F w) {h h' b b' : Nat} {o o' : Obj} {n c sz : Nat} {l : List Value} (hh : lk H h = some (.blk b o)) (hv : lk H h' = some (.blk b' o')) (hne : h ≠ h') : FE.off b (.sl (.slice (some ⟨b', 0, none⟩) n c) sz l) :=
  .inr fun hb => sw.apart h _ h' _ hh hv hne b (by simp [Ent.ids]) (by simpa [Ent.ids, blkOf] using hb)
theorem Sat.ownblk_off {w0 w : World} {X : List Nat} {H : List (Nat × Ent)} {F : List (Nat × FE)} (sw : Sat w0 X H F w) {h h' b' T sz' : Nat} {v : Value} {l' : List Value} {o' : Obj} {n c sz : Nat} {l : List Value} (hh : lk H h = some (.own v T sz' l')) (hv : lk H h' = some (.blk b' o')) (hne : h ≠ h') : ∀ x, x ∈ blkOf v → FE.off x (.sl (.slice (some ⟨b', 0, none⟩) n c) sz l) :=
  fun x hx => .inr fun hb => sw.apart h _ h' _ hh hv hne x hx (by simpa [Ent.ids, blkOf] using hb)
section
variable {P : Program} {Q : Exit → Act → World → Prop} {ops : Array Oper} {rest : List Oper} {E : Env} {L : List (Nat × Value)} {H : List (Nat × Ent)} {F : List (Nat × FE)}
variable {dst : Nat} {ty : TypeId} {pos : String} {af : Array Edge} {gd : Option (Nat × Bool)}
theorem ev_cap {ds : Option Tmp} {x : Operand} {T e : TypeId} {b : Option Addr} {n c : Nat} (hT : P.underlying T = some (.slice e)) (hx : ev L x = some (.slice b n c)) :
    Ev P ⟨ds, .call { callee := .builtin .cap, args := #[x], argTypes := #[T] }, ty, pos, af, gd⟩ E L H F (.int .i64 c) :=
  fun a w fa _ => by simp [execOp, resolve, invoke, builtin, Builtin.cap_, fa.ev hx, run_und hT, goInt]
theorem ev_len_of {ds : Option Tmp} {x : Operand} {T e : TypeId} {v : Value} {sz n : Nat} {l : List Value} (hT : P.underlying T = some (.slice e)) (hx : ev L x = some v) (hr : ∀ w, Sat E.w0 E.X H F w → Rd w v sz l)
    (hl : l.length = n * sz) (hs : 0 < sz) :
    Ev P ⟨ds, .call { callee := .builtin .len, args := #[x], argTypes := #[T] }, ty, pos, af, gd⟩ E L H F (.int .i64 n) :=
  fun a w fa sw => by
    obtain ⟨b, len, cap, rfl, h1, _⟩ := hr w sw
    have : len = n := Nat.eq_of_mul_eq_mul_right hs (by omega)
    simp [execOp, resolve, invoke, builtin, Builtin.len_, fa.ev hx, run_und hT, goInt, this]
theorem run_appendz_nil {w : World} {T e X ty bytes m sz : Nat} {kx kX : IntKind} {d : TypeDesc} {z : Value} (hT : P.underlying T = some (.slice e)) (ht : Ty P e d sz bytes z)
    (hX : P.underlying X = some (.int kX)) (hz : z.cells.size = sz) (hs : 0 < sz) (hm : 0 < m) (hsz : m ≤ 1073741824) (hby : bytes ≤ 1024) :
    ∃ newCap junk, m ≤ newCap ∧ junk.length = (newCap - m) * sz ∧
      (Builtin.append_ #[T, X] ty #[.slice none 0 0, .int kx m]).run P w = .ok (.slice (some ⟨w.heap.size, 0, none⟩) m newCap) ({ w with drawn := w.drawn + 1 }.alloc (.cells ((Builtin.zeroCells z.cells m).toList ++ junk).toArray e)) := by
  obtain ⟨i, hi, h1, h2, h3⟩ := ht.info
  generalize hq : Question.cut (.appendCap (0 + m) 0 e) (w.tape w.drawn (.appendCap (0 + m) 0 e)) = newCap
  have hnew : 0 + m ≤ newCap := by rw [← hq]; simp only [Question.cut]; omega
  refine ⟨newCap, (Builtin.zeroCells z.cells (newCap - (0 + m))).toList, by omega, by simp [zeroCells_size, hz], ?_⟩
  have hb1 : ¬ (0 + m ≤ 0) := by omega
  have hcap2 : ¬ (Builtin.nextslicecap (0 + m) 0 * i.bytes > 281474976710656) := by
    rw [h2]
    have a1 := nextslicecap_le (show 0 < 0 + m by omega)
    have a2 : Builtin.nextslicecap (0 + m) 0 * bytes ≤ (2 * (0 + m) + 512) * 1024 := Nat.mul_le_mul a1 hby
    omega
  have hmax : ¬ (((0 + m : Nat) : Int) > IntKind.i64.max) := by
    have : IntKind.i64.max = 9223372036854775807 := by decide
    omega
  have hm0 : ¬ ((m : Int) < 0) := by omega
  have hm1 : ¬ ((m : Int) * (i.bytes : Int) > 2 ^ 48) := by
    rw [h2]
    have : m * bytes ≤ 1073741824 * 1024 := Nat.mul_le_mul (by omega) hby
    have h4 : ((m * bytes : Nat) : Int) ≤ 1073741824 * 1024 := by omega
    push_cast at h4
    omega
  have hw : IntKind.i64.wrap (m : Int) = m := wrap64_id (by omega) (by omega)
  have hA : ∀ w, (asInt (.int kx (m : Int))).run P w = .ok (m : Int) w := fun _ => rfl
  have hi' : ∀ w, (typeInfo e).run P w = .ok i w := fun w => by simp [typeInfo, hi]
  have hms : ¬ (m * sz = 0) := by have := Nat.mul_pos hm hs; omega
  simp only [Builtin.append_, List.getElem?_toArray, List.getElem?_cons_zero, List.getElem?_cons_succ, Sem.run_bind, run_und hT, Result.andThen_ok, ht.run_size, run_und hX, Sem.run_pure, if_true, hA, hw, if_neg hm0, hi', Sem.run_ite, if_neg hm1, Int.toNat_natCast]
  have hcap3 : ¬ (Builtin.nextslicecap (0 + m) 0 * i.bytes > 2 ^ 48) := hcap2
  simp only [if_neg hb1, hmax, false_and, if_false, Sem.run_bind, hi', Result.andThen_ok, if_neg hcap3, run_choose, Question.forced, Bool.false_eq_true, hq, run_askRoom, Builtin.firstCells, Sem.run_pure, Bool.not_true, if_neg hms, ht.run_zero, newRow, run_newObj]
  have e1 : (#[] : Array Value) ++ Builtin.zeroCells z.cells m ++ Builtin.zeroCells z.cells (newCap - (0 + m)) = ((Builtin.zeroCells z.cells m).toList ++ (Builtin.zeroCells z.cells (newCap - (0 + m))).toList).toArray := by simp
  rw [e1, Nat.zero_add]
  rfl
theorem st_appendz_nil {T e X bytes m sz : Nat} {s x : Operand} {kx kX : IntKind} {d : TypeDesc} {z : Value} (h : Nat) (hT : P.underlying T = some (.slice e)) (hX : P.underlying X = some (.int kX)) (ht : Ty P e d sz bytes z) (hz : z.cells.size = sz) (hs : 0 < sz)
    (hv : ev L s = some (.slice none 0 0)) (hx : ev L x = some (.int kx m)) (hm : 0 < m) (hsz : m ≤ 1073741824) (hby : bytes ≤ 1024) (hg : wants ops L gd = some true) (hn : Nat.ble (dst + 1) E.n = true)
    (k : ∀ v' l, l.length = m * sz → At (wpList P ops Q rest) E ((dst, v') :: L) ((h, .own v' e sz l) :: H) F) :
    At (wpList P ops Q (⟨some dst, .call { callee := .builtin .append, args := #[s, x], argTypes := #[T, X] }, ty, pos, af, gd⟩ :: rest)) E L H F := by
  refine st_gives hg rfl hn fun a w fa sw => ?_
  obtain ⟨nc, junk, g1, g2, g3⟩ := run_appendz_nil (P := P) (w := w) (ty := ty) (kx := kx) hT ht hX hz hs hm hsz hby
  have hex : (execOp a.eval ⟨some dst, .call { callee := .builtin .append, args := #[s, x], argTypes := #[T, X] }, ty, pos, af, gd⟩).run P w = .ok (.value (.slice (some ⟨w.heap.size, 0, none⟩) m nc)) ({ w with drawn := w.drawn + 1 }.alloc (.cells ((Builtin.zeroCells z.cells m).toList ++ junk).toArray e)) := by
    simp [execOp, resolve, invoke, builtin, fa.ev hv, fa.ev hx, g3]
  have hl : (Builtin.zeroCells z.cells m).toList.length = m * sz := by simp [zeroCells_size, hz]
  refine ⟨_, _, [], [(h, .own (.slice (some ⟨w.heap.size, 0, none⟩) m nc) e sz (Builtin.zeroCells z.cells m).toList)], hex, ?_, nil_all, k _ _ hl⟩
  refine Gives.drawn (gives_alloc { w with drawn := w.drawn + 1 } _ h _ (.inr ⟨_, _, nc, junk, rfl, hl, by rw [g2], g1, ?_⟩) (by simp [Ent.ids, blkOf]))
  exact heap_alloc_new { w with drawn := w.drawn + 1 } _
end
end Go.Proofs.Yteedclmcgifmpaa.Fw

/- Arrays compared; copy; parts of slices; what is owned becomes what is only read. -/
import Derived.Test.YteedclmcgifmpaaFw6
namespace Go.Proofs.Yteedclmcgifmpaa.Fw
open Go Go.RowKit

theorem ints_length (k : IntKind) (l : List Int) : (ints k l).length = l.length := by simp [ints]
theorem ints_append (k : IntKind) (a b : List Int) : ints k (a ++ b) = ints k a ++ ints k b := by simp [ints]
theorem ints_set (k : IntKind) (l : List Int) (i : Nat) (x : Int) : (ints k l).set i (.int k x) = ints k (l.set i x) := by simp [ints, List.map_set]
theorem ints_take (k : IntKind) (l : List Int) (n : Nat) : (ints k l).take n = ints k (l.take n) := by simp [ints]
theorem ints_drop (k : IntKind) (l : List Int) (n : Nat) : (ints k l).drop n = ints k (l.drop n) := by simp [ints]
theorem ints_get (k : IntKind) (l : List Int) (i : Nat) (h : i < l.length) : (ints k l)[i]? = some (.int k (l.getD i 0)) := by simp [ints, h]
theorem ints_one (k : IntKind) (l : List Int) : ∀ u, u ∈ ints k l → u.oneCell' = true := by
  intro u hu
  simp only [ints, List.mem_map] at hu
  obtain ⟨x, _, rfl⟩ := hu
  rfl
theorem ints_inj {k : IntKind} {a b : List Int} (h : ints k a = ints k b) : a = b := by
  induction a generalizing b with
  | nil => cases b with
    | nil => rfl
    | cons y b => simp [ints] at h
  | cons x a ih => cases b with
    | nil => simp [ints] at h
    | cons y b =>
      simp only [ints, List.map_cons, List.cons.injEq, Value.int.injEq, true_and] at h
      rw [h.1, ih h.2]
theorem ints_wr (k : IntKind) (cl l : List Int) (n : Nat) : wr (ints k cl) n (ints k l) = ints k (cl.take n ++ l ++ cl.drop (n + l.length)) := by simp [wr, ints]

section
variable {P : Program} {w : World} {T e : TypeId} {n bytes : Nat} {k : IntKind} {z : Value}

theorem run_eq_int {d : Nat} (he : P.underlying e = some (.int k)) (x y : Int) : (Op.equalIn (d + 1) e (.int k x) (.int k y)).run P w = .ok (decide (x = y)) w := by
  simp [Op.equalIn, run_und he]
  rfl

theorem run_part_int (he : Ty P e (.int k) 1 bytes z) (l : List Int) (i : Nat) (h : i < l.length) : (part e (ints k l).toArray (i * 1)).run P w = .ok (.int k (l.getD i 0)) w := by
  have : (ints k l)[i]? = some (.int k (l.getD i 0)) := ints_get k l i h
  simp [part, he.run_agg, aggD, this]

theorem run_eq_arr {d : Nat} (hT : P.underlying T = some (.array n e)) (he : Ty P e (.int k) 1 bytes z) (xs ys : List Int) (hx : xs.length = n) (hy : ys.length = n) :
    (Op.equalIn (d + 2) T (.agg (ints k xs).toArray) (.agg (ints k ys).toArray)).run P w = .ok (decide (xs = ys)) w := by
  unfold Op.equalIn
  simp only [Sem.run_bind, run_und hT, Result.andThen_ok, he.run_size]
  simp only [Std.Legacy.Range.forIn_eq_forIn_range', Std.Legacy.Range.size]
  have key : ∀ (m i : Nat), i + m = n → (forIn (m := Sem) (List.range' i m 1) ((none, ()) : Option Bool × Unit) (fun i r => do
        if !(← Op.equalIn (d + 1) e (← part e (ints k xs).toArray (i * 1)) (← part e (ints k ys).toArray (i * 1))) then pure (ForInStep.done (some false, ())) else pure (ForInStep.yield (none, ())))).run P w =
      .ok (if xs.drop i = ys.drop i then none else some false, ()) w := by
    intro m
    induction m with
    | zero =>
      intro i hi
      have h1 : xs.drop i = [] := by simp; omega
      have h2 : ys.drop i = [] := by simp; omega
      simp [h1, h2]
    | succ m ih =>
      intro i hi
      have hxi : i < xs.length := by omega
      have hyi : i < ys.length := by omega
      simp only [List.range'_succ, List.forIn_cons, Sem.run_bind, run_part_int he xs i hxi, run_part_int he ys i hyi, Result.andThen_ok, run_eq_int he.und]
      have e1 : xs.drop i = xs.getD i 0 :: xs.drop (i + 1) := by rw [List.drop_eq_getElem_cons hxi]; simp [hxi]
      have e2 : ys.drop i = ys.getD i 0 :: ys.drop (i + 1) := by rw [List.drop_eq_getElem_cons hyi]; simp [hyi]
      by_cases hh : xs.getD i 0 = ys.getD i 0
      · simp only [hh, decide_true, Bool.not_true, Bool.false_eq_true, if_false, Sem.run_pure, Result.andThen_ok]
        rw [ih (i + 1) (by omega), e1, e2]
        simp only [hh, List.cons.injEq, true_and]
      · simp only [hh, decide_false, Bool.not_false, if_true, Sem.run_pure, Result.andThen_ok]
        rw [e1, e2, if_neg]
        intro h
        exact hh (List.cons.inj h).1
  have := key n 0 (by omega)
  simp only [List.drop_zero] at this
  simp only [Nat.sub_zero, Nat.add_one_sub_one, Nat.div_one]
  rw [this]
  by_cases h : xs = ys
  · simp [h]
  · simp [h]
end

section
variable {P : Program} {Q : Exit → Act → World → Prop} {ops : Array Oper} {rest : List Oper} {E : Env} {L : List (Nat × Value)} {H : List (Nat × Ent)} {F : List (Nat × FE)}
variable {dst : Option Tmp} {ty : TypeId} {pos : String} {af : Array Edge} {gd : Option (Nat × Bool)}

theorem ev_eql_arr {T T' e n bytes : Nat} {k : IntKind} {z : Value} {x y : Operand} {xs ys : List Int} (hT : P.underlying T = some (.array n e)) (he : Ty P e (.int k) 1 bytes z) (hq : P.eqGuardType P.depth T = false)
    (hx : ev L x = some (.agg (ints k xs).toArray)) (hy : ev L y = some (.agg (ints k ys).toArray)) (h1 : xs.length = n) (h2 : ys.length = n) : Ev P ⟨dst, .binOp .eql T x y T', ty, pos, af, gd⟩ E L H F (.bool (decide (xs = ys))) :=
  fun a w fa _ => by
    have e1 := run_eq_arr (P := P) (w := w) (d := 9998) hT he xs ys h1 h2
    have e2 : (eqGuard .eql T x y (.agg (ints k xs).toArray) (.agg (ints k ys).toArray)).run P w = .ok () w := by simp [eqGuard, hq]
    have e3 : (binOp .eql T (.agg (ints k xs).toArray) (.agg (ints k ys).toArray)).run P w = .ok (.bool (decide (xs = ys))) w := by
      simp only [binOp, Op.equal, Sem.run_bind]
      have e4 : (Op.equalIn Op.maxDepth T (.agg (ints k xs).toArray) (.agg (ints k ys).toArray)).run P w = .ok (decide (xs = ys)) w := e1
      rw [e4]
      rfl
    simp only [execOp, fa.ev hx, fa.ev hy, Sem.run_bind, e2, e3, Result.andThen_ok, Sem.run_pure]
theorem ev_neq_arr {T T' e n bytes : Nat} {k : IntKind} {z : Value} {x y : Operand} {xs ys : List Int} (hT : P.underlying T = some (.array n e)) (he : Ty P e (.int k) 1 bytes z) (hq : P.eqGuardType P.depth T = false)
    (hx : ev L x = some (.agg (ints k xs).toArray)) (hy : ev L y = some (.agg (ints k ys).toArray)) (h1 : xs.length = n) (h2 : ys.length = n) : Ev P ⟨dst, .binOp .neq T x y T', ty, pos, af, gd⟩ E L H F (.bool (decide (xs ≠ ys))) :=
  fun a w fa _ => by
    have e1 := run_eq_arr (P := P) (w := w) (d := 9998) hT he xs ys h1 h2
    have e2 : (eqGuard .neq T x y (.agg (ints k xs).toArray) (.agg (ints k ys).toArray)).run P w = .ok () w := by simp [eqGuard, hq]
    have e3 : (binOp .neq T (.agg (ints k xs).toArray) (.agg (ints k ys).toArray)).run P w = .ok (.bool (decide (xs ≠ ys))) w := by
      simp only [binOp, Op.equal, Sem.run_bind]
      have e4 : (Op.equalIn Op.maxDepth T (.agg (ints k xs).toArray) (.agg (ints k ys).toArray)).run P w = .ok (decide (xs = ys)) w := e1
      rw [e4]
      simp
    simp only [execOp, fa.ev hx, fa.ev hy, Sem.run_bind, e2, e3, Result.andThen_ok, Sem.run_pure]
/-- of bools, and of strings -/
theorem ev_eql_bool {T T' : Nat} {x y : Operand} {b c : Bool} (hT : P.underlying T = some .bool) (hx : ev L x = some (.bool b)) (hy : ev L y = some (.bool c)) : Ev P ⟨dst, .binOp .eql T x y T', ty, pos, af, gd⟩ E L H F (.bool (b == c)) :=
  fun a w fa _ => by
    have e0 : ∀ d, (Op.equalIn (d + 1) T (.bool b) (.bool c)).run P w = .ok (b == c) w := fun d => by simp [Op.equalIn, run_und hT]
    have e4 : (Op.equalIn Op.maxDepth T (.bool b) (.bool c)).run P w = .ok (b == c) w := e0 9999
    simp only [execOp, fa.ev hx, fa.ev hy, eqGuard, binOp, Op.equal, Sem.run_bind]
    simp [e4]
theorem ev_eql_str {T T' : Nat} {x y : Operand} {b c : ByteArray} (hx : ev L x = some (.string b)) (hy : ev L y = some (.string c)) : Ev P ⟨dst, .binOp .eql T x y T', ty, pos, af, gd⟩ E L H F (.bool (b.toList == c.toList)) :=
  fun a w fa _ => by simp [execOp, fa.ev hx, fa.ev hy, eqGuard, binOp, Op.stringOp]
theorem ev_eql_slice_nil {T T' e : Nat} {x y : Operand} {b : Option Addr} {n c : Nat} (hT : P.underlying T = some (.slice e)) (hx : ev L x = some (.slice b n c)) (hy : ev L y = some (.slice none 0 0)) : Ev P ⟨dst, .binOp .eql T x y T', ty, pos, af, gd⟩ E L H F (.bool b.isNone) :=
  fun a w fa _ => by
    have e0 : ∀ d, (Op.equalIn (d + 1) T (.slice b n c) (.slice none 0 0)).run P w = .ok b.isNone w := fun d => by cases b <;> simp [Op.equalIn, run_und hT]
    have e4 : (Op.equalIn Op.maxDepth T (.slice b n c) (.slice none 0 0)).run P w = .ok b.isNone w := e0 9999
    simp only [execOp, fa.ev hx, fa.ev hy, eqGuard, binOp, Op.equal, Sem.run_bind]
    simp [e4]
theorem ev_eql_ptr_nil {T T' e : Nat} {x y : Operand} {b : Option Addr} (hT : P.underlying T = some (.pointer e)) (hx : ev L x = some (.pointer b)) (hy : ev L y = some (.pointer none)) : Ev P ⟨dst, .binOp .eql T x y T', ty, pos, af, gd⟩ E L H F (.bool b.isNone) :=
  fun a w fa _ => by
    have e0 : ∀ d, (Op.equalIn (d + 1) T (.pointer b) (.pointer none)).run P w = .ok b.isNone w := fun d => by cases b <;> simp [Op.equalIn, run_und hT]
    have e4 : (Op.equalIn Op.maxDepth T (.pointer b) (.pointer none)).run P w = .ok b.isNone w := e0 9999
    simp only [execOp, fa.ev hx, fa.ev hy, eqGuard, binOp, Op.equal, Sem.run_bind]
    simp [e4]
theorem ev_neq_ptr_nil {T T' e : Nat} {x y : Operand} {b : Option Addr} (hT : P.underlying T = some (.pointer e)) (hx : ev L x = some (.pointer b)) (hy : ev L y = some (.pointer none)) : Ev P ⟨dst, .binOp .neq T x y T', ty, pos, af, gd⟩ E L H F (.bool b.isSome) :=
  fun a w fa _ => by
    have e0 : ∀ d, (Op.equalIn (d + 1) T (.pointer b) (.pointer none)).run P w = .ok b.isNone w := fun d => by cases b <;> simp [Op.equalIn, run_und hT]
    have e4 : (Op.equalIn Op.maxDepth T (.pointer b) (.pointer none)).run P w = .ok b.isNone w := e0 9999
    simp only [execOp, fa.ev hx, fa.ev hy, eqGuard, binOp, Op.equal, Sem.run_bind]
    simp [e4]

/-! Unsigned numbers that stay within their kind -/
theorem wrapu64_id {x : Int} (h1 : 0 ≤ x) (h2 : x ≤ 18446744073709551615) : IntKind.u64.wrap x = x := by
  simp only [IntKind.wrap, IntKind.bits, IntKind.signed]
  simp
  omega
theorem wrapu8_id {x : Int} (h1 : 0 ≤ x) (h2 : x ≤ 255) : IntKind.u8.wrap x = x := by
  simp only [IntKind.wrap, IntKind.bits, IntKind.signed]
  simp
  omega
theorem wrapu32_id {x : Int} (h1 : 0 ≤ x) (h2 : x ≤ 4294967295) : IntKind.u32.wrap x = x := by
  simp only [IntKind.wrap, IntKind.bits, IntKind.signed]
  simp
  omega
theorem ev_subu64 {T T' : TypeId} {x y : Operand} {i j : Int} (hx : ev L x = some (.int .u64 i)) (hy : ev L y = some (.int .u64 j)) (h1 : 0 ≤ i - j) (h2 : i - j ≤ 18446744073709551615) : Ev P ⟨dst, .binOp .sub T x y T', ty, pos, af, gd⟩ E L H F (.int .u64 (i - j)) := by
  have := ev_sub (P := P) (E := E) (H := H) (F := F) (dst := dst) (ty := ty) (pos := pos) (af := af) (gd := gd) (T := T) (T' := T') hx hy; rwa [wrapu64_id h1 h2] at this
theorem ev_convu64 {T T' : TypeId} {x : Operand} {k : IntKind} {i : Int} (h1 : P.underlying T = some (.int k)) (h2 : P.underlying T' = some (.int .u64)) (hx : ev L x = some (.int k i)) (hi : 0 ≤ i) (hi' : i ≤ 18446744073709551615) :
    Ev P ⟨dst, .convert T T' x, ty, pos, af, gd⟩ E L H F (.int .u64 i) := by
  have := ev_conv (P := P) (E := E) (H := H) (F := F) (dst := dst) (ty := ty) (pos := pos) (af := af) (gd := gd) h1 h2 hx; rwa [wrapu64_id hi hi'] at this

/-! Parts of slices -/
theorem ev_slice_rd {T e n sz bytes : Nat} {x lo hi : Operand} {v z : Value} {d : TypeDesc} {l : List Value} {k k' : IntKind} {i j : Int} (hT : P.underlying T = some (.slice e)) (ht : Ty P e d sz bytes z) (hx : ev L x = some v)
    (hlo : ev L lo = some (.int k i)) (hhi : ev L hi = some (.int k' j)) (hr : ∀ w, Sat E.w0 E.X H F w → Rd w v sz l) (hs : 0 < sz) (hl : l.length = n * sz) (h0 : 0 ≤ i) (h1 : i ≤ j) (h2 : j ≤ n) :
    Ev P ⟨dst, .slice T x (some lo) (some hi) none, ty, pos, af, gd⟩ E L H F (cutAt sz v i.toNat j.toNat) :=
  fun a w fa sw => by
    obtain ⟨b, len, cap, rfl, g1, g2, _⟩ := hr w sw
    have hlen : len = n := Nat.eq_of_mul_eq_mul_right hs (by omega)
    simp [execOp, fa.ev hx, fa.ev hlo, fa.ev hhi, run_slice_lohi (w := w) (a := b) (len := len) (cap := cap) (k := k) (k' := k') hT ht h0 h1 (by omega)]
theorem ev_slice_rd_lo {T e n sz bytes : Nat} {x lo : Operand} {v z : Value} {d : TypeDesc} {l : List Value} {k : IntKind} {i : Int} (hT : P.underlying T = some (.slice e)) (ht : Ty P e d sz bytes z) (hx : ev L x = some v)
    (hlo : ev L lo = some (.int k i)) (hr : ∀ w, Sat E.w0 E.X H F w → Rd w v sz l) (hs : 0 < sz) (hl : l.length = n * sz) (h0 : 0 ≤ i) (h1 : i ≤ n) :
    Ev P ⟨dst, .slice T x (some lo) none none, ty, pos, af, gd⟩ E L H F (cutAt sz v i.toNat n) :=
  fun a w fa sw => by
    obtain ⟨b, len, cap, rfl, g1, g2, _⟩ := hr w sw
    have hlen : len = n := Nat.eq_of_mul_eq_mul_right hs (by omega)
    subst hlen
    simp [execOp, fa.ev hx, fa.ev hlo, run_slice_lo (w := w) (a := b) (len := len) (cap := cap) (k := k) hT ht h0 h1]
theorem ev_slice_rd_hi {T e n sz bytes : Nat} {x hi : Operand} {v z : Value} {d : TypeDesc} {l : List Value} {k : IntKind} {j : Int} (hT : P.underlying T = some (.slice e)) (ht : Ty P e d sz bytes z) (hx : ev L x = some v)
    (hhi : ev L hi = some (.int k j)) (hr : ∀ w, Sat E.w0 E.X H F w → Rd w v sz l) (hs : 0 < sz) (hl : l.length = n * sz) (h0 : 0 ≤ j) (h1 : j ≤ n) :
    Ev P ⟨dst, .slice T x none (some hi) none, ty, pos, af, gd⟩ E L H F (cutAt sz v 0 j.toNat) :=
  fun a w fa sw => by
    obtain ⟨b, len, cap, rfl, g1, g2, _⟩ := hr w sw
    have hlen : len = n := Nat.eq_of_mul_eq_mul_right hs (by omega)
    simp [execOp, fa.ev hx, fa.ev hhi, run_slice_hi (w := w) (a := b) (len := len) (cap := cap) (k := k) hT ht h0 (by omega)]

/-- The part is read, too. -/
theorem at_cut {K : Act → World → Prop} {h sz n lo hi : Nat} {v : Value} {l : List Value} (h' : Nat) (hh : lk F h = some (.sl v sz l)) (hs : 0 < sz) (hl : l.length = n * sz) (h1 : lo ≤ hi) (h2 : hi ≤ n)
    (k : At K E L H ((h', .sl (cutAt sz v lo hi) sz ((l.drop (lo * sz)).take ((hi - lo) * sz))) :: F)) : At K E L H F :=
  fun a w fa sw => k a w fa (sw.cut hh hs hl h1 h2)

/-- What is owned is only read from here on. -/
theorem at_freeze {K : Act → World → Prop} {h T sz : Nat} {v : Value} {l : List Value} {H' : List (Nat × Ent)} (f : Nat) (hh : lk H h = some (.own v T sz l)) (hH : Sub H' H) (hno : lk H' h = none) (k : At K E L H' ((f, .sl v sz l) :: F)) : At K E L H F := by
  intro a w fa sw
  refine k a w fa ((sw.weaken hH (.refl _)).read f (sw.own_rd hh) fun k' e hk b hb => .inr fun hb' => ?_)
  have hne : k' ≠ h := by intro e1; subst e1; rw [hno] at hk; cases hk
  exact sw.apart k' e h _ (hH _ _ hk) hh hne b hb hb'
/-- A block that is owned is only read from here on. -/
theorem at_freeze_blk {K : Act → World → Prop} {h T b : Nat} {l : List Value} {fz : Nat × Nat} {H' : List (Nat × Ent)} (f : Nat) (hh : lk H h = some (.blk b (.cells l.toArray T fz))) (hH : Sub H' H) (hno : lk H' h = none) (k : At K E L H' ((f, .mem b 0 l) :: F)) : At K E L H F := by
  intro a w fa sw
  refine k a w fa ((sw.weaken hH (.refl _)).read f (lies_blk (sw.blk_eq hh)) fun k' e hk b' hb => .inr fun hb' => ?_)
  have hne : k' ≠ h := by intro e1; subst e1; rw [hno] at hk; cases hk
  subst hb'
  exact sw.apart k' e h _ (hH _ _ hk) hh hne b' hb (by simp [Ent.ids])
/-- The begin of what is owned. -/
theorem own_take {w : World} {v : Value} {T sz n hi : Nat} {l : List Value} (h : Own w v T sz l) (hs : 0 < sz) (hl : l.length = n * sz) (h1 : hi ≤ n) : Own w (cutAt sz v 0 hi) T sz (l.take (hi * sz)) := by
  rcases h with ⟨rfl, rfl⟩ | ⟨b, len, cap, junk, rfl, g1, g2, g3, g4⟩
  · have hn : n = 0 := by
      rcases Nat.eq_zero_or_pos n with h' | h'
      · exact h'
      · have := Nat.mul_pos h' hs; simp at hl; omega
    have : hi = 0 := by omega
    subst this
    exact .inl ⟨rfl, by simp⟩
  · have hlen : len = n := Nat.eq_of_mul_eq_mul_right hs (by omega)
    subst hlen
    have hm : hi * sz ≤ len * sz := Nat.mul_le_mul_right _ h1
    refine .inr ⟨b, hi, cap, l.drop (hi * sz) ++ junk, ?_, by simp; omega, ?_, by omega, ?_⟩
    · simp only [cutAt, Nat.zero_mul, Nat.sub_zero]
      split
      · rfl
      · simp [Addr.add]
    · have e1 : cap * sz = len * sz + (cap - len) * sz := by rw [← Nat.add_mul]; congr 1; omega
      have e2 : cap * sz = hi * sz + (cap - hi) * sz := by rw [← Nat.add_mul]; congr 1; omega
      simp only [List.length_append, List.length_drop]
      omega
    · rw [g4, ← List.append_assoc, List.take_append_drop]
theorem at_own_take {K : Act → World → Prop} {h T sz n hi : Nat} {v : Value} {l : List Value} (hh : lk H h = some (.own v T sz l)) (hs : 0 < sz) (hl : l.length = n * sz) (h1 : hi ≤ n)
    (k : At K E L ((h, .own (cutAt sz v 0 hi) T sz (l.take (hi * sz))) :: H) F) : At K E L H F := by
  intro a w fa sw
  have hO := own_take (sw.hold _ _ hh) hs hl h1
  have hids : blkOf (cutAt sz v 0 hi) = blkOf v := by
    rcases sw.hold _ _ hh with ⟨rfl, rfl⟩ | ⟨b, len, cap, junk, rfl, _⟩
    · simp only [cutAt]
      split <;> rfl
    · simp only [cutAt, Nat.zero_mul, Nat.sub_zero]
      split
      · rfl
      · simp [blkOf, Addr.add]
  refine k a w fa ⟨sw.tape, sw.os, sw.output, sw.size, sw.old, fun k' e hk => ?_, fun k' e hk b hb => ?_, fun k1 e1 k2 e2 hk1 hk2 hne b hb => ?_, sw.rd, fun f x k' e hk hk' b hb => ?_⟩
  · by_cases e1 : h = k'
    · subst e1; rw [lk_cons_same] at hk; cases hk; exact hO
    · rw [lk_cons_ne e1] at hk; exact sw.hold k' e hk
  · by_cases e1 : h = k'
    · subst e1; rw [lk_cons_same] at hk; cases hk
      exact sw.fresh h _ hh b (by simpa [Ent.ids, hids] using hb)
    · rw [lk_cons_ne e1] at hk; exact sw.fresh k' e hk b hb
  · have tr : ∀ k' e, lk ((h, Ent.own (cutAt sz v 0 hi) T sz (l.take (hi * sz))) :: H) k' = some e → ∃ e', lk H k' = some e' ∧ e'.ids = e.ids := by
      intro k' e hk
      by_cases e1 : h = k'
      · subst e1; rw [lk_cons_same] at hk; cases hk; exact ⟨_, hh, by simp [Ent.ids, hids]⟩
      · rw [lk_cons_ne e1] at hk; exact ⟨e, hk, rfl⟩
    obtain ⟨e1', h1', i1⟩ := tr _ _ hk1
    obtain ⟨e2', h2', i2⟩ := tr _ _ hk2
    rw [← i1] at hb
    rw [← i2]
    exact sw.apart k1 e1' k2 e2' h1' h2' hne b hb
  · by_cases e1 : h = k'
    · subst e1; rw [lk_cons_same] at hk'; cases hk'
      exact sw.off f x h _ hk hh b (by simpa [Ent.ids, hids] using hb)
    · rw [lk_cons_ne e1] at hk'; exact sw.off f x k' e hk hk' b hb

/-! copy -/
theorem run_firstCells_part {w : World} {v : Value} {sz n m : Nat} {l : List Value} (hr : Rd w v sz l) (hl : l.length = n * sz) (hm : m ≤ n) : (Builtin.firstCells sz m v).run P w = .ok (l.take (m * sz)).toArray w := by
  have hm' : m * sz ≤ n * sz := Nat.mul_le_mul_right _ hm
  obtain ⟨b, len, cap, rfl, g1, g2, g3, g4⟩ := hr
  cases b with
  | none =>
    have := g3 rfl
    have : len = 0 := by omega
    subst this
    simp at g1
    subst g1
    simp [Builtin.firstCells]
  | some x =>
    obtain ⟨xb, xo, xs⟩ := x
    have hx := (g4 _ rfl).1
    simp only at hx
    subst hx
    simp only [Builtin.firstCells]
    have h2 : Lies w xb xo l := (g4 _ rfl).2
    have h3 := h2.part 0 (m * sz) (by omega)
    simp only [Nat.add_zero, List.drop_zero] at h3
    have := run_loadCells (P := P) h3
    rw [List.length_take, Nat.min_eq_left (by omega)] at this
    exact this

theorem st_copy {dst T X e sz bytes n dn dc b off TT : Nat} {x y : Operand} {d : TypeDesc} {z xv : Value} {l cs : List Value} (h : Nat) (hT : P.underlying T = some (.slice e)) (ht : Ty P e d sz bytes z) (hx : ev L x = some (.slice (some ⟨b, off, none⟩) dn dc)) (hy : ev L y = some xv)
    (hh : lk H h = some (.blk b (.cells l.toArray TT))) (hr : ∀ w, Sat E.w0 E.X H F w → Rd w xv sz cs) (hs : 0 < sz) (hcs : cs.length = n * sz) (hl : off + dn * sz ≤ l.length) (h1 : ∀ u, u ∈ cs → u.oneCell' = true) (hg : wants ops L gd = some true) (hn : Nat.ble (dst + 1) E.n = true)
    (k : At (wpList P ops Q rest) E ((dst, .int .i64 (min n dn : Nat)) :: L) ((h, .blk b (.cells (wr l off (cs.take (min n dn * sz))).toArray TT)) :: H) F) :
    At (wpList P ops Q (⟨some dst, .call { callee := .builtin .copy, args := #[x, y], argTypes := #[T, X] }, ty, pos, af, gd⟩ :: rest)) E L H F := by
  refine st_gives hg rfl hn fun a w fa sw => ?_
  have hb := sw.blk_eq hh
  have hlt := (Array.getElem?_eq_some_iff.1 hb).1
  have hm : min n dn * sz ≤ dn * sz := Nat.mul_le_mul_right _ (Nat.min_le_right _ _)
  have hst := run_storeCells (P := P) (cs.take (min n dn * sz)) l w (off + 0) 0 hb (by simp; omega) (fun u hu => h1 u (List.mem_of_mem_take hu))
  refine ⟨_, _, [b], [(h, .blk b (.cells (wr l off (cs.take (min n dn * sz))).toArray TT))], ?_, gives_setBlk hlt h _ (heap_setBlk hlt) rfl, ?_, k⟩
  · simp only [execOp, resolve, invoke, builtin, Sem.run_bind, Sem.run_pure, Result.andThen_ok, List.map_toArray, List.map_cons, List.map_nil, fa.ev hx, fa.ev hy, Builtin.copy_, List.getElem?_toArray, List.getElem?_cons_zero, List.getElem?_cons_succ, run_und hT, run_lenOf (hr w sw) hs hcs, ht.run_size]
    have e1 : Nat.min n dn = min n dn := rfl
    rw [e1, run_firstCells_part (hr w sw) hcs (Nat.min_le_left _ _)]
    simp only [Result.andThen_ok]
    simp only [Nat.add_zero] at hst
    rw [hst]
    rfl
  · intro b' hb'
    exact ⟨h, _, hh, by simpa [Ent.ids] using hb', by simp [lk_cons_same]⟩
end

end Go.Proofs.Yteedclmcgifmpaa.Fw

/- The rules for operations that leave memory alone. -/
import Derived.Test.YteedclmcgifmpaaFw2
namespace Go.Proofs.Yteedclmcgifmpaa.Fw
open Go Go.RowKit

/-- What is asked of a type: its description, its cells, its bytes, its zero. -/
structure Ty (P : Program) (t : TypeId) (d : TypeDesc) (sz bytes : Nat) (z : Value) : Prop where
  und : P.underlying t = some d
  info : ∃ i, P.info? t = some i ∧ i.size = sz ∧ i.bytes = bytes ∧ i.zero = some z

def aggD : TypeDesc → Bool
  | .struct _ | .array _ _ => true
  | _ => false

section
variable {P : Program} {t : TypeId} {d : TypeDesc} {sz bytes : Nat} {z : Value} (w : World)
theorem Ty.run_info (h : Ty P t d sz bytes z) : ∃ i, (typeInfo t).run P w = .ok i w ∧ i.size = sz ∧ i.bytes = bytes ∧ i.zero = some z := by
  obtain ⟨i, h1, h2⟩ := h.info
  exact ⟨i, by simp [typeInfo, h1], h2⟩
theorem Ty.run_size (h : Ty P t d sz bytes z) : (sizeOf t).run P w = .ok sz w := by
  obtain ⟨i, h1, h2, _⟩ := h.run_info w
  simp [sizeOf, h1, h2]
theorem Ty.run_zero (h : Ty P t d sz bytes z) : (zeroValue t).run P w = .ok z w := by
  obtain ⟨i, h1, _, _, h2⟩ := h.run_info w
  simp [zeroValue, h1, h2]
theorem Ty.run_und (h : Ty P t d sz bytes z) : (underlying t).run P w = .ok d w := run_underlying h.und w
theorem Ty.run_agg (h : Ty P t d sz bytes z) : (isAgg t).run P w = .ok (aggD d) w := by
  simp only [isAgg, Sem.run_bind, h.run_und w, Result.andThen_ok]
  cases d <;> rfl
end

theorem run_und {P : Program} {t : TypeId} {d : TypeDesc} (h : P.underlying t = some d) (w : World) : (underlying t).run P w = .ok d w := run_underlying h w

def ints (k : IntKind) (l : List Int) : List Value := l.map (Value.int k)

def iand (k : IntKind) (a b : Int) : Int := k.wrap (BitVec.ofInt k.bits a &&& BitVec.ofInt k.bits b).toNat
def ior (k : IntKind) (a b : Int) : Int := k.wrap (BitVec.ofInt k.bits a ||| BitVec.ofInt k.bits b).toNat
def ixor (k : IntKind) (a b : Int) : Int := k.wrap (BitVec.ofInt k.bits a ^^^ BitVec.ofInt k.bits b).toNat
def ishl (k : IntKind) (a b : Int) : Int := k.wrap (a * 2 ^ (min b.toNat k.bits))
def ishr (k : IntKind) (a b : Int) : Int := a.fdiv (2 ^ (min b.toNat k.bits))

theorem wrap64_id {x : Int} (h1 : -9223372036854775808 ≤ x) (h2 : x ≤ 9223372036854775807) : IntKind.i64.wrap x = x := by
  simp only [IntKind.wrap, IntKind.bits, IntKind.signed]
  simp
  split <;> omega

section
variable {P : Program} {E : Env} {L : List (Nat × Value)} {H : List (Nat × Ent)} {F : List (Nat × FE)}
variable {dst : Option Tmp} {ty : TypeId} {pos : String} {af : Array Edge} {gd : Option (Nat × Bool)}

theorem ev_move {x : Operand} {v : Value} (hx : ev L x = some v) : Ev P ⟨dst, .move x, ty, pos, af, gd⟩ E L H F v :=
  fun a w fa _ => by simp [execOp, fa.ev hx]
theorem ev_assign {x : Operand} {v : Value} (hx : ev L x = some v) : Ev P ⟨dst, .assign x, ty, pos, af, gd⟩ E L H F v :=
  fun a w fa _ => by simp [execOp, fa.ev hx]
theorem ev_pick_t {c x y : Operand} {v : Value} (hc : ev L c = some (.bool true)) (hx : ev L x = some v) : Ev P ⟨dst, .pick c x y, ty, pos, af, gd⟩ E L H F v :=
  fun a w fa _ => by simp [execOp, fa.ev hc, fa.ev hx, asBool]
theorem ev_pick_f {c x y : Operand} {v : Value} (hc : ev L c = some (.bool false)) (hy : ev L y = some v) : Ev P ⟨dst, .pick c x y, ty, pos, af, gd⟩ E L H F v :=
  fun a w fa _ => by simp [execOp, fa.ev hc, fa.ev hy, asBool]

section
variable {k : IntKind} {T T' : TypeId} {x y : Operand} {i j : Int} (hx : ev L x = some (.int k i)) (hy : ev L y = some (.int k j))
include hx hy
theorem ev_add : Ev P ⟨dst, .binOp .add T x y T', ty, pos, af, gd⟩ E L H F (.int k (k.wrap (i + j))) :=
  fun a w fa _ => by simp [execOp, fa.ev hx, fa.ev hy, eqGuard, binOp, Op.intArith]
theorem ev_sub : Ev P ⟨dst, .binOp .sub T x y T', ty, pos, af, gd⟩ E L H F (.int k (k.wrap (i - j))) :=
  fun a w fa _ => by simp [execOp, fa.ev hx, fa.ev hy, eqGuard, binOp, Op.intArith]
theorem ev_mul : Ev P ⟨dst, .binOp .mul T x y T', ty, pos, af, gd⟩ E L H F (.int k (k.wrap (i * j))) :=
  fun a w fa _ => by simp [execOp, fa.ev hx, fa.ev hy, eqGuard, binOp, Op.intArith]
theorem ev_rem (h0 : j ≠ 0) : Ev P ⟨dst, .binOp .rem T x y T', ty, pos, af, gd⟩ E L H F (.int k (i.tmod j)) :=
  fun a w fa _ => by simp [execOp, fa.ev hx, fa.ev hy, eqGuard, binOp, Op.intDiv, h0]
theorem ev_quo (h0 : j ≠ 0) : Ev P ⟨dst, .binOp .quo T x y T', ty, pos, af, gd⟩ E L H F (.int k (k.wrap (i.tdiv j))) :=
  fun a w fa _ => by simp [execOp, fa.ev hx, fa.ev hy, eqGuard, binOp, Op.intDiv, h0]
theorem ev_and : Ev P ⟨dst, .binOp .and T x y T', ty, pos, af, gd⟩ E L H F (.int k (iand k i j)) :=
  fun a w fa _ => by simp [execOp, fa.ev hx, fa.ev hy, eqGuard, binOp, Op.intBits, iand]
theorem ev_or : Ev P ⟨dst, .binOp .or T x y T', ty, pos, af, gd⟩ E L H F (.int k (ior k i j)) :=
  fun a w fa _ => by simp [execOp, fa.ev hx, fa.ev hy, eqGuard, binOp, Op.intBits, ior]
theorem ev_xor : Ev P ⟨dst, .binOp .xor T x y T', ty, pos, af, gd⟩ E L H F (.int k (ixor k i j)) :=
  fun a w fa _ => by simp [execOp, fa.ev hx, fa.ev hy, eqGuard, binOp, Op.intBits, ixor]
theorem ev_eql : Ev P ⟨dst, .binOp .eql T x y T', ty, pos, af, gd⟩ E L H F (.bool (decide (i = j))) :=
  fun a w fa _ => by simp [execOp, fa.ev hx, fa.ev hy, eqGuard, binOp, Op.intCmp]; rfl
theorem ev_neq : Ev P ⟨dst, .binOp .neq T x y T', ty, pos, af, gd⟩ E L H F (.bool (decide (i ≠ j))) :=
  fun a w fa _ => by simp [execOp, fa.ev hx, fa.ev hy, eqGuard, binOp, Op.intCmp]; rfl
theorem ev_lss : Ev P ⟨dst, .binOp .lss T x y T', ty, pos, af, gd⟩ E L H F (.bool (decide (i < j))) :=
  fun a w fa _ => by simp [execOp, fa.ev hx, fa.ev hy, eqGuard, binOp, Op.intCmp]
theorem ev_leq : Ev P ⟨dst, .binOp .leq T x y T', ty, pos, af, gd⟩ E L H F (.bool (decide (i ≤ j))) :=
  fun a w fa _ => by simp [execOp, fa.ev hx, fa.ev hy, eqGuard, binOp, Op.intCmp]
theorem ev_gtr : Ev P ⟨dst, .binOp .gtr T x y T', ty, pos, af, gd⟩ E L H F (.bool (decide (i > j))) :=
  fun a w fa _ => by simp [execOp, fa.ev hx, fa.ev hy, eqGuard, binOp, Op.intCmp]
theorem ev_geq : Ev P ⟨dst, .binOp .geq T x y T', ty, pos, af, gd⟩ E L H F (.bool (decide (i ≥ j))) :=
  fun a w fa _ => by simp [execOp, fa.ev hx, fa.ev hy, eqGuard, binOp, Op.intCmp]
end

section
variable {T T' : TypeId} {x y : Operand} {i j : Int} (hx : ev L x = some (.int .i64 i)) (hy : ev L y = some (.int .i64 j))
include hx hy
theorem ev_add64 (h1 : -9223372036854775808 ≤ i + j) (h2 : i + j ≤ 9223372036854775807) : Ev P ⟨dst, .binOp .add T x y T', ty, pos, af, gd⟩ E L H F (.int .i64 (i + j)) := by
  have := ev_add (P := P) (E := E) (H := H) (F := F) (dst := dst) (ty := ty) (pos := pos) (af := af) (gd := gd) (T := T) (T' := T') hx hy; rwa [wrap64_id h1 h2] at this
theorem ev_sub64 (h1 : -9223372036854775808 ≤ i - j) (h2 : i - j ≤ 9223372036854775807) : Ev P ⟨dst, .binOp .sub T x y T', ty, pos, af, gd⟩ E L H F (.int .i64 (i - j)) := by
  have := ev_sub (P := P) (E := E) (H := H) (F := F) (dst := dst) (ty := ty) (pos := pos) (af := af) (gd := gd) (T := T) (T' := T') hx hy; rwa [wrap64_id h1 h2] at this
theorem ev_mul64 (h1 : -9223372036854775808 ≤ i * j) (h2 : i * j ≤ 9223372036854775807) : Ev P ⟨dst, .binOp .mul T x y T', ty, pos, af, gd⟩ E L H F (.int .i64 (i * j)) := by
  have := ev_mul (P := P) (E := E) (H := H) (F := F) (dst := dst) (ty := ty) (pos := pos) (af := af) (gd := gd) (T := T) (T' := T') hx hy; rwa [wrap64_id h1 h2] at this
theorem ev_rem64 (h1 : 0 ≤ i) (h2 : 0 < j) : Ev P ⟨dst, .binOp .rem T x y T', ty, pos, af, gd⟩ E L H F (.int .i64 (i % j)) := by
  have := ev_rem (P := P) (E := E) (H := H) (F := F) (dst := dst) (ty := ty) (pos := pos) (af := af) (gd := gd) (T := T) (T' := T') hx hy (by omega); rwa [Int.tmod_eq_emod_of_nonneg h1] at this
theorem ev_quo64 (h1 : 0 ≤ i) (h3 : i ≤ 9223372036854775807) (h2 : 0 < j) : Ev P ⟨dst, .binOp .quo T x y T', ty, pos, af, gd⟩ E L H F (.int .i64 (i / j)) := by
  have := ev_quo (P := P) (E := E) (H := H) (F := F) (dst := dst) (ty := ty) (pos := pos) (af := af) (gd := gd) (T := T) (T' := T') hx hy (by omega)
  rw [Int.tdiv_eq_ediv_of_nonneg h1] at this
  have h4 : 0 ≤ i / j := Int.ediv_nonneg h1 (by omega)
  have h5 : i / j ≤ i := Int.ediv_le_self j h1
  rwa [wrap64_id (by omega) (by omega)] at this
end

theorem ev_shl {k k' : IntKind} {T T' : TypeId} {x y : Operand} {i j : Int} (hx : ev L x = some (.int k i)) (hy : ev L y = some (.int k' j)) (h0 : 0 ≤ j) :
    Ev P ⟨dst, .binOp .shl T x y T', ty, pos, af, gd⟩ E L H F (.int k (ishl k i j)) :=
  fun a w fa _ => by
    have : ¬ j < 0 := by omega
    simp [execOp, fa.ev hx, fa.ev hy, eqGuard, binOp, Op.shift, ishl, this]
theorem ev_shr {k k' : IntKind} {T T' : TypeId} {x y : Operand} {i j : Int} (hx : ev L x = some (.int k i)) (hy : ev L y = some (.int k' j)) (h0 : 0 ≤ j) :
    Ev P ⟨dst, .binOp .shr T x y T', ty, pos, af, gd⟩ E L H F (.int k (ishr k i j)) :=
  fun a w fa _ => by
    have : ¬ j < 0 := by omega
    simp [execOp, fa.ev hx, fa.ev hy, eqGuard, binOp, Op.shift, ishr, this]

theorem ev_not {T : TypeId} {x : Operand} {b : Bool} (hx : ev L x = some (.bool b)) : Ev P ⟨dst, .unOp .not T x, ty, pos, af, gd⟩ E L H F (.bool (!b)) :=
  fun a w fa _ => by simp [execOp, fa.ev hx, Op.unary]
theorem ev_not_if {T : TypeId} {x : Operand} {p : Prop} [Decidable p] (hx : ev L x = some (.bool (decide p))) : Ev P ⟨dst, .unOp .not T x, ty, pos, af, gd⟩ E L H F (.bool (decide (¬ p))) :=
  fun a w fa _ => by simp [execOp, fa.ev hx, Op.unary]
theorem ev_neg {T : TypeId} {x : Operand} {k : IntKind} {i : Int} (hx : ev L x = some (.int k i)) : Ev P ⟨dst, .unOp .neg T x, ty, pos, af, gd⟩ E L H F (.int k (k.wrap (0 - i))) :=
  fun a w fa _ => by simp [execOp, fa.ev hx, Op.unary, Op.intArith]
/-- ^x -/
def inot (k : IntKind) (i : Int) : Int := ixor k (if k.signed then -1 else k.max) i
theorem ev_inot {T : TypeId} {x : Operand} {k : IntKind} {i : Int} (hx : ev L x = some (.int k i)) : Ev P ⟨dst, .unOp .xor T x, ty, pos, af, gd⟩ E L H F (.int k (inot k i)) :=
  fun a w fa _ => by simp [execOp, fa.ev hx, Op.unary, Op.intBits, inot, ixor]

theorem ev_conv {T T' : TypeId} {x : Operand} {k k' : IntKind} {i : Int} (h1 : P.underlying T = some (.int k)) (h2 : P.underlying T' = some (.int k')) (hx : ev L x = some (.int k i)) :
    Ev P ⟨dst, .convert T T' x, ty, pos, af, gd⟩ E L H F (.int k' (k'.wrap i)) :=
  fun a w fa _ => by simp [execOp, fa.ev hx, convert, run_und h1, run_und h2, Conv.intToInt]
theorem ev_conv64 {T T' : TypeId} {x : Operand} {k : IntKind} {i : Int} (h1 : P.underlying T = some (.int k)) (h2 : P.underlying T' = some (.int .i64)) (hx : ev L x = some (.int k i))
    (hi : -9223372036854775808 ≤ i) (hi' : i ≤ 9223372036854775807) : Ev P ⟨dst, .convert T T' x, ty, pos, af, gd⟩ E L H F (.int .i64 i) := by
  have := ev_conv (P := P) (E := E) (H := H) (F := F) (dst := dst) (ty := ty) (pos := pos) (af := af) (gd := gd) h1 h2 hx; rwa [wrap64_id hi hi'] at this

theorem ev_func {fn : Fn} {fs cs : Array Operand} {vf vc : List Value} (hf : evs L fs.toList = some vf) (hc : evs L cs.toList = some vc) :
    Ev P ⟨dst, .makeFunc fn fs cs, ty, pos, af, gd⟩ E L H F (.func fn vf.toArray vc.toArray) :=
  fun a w fa _ => by
    have e1 : fs.map a.eval = vf.toArray := by rw [← fa.evs hf]; cases fs; simp
    have e2 : cs.map a.eval = vc.toArray := by rw [← fa.evs hc]; cases cs; simp
    simp [execOp, Instr.makeFunc, e1, e2]

theorem ev_extract {x : Operand} {vs : Array Value} {i : Nat} {v : Value} (hx : ev L x = some (.tuple vs)) (hv : vs[i]? = some v) : Ev P ⟨dst, .extract x i, ty, pos, af, gd⟩ E L H F v :=
  fun a w fa _ => by simp [execOp, fa.ev hx, Instr.extract, hv]

theorem ev_nilCheck {x : Operand} {p : Addr} (hx : ev L x = some (.pointer (some p))) : Ev P ⟨dst, .nilCheck x, ty, pos, af, gd⟩ E L H F (.pointer (some p)) :=
  fun a w fa _ => by simp [execOp, fa.ev hx]
theorem ev_nilCheck_func {x : Operand} {f : FuncId} {vf vc : Array Value} (hx : ev L x = some (.func (.func f) vf vc)) : Ev P ⟨dst, .nilCheck x, ty, pos, af, gd⟩ E L H F (.func (.func f) vf vc) :=
  fun a w fa _ => by simp [execOp, fa.ev hx]

/-! len -/
theorem ev_len {x : Operand} {T e : TypeId} {b : Option Addr} {n c : Nat} (hT : P.underlying T = some (.slice e)) (hx : ev L x = some (.slice b n c)) :
    Ev P ⟨dst, .call { callee := .builtin .len, args := #[x], argTypes := #[T] }, ty, pos, af, gd⟩ E L H F (.int .i64 n) :=
  fun a w fa _ => by simp [execOp, resolve, invoke, builtin, Builtin.len_, fa.ev hx, run_und hT, goInt]
theorem ev_len_str {x : Operand} {T : TypeId} {s : ByteArray} (hT : P.underlying T = some .string) (hx : ev L x = some (.string s)) :
    Ev P ⟨dst, .call { callee := .builtin .len, args := #[x], argTypes := #[T] }, ty, pos, af, gd⟩ E L H F (.int .i64 s.size) :=
  fun a w fa _ => by simp [execOp, resolve, invoke, builtin, Builtin.len_, fa.ev hx, run_und hT, goInt]
theorem ev_len_arr {x : Operand} {T e : TypeId} {n : Nat} {v : Value} (hT : P.underlying T = some (.array n e)) (hx : ev L x = some v) :
    Ev P ⟨dst, .call { callee := .builtin .len, args := #[x], argTypes := #[T] }, ty, pos, af, gd⟩ E L H F (.int .i64 n) :=
  fun a w fa _ => by
    simp [execOp, resolve, invoke, builtin, Builtin.len_, fa.ev hx, run_und hT, goInt]
/-- of a slice that is owned -/
theorem ev_len_own {x : Operand} {T e : TypeId} {v : Value} {h tt sz n : Nat} {l : List Value} (hT : P.underlying T = some (.slice e)) (hx : ev L x = some v) (hh : lk H h = some (.own v tt sz l))
    (hl : l.length = n * sz) (hs : 0 < sz) :
    Ev P ⟨dst, .call { callee := .builtin .len, args := #[x], argTypes := #[T] }, ty, pos, af, gd⟩ E L H F (.int .i64 n) :=
  fun a w fa sw => by
    rcases sw.hold _ _ hh with ⟨rfl, rfl⟩ | ⟨b, len, cap, junk, rfl, h1, _, _, _⟩
    · have : n = 0 := by
        rcases Nat.eq_zero_or_pos n with h | h
        · exact h
        · have := Nat.mul_pos h hs
          simp only [List.length_nil] at hl
          omega
      simp [execOp, resolve, invoke, builtin, Builtin.len_, fa.ev hx, run_und hT, goInt, this]
    · have : len = n := Nat.eq_of_mul_eq_mul_right hs (by omega)
      simp [execOp, resolve, invoke, builtin, Builtin.len_, fa.ev hx, run_und hT, goInt, this]
/-- of a slice that is read -/
theorem ev_len_rd {x : Operand} {T e : TypeId} {v : Value} {h sz n : Nat} {l : List Value} (hT : P.underlying T = some (.slice e)) (hx : ev L x = some v) (hh : lk F h = some (.sl v sz l))
    (hl : l.length = n * sz) (hs : 0 < sz) :
    Ev P ⟨dst, .call { callee := .builtin .len, args := #[x], argTypes := #[T] }, ty, pos, af, gd⟩ E L H F (.int .i64 n) :=
  fun a w fa sw => by
    obtain ⟨b, len, cap, rfl, h1, _⟩ := sw.rd _ _ hh
    have : len = n := Nat.eq_of_mul_eq_mul_right hs (by omega)
    simp [execOp, resolve, invoke, builtin, Builtin.len_, fa.ev hx, run_und hT, goInt, this]

theorem ev_max2 {x y : Operand} {Ts : Array TypeId} {k : IntKind} {i j : Int} (hx : ev L x = some (.int k i)) (hy : ev L y = some (.int k j)) :
    Ev P ⟨dst, .call { callee := .builtin .max, args := #[x, y], argTypes := Ts }, ty, pos, af, gd⟩ E L H F (.int k (max i j)) :=
  fun a w fa _ => by
    have e : (if j > i then j else i) = max i j := by omega
    simp [execOp, resolve, invoke, builtin, Builtin.max_, fa.ev hx, fa.ev hy, Builtin.max2, ← e]
theorem ev_min2 {x y : Operand} {Ts : Array TypeId} {k : IntKind} {i j : Int} (hx : ev L x = some (.int k i)) (hy : ev L y = some (.int k j)) :
    Ev P ⟨dst, .call { callee := .builtin .min, args := #[x, y], argTypes := Ts }, ty, pos, af, gd⟩ E L H F (.int k (min i j)) :=
  fun a w fa _ => by
    have e : (if j < i then j else i) = min i j := by omega
    simp [execOp, resolve, invoke, builtin, Builtin.min_, fa.ev hx, fa.ev hy, Builtin.min2, ← e]

/-! Parts of values -/
theorem ev_field {x : Operand} {T : TypeId} {i sz bytes : Nat} {z : Value} {fs : Array Field} {f : Field} {d : TypeDesc} {cs : Array Value} (hT : P.underlying T = some (.struct fs)) (hf : fs[i]? = some f)
    (ht : Ty P f.type d sz bytes z) (hd : aggD d = true) (hx : ev L x = some (.agg cs)) : Ev P ⟨dst, .field T x i, ty, pos, af, gd⟩ E L H F (.agg (cs.extract f.offset (f.offset + sz))) :=
  fun a w fa _ => by simp [execOp, fa.ev hx, Instr.field, run_und hT, hf, asAgg, part, ht.run_agg, ht.run_size, hd]
theorem ev_field1 {x : Operand} {T : TypeId} {i sz bytes : Nat} {z : Value} {fs : Array Field} {f : Field} {d : TypeDesc} {cs : Array Value} {v : Value} (hT : P.underlying T = some (.struct fs)) (hf : fs[i]? = some f)
    (ht : Ty P f.type d sz bytes z) (hd : aggD d = false) (hx : ev L x = some (.agg cs)) (hv : cs[f.offset]? = some v) : Ev P ⟨dst, .field T x i, ty, pos, af, gd⟩ E L H F v :=
  fun a w fa _ => by simp [execOp, fa.ev hx, Instr.field, run_und hT, hf, asAgg, part, ht.run_agg, hd, hv]
theorem ev_index {x y : Operand} {T e : TypeId} {n sz bytes : Nat} {z : Value} {d : TypeDesc} {cs : Array Value} {k : IntKind} {i : Int} (hT : P.underlying T = some (.array n e))
    (ht : Ty P e d sz bytes z) (hd : aggD d = true) (hx : ev L x = some (.agg cs)) (hy : ev L y = some (.int k i)) (h0 : 0 ≤ i) (h1 : i < n) :
    Ev P ⟨dst, .index T x y, ty, pos, af, gd⟩ E L H F (.agg (cs.extract (i.toNat * sz) (i.toNat * sz + sz))) :=
  fun a w fa _ => by simp [execOp, fa.ev hx, fa.ev hy, Instr.index, run_und hT, asIntOf, part, ht.run_agg, ht.run_size, hd, h0, h1]
theorem ev_index1 {x y : Operand} {T e : TypeId} {n sz bytes : Nat} {z : Value} {d : TypeDesc} {cs : Array Value} {k : IntKind} {i : Int} {v : Value} (hT : P.underlying T = some (.array n e))
    (ht : Ty P e d sz bytes z) (hd : aggD d = false) (hx : ev L x = some (.agg cs)) (hy : ev L y = some (.int k i)) (h0 : 0 ≤ i) (h1 : i < n) (hv : cs[i.toNat * sz]? = some v) :
    Ev P ⟨dst, .index T x y, ty, pos, af, gd⟩ E L H F v :=
  fun a w fa _ => by simp [execOp, fa.ev hx, fa.ev hy, Instr.index, run_und hT, asIntOf, part, ht.run_agg, ht.run_size, hd, h0, h1, hv]
theorem ev_index_str {x y : Operand} {T : TypeId} {s : ByteArray} {k : IntKind} {i : Int} {b : UInt8} (hT : P.underlying T = some .string)
    (hx : ev L x = some (.string s)) (hy : ev L y = some (.int k i)) (h0 : 0 ≤ i) (hb : s[i.toNat]? = some b) :
    Ev P ⟨dst, .index T x y, ty, pos, af, gd⟩ E L H F (.int .u8 b.toNat) :=
  fun a w fa _ => by simp [execOp, fa.ev hx, fa.ev hy, Instr.index, run_und hT, asIntOf, h0, hb]

/-- A struct or an array is put together; the fill is a closed reckoning. -/
theorem ev_build_struct {T : TypeId} {ps : Array (Nat × Operand)} {vs : List Value} {fs : Array Field} {d : TypeDesc} {sz bytes : Nat} {z : Value} {places : Array (Nat × Nat)} {cells : Array Value} (ht : Ty P T d sz bytes z)
    (hd : d = .struct fs) (hp : ∀ w, (fs.mapM fun f => (do pure (f.offset, ← sizeOf f.type) : Sem (Nat × Nat))).run P w = .ok places w) (hx : evs L (ps.toList.map (·.2)) = some vs)
    (hc : Instr.fill (places[·]?) z.cells ((ps.toList.map (·.1)).zip vs) = some cells) : Ev P ⟨dst, .build T ps, ty, pos, af, gd⟩ E L H F (.agg cells) :=
  fun a w fa _ => by
    subst hd
    have e : (ps.map fun (i, x) => (i, a.eval x)).toList = (ps.toList.map (·.1)).zip vs := by
      rw [← fa.evs hx]
      simp only [Array.toList_map, List.map_map]
      induction ps.toList with
      | nil => rfl
      | cons p r ih => simp only [List.map_cons, List.zip_cons_cons]; rw [ih]; rfl
    simp only [execOp, Instr.build, Sem.run_bind, ht.run_zero, ht.run_und, Result.andThen_ok, hp w, e, hc, Sem.run_pure]
theorem ev_build_array {T e : TypeId} {ps : Array (Nat × Operand)} {vs : List Value} {n : Nat} {d d' : TypeDesc} {sz bytes sz' bytes' : Nat} {z z' : Value} {cells : Array Value} (ht : Ty P T d sz bytes z)
    (hd : d = .array n e) (he : Ty P e d' sz' bytes' z') (hx : evs L (ps.toList.map (·.2)) = some vs)
    (hc : Instr.fill (fun i => some (i * sz', sz')) z.cells ((ps.toList.map (·.1)).zip vs) = some cells) : Ev P ⟨dst, .build T ps, ty, pos, af, gd⟩ E L H F (.agg cells) :=
  fun a w fa _ => by
    subst hd
    have e : (ps.map fun (i, x) => (i, a.eval x)).toList = (ps.toList.map (·.1)).zip vs := by
      rw [← fa.evs hx]
      simp only [Array.toList_map, List.map_map]
      induction ps.toList with
      | nil => rfl
      | cons p r ih => simp only [List.map_cons, List.zip_cons_cons]; rw [ih]; rfl
    simp only [execOp, Instr.build, Sem.run_bind, ht.run_zero, ht.run_und, Result.andThen_ok, he.run_size, e, hc, Sem.run_pure]
end

end Go.Proofs.Yteedclmcgifmpaa.Fw

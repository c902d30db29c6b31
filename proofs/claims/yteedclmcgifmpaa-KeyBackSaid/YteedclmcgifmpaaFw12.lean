/- Rows of hashes. -/
import Derived.Test.YteedclmcgifmpaaFw11
namespace Go.Proofs.Yteedclmcgifmpaa.Fw
open Go Go.RowKit
set_option linter.unusedVariables false

def H32 (hs : List (List Int)) : Prop := ∀ h, h ∈ hs → h.length = 32
def flat (hs : List (List Int)) : List Value := ints .u8 hs.flatten
theorem H32.nil : H32 [] := fun h hh => by cases hh
theorem H32.cons {h : List Int} {hs : List (List Int)} (h1 : h.length = 32) (h2 : H32 hs) : H32 (h :: hs) := fun x hx => by
  rcases List.mem_cons.1 hx with rfl | hx
  · exact h1
  · exact h2 x hx
theorem H32.head {h : List Int} {hs : List (List Int)} (hu : H32 (h :: hs)) : h.length = 32 := hu h (by simp)
theorem H32.tail {h : List Int} {hs : List (List Int)} (hu : H32 (h :: hs)) : H32 hs := fun x hx => hu x (by simp [hx])
theorem H32.append {a b : List (List Int)} (ha : H32 a) (hb : H32 b) : H32 (a ++ b) := fun x hx => (List.mem_append.1 hx).elim (ha x) (hb x)
theorem H32.one {h : List Int} (h1 : h.length = 32) : H32 [h] := .cons h1 .nil
theorem H32.snoc {a : List (List Int)} {h : List Int} (ha : H32 a) (h1 : h.length = 32) : H32 (a ++ [h]) := ha.append (.one h1)
theorem H32.take {a : List (List Int)} (ha : H32 a) (n : Nat) : H32 (a.take n) := fun x hx => ha x (List.mem_of_mem_take hx)
theorem H32.drop {a : List (List Int)} (ha : H32 a) (n : Nat) : H32 (a.drop n) := fun x hx => ha x (List.mem_of_mem_drop hx)
theorem H32.set {a : List (List Int)} (ha : H32 a) (i : Nat) {h : List Int} (h1 : h.length = 32) : H32 (a.set i h) := fun x hx => by
  rcases List.mem_or_eq_of_mem_set hx with hx | rfl
  · exact ha x hx
  · exact h1
theorem H32.replicate {h : List Int} (n : Nat) (h1 : h.length = 32) : H32 (List.replicate n h) := fun x hx => by rw [(List.mem_replicate.1 hx).2]; exact h1
theorem H32.get {hs : List (List Int)} (hu : H32 hs) {i : Nat} (hi : i < hs.length) : (hs.getD i []).length = 32 := by
  rw [List.getD_eq_getElem?_getD, List.getElem?_eq_getElem hi]
  exact hu _ (List.getElem_mem hi)

theorem flat_nil : flat [] = [] := rfl
theorem flat_cons (h : List Int) (hs : List (List Int)) : flat (h :: hs) = ints .u8 h ++ flat hs := by simp [flat, ints]
theorem flat_append (a b : List (List Int)) : flat (a ++ b) = flat a ++ flat b := by simp [flat, ints]
theorem flat_one (h : List Int) : flat [h] = ints .u8 h := by simp [flat]
theorem flat_snoc (a : List (List Int)) (h : List Int) : flat a ++ ints .u8 h = flat (a ++ [h]) := by rw [flat_append, flat_one]
theorem flat_len : ∀ {hs : List (List Int)}, H32 hs → (flat hs).length = hs.length * 32
  | [], _ => rfl
  | h :: hs, hu => by rw [flat_cons, List.length_append, ints_length, hu.head, flat_len hu.tail, List.length_cons]; omega
theorem flat_drop : ∀ {hs : List (List Int)} (i : Nat), H32 hs → (flat hs).drop (i * 32) = flat (hs.drop i)
  | [], _, _ => by simp [flat, ints]
  | h :: hs, 0, _ => by simp
  | h :: hs, i + 1, hu => by
    have h1 := hu.head
    rw [flat_cons, List.drop_append, List.drop_of_length_le (by rw [ints_length]; omega), List.nil_append, ints_length, h1, List.drop_succ_cons, ← flat_drop i hu.tail]
    congr 1
    omega
theorem flat_take : ∀ {hs : List (List Int)} (i : Nat), H32 hs → (flat hs).take (i * 32) = flat (hs.take i)
  | [], _, _ => by simp [flat, ints]
  | h :: hs, 0, _ => by simp [flat, ints]
  | h :: hs, i + 1, hu => by
    have h1 := hu.head
    rw [flat_cons, List.take_append, List.take_of_length_le (by rw [ints_length]; omega), ints_length, h1, List.take_succ_cons, flat_cons, ← flat_take i hu.tail]
    congr 2
    omega
theorem flat_get {hs : List (List Int)} {i : Nat} (hu : H32 hs) (hi : i < hs.length) : ((flat hs).drop (i * 32)).take 32 = ints .u8 (hs.getD i []) := by
  rw [flat_drop i hu, List.drop_eq_getElem_cons hi, flat_cons, List.take_left' (by rw [ints_length]; exact hu _ (List.getElem_mem hi)), List.getD_eq_getElem?_getD, List.getElem?_eq_getElem hi]
  rfl
theorem flat_wr {hs : List (List Int)} {i : Nat} {h : List Int} (hu : H32 hs) (hi : i < hs.length) (h1 : h.length = 32) : wr (flat hs) (i * 32) (ints .u8 h) = flat (hs.set i h) := by
  have e1 : i * 32 + (ints IntKind.u8 h).length = (i + 1) * 32 := by rw [ints_length, h1]; omega
  rw [wr, flat_take i hu, e1, flat_drop (i + 1) hu, flat_snoc, ← flat_append, List.set_eq_take_append_cons_drop, if_pos hi]
  simp

section
variable {P : Program} {Q : Exit → Act → World → Prop} {ops : Array Oper} {rest : List Oper} {E : Env} {L : List (Nat × Value)} {H : List (Nat × Ent)} {F : List (Nat × FE)}
variable {dst : Option Tmp} {ty : TypeId} {pos : String} {af : Array Edge} {gd : Option (Nat × Bool)}

theorem Rd.cuth {w : World} {v : Value} {hs : List (List Int)} {lo hi : Nat} (h : Rd w v 32 (flat hs)) (hu : H32 hs) (h1 : lo ≤ hi) (h2 : hi ≤ hs.length) : Rd w (cutAt 32 v lo hi) 32 (flat ((hs.drop lo).take (hi - lo))) := by
  have := rd_cut (n := hs.length) h (by decide) (flat_len hu) h1 h2
  rwa [flat_drop lo hu, flat_take _ (hu.drop lo)] at this
theorem at_cuth {K : Act → World → Prop} {h lo hi : Nat} {v : Value} {hs : List (List Int)} (h' : Nat) (hh : lk F h = some (.sl v 32 (flat hs))) (hu : H32 hs) (h1 : lo ≤ hi) (h2 : hi ≤ hs.length)
    (c : At K E L H ((h', .sl (cutAt 32 v lo hi) 32 (flat ((hs.drop lo).take (hi - lo)))) :: F)) : At K E L H F := by
  refine at_cut (n := hs.length) (lo := lo) (hi := hi) h' hh (by decide) (flat_len hu) h1 h2 ?_
  rw [flat_drop lo hu, flat_take _ (hu.drop lo)]
  exact c
theorem ev_sliceh {T e bytes : Nat} {x lo hi : Operand} {v z : Value} {d : TypeDesc} {hs : List (List Int)} {k k' : IntKind} {i j : Int} (hT : P.underlying T = some (.slice e)) (ht : Ty P e d 32 bytes z) (hx : ev L x = some v)
    (hlo : ev L lo = some (.int k i)) (hhi : ev L hi = some (.int k' j)) (hr : ∀ w, Sat E.w0 E.X H F w → Rd w v 32 (flat hs)) (hu : H32 hs) (h0 : 0 ≤ i) (h1 : i ≤ j) (h2 : j ≤ (hs.length : Nat)) :
    Ev P ⟨dst, .slice T x (some lo) (some hi) none, ty, pos, af, gd⟩ E L H F (cutAt 32 v i.toNat j.toNat) :=
  ev_slice_rd (n := hs.length) hT ht hx hlo hhi hr (by decide) (flat_len hu) h0 h1 h2
theorem ev_sliceh_lo {T e bytes : Nat} {x lo : Operand} {v z : Value} {d : TypeDesc} {hs : List (List Int)} {k : IntKind} {i : Int} (hT : P.underlying T = some (.slice e)) (ht : Ty P e d 32 bytes z) (hx : ev L x = some v)
    (hlo : ev L lo = some (.int k i)) (hr : ∀ w, Sat E.w0 E.X H F w → Rd w v 32 (flat hs)) (hu : H32 hs) (h0 : 0 ≤ i) (h1 : i ≤ (hs.length : Nat)) :
    Ev P ⟨dst, .slice T x (some lo) none none, ty, pos, af, gd⟩ E L H F (cutAt 32 v i.toNat hs.length) :=
  ev_slice_rd_lo (n := hs.length) hT ht hx hlo hr (by decide) (flat_len hu) h0 h1
theorem ev_sliceh_hi {T e bytes : Nat} {x hi : Operand} {v z : Value} {d : TypeDesc} {hs : List (List Int)} {k : IntKind} {j : Int} (hT : P.underlying T = some (.slice e)) (ht : Ty P e d 32 bytes z) (hx : ev L x = some v)
    (hhi : ev L hi = some (.int k j)) (hr : ∀ w, Sat E.w0 E.X H F w → Rd w v 32 (flat hs)) (hu : H32 hs) (h0 : 0 ≤ j) (h1 : j ≤ (hs.length : Nat)) :
    Ev P ⟨dst, .slice T x none (some hi) none, ty, pos, af, gd⟩ E L H F (cutAt 32 v 0 j.toNat) :=
  ev_slice_rd_hi (n := hs.length) hT ht hx hhi hr (by decide) (flat_len hu) h0 h1
theorem ev_len_rdh {x : Operand} {T e : TypeId} {v : Value} {h : Nat} {hs : List (List Int)} (hT : P.underlying T = some (.slice e)) (hx : ev L x = some v) (hh : lk F h = some (.sl v 32 (flat hs))) (hu : H32 hs) :
    Ev P ⟨dst, .call { callee := .builtin .len, args := #[x], argTypes := #[T] }, ty, pos, af, gd⟩ E L H F (.int .i64 (hs.length : Nat)) :=
  ev_len_rd hT hx hh (flat_len hu) (by decide)
theorem ev_len_ownh {x : Operand} {T e tt : TypeId} {v : Value} {h : Nat} {hs : List (List Int)} (hT : P.underlying T = some (.slice e)) (hx : ev L x = some v) (hh : lk H h = some (.own v tt 32 (flat hs))) (hu : H32 hs) :
    Ev P ⟨dst, .call { callee := .builtin .len, args := #[x], argTypes := #[T] }, ty, pos, af, gd⟩ E L H F (.int .i64 (hs.length : Nat)) :=
  ev_len_own hT hx hh (flat_len hu) (by decide)
theorem ev_indexAddr_rdh {x y : Operand} {T e : TypeId} {v : Value} {h bytes : Nat} {z : Value} {d : TypeDesc} {hs : List (List Int)} {k : IntKind} {i : Int} (hT : P.underlying T = some (.slice e)) (ht : Ty P e d 32 bytes z)
    (hx : ev L x = some v) (hy : ev L y = some (.int k i)) (hh : lk F h = some (.sl v 32 (flat hs))) (hu : H32 hs) (h0 : 0 ≤ i) (h1 : i < (hs.length : Nat)) :
    Ev P ⟨dst, .indexAddr T x y, ty, pos, af, gd⟩ E L H F (ptrAt v (i.toNat * 32)) :=
  ev_indexAddr_rd hT ht hx hy hh (flat_len hu) (by decide) h0 h1
theorem ev_indexAddr_ownh {x y : Operand} {T e tt : TypeId} {v : Value} {h bytes : Nat} {z : Value} {d : TypeDesc} {hs : List (List Int)} {k : IntKind} {i : Int} (hT : P.underlying T = some (.slice e)) (ht : Ty P e d 32 bytes z)
    (hx : ev L x = some v) (hy : ev L y = some (.int k i)) (hh : lk H h = some (.own v tt 32 (flat hs))) (hu : H32 hs) (h0 : 0 ≤ i) (h1 : i < (hs.length : Nat)) :
    Ev P ⟨dst, .indexAddr T x y, ty, pos, af, gd⟩ E L H F (ptrAt v (i.toNat * 32)) :=
  ev_indexAddr_own hT ht hx hy hh (flat_len hu) (by decide) h0 h1
theorem ld_rdh {x : Operand} {T : TypeId} {h i bytes : Nat} {v z : Value} {d : TypeDesc} {hs : List (List Int)} (ht : Ty P T d 32 bytes z) (hd : aggD d = true) (hx : ev L x = some (ptrAt v (i * 32))) (hh : lk F h = some (.sl v 32 (flat hs))) (hu : H32 hs) (hi : i < hs.length) :
    Ev P ⟨dst, .load T x, ty, pos, af, gd⟩ E L H F (.agg (ints .u8 (hs.getD i [])).toArray) := by
  have := ld_rd (P := P) (E := E) (H := H) (dst := dst) (ty := ty) (pos := pos) (af := af) (gd := gd) ht hd hx hh (by decide) (by rw [flat_len hu]; omega)
  rwa [flat_get hu hi] at this
theorem ld_ownh {x : Operand} {T tt : TypeId} {h i bytes : Nat} {v z : Value} {d : TypeDesc} {hs : List (List Int)} (ht : Ty P T d 32 bytes z) (hd : aggD d = true) (hx : ev L x = some (ptrAt v (i * 32))) (hh : lk H h = some (.own v tt 32 (flat hs))) (hu : H32 hs) (hi : i < hs.length) :
    Ev P ⟨dst, .load T x, ty, pos, af, gd⟩ E L H F (.agg (ints .u8 (hs.getD i [])).toArray) := by
  have := ld_own (P := P) (E := E) (F := F) (dst := dst) (ty := ty) (pos := pos) (af := af) (gd := gd) ht hd hx hh (by decide) (by rw [flat_len hu]; omega)
  rwa [flat_get hu hi] at this
end
section
variable {P : Program} {Q : Exit → Act → World → Prop} {ops : Array Oper} {rest : List Oper} {E : Env} {L : List (Nat × Value)} {H : List (Nat × Ent)} {F : List (Nat × FE)}
variable {ty : TypeId} {pos : String} {af : Array Edge} {gd : Option (Nat × Bool)}
theorem st_appendh {dd T e X eX bytes : Nat} {s x : Operand} {d : TypeDesc} {z v xv : Value} {l cs : List (List Int)} (h : Nat) (hT : P.underlying T = some (.slice e)) (hX : P.underlying X = some (.slice eX)) (ht : Ty P e d 32 bytes z) (hz : z.cells.size = 32)
    (hv : ev L s = some v) (hx : ev L x = some xv) (hh : lk H h = some (.own v e 32 (flat l))) (hr : ∀ w, Sat E.w0 E.X H F w → Rd w xv 32 (flat cs)) (hu : H32 l) (hu' : H32 cs) (hsz : l.length + cs.length ≤ 1073741824) (hby : bytes ≤ 1024)
    (hg : wants ops L gd = some true) (hn : Nat.ble (dd + 1) E.n = true)
    (c : ∀ v', H32 (l ++ cs) → At (wpList P ops Q rest) E ((dd, v') :: L) ((h, .own v' e 32 (flat (l ++ cs))) :: H) F) :
    At (wpList P ops Q (⟨some dd, .call { callee := .builtin .append, args := #[s, x], argTypes := #[T, X] }, ty, pos, af, gd⟩ :: rest)) E L H F :=
  st_append (n := l.length) (m := cs.length) h hT hX ht hz hv hx hh hr (by decide) (flat_len hu) (flat_len hu') hsz hby (ints_one _ _) hg hn (fun v' => by rw [← flat_append]; exact c v' (hu.append hu'))
theorem st_store_ownh {x y : Operand} {T TT : TypeId} {v0 : Value} {i bytes : Nat} {z : Value} {d : TypeDesc} {l : List (List Int)} {hv : List Int} (h : Nat) (ht : Ty P T d 32 bytes z) (hx : ev L x = some (ptrAt v0 (i * 32))) (hy : ev L y = some (.agg (ints .u8 hv).toArray))
    (hh : lk H h = some (.own v0 TT 32 (flat l))) (hu : H32 l) (h1 : hv.length = 32) (hl : i < l.length) (hg : wants ops L gd = some true)
    (k : At (wpList P ops Q rest) E L ((h, .own v0 TT 32 (flat (l.set i hv))) :: H) F) : At (wpList P ops Q (⟨none, .store T x y, ty, pos, af, gd⟩ :: rest)) E L H F := by
  refine st_store_own (vl := ints .u8 hv) h ht hx hy hh rfl (by rw [ints_length, h1]) (ints_one _ _) (by rw [flat_len hu]; omega) (by decide) hg ?_
  rw [flat_wr hu hl h1]
  exact k
end
end Go.Proofs.Yteedclmcgifmpaa.Fw

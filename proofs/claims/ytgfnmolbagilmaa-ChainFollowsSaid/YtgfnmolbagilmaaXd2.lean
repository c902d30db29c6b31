/- The statement's proof, part 2: what its walks and its plain laws need. -/
import Derived.Test.YtgfnmolbagilmaaRows
import Derived.Tactics
import Derived.Deep.Quiet
import Derived.StillTail
import Derived.Laws.World
import Derived.Laws.Sem
import Derived.Laws.Entries
import Derived.Below
import Derived.Deep.LoopGhost
import Derived.Laws.BytesString
import Derived.Laws.IdiomStrings
import Derived.KernelRfl
import Derived.Carry
import Derived.OpenShut
import Derived.ProofKit
import Derived.ChangeSame
import Derived.HandedShaped
import Derived.SizedLaws
import Derived.Test.YtgfnmolbagilmaaProg
import Derived.Laws.Strings
import Derived.Test.YtgfnmolbagilmaaXd1
namespace Go.Proofs.Ytgfnmolbagilmaa.Fw
open Go Go.RowKit Go.WideShapes Go.ChangeShapes
set_option linter.unusedSimpArgs false
set_option linter.unusedVariables false
section
variable {H : Type} {enc : TypeId × Value → H} {P : Program} {W : World}
/-- All arguments read as they did. -/
theorem all_below (hl : laidOutB P = true) {W' : World} (hb : Below W.heap.size W W') {sp : Nat → Bool} :
    ∀ (ts : List TypeId) (vs : List Value) (ds : List (DataW H)) (ps : List MemPlace), (∀ t, t ∈ ts → P.readableRec t = true ∧ t < P.types.size) →
      DataW.TrodAll enc P W 0 (fun _ => true) true ts vs ds ps → (∀ x, x ∈ ps → x.block < W.heap.size) → (∀ x, x ∈ ps → sp x.block = true) → DataW.TrodAll enc P W' 0 sp true ts vs ds ps
  | [], [], [], _, _, h, _, _ => h
  | t :: ts, v :: vs, d :: ds, _, ht, h, hlt, hsp => by
    obtain ⟨p, q, h1, h2, rfl⟩ := h
    refine ⟨p, q, WideElems.Trod_stays hl (ht t (by simp)).1 (ht t (by simp)).2 h1 (fun x hx => hb.same (hlt x (by simp [hx]))) (fun x hx => hsp x (by simp [hx])), ?_, rfl⟩
    exact all_below hl hb ts vs ds q (fun t h => ht t (by simp [h])) h2 (fun x hx => hlt x (by simp [hx])) (fun x hx => hsp x (by simp [hx]))
  | [], [], _ :: _, _, _, h, _, _ => h.elim
  | [], _ :: _, _, _, _, h, _, _ => h.elim
  | _ :: _, [], _, _, _, h, _, _ => h.elim
  | _ :: _, _ :: _, [], _, _, h, _, _ => h.elim
theorem ok_slice {r : Reach} {base : Nat} {t e : TypeId} {v : Value} (ht : P.underlying t = some (.slice e)) (h : Value.okWide P W r base t v) :
    ∃ a len cap, v = .slice a len cap ∧ len ≤ cap ∧ (a = none → cap = 0) ∧ ∀ x, a = some x → x.spot = none := by
  obtain ⟨a, len, cap, rfl⟩ := okWide_slice ht h
  simp only [Value.okWide, ht, Cell.okWide] at h
  cases a with
  | none =>
    simp only [Cell.ok, ht] at h
    have : len = 0 ∧ cap = 0 := by split at h <;> simp_all
    obtain ⟨rfl, rfl⟩ := this
    exact ⟨none, 0, 0, rfl, Nat.le_refl _, fun _ => rfl, fun x hx => by cases hx⟩
  | some x =>
    simp only [Cell.ok, ht] at h
    obtain ⟨h1, _, h2⟩ := h
    exact ⟨_, _, _, rfl, h1, (fun hn => by cases hn), fun y hy => by cases hy; exact h2.2.1⟩
/-- No part is larger than memory. -/
def Light (P : Program) (t : TypeId) (d : DataW H) : Prop := ∀ n, n ∈ d.weights P t → n ≤ reachBytes
theorem light_of {ts : List TypeId} {ds : List (DataW H)} {j : Nat} {t : TypeId} {d : DataW H} (h : (DataW.weightsEach P ts ds).all (· ≤ reachBytes) = true) (ht : ts[j]? = some t) (hd : ds[j]? = some d) : Light P t d := fun n hn => by
  have := List.all_eq_true.1 h _ (DataW.weights_mem_each ht hd n hn)
  simpa using this
theorem weights_all {e : TypeId} : ∀ {ds : List (DataW H)} {i : Nat} {d : DataW H}, ds[i]? = some d → ∀ n, n ∈ d.weights P e → n ∈ DataW.weightsAll P e ds
  | d0 :: ds, 0, d, hd, n, hn => by
    simp only [List.getElem?_cons_zero, Option.some.injEq] at hd
    subst hd
    simp only [DataW.weightsAll, List.mem_append]
    exact .inl hn
  | d0 :: ds, i + 1, d, hd, n, hn => by
    simp only [List.getElem?_cons_succ] at hd
    simp only [DataW.weightsAll, List.mem_append]
    exact .inr (weights_all hd n hn)
  | [], _, _, hd, _, _ => by simp at hd
/-- An element's reading. -/
def Tr (enc : TypeId × Value → H) (P : Program) (W : World) (t : TypeId) (cs : List Value) : Prop := ∃ fuel d ps, DataW.trod enc P W 0 (fun _ => true) true fuel t cs = some (d, ps) ∧ Light P t d
theorem all_rows {ts : List TypeId} (h : (ts.all fun t => P.readableRec t && decide (t < P.types.size)) = true) : ∀ t, t ∈ ts → P.readableRec t = true ∧ t < P.types.size := by
  intro t ht
  have := List.all_eq_true.1 h t ht
  simpa using this
/-- A slice, opened: its cells lie, and each element reads. -/
theorem rd_of {r : Reach} {base : Nat} {t e : TypeId} {v : Value} {d : DataW H} {ps : List MemPlace} (ht : P.underlying t = some (.slice e)) (he : 0 < P.cellsOf e)
    (hval : Value.okWide P W r base t v) (hd : DataW.Trod enc P W 0 (fun _ => true) true t v d ps) (hw : Light P t d) :
    ∃ (l : List Value) (n : Nat), Rd W v (P.cellsOf e) l ∧ l.length = n * P.cellsOf e ∧ n * P.bytesOf e ≤ reachBytes ∧ ∀ i, i < n → Tr enc P W e ((l.drop (i * P.cellsOf e)).take (P.cellsOf e)) := by
  obtain ⟨a, len, cap, rfl, h1, h2, h3⟩ := ok_slice ht hval
  obtain ⟨fuel, hf⟩ := hd
  rcases DataW.trod_slice ht hf with ⟨hc, _⟩ | ⟨a, len', cap', elems, rest, n, rfl, hc, hdd, hb, hl, hm, hlen, hel, _⟩
  · simp [Value.cells] at hc
    obtain ⟨rfl, rfl, rfl⟩ := hc
    exact ⟨[], 0, ⟨none, 0, 0, rfl, by simp, by omega, fun _ => rfl, fun x hx => by cases hx⟩, by simp, by simp, fun i hi => by omega⟩
  · simp [Value.cells] at hc
    obtain ⟨rfl, rfl, rfl⟩ := hc
    obtain ⟨b, off, spot⟩ := a
    obtain rfl : spot = none := h3 _ rfl
    obtain ⟨rfl, _⟩ := Prod.mk.injEq .. ▸ hdd
    have hbytes : len * P.bytesOf e ≤ reachBytes := by
      have h := hw ((elems.length + rest.length) * P.bytesOf e) (by simp [DataW.weights, ht])
      refine Nat.le_trans (Nat.mul_le_mul_right _ ?_) h
      omega
    have one : ∀ i, i < len → ∃ cs x, W.cells? 0 ((⟨b, off, none⟩ : Addr).add (i * P.cellsOf e)) (P.cellsOf e) = some cs ∧ DataW.trod enc P W 0 (fun _ => true) true n e cs = some x ∧ Light P e x.1 := by
      intro i hi
      have h := hel i hi
      have hx : ∃ x, elems[i]? = some x := ⟨elems[i]'(by omega), List.getElem?_eq_getElem (by omega)⟩
      obtain ⟨x, hx⟩ := hx
      rw [hx] at h
      obtain ⟨cs, h4, h5⟩ := Option.bind_eq_some_iff.1 h
      exact ⟨cs, x, h4, h5, fun k hk => hw k (by
        simp only [DataW.weights, ht, List.mem_cons, List.mem_append]
        exact .inr (.inl (weights_all (i := i) (by rw [List.getElem?_map, hx]; rfl) k hk)))⟩
    have all : ∀ m, m ≤ len → ∃ l : List Value, l.length = m * P.cellsOf e ∧ (∀ i, i < l.length → W.cell? ⟨b, off + i, none⟩ = l[i]?) ∧ ∀ i, i < m → Tr enc P W e ((l.drop (i * P.cellsOf e)).take (P.cellsOf e)) := by
      intro m
      induction m with
      | zero => exact fun _ => ⟨[], by simp, fun i hi => by simp at hi, fun i hi => by omega⟩
      | succ m ih =>
        intro hm
        obtain ⟨l, h4, h5, h6⟩ := ih (by omega)
        obtain ⟨cs, x, h7, h8, h8w⟩ := one m (by omega)
        obtain ⟨_, h9, h10⟩ := World.cells?_some h7
        refine ⟨l ++ cs, by rw [List.length_append, h4, h9, Nat.succ_mul], fun i hi => ?_, fun i hi => ?_⟩
        · by_cases hil : i < l.length
          · rw [List.getElem?_append_left hil]; exact h5 i hil
          · rw [List.getElem?_append_right (by omega), ← h10 (i - l.length) (by rw [List.length_append] at hi; omega)]
            have e1 : off + i = off + m * P.cellsOf e + (i - l.length) := by omega
            rw [e1, add_plain, add_plain]
        · by_cases him : i < m
          · have hlt : i * P.cellsOf e + P.cellsOf e ≤ l.length := by rw [h4, ← Nat.succ_mul]; exact Nat.mul_le_mul_right _ him
            have := h6 i him
            rw [List.drop_append_of_le_length (by omega), List.take_append_of_le_length (by rw [List.length_drop]; omega)]
            exact this
          · obtain rfl : i = m := by omega
            rw [List.drop_left' h4, List.take_of_length_le (by omega)]
            exact ⟨n, x.1, x.2, h8, h8w⟩
    obtain ⟨l, h4, h5, h6⟩ := all len (Nat.le_refl _)
    exact ⟨l, len, ⟨_, len, cap, rfl, h4, hl, (fun hn => by cases hn), fun x hx => by cases hx; exact ⟨fun _ => rfl, h5⟩⟩, h4, hbytes, h6⟩
theorem take1 {l : List Value} {i : Nat} (hi : i < l.length) : (l.drop i).take 1 = [l[i]] := by rw [List.drop_eq_getElem_cons hi, List.take_succ_cons, List.take_zero]
/-- A row of whole numbers of one kind. -/
theorem ints_all {k : IntKind} : ∀ (l : List Value), (∀ i, i < l.length → ∃ n, l[i]? = some (.int k n) ∧ (Lit.int k n).wf = true) → ∃ zs, l = ints k zs ∧ ∀ z, z ∈ zs → (Lit.int k z).wf = true
  | [], _ => ⟨[], rfl, fun z hz => by cases hz⟩
  | v :: l, h => by
    obtain ⟨n, h1, h2⟩ := h 0 (by simp)
    obtain ⟨zs, rfl, h3⟩ := ints_all l (fun i hi => by have := h (i + 1) (by simp; omega); simpa using this)
    refine ⟨n :: zs, by simp at h1; rw [h1]; rfl, fun z hz => ?_⟩
    rcases List.mem_cons.1 hz with rfl | hz
    · exact h2
    · exact h3 z hz
theorem tr_int {t : TypeId} {k : IntKind} {cs : List Value} (ht : P.underlying t = some (.int k)) (h : Tr enc P W t cs) : ∃ n, cs = [.int k n] ∧ (Lit.int k n).wf = true := by
  obtain ⟨fuel, x, y, h, _⟩ := h
  obtain ⟨n, h1, _, h2⟩ := DataW.trod_int ht h
  exact ⟨n, h1, h2⟩
/-- An array of whole numbers, read. -/
theorem tr_ints {t e : TypeId} {n : Nat} {k : IntKind} {cs : List Value} (ht : P.underlying t = some (.array n e)) (he : P.underlying e = some (.int k)) (hc : P.cellsOf e = 1) (hn : P.cellsOf t = n)
    (h : Tr enc P W t cs) : ∃ zs, cs = ints k zs ∧ zs.length = n ∧ ∀ z, z ∈ zs → (Lit.int k z).wf = true := by
  obtain ⟨fuel, x, y, h, _⟩ := h
  obtain ⟨xs, m, _, _, h1, h2, h3⟩ := DataW.trod_array ht h
  obtain ⟨zs, rfl, h4⟩ := ints_all (k := k) cs (fun i hi => by
    have h := h3 i (by omega)
    rw [hc, Nat.mul_one] at h
    rw [take1 hi, List.getElem?_eq_getElem (by omega)] at h
    obtain ⟨n, h5, _, h6⟩ := DataW.trod_int he h
    exact ⟨n, by rw [List.getElem?_eq_getElem hi, (List.cons.inj h5).1], h6⟩)
  exact ⟨zs, rfl, by rw [ints_length] at h1; omega, h4⟩
theorem wf_byt {zs : List Int} (h : ∀ z, z ∈ zs → (Lit.int .u8 z).wf = true) : Sha.Byt zs := by
  intro z hz
  have := h z hz
  simp only [Lit.wf, IntKind.has, IntKind.min, IntKind.max, IntKind.signed, IntKind.bits] at this
  simp at this
  omega
/-- A slice of whole numbers, opened. -/
theorem rd_ints {r : Reach} {base : Nat} {t e : TypeId} {k : IntKind} {v : Value} {d : DataW H} {ps : List MemPlace} (ht : P.underlying t = some (.slice e)) (he : P.underlying e = some (.int k)) (hc : P.cellsOf e = 1)
    (hval : Value.okWide P W r base t v) (hd : DataW.Trod enc P W 0 (fun _ => true) true t v d ps) (hw : Light P t d) :
    ∃ l, Rd W v 1 (ints k l) ∧ l.length * P.bytesOf e ≤ reachBytes ∧ ∀ z, z ∈ l → (Lit.int k z).wf = true := by
  obtain ⟨l, n, h1, h2, h3, h4⟩ := rd_of ht (by omega) hval hd hw
  rw [hc, Nat.mul_one] at h2
  rw [hc] at h1
  obtain ⟨zs, rfl, h5⟩ := ints_all (k := k) l (fun i hi => by
    obtain ⟨m, h5, h6⟩ := tr_int he (h4 i (by omega))
    rw [hc, Nat.mul_one, take1 hi] at h5
    exact ⟨m, by rw [List.getElem?_eq_getElem hi, (List.cons.inj h5).1], h6⟩)
  exact ⟨zs, h1, by rw [ints_length] at h2; rw [h2]; exact h3, h5⟩
end
end Go.Proofs.Ytgfnmolbagilmaa.Fw
namespace Go.Proofs.Ytgfnmolbagilmaa.Fw
open Go Go.RowKit Go.WideShapes Go.ChangeShapes
set_option linter.unusedVariables false
section
variable {H : Type} {enc : TypeId × Value → H} {P : Program} {W : World}
/-- A slice value that may be. -/
def OkS (v : Value) : Prop := ∃ a len cap, v = .slice a len cap ∧ len ≤ cap ∧ (a = none → cap = 0) ∧ ∀ x, a = some x → x.spot = none
/-- A slice, opened. -/
theorem rd_tr {t e : TypeId} {v : Value} (ht : P.underlying t = some (.slice e)) (he : 0 < P.cellsOf e) (hok : OkS v) (h : Tr enc P W t [v]) :
    ∃ (l : List Value) (n : Nat), Rd W v (P.cellsOf e) l ∧ l.length = n * P.cellsOf e ∧ n * P.bytesOf e ≤ reachBytes ∧ ∀ i, i < n → Tr enc P W e ((l.drop (i * P.cellsOf e)).take (P.cellsOf e)) := by
  obtain ⟨fuel, d, ps, hf, hw⟩ := h
  obtain ⟨a, len, cap, rfl, h1, h2, h3⟩ := hok
  rcases DataW.trod_slice ht hf with ⟨hc, _⟩ | ⟨a, len', cap', elems, rest, n, rfl, hc, hdd, hb, hl, hm, hlen, hel, _⟩
  · simp at hc
    obtain ⟨rfl, rfl, rfl⟩ := hc
    exact ⟨[], 0, ⟨none, 0, 0, rfl, by simp, by omega, fun _ => rfl, fun x hx => by cases hx⟩, by simp, by simp, fun i hi => by omega⟩
  · simp at hc
    obtain ⟨rfl, rfl, rfl⟩ := hc
    obtain ⟨b, off, spot⟩ := a
    obtain rfl : spot = none := h3 _ rfl
    obtain ⟨rfl, _⟩ := Prod.mk.injEq .. ▸ hdd
    have hbytes : len * P.bytesOf e ≤ reachBytes := by
      have h := hw ((elems.length + rest.length) * P.bytesOf e) (by simp [DataW.weights, ht])
      refine Nat.le_trans (Nat.mul_le_mul_right _ ?_) h
      omega
    have one : ∀ i, i < len → ∃ cs x, W.cells? 0 ((⟨b, off, none⟩ : Addr).add (i * P.cellsOf e)) (P.cellsOf e) = some cs ∧ DataW.trod enc P W 0 (fun _ => true) true n e cs = some x ∧ Light P e x.1 := by
      intro i hi
      have h := hel i hi
      have hx : ∃ x, elems[i]? = some x := ⟨elems[i]'(by omega), List.getElem?_eq_getElem (by omega)⟩
      obtain ⟨x, hx⟩ := hx
      rw [hx] at h
      obtain ⟨cs, h4, h5⟩ := Option.bind_eq_some_iff.1 h
      exact ⟨cs, x, h4, h5, fun k hk => hw k (by
        simp only [DataW.weights, ht, List.mem_cons, List.mem_append]
        exact .inr (.inl (weights_all (i := i) (by rw [List.getElem?_map, hx]; rfl) k hk)))⟩
    have all : ∀ m, m ≤ len → ∃ l : List Value, l.length = m * P.cellsOf e ∧ (∀ i, i < l.length → W.cell? ⟨b, off + i, none⟩ = l[i]?) ∧ ∀ i, i < m → Tr enc P W e ((l.drop (i * P.cellsOf e)).take (P.cellsOf e)) := by
      intro m
      induction m with
      | zero => exact fun _ => ⟨[], by simp, fun i hi => by simp at hi, fun i hi => by omega⟩
      | succ m ih =>
        intro hm
        obtain ⟨l, h4, h5, h6⟩ := ih (by omega)
        obtain ⟨cs, x, h7, h8, h8w⟩ := one m (by omega)
        obtain ⟨_, h9, h10⟩ := World.cells?_some h7
        refine ⟨l ++ cs, by rw [List.length_append, h4, h9, Nat.succ_mul], fun i hi => ?_, fun i hi => ?_⟩
        · by_cases hil : i < l.length
          · rw [List.getElem?_append_left hil]; exact h5 i hil
          · rw [List.getElem?_append_right (by omega), ← h10 (i - l.length) (by rw [List.length_append] at hi; omega)]
            have e1 : off + i = off + m * P.cellsOf e + (i - l.length) := by omega
            rw [e1, add_plain, add_plain]
        · by_cases him : i < m
          · have hlt : i * P.cellsOf e + P.cellsOf e ≤ l.length := by rw [h4, ← Nat.succ_mul]; exact Nat.mul_le_mul_right _ him
            have := h6 i him
            rw [List.drop_append_of_le_length (by omega), List.take_append_of_le_length (by rw [List.length_drop]; omega)]
            exact this
          · obtain rfl : i = m := by omega
            rw [List.drop_left' h4, List.take_of_length_le (by omega)]
            exact ⟨n, x.1, x.2, h8, h8w⟩
    obtain ⟨l, h4, h5, h6⟩ := all len (Nat.le_refl _)
    exact ⟨l, len, ⟨_, len, cap, rfl, h4, hl, (fun hn => by cases hn), fun x hx => by cases hx; exact ⟨fun _ => rfl, h5⟩⟩, h4, hbytes, h6⟩
/-- A row of hashes. -/
theorem flat_all {t e : TypeId} (ht : P.underlying t = some (.array 32 e)) (he : P.underlying e = some (.int .u8)) (hc : P.cellsOf e = 1) (hn : P.cellsOf t = 32) : ∀ (n : Nat) (l : List Value), l.length = n * 32 → (∀ i, i < n → Tr enc P W t ((l.drop (i * 32)).take 32)) →
    ∃ hs, l = flat hs ∧ H32 hs ∧ hs.length = n ∧ ∀ h, h ∈ hs → Sha.Byt h
  | 0, l, hl, _ => ⟨[], by rw [List.length_eq_zero_iff.1 (by omega : l.length = 0)]; rfl, .nil, rfl, fun h hh => by cases hh⟩
  | n + 1, l, hl, h => by
    obtain ⟨zs, h1, h2, h3⟩ := tr_ints ht he hc hn (h 0 (by omega))
    obtain ⟨hs, h4, h5, h6, h7⟩ := flat_all ht he hc hn n (l.drop 32) (by rw [List.length_drop]; omega) (fun i hi => by
      have := h (i + 1) (by omega)
      rw [List.drop_drop]
      have e1 : 32 + i * 32 = (i + 1) * 32 := by omega
      rw [e1]
      exact this)
    rw [Nat.zero_mul, List.drop_zero] at h1
    refine ⟨zs :: hs, ?_, .cons h2 h5, by rw [List.length_cons, h6], fun x hx => ?_⟩
    · rw [flat_cons, ← h1, ← h4, List.take_append_drop]
    · rcases List.mem_cons.1 hx with rfl | hx
      · exact wf_byt h3
      · exact h7 x hx
theorem two {l : List Value} (h : l.length = 2) : ∃ a b, l = [a, b] := by
  match l, h with
  | [a, b], _ => exact ⟨a, b, rfl⟩
theorem three {l : List Value} (h : l.length = 3) : ∃ a b c, l = [a, b, c] := by
  match l, h with
  | [a, b, c], _ => exact ⟨a, b, c, rfl⟩
end
end Go.Proofs.Ytgfnmolbagilmaa.Fw

namespace Go.Proofs.Ytgfnmolbagilmaa.Ots
open Go Fw Sha
set_option linter.unusedSimpArgs false
set_option linter.unusedVariables false
/-- n steps along a chain -/
def way (c : Int) (h : List Int) (a : Nat) : Nat → List Int
  | 0 => h
  | n + 1 => sha ([1, IntKind.u8.wrap c, IntKind.u8.wrap ((a + n : Nat) : Int)] ++ way c h a n)
theorem way_len (c : Int) {h : List Int} (hl : h.length = 32) (a : Nat) : ∀ n, (way c h a n).length = 32
  | 0 => hl
  | n + 1 => sha_len _
def walk (h : List Int) (c f t : Int) : List Int := way c h (max f 0).toNat (min t 3 - max f 0).toNat
theorem walk_len (c f t : Int) {h : List Int} (hl : h.length = 32) : (walk h c f t).length = 32 := way_len _ hl _ _
def secret (seed : List Int) (leaf chain : Int) : List Int := sha ([0] ++ seed ++ [IntKind.u8.wrap leaf, IntKind.u8.wrap chain])
theorem secret_len (s : List Int) (l c : Int) : (secret s l c).length = 32 := sha_len _
/-- the first n chains' ends, in one text -/
def tex (f : Nat → List Int) : Nat → List Int
  | 0 => [2]
  | n + 1 => tex f n ++ f n
theorem tex_len {f : Nat → List Int} (h : ∀ i, (f i).length = 32) : ∀ n, (tex f n).length = 1 + 32 * n
  | 0 => rfl
  | n + 1 => by rw [tex, List.length_append, tex_len h n, h n]; omega
theorem tex_congr {f g : Nat → List Int} : ∀ n, (∀ i, i < n → f i = g i) → tex f n = tex g n
  | 0, _ => rfl
  | n + 1, h => by rw [tex, tex, tex_congr n (fun i hi => h i (by omega)), h n (by omega)]
def ends (f : Nat → List Int) : List Int := sha (tex f 36)
theorem ends_congr {f g : Nat → List Int} (h : ∀ i, i < 36 → f i = g i) : ends f = ends g := by rw [ends, ends, tex_congr 36 h]
def pub (seed : List Int) (leaf : Int) : List Int := ends fun c => walk (secret seed leaf c) c 0 3
/-- a digit of a digest -/
def dg (h : List Int) (i : Nat) : Int := h.getD (i / 4) 0 / 2 ^ (6 - 2 * (i % 4)) % 4
theorem dg_range (h : List Int) (i : Nat) : 0 ≤ dg h i ∧ dg h i ≤ 3 := by unfold dg; omega
/-- what the first n digits lack -/
def lack (h : List Int) : Nat → Int
  | 0 => 0
  | n + 1 => lack h n + (3 - dg h n)
theorem lack_range (h : List Int) : ∀ n, 0 ≤ lack h n ∧ lack h n ≤ 3 * (n : Int)
  | 0 => by simp [lack]
  | n + 1 => by
    have := lack_range h n
    have := dg_range h n
    rw [lack]
    omega
/-- the digits so far -/
def d1 (h : List Int) (i : Nat) : List Int := (List.range i).map (dg h) ++ List.replicate (36 - i) 0
def d2 (h : List Int) (j : Nat) : List Int := (List.range 32).map (dg h) ++ (List.range j).map (fun j => lack h 32 / 4 ^ j % 4) ++ List.replicate (4 - j) 0
theorem d1_len (h : List Int) (i : Nat) (hi : i ≤ 36) : (d1 h i).length = 36 := by simp [d1]; omega
theorem d2_len (h : List Int) (j : Nat) (hj : j ≤ 4) : (d2 h j).length = 36 := by simp [d2]; omega
theorem d1_set (h : List Int) (i : Nat) (hi : i < 36) : (d1 h i).set i (dg h i) = d1 h (i + 1) := by
  have e : 36 - i = (36 - (i + 1)) + 1 := by omega
  rw [d1, List.set_append_right _ _ (by simp), d1, List.range_succ, List.map_append, List.append_assoc, e, List.replicate_succ]
  simp
theorem d2_set (h : List Int) (j : Nat) (hj : j < 4) : (d2 h j).set (32 + j) (lack h 32 / 4 ^ j % 4) = d2 h (j + 1) := by
  have e : 4 - j = (4 - (j + 1)) + 1 := by omega
  rw [d2, List.set_append_right _ _ (by simp), d2, List.range_succ (n := j), List.map_append, e, List.replicate_succ]
  simp
theorem d1_get (h : List Int) (i : Nat) {j : Nat} (hj : j < i) : (d1 h i).getD j 0 = dg h j := by
  rw [d1, getD_append_left (by simpa using hj), List.getD_eq_getElem?_getD, List.getElem?_map, List.getElem?_range hj]
  rfl
def digits (m : List Int) : List Int := d2 (sha m) 4
theorem digits_len (m : List Int) : (digits m).length = 36 := d2_len _ 4 (by decide)
theorem d12 (h : List Int) : d1 h 32 = d2 h 0 := by simp [d1, d2]
theorem shr_dg {x : Int} {i : Nat} (h0 : 0 ≤ x) (h1 : x ≤ 255) : ishr .u8 x (6 - 2 * ((i : Int) % 4)) = x / 2 ^ (6 - 2 * (i % 4)) ∧ 0 ≤ x / 2 ^ (6 - 2 * (i % 4)) ∧ x / 2 ^ (6 - 2 * (i % 4)) ≤ 255 := by
  have e0 : (6 - 2 * ((i : Int) % 4)).toNat = 6 - 2 * (i % 4) := by omega
  have e : min (6 - 2 * ((i : Int) % 4)).toNat IntKind.u8.bits = 6 - 2 * (i % 4) := by rw [e0]; simp [IntKind.bits]; omega
  have hp : (0 : Int) < 2 ^ (6 - 2 * (i % 4)) := Int.pow_pos (by decide)
  refine ⟨?_, Int.ediv_nonneg h0 (Int.le_of_lt hp), ?_⟩
  · rw [ishr, e, Int.fdiv_eq_ediv_of_nonneg _ (Int.le_of_lt hp)]
  · exact Int.le_trans (Int.ediv_le_self _ h0) h1
theorem and3 {y : Int} (h0 : 0 ≤ y) (h1 : y ≤ 1000000) : iand .i64 y 3 = y % 4 := by
  obtain ⟨n, rfl⟩ := Int.eq_ofNat_of_zero_le h0
  have hn : n % 2 ^ IntKind.i64.bits = n := Nat.mod_eq_of_lt (by simp [IntKind.bits]; omega)
  have e : (BitVec.ofInt IntKind.i64.bits ((n : Nat) : Int) &&& BitVec.ofInt IntKind.i64.bits 3).toNat = n % 4 := by
    rw [BitVec.toNat_and, BitVec.ofInt_natCast, BitVec.toNat_ofNat, show (BitVec.ofInt IntKind.i64.bits 3).toNat = 2 ^ 2 - 1 from rfl, hn, Nat.and_two_pow_sub_one_eq_mod]
  rw [iand, e, wrap64_id (by omega) (by omega)]
  omega
theorem shr2 {y : Int} (h0 : 0 ≤ y) : ishr .i64 y 2 = y / 4 := by
  have e : min (2 : Int).toNat IntKind.i64.bits = 2 := rfl
  rw [ishr, e, Int.fdiv_eq_ediv_of_nonneg _ (by decide)]
  rfl
theorem pow_step (y : Int) (j : Nat) : y / 4 ^ j / 4 = y / 4 ^ (j + 1) := by
  rw [Int.pow_succ]
  exact Int.ediv_ediv_of_nonneg (Int.le_of_lt (Int.pow_pos (by decide)))
end Go.Proofs.Ytgfnmolbagilmaa.Ots
namespace Go.Proofs.Ytgfnmolbagilmaa.Ots
open Go Fw Sha
set_option linter.unusedSimpArgs false
set_option linter.unusedVariables false
theorem wrap8 {n : Nat} (h : n < 256) : IntKind.u8.wrap (n : Int) = (n : Int) := by
  have := u8_n n
  rw [Nat.mod_eq_of_lt h] at this
  exact this
theorem _root_.Go.Proofs.Ytgfnmolbagilmaa.Sha.Bn.cons {x : Nat} {l : List Nat} (h1 : x < 256) (h2 : Bn l) : Bn (x :: l) := fun y hy => (List.mem_cons.1 hy).elim (fun e => e ▸ h1) (h2 y)
theorem _root_.Go.Proofs.Ytgfnmolbagilmaa.Sha.Bn.append {a b : List Nat} (h1 : Bn a) (h2 : Bn b) : Bn (a ++ b) := fun y hy => (List.mem_append.1 hy).elim (h1 y) (h2 y)
theorem _root_.Go.Proofs.Ytgfnmolbagilmaa.Sha.Bn.nil : Bn [] := fun y hy => by cases hy
end Go.Proofs.Ytgfnmolbagilmaa.Ots
namespace Go.Proofs.Ytgfnmolbagilmaa.Mk
open Go Fw Sha
set_option linter.unusedSimpArgs false
set_option linter.unusedVariables false
def node (a b : List Int) : List Int := sha ([3] ++ a ++ b)
theorem node_len (a b : List Int) : (node a b).length = 32 := sha_len _
def half (n : Nat) : Nat := 2 ^ Nat.log2 (n - 1)
theorem half_pos (n : Nat) : 0 < half n := Nat.pow_pos (by decide)
theorem half_lt {n : Nat} (h : 2 ≤ n) : half n < n := by
  have := Nat.log2_self_le (n := n - 1) (by omega)
  rw [half]
  omega
def root (l : List (List Int)) : List Int :=
  if h : 2 ≤ l.length then node (root (l.take (half l.length))) (root (l.drop (half l.length))) else l.headD (List.replicate 32 0)
termination_by l.length
decreasing_by
  · have := half_lt h; simp only [List.length_take]; omega
  · have := half_pos l.length; simp only [List.length_drop]; omega
def up (leaf : List Int) (i : Int) : List (List Int) → List Int
  | [] => leaf
  | x :: p => up (if i % 2 = 0 then node leaf x else node x leaf) (i / 2) p
theorem up_len {leaf : List Int} (hl : leaf.length = 32) (i : Int) (p : List (List Int)) : (up leaf i p).length = 32 := by
  induction p generalizing leaf i with
  | nil => exact hl
  | cons x p ih =>
    rw [up]
    refine ih ?_ _
    split <;> exact node_len _ _
theorem up_snoc (leaf : List Int) (i : Int) (p : List (List Int)) (x : List Int) : up leaf i (p ++ [x]) = if i / 2 ^ p.length % 2 = 0 then node (up leaf i p) x else node x (up leaf i p) := by
  induction p generalizing leaf i with
  | nil => simp [up]
  | cons y p ih =>
    rw [List.cons_append, up, ih, up, List.length_cons, show i / 2 / 2 ^ p.length = i / 2 ^ (p.length + 1) by
      rw [Int.pow_succ, Int.mul_comm]; exact Int.ediv_ediv_of_nonneg (by decide)]
theorem iand1 {y : Int} (h0 : 0 ≤ y) (h1 : y ≤ 9223372036854775807) : iand .i64 y 1 = y % 2 := by
  obtain ⟨n, rfl⟩ := Int.eq_ofNat_of_zero_le h0
  have hn : n % 2 ^ IntKind.i64.bits = n := Nat.mod_eq_of_lt (by simp [IntKind.bits]; omega)
  have e : (BitVec.ofInt IntKind.i64.bits ((n : Nat) : Int) &&& BitVec.ofInt IntKind.i64.bits 1).toNat = n % 2 := by
    rw [BitVec.toNat_and, BitVec.ofInt_natCast, BitVec.toNat_ofNat, show (BitVec.ofInt IntKind.i64.bits 1).toNat = 2 ^ 1 - 1 from rfl, hn, Nat.and_two_pow_sub_one_eq_mod]
  rw [iand, e, wrap64_id (by omega) (by omega)]
  omega
theorem ishr1 {y : Int} (h0 : 0 ≤ y) : ishr .i64 y 1 = y / 2 := by
  have e : min (1 : Int).toNat IntKind.i64.bits = 1 := rfl
  rw [ishr, e, Int.fdiv_eq_ediv_of_nonneg _ (by decide)]
  rfl
end Go.Proofs.Ytgfnmolbagilmaa.Mk
namespace Go.Proofs.Ytgfnmolbagilmaa.Mk
open Go Fw
set_option linter.unusedSimpArgs false
set_option linter.unusedVariables false
end Go.Proofs.Ytgfnmolbagilmaa.Mk
namespace Go.Proofs.Ytgfnmolbagilmaa.Ots
open Go Fw Sha
set_option linter.unusedSimpArgs false
set_option linter.unusedVariables false
def pk (l : List Nat) : Nat := l.foldl (fun a b => a * 256 + b) 0
def hp (x : List Nat) : Nat := pk (shaN x)
end Go.Proofs.Ytgfnmolbagilmaa.Ots

namespace Go.Proofs.Ytgfnmolbagilmaa
open Go Fw
set_option maxRecDepth 100000
theorem ty_mk {P : Program} {t : TypeId} {d : TypeDesc} {sz bytes : Nat} {z : Value} (h : P.underlying t = some d) (hi : (P.info? t).map (fun i => (i.size, i.bytes, i.zero)) = some (sz, bytes, some z)) : Ty P t d sz bytes z := by
  refine ⟨h, ?_⟩
  cases e : P.info? t with
  | none => rw [e] at hi; cases hi
  | some i => rw [e] at hi; simp only [Option.map_some, Option.some.injEq, Prod.mk.injEq] at hi; exact ⟨i, rfl, hi.1, hi.2.1, hi.2.2⟩
theorem hmix : Try.prog.follows .mixedOrders = true := by kernel_rfl
theorem ty3 : Ty Try.prog 3 (.int .i64) 1 8 (Value.int .i64 0) := ty_mk Try.underlying3 (by kernel_rfl)
theorem ty4 : Ty Try.prog 4 (.bool) 1 1 (Value.bool false) := ty_mk Try.underlying4 (by kernel_rfl)
theorem ty5 : Ty Try.prog 5 (.int .u8) 1 1 (Value.int .u8 0) := ty_mk Try.underlying5 (by kernel_rfl)
theorem ty22 : Ty Try.prog 22 (.slice 55) 1 24 (Value.slice none 0 0) := ty_mk Try.underlying22 (by kernel_rfl)
theorem ty24 : Ty Try.prog 24 (.struct #[⟨"Keys", 22, 0, false, "", "", 0⟩, ⟨"Need", 3, 1, false, "", "", 24⟩]) 2 32 (.agg ([Value.slice none 0 0, Value.int .i64 0] : List Value).toArray) := ty_mk Try.underlying24 (by kernel_rfl)
theorem ty25 : Ty Try.prog 25 (.array 4 24) 8 128 (.agg (([Value.slice none 0 0, Value.int .i64 0]) ++ ([Value.slice none 0 0, Value.int .i64 0]) ++ ([Value.slice none 0 0, Value.int .i64 0]) ++ ([Value.slice none 0 0, Value.int .i64 0]) : List Value).toArray) := ty_mk Try.underlying25 (by kernel_rfl)
theorem ty27 : Ty Try.prog 27 (.struct #[⟨"Version", 3, 0, false, "", "", 0⟩, ⟨"Expires", 3, 1, false, "", "", 8⟩, ⟨"Roles", 25, 2, false, "", "", 16⟩]) 10 144 (.agg ([Value.int .i64 0, Value.int .i64 0] ++ (([Value.slice none 0 0, Value.int .i64 0]) ++ ([Value.slice none 0 0, Value.int .i64 0]) ++ ([Value.slice none 0 0, Value.int .i64 0]) ++ ([Value.slice none 0 0, Value.int .i64 0])) : List Value).toArray) := ty_mk Try.underlying27 (by kernel_rfl)
theorem ty28 : Ty Try.prog 28 (.slice 5) 1 24 (Value.slice none 0 0) := ty_mk Try.underlying28 (by kernel_rfl)
theorem ty29 : Ty Try.prog 29 (.slice 82) 1 24 (Value.slice none 0 0) := ty_mk Try.underlying29 (by kernel_rfl)
theorem ty31 : Ty Try.prog 31 (.struct #[⟨"Body", 28, 0, false, "", "", 0⟩, ⟨"Marks", 29, 1, false, "", "", 24⟩]) 2 48 (.agg ([Value.slice none 0 0, Value.slice none 0 0] : List Value).toArray) := ty_mk Try.underlying31 (by kernel_rfl)
theorem ty55 : Ty Try.prog 55 (.array 32 5) 32 32 (.agg (ints .u8 (List.replicate 32 0) : List Value).toArray) := ty_mk Try.underlying55 (by kernel_rfl)
theorem ty80 : Ty Try.prog 80 (.struct #[⟨"Leaf", 3, 0, false, "", "", 0⟩, ⟨"Chains", 22, 1, false, "", "", 8⟩, ⟨"Path", 22, 2, false, "", "", 32⟩]) 3 56 (.agg ([Value.int .i64 0, Value.slice none 0 0, Value.slice none 0 0] : List Value).toArray) := ty_mk Try.underlying80 (by kernel_rfl)
theorem ty82 : Ty Try.prog 82 (.struct #[⟨"Key", 55, 0, false, "", "", 0⟩, ⟨"Sig", 80, 32, false, "", "", 32⟩]) 35 88 (.agg ((ints .u8 (List.replicate 32 0)) ++ ([Value.int .i64 0, Value.slice none 0 0, Value.slice none 0 0]) : List Value).toArray) := ty_mk Try.underlying82 (by kernel_rfl)
theorem ty107 : Ty Try.prog 107 (.pointer 139) 1 8 (Value.pointer none) := ty_mk Try.underlying107 (by kernel_rfl)
theorem ty112 : Ty Try.prog 112 (.struct #[⟨"B", 28, 0, false, "", "", 0⟩, ⟨"E", 4, 1, false, "", "", 24⟩]) 2 32 (.agg ([Value.slice none 0 0, Value.bool false] : List Value).toArray) := ty_mk Try.underlying112 (by kernel_rfl)
theorem ty117 : Ty Try.prog 117 (.struct #[⟨"Reader", 107, 0, true, "", "", 0⟩]) 1 8 (.agg ([Value.pointer none] : List Value).toArray) := ty_mk Try.underlying117 (by kernel_rfl)
theorem ty139 : Ty Try.prog 139 (.struct #[⟨"rest", 28, 0, false, "", "ostler/octet", 0⟩, ⟨"bad", 4, 1, false, "", "ostler/octet", 24⟩]) 2 32 (.agg ([Value.slice none 0 0, Value.bool false] : List Value).toArray) := ty_mk Try.underlying139 (by kernel_rfl)
theorem ty153 : Ty Try.prog 153 (.array 36 3) 36 288 (.agg (ints .i64 (List.replicate 36 0) : List Value).toArray) := ty_mk Try.underlying153 (by kernel_rfl)
theorem ty167 : Ty Try.prog 167 (.int .u32) 1 4 (Value.int .u32 0) := ty_mk Try.underlying167 (by kernel_rfl)
theorem ty168 : Ty Try.prog 168 (.array 8 167) 8 32 (.agg (ints .u32 (List.replicate 8 0) : List Value).toArray) := ty_mk Try.underlying168 (by kernel_rfl)
theorem ty169 : Ty Try.prog 169 (.array 64 167) 64 256 (.agg (ints .u32 (List.replicate 64 0) : List Value).toArray) := ty_mk Try.underlying169 (by kernel_rfl)
theorem ty173 : Ty Try.prog 173 (.array 8 167) 8 32 (.agg (ints .u32 (List.replicate 8 0) : List Value).toArray) := ty_mk Try.underlying173 (by kernel_rfl)
theorem ty175 : Ty Try.prog 175 (.array 128 5) 128 128 (.agg (ints .u8 (List.replicate 128 0) : List Value).toArray) := ty_mk Try.underlying175 (by kernel_rfl)
theorem ty178 : Ty Try.prog 178 (.struct #[⟨"digits", 153, 0, false, "", "ostler/ots", 0⟩, ⟨"chains", 22, 36, false, "", "ostler/ots", 288⟩]) 37 312 (.agg ((ints .i64 (List.replicate 36 0)) ++ [Value.slice none 0 0] : List Value).toArray) := ty_mk Try.underlying178 (by kernel_rfl)
theorem eqg55 : Try.prog.eqGuardType Try.prog.depth 55 = false := by kernel_rfl
theorem has12 : Has Try.prog 12 := ⟨_, Try.func12, by kernel_rfl, rfl⟩
theorem has13 : Has Try.prog 13 := ⟨_, Try.func13, by kernel_rfl, rfl⟩
theorem has14 : Has Try.prog 14 := ⟨_, Try.func14, by kernel_rfl, rfl⟩
theorem has15 : Has Try.prog 15 := ⟨_, Try.func15, by kernel_rfl, rfl⟩
theorem has16 : Has Try.prog 16 := ⟨_, Try.func16, by kernel_rfl, rfl⟩
theorem has17 : Has Try.prog 17 := ⟨_, Try.func17, by kernel_rfl, rfl⟩
theorem has18 : Has Try.prog 18 := ⟨_, Try.func18, by kernel_rfl, rfl⟩
theorem has19 : Has Try.prog 19 := ⟨_, Try.func19, by kernel_rfl, rfl⟩
theorem has20 : Has Try.prog 20 := ⟨_, Try.func20, by kernel_rfl, rfl⟩
theorem has31 : Has Try.prog 31 := ⟨_, Try.func31, by kernel_rfl, rfl⟩
theorem has32 : Has Try.prog 32 := ⟨_, Try.func32, by kernel_rfl, rfl⟩
theorem has33 : Has Try.prog 33 := ⟨_, Try.func33, by kernel_rfl, rfl⟩
theorem has34 : Has Try.prog 34 := ⟨_, Try.func34, by kernel_rfl, rfl⟩
theorem has35 : Has Try.prog 35 := ⟨_, Try.func35, by kernel_rfl, rfl⟩
theorem has36 : Has Try.prog 36 := ⟨_, Try.func36, by kernel_rfl, rfl⟩
theorem has39 : Has Try.prog 39 := ⟨_, Try.func39, by kernel_rfl, rfl⟩
theorem has50 : Has Try.prog 50 := ⟨_, Try.func50, by kernel_rfl, rfl⟩
theorem has51 : Has Try.prog 51 := ⟨_, Try.func51, by kernel_rfl, rfl⟩
theorem has52 : Has Try.prog 52 := ⟨_, Try.func52, by kernel_rfl, rfl⟩
theorem has53 : Has Try.prog 53 := ⟨_, Try.func53, by kernel_rfl, rfl⟩
theorem has54 : Has Try.prog 54 := ⟨_, Try.func54, by kernel_rfl, rfl⟩
theorem has55 : Has Try.prog 55 := ⟨_, Try.func55, by kernel_rfl, rfl⟩
theorem has56 : Has Try.prog 56 := ⟨_, Try.func56, by kernel_rfl, rfl⟩
theorem has57 : Has Try.prog 57 := ⟨_, Try.func57, by kernel_rfl, rfl⟩
theorem has58 : Has Try.prog 58 := ⟨_, Try.func58, by kernel_rfl, rfl⟩
theorem has59 : Has Try.prog 59 := ⟨_, Try.func59, by kernel_rfl, rfl⟩
theorem has60 : Has Try.prog 60 := ⟨_, Try.func60, by kernel_rfl, rfl⟩
theorem has61 : Has Try.prog 61 := ⟨_, Try.func61, by kernel_rfl, rfl⟩
theorem has62 : Has Try.prog 62 := ⟨_, Try.func62, by kernel_rfl, rfl⟩
theorem has63 : Has Try.prog 63 := ⟨_, Try.func63, by kernel_rfl, rfl⟩
theorem has64 : Has Try.prog 64 := ⟨_, Try.func64, by kernel_rfl, rfl⟩
theorem has65 : Has Try.prog 65 := ⟨_, Try.func65, by kernel_rfl, rfl⟩
theorem has66 : Has Try.prog 66 := ⟨_, Try.func66, by kernel_rfl, rfl⟩
theorem has68 : Has Try.prog 68 := ⟨_, Try.func68, by kernel_rfl, rfl⟩
theorem has70 : Has Try.prog 70 := ⟨_, Try.func70, by kernel_rfl, rfl⟩
theorem has71 : Has Try.prog 71 := ⟨_, Try.func71, by kernel_rfl, rfl⟩
theorem has72 : Has Try.prog 72 := ⟨_, Try.func72, by kernel_rfl, rfl⟩
theorem has76 : Has Try.prog 76 := ⟨_, Try.func76, by kernel_rfl, rfl⟩
theorem has80 : Has Try.prog 80 := ⟨_, Try.func80, by kernel_rfl, rfl⟩
theorem has81 : Has Try.prog 81 := ⟨_, Try.func81, by kernel_rfl, rfl⟩
theorem has82 : Has Try.prog 82 := ⟨_, Try.func82, by kernel_rfl, rfl⟩
theorem has83 : Has Try.prog 83 := ⟨_, Try.func83, by kernel_rfl, rfl⟩
theorem has84 : Has Try.prog 84 := ⟨_, Try.func84, by kernel_rfl, rfl⟩
theorem has85 : Has Try.prog 85 := ⟨_, Try.func85, by kernel_rfl, rfl⟩
theorem has86 : Has Try.prog 86 := ⟨_, Try.func86, by kernel_rfl, rfl⟩
theorem has87 : Has Try.prog 87 := ⟨_, Try.func87, by kernel_rfl, rfl⟩
theorem has88 : Has Try.prog 88 := ⟨_, Try.func88, by kernel_rfl, rfl⟩
theorem has89 : Has Try.prog 89 := ⟨_, Try.func89, by kernel_rfl, rfl⟩
theorem has90 : Has Try.prog 90 := ⟨_, Try.func90, by kernel_rfl, rfl⟩
theorem has91 : Has Try.prog 91 := ⟨_, Try.func91, by kernel_rfl, rfl⟩
theorem has92 : Has Try.prog 92 := ⟨_, Try.func92, by kernel_rfl, rfl⟩
theorem has93 : Has Try.prog 93 := ⟨_, Try.func93, by kernel_rfl, rfl⟩
theorem has94 : Has Try.prog 94 := ⟨_, Try.func94, by kernel_rfl, rfl⟩
theorem has95 : Has Try.prog 95 := ⟨_, Try.func95, by kernel_rfl, rfl⟩
theorem has97 : Has Try.prog 97 := ⟨_, Try.func97, by kernel_rfl, rfl⟩
theorem has98 : Has Try.prog 98 := ⟨_, Try.func98, by kernel_rfl, rfl⟩
theorem has100 : Has Try.prog 100 := ⟨_, Try.func100, by kernel_rfl, rfl⟩
theorem has101 : Has Try.prog 101 := ⟨_, Try.func101, by kernel_rfl, rfl⟩
theorem has102 : Has Try.prog 102 := ⟨_, Try.func102, by kernel_rfl, rfl⟩
theorem has103 : Has Try.prog 103 := ⟨_, Try.func103, by kernel_rfl, rfl⟩
theorem has104 : Has Try.prog 104 := ⟨_, Try.func104, by kernel_rfl, rfl⟩
theorem has105 : Has Try.prog 105 := ⟨_, Try.func105, by kernel_rfl, rfl⟩
theorem has107 : Has Try.prog 107 := ⟨_, Try.func107, by kernel_rfl, rfl⟩
theorem has109 : Has Try.prog 109 := ⟨_, Try.func109, by kernel_rfl, rfl⟩
theorem has110 : Has Try.prog 110 := ⟨_, Try.func110, by kernel_rfl, rfl⟩
theorem has111 : Has Try.prog 111 := ⟨_, Try.func111, by kernel_rfl, rfl⟩
theorem has113 : Has Try.prog 113 := ⟨_, Try.func113, by kernel_rfl, rfl⟩
theorem has114 : Has Try.prog 114 := ⟨_, Try.func114, by kernel_rfl, rfl⟩
theorem has115 : Has Try.prog 115 := ⟨_, Try.func115, by kernel_rfl, rfl⟩
theorem has116 : Has Try.prog 116 := ⟨_, Try.func116, by kernel_rfl, rfl⟩
theorem has117 : Has Try.prog 117 := ⟨_, Try.func117, by kernel_rfl, rfl⟩
theorem has118 : Has Try.prog 118 := ⟨_, Try.func118, by kernel_rfl, rfl⟩
theorem has119 : Has Try.prog 119 := ⟨_, Try.func119, by kernel_rfl, rfl⟩
theorem has120 : Has Try.prog 120 := ⟨_, Try.func120, by kernel_rfl, rfl⟩
theorem has121 : Has Try.prog 121 := ⟨_, Try.func121, by kernel_rfl, rfl⟩
theorem has122 : Has Try.prog 122 := ⟨_, Try.func122, by kernel_rfl, rfl⟩
theorem has123 : Has Try.prog 123 := ⟨_, Try.func123, by kernel_rfl, rfl⟩
theorem has124 : Has Try.prog 124 := ⟨_, Try.func124, by kernel_rfl, rfl⟩
theorem has125 : Has Try.prog 125 := ⟨_, Try.func125, by kernel_rfl, rfl⟩
theorem has126 : Has Try.prog 126 := ⟨_, Try.func126, by kernel_rfl, rfl⟩
theorem has128 : Has Try.prog 128 := ⟨_, Try.func128, by kernel_rfl, rfl⟩
theorem has129 : Has Try.prog 129 := ⟨_, Try.func129, by kernel_rfl, rfl⟩
theorem has130 : Has Try.prog 130 := ⟨_, Try.func130, by kernel_rfl, rfl⟩
theorem has131 : Has Try.prog 131 := ⟨_, Try.func131, by kernel_rfl, rfl⟩
theorem has132 : Has Try.prog 132 := ⟨_, Try.func132, by kernel_rfl, rfl⟩
theorem has133 : Has Try.prog 133 := ⟨_, Try.func133, by kernel_rfl, rfl⟩
theorem has134 : Has Try.prog 134 := ⟨_, Try.func134, by kernel_rfl, rfl⟩
theorem has135 : Has Try.prog 135 := ⟨_, Try.func135, by kernel_rfl, rfl⟩
theorem has136 : Has Try.prog 136 := ⟨_, Try.func136, by kernel_rfl, rfl⟩
theorem has139 : Has Try.prog 139 := ⟨_, Try.func139, by kernel_rfl, rfl⟩
theorem pl24 : ∀ w, ((#[⟨"Keys", 22, 0, false, "", "", 0⟩, ⟨"Need", 3, 1, false, "", "", 24⟩] : Array Field).mapM fun f => (do pure (f.offset, ← sizeOf f.type) : Sem (Nat × Nat))).run Try.prog w = .ok #[(0, 1), (1, 1)] w := fun w => by
  simp [ty22.run_size, ty3.run_size]
theorem pl27 : ∀ w, ((#[⟨"Version", 3, 0, false, "", "", 0⟩, ⟨"Expires", 3, 1, false, "", "", 8⟩, ⟨"Roles", 25, 2, false, "", "", 16⟩] : Array Field).mapM fun f => (do pure (f.offset, ← sizeOf f.type) : Sem (Nat × Nat))).run Try.prog w = .ok #[(0, 1), (1, 1), (2, 8)] w := fun w => by
  simp [ty25.run_size, ty3.run_size]
theorem pl31 : ∀ w, ((#[⟨"Body", 28, 0, false, "", "", 0⟩, ⟨"Marks", 29, 1, false, "", "", 24⟩] : Array Field).mapM fun f => (do pure (f.offset, ← sizeOf f.type) : Sem (Nat × Nat))).run Try.prog w = .ok #[(0, 1), (1, 1)] w := fun w => by
  simp [ty28.run_size, ty29.run_size]
theorem pl112 : ∀ w, ((#[⟨"B", 28, 0, false, "", "", 0⟩, ⟨"E", 4, 1, false, "", "", 24⟩] : Array Field).mapM fun f => (do pure (f.offset, ← sizeOf f.type) : Sem (Nat × Nat))).run Try.prog w = .ok #[(0, 1), (1, 1)] w := fun w => by
  simp [ty28.run_size, ty4.run_size]
theorem pl117 : ∀ w, ((#[⟨"Reader", 107, 0, true, "", "", 0⟩] : Array Field).mapM fun f => (do pure (f.offset, ← sizeOf f.type) : Sem (Nat × Nat))).run Try.prog w = .ok #[(0, 1)] w := fun w => by
  simp [ty107.run_size]
theorem pl139 : ∀ w, ((#[⟨"rest", 28, 0, false, "", "ostler/octet", 0⟩, ⟨"bad", 4, 1, false, "", "ostler/octet", 24⟩] : Array Field).mapM fun f => (do pure (f.offset, ← sizeOf f.type) : Sem (Nat × Nat))).run Try.prog w = .ok #[(0, 1), (1, 1)] w := fun w => by
  simp [ty28.run_size, ty4.run_size]
theorem pl178 : ∀ w, ((#[⟨"digits", 153, 0, false, "", "ostler/ots", 0⟩, ⟨"chains", 22, 36, false, "", "ostler/ots", 288⟩] : Array Field).mapM fun f => (do pure (f.offset, ← sizeOf f.type) : Sem (Nat × Nat))).run Try.prog w = .ok #[(0, 36), (36, 1)] w := fun w => by
  simp [ty153.run_size, ty22.run_size]
end Go.Proofs.Ytgfnmolbagilmaa

namespace Go.Proofs.Ytgfnmolbagilmaa
open Go Go.RowKit Fw
open Sha
set_option linter.unusedVariables false
set_option linter.unusedSimpArgs false
set_option maxRecDepth 20000 in
set_option maxHeartbeats 1000000 in
theorem turn_any (x n : Int) (w : World) (h0 : 0 ≤ n) (h1 : n ≤ 32) : Calls Try.prog 139 #[.int .u32 x, .int .u64 n] w (PostV w (.int .u32 (turn x n))) := by
  refine calls_at (vs := [.int .u32 x, .int .u64 n]) (X := []) (H := []) (F := []) 13 Try.func139 rfl rfl rfl (Sat.start0 w) ?_
  refine cd_seq ?_
  refine cd_region ?_
  refine st (ev_assign rfl) rfl rfl rfl ?_
  refine op_nil ?_
  refine ax_then ?_
  refine At.regs (L' := [(0, _), (1, _), (4, _)]) (.cons rfl (.cons rfl (.cons rfl (.nil _)))) ?_
  refine cd_seq ?_
  refine cd_region ?_
  refine st (ev_move rfl) rfl rfl rfl ?_
  refine st (ev_move rfl) rfl rfl rfl ?_
  refine st (ev_shr rfl rfl (by omega)) rfl rfl rfl ?_
  refine st (ev_move rfl) rfl rfl rfl ?_
  refine st (ev_move rfl) rfl rfl rfl ?_
  refine st (ev_subu64 rfl rfl (by omega) (by omega)) rfl rfl rfl ?_
  refine st (ev_shl rfl rfl (by omega)) rfl rfl rfl ?_
  refine st (ev_or rfl rfl) rfl rfl rfl ?_
  refine st (ev_assign rfl) rfl rfl rfl ?_
  refine op_nil ?_
  refine ax_then ?_
  refine At.regs (L' := [(4, _)]) (.cons rfl (.nil _)) ?_
  refine cd_ret ?_
  refine rt_tmp (.inl rfl) Try.results139 rfl ?_
  exact fun w1 sw => ⟨rfl, sw.gives (.nil _)⟩
set_option maxRecDepth 20000 in
set_option maxHeartbeats 1000000 in
theorem r_any (x n : Int) (w : World) (h0 : 0 ≤ n) (h1 : n ≤ 32) : Calls Try.prog 130 #[.int .u32 x, .int .u64 n] w (PostV w (.int .u32 (turn x n))) := by
  refine calls_at (vs := [.int .u32 x, .int .u64 n]) (X := []) (H := []) (F := []) 13 Try.func130 rfl rfl rfl (Sat.start0 w) ?_
  refine cd_seq ?_
  refine cd_region ?_
  refine st (ev_assign rfl) rfl rfl rfl ?_
  refine op_nil ?_
  refine ax_then ?_
  refine At.regs (L' := [(0, _), (1, _), (4, _)]) (.cons rfl (.cons rfl (.cons rfl (.nil _)))) ?_
  refine cd_seq ?_
  refine cd_region ?_
  refine st (ev_move rfl) rfl rfl rfl ?_
  refine st (ev_move rfl) rfl rfl rfl ?_
  refine st (ev_shr rfl rfl (by omega)) rfl rfl rfl ?_
  refine st (ev_move rfl) rfl rfl rfl ?_
  refine st (ev_move rfl) rfl rfl rfl ?_
  refine st (ev_subu64 rfl rfl (by omega) (by omega)) rfl rfl rfl ?_
  refine st (ev_shl rfl rfl (by omega)) rfl rfl rfl ?_
  refine st (ev_or rfl rfl) rfl rfl rfl ?_
  refine st (ev_assign rfl) rfl rfl rfl ?_
  refine op_nil ?_
  refine ax_then ?_
  refine At.regs (L' := [(4, _)]) (.cons rfl (.nil _)) ?_
  refine cd_ret ?_
  refine rt_tmp (.inl rfl) Try.results130 rfl ?_
  exact fun w1 sw => ⟨rfl, sw.gives (.nil _)⟩
set_option maxRecDepth 20000 in
set_option maxHeartbeats 1000000 in
theorem s0_any (x : Int) (w : World) : Calls Try.prog 131 #[.int .u32 x] w (PostV w (.int .u32 (s0 x))) := by
  refine calls_at (vs := [.int .u32 x]) (X := []) (H := []) (F := []) 11 Try.func131 rfl rfl rfl (Sat.start0 w) ?_
  refine cd_seq ?_
  refine cd_region ?_
  refine st (ev_assign rfl) rfl rfl rfl ?_
  refine op_nil ?_
  refine ax_then ?_
  refine At.regs (L' := [(0, _), (2, _)]) (.cons rfl (.cons rfl (.nil _))) ?_
  refine cd_seq ?_
  refine cd_region ?_
  refine st (ev_move rfl) rfl rfl rfl ?_
  refine st_callv has139 rfl (fun w1 sw => turn_any _ _ w1 (by omega) (by omega)) rfl rfl ?_
  refine st (ev_move rfl) rfl rfl rfl ?_
  refine st_callv has139 rfl (fun w1 sw => turn_any _ _ w1 (by omega) (by omega)) rfl rfl ?_
  refine st (ev_xor rfl rfl) rfl rfl rfl ?_
  refine st (ev_move rfl) rfl rfl rfl ?_
  refine st (ev_shr rfl rfl (by omega)) rfl rfl rfl ?_
  refine st (ev_xor rfl rfl) rfl rfl rfl ?_
  refine st (ev_assign rfl) rfl rfl rfl ?_
  refine op_nil ?_
  refine ax_then ?_
  refine At.regs (L' := [(2, _)]) (.cons rfl (.nil _)) ?_
  refine cd_ret ?_
  refine rt_tmp (.inl rfl) Try.results131 rfl ?_
  exact fun w1 sw => ⟨rfl, sw.gives (.nil _)⟩
set_option maxRecDepth 20000 in
set_option maxHeartbeats 1000000 in
theorem s1_any (x : Int) (w : World) : Calls Try.prog 132 #[.int .u32 x] w (PostV w (.int .u32 (s1 x))) := by
  refine calls_at (vs := [.int .u32 x]) (X := []) (H := []) (F := []) 11 Try.func132 rfl rfl rfl (Sat.start0 w) ?_
  refine cd_seq ?_
  refine cd_region ?_
  refine st (ev_assign rfl) rfl rfl rfl ?_
  refine op_nil ?_
  refine ax_then ?_
  refine At.regs (L' := [(0, _), (2, _)]) (.cons rfl (.cons rfl (.nil _))) ?_
  refine cd_seq ?_
  refine cd_region ?_
  refine st (ev_move rfl) rfl rfl rfl ?_
  refine st_callv has139 rfl (fun w1 sw => turn_any _ _ w1 (by omega) (by omega)) rfl rfl ?_
  refine st (ev_move rfl) rfl rfl rfl ?_
  refine st_callv has139 rfl (fun w1 sw => turn_any _ _ w1 (by omega) (by omega)) rfl rfl ?_
  refine st (ev_xor rfl rfl) rfl rfl rfl ?_
  refine st (ev_move rfl) rfl rfl rfl ?_
  refine st (ev_shr rfl rfl (by omega)) rfl rfl rfl ?_
  refine st (ev_xor rfl rfl) rfl rfl rfl ?_
  refine st (ev_assign rfl) rfl rfl rfl ?_
  refine op_nil ?_
  refine ax_then ?_
  refine At.regs (L' := [(2, _)]) (.cons rfl (.nil _)) ?_
  refine cd_ret ?_
  refine rt_tmp (.inl rfl) Try.results132 rfl ?_
  exact fun w1 sw => ⟨rfl, sw.gives (.nil _)⟩
set_option maxRecDepth 20000 in
set_option maxHeartbeats 1000000 in
theorem b0_any (x : Int) (w : World) : Calls Try.prog 135 #[.int .u32 x] w (PostV w (.int .u32 (b0 x))) := by
  refine calls_at (vs := [.int .u32 x]) (X := []) (H := []) (F := []) 11 Try.func135 rfl rfl rfl (Sat.start0 w) ?_
  refine cd_seq ?_
  refine cd_region ?_
  refine st (ev_assign rfl) rfl rfl rfl ?_
  refine op_nil ?_
  refine ax_then ?_
  refine At.regs (L' := [(0, _), (2, _)]) (.cons rfl (.cons rfl (.nil _))) ?_
  refine cd_seq ?_
  refine cd_region ?_
  refine st (ev_move rfl) rfl rfl rfl ?_
  refine st_callv has139 rfl (fun w1 sw => turn_any _ _ w1 (by omega) (by omega)) rfl rfl ?_
  refine st (ev_move rfl) rfl rfl rfl ?_
  refine st_callv has139 rfl (fun w1 sw => turn_any _ _ w1 (by omega) (by omega)) rfl rfl ?_
  refine st (ev_xor rfl rfl) rfl rfl rfl ?_
  refine st (ev_move rfl) rfl rfl rfl ?_
  refine st_callv has139 rfl (fun w1 sw => turn_any _ _ w1 (by omega) (by omega)) rfl rfl ?_
  refine st (ev_xor rfl rfl) rfl rfl rfl ?_
  refine st (ev_assign rfl) rfl rfl rfl ?_
  refine op_nil ?_
  refine ax_then ?_
  refine At.regs (L' := [(2, _)]) (.cons rfl (.nil _)) ?_
  refine cd_ret ?_
  refine rt_tmp (.inl rfl) Try.results135 rfl ?_
  exact fun w1 sw => ⟨rfl, sw.gives (.nil _)⟩
set_option maxRecDepth 20000 in
set_option maxHeartbeats 1000000 in
theorem b1_any (x : Int) (w : World) : Calls Try.prog 133 #[.int .u32 x] w (PostV w (.int .u32 (b1 x))) := by
  refine calls_at (vs := [.int .u32 x]) (X := []) (H := []) (F := []) 11 Try.func133 rfl rfl rfl (Sat.start0 w) ?_
  refine cd_seq ?_
  refine cd_region ?_
  refine st (ev_assign rfl) rfl rfl rfl ?_
  refine op_nil ?_
  refine ax_then ?_
  refine At.regs (L' := [(0, _), (2, _)]) (.cons rfl (.cons rfl (.nil _))) ?_
  refine cd_seq ?_
  refine cd_region ?_
  refine st (ev_move rfl) rfl rfl rfl ?_
  refine st_callv has139 rfl (fun w1 sw => turn_any _ _ w1 (by omega) (by omega)) rfl rfl ?_
  refine st (ev_move rfl) rfl rfl rfl ?_
  refine st_callv has139 rfl (fun w1 sw => turn_any _ _ w1 (by omega) (by omega)) rfl rfl ?_
  refine st (ev_xor rfl rfl) rfl rfl rfl ?_
  refine st (ev_move rfl) rfl rfl rfl ?_
  refine st_callv has139 rfl (fun w1 sw => turn_any _ _ w1 (by omega) (by omega)) rfl rfl ?_
  refine st (ev_xor rfl rfl) rfl rfl rfl ?_
  refine st (ev_assign rfl) rfl rfl rfl ?_
  refine op_nil ?_
  refine ax_then ?_
  refine At.regs (L' := [(2, _)]) (.cons rfl (.nil _)) ?_
  refine cd_ret ?_
  refine rt_tmp (.inl rfl) Try.results133 rfl ?_
  exact fun w1 sw => ⟨rfl, sw.gives (.nil _)⟩
set_option maxRecDepth 20000 in
set_option maxHeartbeats 1000000 in
theorem ch_any (x y z : Int) (w : World) : Calls Try.prog 134 #[.int .u32 x, .int .u32 y, .int .u32 z] w (PostV w (.int .u32 (ch x y z))) := by
  refine calls_at (vs := [.int .u32 x, .int .u32 y, .int .u32 z]) (X := []) (H := []) (F := []) 15 Try.func134 rfl rfl rfl (Sat.start0 w) ?_
  refine cd_seq ?_
  refine cd_region ?_
  refine st (ev_assign rfl) rfl rfl rfl ?_
  refine op_nil ?_
  refine ax_then ?_
  refine At.regs (L' := [(0, _), (1, _), (2, _), (6, _)]) (.cons rfl (.cons rfl (.cons rfl (.cons rfl (.nil _))))) ?_
  refine cd_seq ?_
  refine cd_region ?_
  refine st (ev_move rfl) rfl rfl rfl ?_
  refine st (ev_move rfl) rfl rfl rfl ?_
  refine st (ev_and rfl rfl) rfl rfl rfl ?_
  refine st (ev_move rfl) rfl rfl rfl ?_
  refine st (ev_inot rfl) rfl rfl rfl ?_
  refine st (ev_move rfl) rfl rfl rfl ?_
  refine st (ev_and rfl rfl) rfl rfl rfl ?_
  refine st (ev_xor rfl rfl) rfl rfl rfl ?_
  refine st (ev_assign rfl) rfl rfl rfl ?_
  refine op_nil ?_
  refine ax_then ?_
  refine At.regs (L' := [(6, _)]) (.cons rfl (.nil _)) ?_
  refine cd_ret ?_
  refine rt_tmp (.inl rfl) Try.results134 rfl ?_
  exact fun w1 sw => ⟨rfl, sw.gives (.nil _)⟩
set_option maxRecDepth 20000 in
set_option maxHeartbeats 1000000 in
theorem mj_any (x y z : Int) (w : World) : Calls Try.prog 136 #[.int .u32 x, .int .u32 y, .int .u32 z] w (PostV w (.int .u32 (mj x y z))) := by
  refine calls_at (vs := [.int .u32 x, .int .u32 y, .int .u32 z]) (X := []) (H := []) (F := []) 18 Try.func136 rfl rfl rfl (Sat.start0 w) ?_
  refine cd_seq ?_
  refine cd_region ?_
  refine st (ev_assign rfl) rfl rfl rfl ?_
  refine op_nil ?_
  refine ax_then ?_
  refine At.regs (L' := [(0, _), (1, _), (2, _), (6, _)]) (.cons rfl (.cons rfl (.cons rfl (.cons rfl (.nil _))))) ?_
  refine cd_seq ?_
  refine cd_region ?_
  refine st (ev_move rfl) rfl rfl rfl ?_
  refine st (ev_move rfl) rfl rfl rfl ?_
  refine st (ev_and rfl rfl) rfl rfl rfl ?_
  refine st (ev_move rfl) rfl rfl rfl ?_
  refine st (ev_move rfl) rfl rfl rfl ?_
  refine st (ev_and rfl rfl) rfl rfl rfl ?_
  refine st (ev_xor rfl rfl) rfl rfl rfl ?_
  refine st (ev_move rfl) rfl rfl rfl ?_
  refine st (ev_move rfl) rfl rfl rfl ?_
  refine st (ev_and rfl rfl) rfl rfl rfl ?_
  refine st (ev_xor rfl rfl) rfl rfl rfl ?_
  refine st (ev_assign rfl) rfl rfl rfl ?_
  refine op_nil ?_
  refine ax_then ?_
  refine At.regs (L' := [(6, _)]) (.cons rfl (.nil _)) ?_
  refine cd_ret ?_
  refine rt_tmp (.inl rfl) Try.results136 rfl ?_
  exact fun w1 sw => ⟨rfl, sw.gives (.nil _)⟩
set_option maxRecDepth 20000 in
set_option maxHeartbeats 4000000 in
theorem take_any (bs bk TS : Nat) (p : Value) (s b k : List Int) (w : World) (hs : s.length = 8) (hk : k.length = 64) (hb : 64 ≤ b.length) (h1 : w.heap[bs]? = some (.cells (ints .u32 s).toArray TS)) (h2 : Rd w p 1 (ints .u8 b)) (h3 : Lies w bk 0 (ints .u32 k)) (h4 : bs ∉ blkOf p) (h5 : bs ≠ bk) : Calls Try.prog 126 #[.pointer (some ⟨bs, 0, none⟩), p, .pointer (some ⟨bk, 0, none⟩)] w (Post (ι := Unit) w [bs] (fun _ => True) (fun _ => .tuple #[]) (fun _ => [(0, .blk bs (.cells (ints .u32 (comp k s b)).toArray TS))])) := by
  refine calls_at (vs := [.pointer (some ⟨bs, 0, none⟩), p, .pointer (some ⟨bk, 0, none⟩)]) (X := [bs]) (H := [(0, .blk bs (.cells (ints .u32 (s)).toArray TS))]) (F := [(1, .sl p 1 (ints .u8 b)), (2, .mem bk 0 (ints .u32 k))]) 157 Try.func126 rfl rfl rfl (((Sat.blk0 w 0 bs _ h1).read 2 (f := .mem bk 0 (ints .u32 k)) h3 (off_one fun b hb => .inr (by rw [mem_one hb]; exact h5))).read 1 (f := .sl p 1 (ints .u8 b)) h2 (off_one fun b hb => .inr (by rw [mem_one hb]; exact h4))) ?_
  refine cd_seq ?_
  refine cd_region ?_
  refine st_alloc (h := 6) ty169 rfl rfl rfl (fun b6 => ?_)
  refine op_nil ?_
  refine ax_then ?_
  refine At.regs (L' := [(0, _), (1, _), (2, _), (6, _)]) (.cons rfl (.cons rfl (.cons rfl (.cons rfl (.nil _))))) ?_
  refine cd_seq ?_
  refine cd_seq ?_
  refine cd_region ?_
  refine st (ev_move rfl) rfl rfl rfl ?_
  refine op_nil ?_
  refine ax_then ?_
  refine At.regs (L' := [(0, _), (1, _), (2, _), (6, _), (14, _)]) (.cons rfl (.cons rfl (.cons rfl (.cons rfl (.cons rfl (.nil _)))))) ?_
  refine cd_block ?_
  refine cd_loop (ι := Nat) (fun i => i ≤ 16) (fun i => 16 - i)
      (fun i => [(0, .pointer (some ⟨bs, 0, none⟩)), (1, p), (2, .pointer (some ⟨bk, 0, none⟩)), (6, .pointer (some ⟨b6, 0, none⟩)), (14, .int .i64 (i : Int))])
      (fun i => [(0, .blk bs (.cells (ints .u32 (s)).toArray TS)), (6, .blk b6 (.cells (ints .u32 (w1 b i)).toArray 169))])
      (fun i => [(1, .sl p 1 (ints .u8 b)), (2, .mem bk 0 (ints .u32 k))])
      0 (by omega) (.cons rfl (.cons rfl (.cons rfl (.cons rfl (.cons rfl (.nil _)))))) (.cons rfl (.cons rfl (.nil _))) (.cons rfl (.cons rfl (.nil _))) (fun i hi => ?_)
  have hw1 := w1_len b i
  refine cd_seq ?_
  refine cd_region ?_
  refine st (ev_lss rfl rfl) rfl rfl rfl ?_
  refine op_nil ?_
  refine ax_then ?_
  refine At.regs (L' := [(0, _), (1, _), (2, _), (6, _), (14, _), (15, _)]) (.cons rfl (.cons rfl (.cons rfl (.cons rfl (.cons rfl (.cons rfl (.nil _))))))) ?_
  refine cd_seq ?_
  refine cd_if rfl (fun hc15 => ?_) (fun hc15 => ?_)
  ·
    refine cd_skip ?_
    refine ax_then ?_
    refine At.regs (L' := [(0, _), (1, _), (2, _), (6, _), (14, _), (15, _)]) (.cons rfl (.cons rfl (.cons rfl (.cons rfl (.cons rfl (.cons rfl (.nil _))))))) ?_
    refine cd_seq ?_
    refine cd_block ?_
    refine cd_seq ?_
    refine cd_region ?_
    refine st (ev_move rfl) rfl rfl rfl ?_
    refine st (ev_assign rfl) rfl rfl rfl ?_
    refine op_nil ?_
    refine ax_then ?_
    refine At.regs (L' := [(0, _), (1, _), (2, _), (6, _), (7, _), (14, _), (15, _), (16, _)]) (.cons rfl (.cons rfl (.cons rfl (.cons rfl (.cons rfl (.cons rfl (.cons rfl (.cons rfl (.nil _))))))))) ?_
    refine cd_open_tail 34 hmix (by decide +kernel) ?_
    refine qt (ev_move rfl) rfl rfl rfl ?_
    refine qt (ev_move rfl) rfl rfl rfl ?_
    refine qt (ev_move rfl) rfl rfl rfl ?_
    refine qt (ev_mul64 rfl rfl (by omega) (by omega)) rfl rfl rfl ?_
    refine qt (ev_indexAddr_rdi (h := 1) Try.underlying28 ty5 rfl rfl rfl (by omega) (by first | omega | (simp only [List.length_append, List.length_cons, List.length_nil, List.length_set, List.length_replicate, List.length_take, List.length_drop, ints_length, wr_length] <;> omega))) rfl rfl rfl ?_
    refine qt (ld_rd1 (h := 1) ty5 rfl rfl rfl (ints_get _ _ _ (by first | omega | (simp only [List.length_append, List.length_cons, List.length_nil, List.length_set, List.length_replicate, List.length_take, List.length_drop, ints_length, wr_length] <;> omega) | rfl))) rfl rfl rfl ?_
    refine qt (ev_conv Try.underlying5 Try.underlying167 rfl) rfl rfl rfl ?_
    refine qt (ev_shl rfl rfl (by omega)) rfl rfl rfl ?_
    refine qt (ev_move rfl) rfl rfl rfl ?_
    refine qt (ev_move rfl) rfl rfl rfl ?_
    refine qt (ev_mul64 rfl rfl (by omega) (by omega)) rfl rfl rfl ?_
    refine qt (ev_add64 rfl rfl (by omega) (by omega)) rfl rfl rfl ?_
    refine qt (ev_indexAddr_rdi (h := 1) Try.underlying28 ty5 rfl rfl rfl (by omega) (by first | omega | (simp only [List.length_append, List.length_cons, List.length_nil, List.length_set, List.length_replicate, List.length_take, List.length_drop, ints_length, wr_length] <;> omega))) rfl rfl rfl ?_
    refine qt (ld_rd1 (h := 1) ty5 rfl rfl rfl (ints_get _ _ _ (by first | omega | (simp only [List.length_append, List.length_cons, List.length_nil, List.length_set, List.length_replicate, List.length_take, List.length_drop, ints_length, wr_length] <;> omega) | rfl))) rfl rfl rfl ?_
    refine qt (ev_conv Try.underlying5 Try.underlying167 rfl) rfl rfl rfl ?_
    refine qt (ev_shl rfl rfl (by omega)) rfl rfl rfl ?_
    refine qt (ev_or rfl rfl) rfl rfl rfl ?_
    refine qt (ev_move rfl) rfl rfl rfl ?_
    refine qt (ev_move rfl) rfl rfl rfl ?_
    refine qt (ev_mul64 rfl rfl (by omega) (by omega)) rfl rfl rfl ?_
    refine qt (ev_add64 rfl rfl (by omega) (by omega)) rfl rfl rfl ?_
    refine qt (ev_indexAddr_rdi (h := 1) Try.underlying28 ty5 rfl rfl rfl (by omega) (by first | omega | (simp only [List.length_append, List.length_cons, List.length_nil, List.length_set, List.length_replicate, List.length_take, List.length_drop, ints_length, wr_length] <;> omega))) rfl rfl rfl ?_
    refine qt (ld_rd1 (h := 1) ty5 rfl rfl rfl (ints_get _ _ _ (by first | omega | (simp only [List.length_append, List.length_cons, List.length_nil, List.length_set, List.length_replicate, List.length_take, List.length_drop, ints_length, wr_length] <;> omega) | rfl))) rfl rfl rfl ?_
    refine qt (ev_conv Try.underlying5 Try.underlying167 rfl) rfl rfl rfl ?_
    refine qt (ev_shl rfl rfl (by omega)) rfl rfl rfl ?_
    refine qt (ev_or rfl rfl) rfl rfl rfl ?_
    refine qt (ev_move rfl) rfl rfl rfl ?_
    refine qt (ev_move rfl) rfl rfl rfl ?_
    refine qt (ev_mul64 rfl rfl (by omega) (by omega)) rfl rfl rfl ?_
    refine qt (ev_add64 rfl rfl (by omega) (by omega)) rfl rfl rfl ?_
    refine qt (ev_indexAddr_rdi (h := 1) Try.underlying28 ty5 rfl rfl rfl (by omega) (by first | omega | (simp only [List.length_append, List.length_cons, List.length_nil, List.length_set, List.length_replicate, List.length_take, List.length_drop, ints_length, wr_length] <;> omega))) rfl rfl rfl ?_
    refine qt (ld_rd1 (h := 1) ty5 rfl rfl rfl (ints_get _ _ _ (by first | omega | (simp only [List.length_append, List.length_cons, List.length_nil, List.length_set, List.length_replicate, List.length_take, List.length_drop, ints_length, wr_length] <;> omega) | rfl))) rfl rfl rfl ?_
    refine qt (ev_conv Try.underlying5 Try.underlying167 rfl) rfl rfl rfl ?_
    refine qt (ev_or rfl rfl) rfl rfl rfl ?_
    refine qt_end ?_
    refine st (ev_indexAddr_arr Try.underlying169 ty167 rfl rfl (by omega) (by omega)) rfl rfl rfl ?_
    refine st_store1 6 ty167 rfl rfl rfl rfl (by first | omega | (simp only [List.length_append, List.length_cons, List.length_nil, List.length_set, List.length_replicate, List.length_take, List.length_drop, ints_length, wr_length] <;> omega) | rfl) rfl ?_
    refine at_heq (i := 6) rfl (by rw [ints_set]) ?_
    refine op_nil ?_
    refine ax_block ?_
    refine ax_then ?_
    refine At.regs (L' := [(0, _), (1, _), (2, _), (6, _), (7, _), (14, _), (15, _), (16, _), (17, _), (18, _), (19, _), (20, _), (21, _), (22, _), (23, _), (24, _), (25, _), (26, _), (27, _), (28, _), (29, _), (30, _), (31, _), (32, _), (33, _), (34, _), (35, _), (36, _), (37, _), (38, _), (39, _), (40, _), (41, _), (42, _), (43, _), (44, _), (45, _), (46, _), (47, _), (48, _), (49, _), (50, _), (51, _)]) (.cons rfl (.cons rfl (.cons rfl (.cons rfl (.cons rfl (.cons rfl (.cons rfl (.cons rfl (.cons rfl (.cons rfl (.cons rfl (.cons rfl (.cons rfl (.cons rfl (.cons rfl (.cons rfl (.cons rfl (.cons rfl (.cons rfl (.cons rfl (.cons rfl (.cons rfl (.cons rfl (.cons rfl (.cons rfl (.cons rfl (.cons rfl (.cons rfl (.cons rfl (.cons rfl (.cons rfl (.cons rfl (.cons rfl (.cons rfl (.cons rfl (.cons rfl (.cons rfl (.cons rfl (.cons rfl (.cons rfl (.cons rfl (.cons rfl (.cons rfl (.nil _)))))))))))))))))))))))))))))))))))))))))))) ?_
    refine cd_region ?_
    refine st (ev_add64 rfl rfl (by omega) (by omega)) rfl rfl rfl ?_
    refine st (ev_move rfl) rfl rfl rfl ?_
    refine op_nil ?_
    have e0 : 0 + (i : Int).toNat * 1 = i := by omega
    have e1 : (4 * (i : Int)).toNat * 1 = 4 * i := by omega
    have e2 : (4 * (i : Int) + 1).toNat * 1 = 4 * i + 1 := by omega
    have e3 : (4 * (i : Int) + 2).toNat * 1 = 4 * i + 2 := by omega
    have e4 : (4 * (i : Int) + 3).toNat * 1 = 4 * i + 3 := by omega
    refine ax_heq (i := 6) (v' := .blk b6 (.cells (ints .u32 (w1 b (i + 1))).toArray 169)) rfl (by simp only [e0, e1, e2, e3, e4]; rfl) ?_
    exact at_again (i + 1) (by omega) (by omega) (.cons rfl (.cons rfl (.cons rfl (.cons rfl (.cons rfl (.nil _)))))) (.cons rfl (.cons rfl (.nil _))) (.cons rfl (.cons rfl (.nil _)))
  ·
    obtain rfl : i = 16 := by omega
    refine cd_exit ?_
    refine ax_then_exit ?_
    refine ax_then_exit ?_
    refine ax_block_hit ?_
    refine ax_then ?_
    refine At.regs (L' := [(0, _), (2, _), (6, _)]) (.cons rfl (.cons rfl (.cons rfl (.nil _)))) ?_
    refine cd_seq ?_
    refine cd_seq ?_
    refine cd_region ?_
    refine st (ev_assign rfl) rfl rfl rfl ?_
    refine op_nil ?_
    refine ax_then ?_
    refine At.regs (L' := [(0, _), (2, _), (6, _), (8, _)]) (.cons rfl (.cons rfl (.cons rfl (.cons rfl (.nil _))))) ?_
    refine cd_block ?_
    refine cd_loop (ι := Nat) (fun i => i ≤ 48) (fun i => 48 - i)
        (fun i => [(0, .pointer (some ⟨bs, 0, none⟩)), (2, .pointer (some ⟨bk, 0, none⟩)), (6, .pointer (some ⟨b6, 0, none⟩)), (8, .int .i64 (16 + (i : Int)))])
        (fun i => [(0, .blk bs (.cells (ints .u32 (s)).toArray TS)), (6, .blk b6 (.cells (ints .u32 (w2 (w1 b 16) i)).toArray 169))])
        (fun i => [(1, .sl p 1 (ints .u8 b)), (2, .mem bk 0 (ints .u32 k))])
        0 (by omega) (.cons rfl (.cons rfl (.cons rfl (.cons rfl (.nil _))))) (.cons rfl (.cons rfl (.nil _))) (.cons rfl (.cons rfl (.nil _))) (fun i hi => ?_)
    have hw2 := w2_len (w1 b 16) i
    rw [w1_len] at hw2
    refine cd_seq ?_
    refine cd_seq ?_
    refine cd_region ?_
    refine st (ev_move rfl) rfl rfl rfl ?_
    refine st (ev_lss rfl rfl) rfl rfl rfl ?_
    refine op_nil ?_
    refine ax_then ?_
    refine At.regs (L' := [(0, _), (2, _), (6, _), (8, _), (53, _), (54, _)]) (.cons rfl (.cons rfl (.cons rfl (.cons rfl (.cons rfl (.cons rfl (.nil _))))))) ?_
    refine cd_if rfl (fun hc54 => ?_) (fun hc54 => ?_)
    ·
      refine cd_skip ?_
      refine ax_then ?_
      refine At.regs (L' := [(0, _), (2, _), (6, _), (8, _), (53, _), (54, _)]) (.cons rfl (.cons rfl (.cons rfl (.cons rfl (.cons rfl (.cons rfl (.nil _))))))) ?_
      refine cd_seq ?_
      refine cd_block ?_
      refine cd_open_tail 22 hmix (by decide +kernel) ?_
      refine qt (ev_move rfl) rfl rfl rfl ?_
      refine qt (ev_move rfl) rfl rfl rfl ?_
      refine qt (ev_sub64 rfl rfl (by omega) (by omega)) rfl rfl rfl ?_
      refine qt (ev_indexAddr_arr Try.underlying169 ty167 rfl rfl (by omega) (by omega)) rfl rfl rfl ?_
      refine qt (ld_blk1 (h := 6) ty167 rfl rfl rfl (ints_get _ _ _ (by first | omega | (simp only [List.length_append, List.length_cons, List.length_nil, List.length_set, List.length_replicate, List.length_take, List.length_drop, ints_length, wr_length] <;> omega) | rfl))) rfl rfl rfl ?_
      refine qt (ev_move rfl) rfl rfl rfl ?_
      refine qt (ev_sub64 rfl rfl (by omega) (by omega)) rfl rfl rfl ?_
      refine qt (ev_indexAddr_arr Try.underlying169 ty167 rfl rfl (by omega) (by omega)) rfl rfl rfl ?_
      refine qt (ld_blk1 (h := 6) ty167 rfl rfl rfl (ints_get _ _ _ (by first | omega | (simp only [List.length_append, List.length_cons, List.length_nil, List.length_set, List.length_replicate, List.length_take, List.length_drop, ints_length, wr_length] <;> omega) | rfl))) rfl rfl rfl ?_
      refine qt_callv has131 rfl (fun w1 sw => s0_any _ w1) rfl rfl ?_
      refine qt (ev_add rfl rfl) rfl rfl rfl ?_
      refine qt (ev_move rfl) rfl rfl rfl ?_
      refine qt (ev_sub64 rfl rfl (by omega) (by omega)) rfl rfl rfl ?_
      refine qt (ev_indexAddr_arr Try.underlying169 ty167 rfl rfl (by omega) (by omega)) rfl rfl rfl ?_
      refine qt (ld_blk1 (h := 6) ty167 rfl rfl rfl (ints_get _ _ _ (by first | omega | (simp only [List.length_append, List.length_cons, List.length_nil, List.length_set, List.length_replicate, List.length_take, List.length_drop, ints_length, wr_length] <;> omega) | rfl))) rfl rfl rfl ?_
      refine qt (ev_add rfl rfl) rfl rfl rfl ?_
      refine qt (ev_move rfl) rfl rfl rfl ?_
      refine qt (ev_sub64 rfl rfl (by omega) (by omega)) rfl rfl rfl ?_
      refine qt (ev_indexAddr_arr Try.underlying169 ty167 rfl rfl (by omega) (by omega)) rfl rfl rfl ?_
      refine qt (ld_blk1 (h := 6) ty167 rfl rfl rfl (ints_get _ _ _ (by first | omega | (simp only [List.length_append, List.length_cons, List.length_nil, List.length_set, List.length_replicate, List.length_take, List.length_drop, ints_length, wr_length] <;> omega) | rfl))) rfl rfl rfl ?_
      refine qt_callv has132 rfl (fun w1 sw => s1_any _ w1) rfl rfl ?_
      refine qt (ev_add rfl rfl) rfl rfl rfl ?_
      refine qt_end ?_
      refine st (ev_indexAddr_arr Try.underlying169 ty167 rfl rfl (by omega) (by omega)) rfl rfl rfl ?_
      refine st_store1 6 ty167 rfl rfl rfl rfl (by first | omega | (simp only [List.length_append, List.length_cons, List.length_nil, List.length_set, List.length_replicate, List.length_take, List.length_drop, ints_length, wr_length] <;> omega) | rfl) rfl ?_
      refine at_heq (i := 6) rfl (by rw [ints_set]) ?_
      refine op_nil ?_
      refine ax_block ?_
      refine ax_then ?_
      refine At.regs (L' := [(0, _), (2, _), (6, _), (8, _), (53, _), (54, _), (57, _), (58, _), (59, _), (60, _), (61, _), (62, _), (63, _), (64, _), (65, _), (66, _), (67, _), (68, _), (69, _), (70, _), (71, _), (72, _), (73, _), (74, _), (75, _), (76, _), (77, _), (78, _), (79, _)]) (.cons rfl (.cons rfl (.cons rfl (.cons rfl (.cons rfl (.cons rfl (.cons rfl (.cons rfl (.cons rfl (.cons rfl (.cons rfl (.cons rfl (.cons rfl (.cons rfl (.cons rfl (.cons rfl (.cons rfl (.cons rfl (.cons rfl (.cons rfl (.cons rfl (.cons rfl (.cons rfl (.cons rfl (.cons rfl (.cons rfl (.cons rfl (.cons rfl (.cons rfl (.nil _)))))))))))))))))))))))))))))) ?_
      refine cd_region ?_
      refine st (ev_move rfl) rfl rfl rfl ?_
      refine st (ev_add64 rfl rfl (by omega) (by omega)) rfl rfl rfl ?_
      refine st (ev_assign rfl) rfl rfl rfl ?_
      refine op_nil ?_
      have e0 : 0 + (16 + (i : Int)).toNat * 1 = 16 + i := by omega
      have e1 : 0 + (16 + (i : Int) - 16).toNat * 1 = 16 + i - 16 := by omega
      have e2 : 0 + (16 + (i : Int) - 15).toNat * 1 = 16 + i - 15 := by omega
      have e3 : 0 + (16 + (i : Int) - 7).toNat * 1 = 16 + i - 7 := by omega
      have e4 : 0 + (16 + (i : Int) - 2).toNat * 1 = 16 + i - 2 := by omega
      refine ax_heq (i := 6) (v' := .blk b6 (.cells (ints .u32 (w2 (w1 b 16) (i + 1))).toArray 169)) rfl (by simp only [e0, e1, e2, e3, e4]; rfl) ?_
      exact at_again (i + 1) (by omega) (by omega) (.cons rfl (.cons rfl (.cons rfl (.cons rfl (.nil _))))) (.cons rfl (.cons rfl (.nil _))) (.cons rfl (.cons rfl (.nil _)))
    ·
      obtain rfl : i = 48 := by omega
      refine cd_exit ?_
      refine ax_then_exit ?_
      refine ax_then_exit ?_
      refine ax_block_hit ?_
      refine ax_then ?_
      refine At.regs (L' := [(0, _), (2, _), (6, _)]) (.cons rfl (.cons rfl (.cons rfl (.nil _)))) ?_
      refine cd_seq ?_
      refine cd_region ?_
      refine st (ev_move rfl) rfl rfl rfl ?_
      refine st (ev_nilCheck rfl) rfl rfl rfl ?_
      refine st (ld_blk_all (h := 0) ty173 rfl rfl rfl (by first | omega | (simp only [List.length_append, List.length_cons, List.length_nil, List.length_set, List.length_replicate, List.length_take, List.length_drop, ints_length, wr_length] <;> omega) | rfl)) rfl rfl rfl ?_
      refine st_alloc (h := 9) ty173 rfl rfl rfl (fun b9 => ?_)
      refine st_store_all 9 ty173 rfl rfl rfl rfl (by first | omega | (simp only [List.length_append, List.length_cons, List.length_nil, List.length_set, List.length_replicate, List.length_take, List.length_drop, ints_length, wr_length] <;> omega) | rfl) (ints_one _ _) (by first | omega | (simp only [List.length_append, List.length_cons, List.length_nil, List.length_set, List.length_replicate, List.length_take, List.length_drop, ints_length, wr_length] <;> omega) | rfl) rfl ?_
      refine op_nil ?_
      refine ax_then ?_
      refine At.regs (L' := [(0, _), (2, _), (6, _), (9, _)]) (.cons rfl (.cons rfl (.cons rfl (.cons rfl (.nil _))))) ?_
      refine cd_seq ?_
      refine cd_seq ?_
      refine cd_region ?_
      refine st (ev_move rfl) rfl rfl rfl ?_
      refine op_nil ?_
      refine ax_then ?_
      refine At.regs (L' := [(0, _), (2, _), (6, _), (9, _), (83, _)]) (.cons rfl (.cons rfl (.cons rfl (.cons rfl (.cons rfl (.nil _)))))) ?_
      refine cd_block ?_
      refine cd_loop (ι := Nat) (fun i => i ≤ 64) (fun i => 64 - i)
          (fun i => [(0, .pointer (some ⟨bs, 0, none⟩)), (2, .pointer (some ⟨bk, 0, none⟩)), (6, .pointer (some ⟨b6, 0, none⟩)), (9, .pointer (some ⟨b9, 0, none⟩)), (83, .int .i64 (i : Int))])
          (fun i => [(0, .blk bs (.cells (ints .u32 (s)).toArray TS)), (6, .blk b6 (.cells (ints .u32 (sched b)).toArray 169)), (9, .blk b9 (.cells (ints .u32 (rnds k (sched b) s i)).toArray 173))])
          (fun i => [(1, .sl p 1 (ints .u8 b)), (2, .mem bk 0 (ints .u32 k))])
          0 (by omega) (.cons rfl (.cons rfl (.cons rfl (.cons rfl (.cons rfl (.nil _)))))) (.cons rfl (.cons rfl (.cons rfl (.nil _)))) (.cons rfl (.cons rfl (.nil _))) (fun i hi => ?_)
      have hv := rnds_len k (sched b) s hs i
      have hw := sched_len b
      refine cd_seq ?_
      refine cd_region ?_
      refine st (ev_lss rfl rfl) rfl rfl rfl ?_
      refine op_nil ?_
      refine ax_then ?_
      refine At.regs (L' := [(0, _), (2, _), (6, _), (9, _), (83, _), (84, _)]) (.cons rfl (.cons rfl (.cons rfl (.cons rfl (.cons rfl (.cons rfl (.nil _))))))) ?_
      refine cd_seq ?_
      refine cd_if rfl (fun hc84 => ?_) (fun hc84 => ?_)
      ·
        refine cd_skip ?_
        refine ax_then ?_
        refine At.regs (L' := [(0, _), (2, _), (6, _), (9, _), (83, _), (84, _)]) (.cons rfl (.cons rfl (.cons rfl (.cons rfl (.cons rfl (.cons rfl (.nil _))))))) ?_
        refine cd_seq ?_
        refine cd_block ?_
        refine cd_seq ?_
        refine cd_region ?_
        refine st (ev_move rfl) rfl rfl rfl ?_
        refine st (ev_assign rfl) rfl rfl rfl ?_
        refine op_nil ?_
        refine ax_then ?_
        refine At.regs (L' := [(0, _), (2, _), (6, _), (9, _), (10, _), (83, _), (84, _), (85, _)]) (.cons rfl (.cons rfl (.cons rfl (.cons rfl (.cons rfl (.cons rfl (.cons rfl (.cons rfl (.nil _))))))))) ?_
        refine cd_seq ?_
        refine cd_open hmix (by decide +kernel) ?_
        refine qt (ev_indexAddr_arrm 7 rfl Try.underlying173 ty167 rfl rfl (by decide) (by decide)) rfl rfl rfl ?_
        refine qt (ld_blk1 (h := 9) ty167 rfl rfl rfl (ints_get _ _ _ (by first | omega | (simp only [List.length_append, List.length_cons, List.length_nil, List.length_set, List.length_replicate, List.length_take, List.length_drop, ints_length, wr_length] <;> omega) | rfl))) rfl rfl rfl ?_
        refine qt (ev_indexAddr_arrm 4 rfl Try.underlying173 ty167 rfl rfl (by decide) (by decide)) rfl rfl rfl ?_
        refine qt (ld_blk1 (h := 9) ty167 rfl rfl rfl (ints_get _ _ _ (by first | omega | (simp only [List.length_append, List.length_cons, List.length_nil, List.length_set, List.length_replicate, List.length_take, List.length_drop, ints_length, wr_length] <;> omega) | rfl))) rfl rfl rfl ?_
        refine qt_callv has133 rfl (fun w1 sw => b1_any _ w1) rfl rfl ?_
        refine qt (ev_add rfl rfl) rfl rfl rfl ?_
        refine qt (ev_indexAddr_arrm 4 rfl Try.underlying173 ty167 rfl rfl (by decide) (by decide)) rfl rfl rfl ?_
        refine qt (ld_blk1 (h := 9) ty167 rfl rfl rfl (ints_get _ _ _ (by first | omega | (simp only [List.length_append, List.length_cons, List.length_nil, List.length_set, List.length_replicate, List.length_take, List.length_drop, ints_length, wr_length] <;> omega) | rfl))) rfl rfl rfl ?_
        refine qt (ev_indexAddr_arrm 5 rfl Try.underlying173 ty167 rfl rfl (by decide) (by decide)) rfl rfl rfl ?_
        refine qt (ld_blk1 (h := 9) ty167 rfl rfl rfl (ints_get _ _ _ (by first | omega | (simp only [List.length_append, List.length_cons, List.length_nil, List.length_set, List.length_replicate, List.length_take, List.length_drop, ints_length, wr_length] <;> omega) | rfl))) rfl rfl rfl ?_
        refine qt (ev_indexAddr_arrm 6 rfl Try.underlying173 ty167 rfl rfl (by decide) (by decide)) rfl rfl rfl ?_
        refine qt (ld_blk1 (h := 9) ty167 rfl rfl rfl (ints_get _ _ _ (by first | omega | (simp only [List.length_append, List.length_cons, List.length_nil, List.length_set, List.length_replicate, List.length_take, List.length_drop, ints_length, wr_length] <;> omega) | rfl))) rfl rfl rfl ?_
        refine qt_callv has134 rfl (fun w1 sw => ch_any _ _ _ w1) rfl rfl ?_
        refine qt (ev_add rfl rfl) rfl rfl rfl ?_
        refine qt (ev_move rfl) rfl rfl rfl ?_
        refine qt (ev_move rfl) rfl rfl rfl ?_
        refine qt (ev_nilCheck rfl) rfl rfl rfl ?_
        refine qt (ev_indexAddr_arr Try.underlying169 ty167 rfl rfl (by omega) (by omega)) rfl rfl rfl ?_
        refine qt (ld_mem1 (h := 2) ty167 rfl rfl rfl (Nat.zero_add _).symm (ints_get _ _ _ (by first | omega | (simp only [List.length_append, List.length_cons, List.length_nil, List.length_set, List.length_replicate, List.length_take, List.length_drop, ints_length, wr_length] <;> omega) | rfl))) rfl rfl rfl ?_
        refine qt (ev_add rfl rfl) rfl rfl rfl ?_
        refine qt (ev_move rfl) rfl rfl rfl ?_
        refine qt (ev_indexAddr_arr Try.underlying169 ty167 rfl rfl (by omega) (by omega)) rfl rfl rfl ?_
        refine qt (ld_blk1 (h := 6) ty167 rfl rfl rfl (ints_get _ _ _ (by first | omega | (simp only [List.length_append, List.length_cons, List.length_nil, List.length_set, List.length_replicate, List.length_take, List.length_drop, ints_length, wr_length] <;> omega) | rfl))) rfl rfl rfl ?_
        refine qt (ev_add rfl rfl) rfl rfl rfl ?_
        refine qt (ev_assign rfl) rfl rfl rfl ?_
        refine qt_end ?_
        refine op_nil ?_
        refine ax_then ?_
        refine At.regs (L' := [(0, _), (2, _), (6, _), (9, _), (10, _), (11, _), (83, _), (84, _), (85, _), (86, _), (87, _), (88, _), (89, _), (90, _), (91, _), (92, _), (93, _), (94, _), (95, _), (96, _), (97, _), (98, _), (99, _), (100, _), (101, _), (102, _), (103, _), (104, _), (105, _), (106, _), (107, _), (108, _), (109, _)]) (.cons rfl (.cons rfl (.cons rfl (.cons rfl (.cons rfl (.cons rfl (.cons rfl (.cons rfl (.cons rfl (.cons rfl (.cons rfl (.cons rfl (.cons rfl (.cons rfl (.cons rfl (.cons rfl (.cons rfl (.cons rfl (.cons rfl (.cons rfl (.cons rfl (.cons rfl (.cons rfl (.cons rfl (.cons rfl (.cons rfl (.cons rfl (.cons rfl (.cons rfl (.cons rfl (.cons rfl (.cons rfl (.cons rfl (.nil _)))))))))))))))))))))))))))))))))) ?_
        refine cd_seq ?_
        refine cd_open hmix (by decide +kernel) ?_
        refine qt (ev_indexAddr_arrm 0 rfl Try.underlying173 ty167 rfl rfl (by decide) (by decide)) rfl rfl rfl ?_
        refine qt (ld_blk1 (h := 9) ty167 rfl rfl rfl (ints_get _ _ _ (by first | omega | (simp only [List.length_append, List.length_cons, List.length_nil, List.length_set, List.length_replicate, List.length_take, List.length_drop, ints_length, wr_length] <;> omega) | rfl))) rfl rfl rfl ?_
        refine qt_callv has135 rfl (fun w1 sw => b0_any _ w1) rfl rfl ?_
        refine qt (ev_indexAddr_arrm 0 rfl Try.underlying173 ty167 rfl rfl (by decide) (by decide)) rfl rfl rfl ?_
        refine qt (ld_blk1 (h := 9) ty167 rfl rfl rfl (ints_get _ _ _ (by first | omega | (simp only [List.length_append, List.length_cons, List.length_nil, List.length_set, List.length_replicate, List.length_take, List.length_drop, ints_length, wr_length] <;> omega) | rfl))) rfl rfl rfl ?_
        refine qt (ev_indexAddr_arrm 1 rfl Try.underlying173 ty167 rfl rfl (by decide) (by decide)) rfl rfl rfl ?_
        refine qt (ld_blk1 (h := 9) ty167 rfl rfl rfl (ints_get _ _ _ (by first | omega | (simp only [List.length_append, List.length_cons, List.length_nil, List.length_set, List.length_replicate, List.length_take, List.length_drop, ints_length, wr_length] <;> omega) | rfl))) rfl rfl rfl ?_
        refine qt (ev_indexAddr_arrm 2 rfl Try.underlying173 ty167 rfl rfl (by decide) (by decide)) rfl rfl rfl ?_
        refine qt (ld_blk1 (h := 9) ty167 rfl rfl rfl (ints_get _ _ _ (by first | omega | (simp only [List.length_append, List.length_cons, List.length_nil, List.length_set, List.length_replicate, List.length_take, List.length_drop, ints_length, wr_length] <;> omega) | rfl))) rfl rfl rfl ?_
        refine qt_callv has136 rfl (fun w1 sw => mj_any _ _ _ w1) rfl rfl ?_
        refine qt (ev_add rfl rfl) rfl rfl rfl ?_
        refine qt (ev_assign rfl) rfl rfl rfl ?_
        refine qt_end ?_
        refine op_nil ?_
        refine ax_then ?_
        refine At.regs (L' := [(0, _), (2, _), (6, _), (9, _), (10, _), (11, _), (12, _), (83, _), (84, _), (85, _), (86, _), (87, _), (88, _), (89, _), (90, _), (91, _), (92, _), (93, _), (94, _), (95, _), (96, _), (97, _), (98, _), (99, _), (100, _), (101, _), (102, _), (103, _), (104, _), (105, _), (106, _), (107, _), (108, _), (109, _), (110, _), (111, _), (112, _), (113, _), (114, _), (115, _), (116, _), (117, _), (118, _), (119, _), (120, _)]) (.cons rfl (.cons rfl (.cons rfl (.cons rfl (.cons rfl (.cons rfl (.cons rfl (.cons rfl (.cons rfl (.cons rfl (.cons rfl (.cons rfl (.cons rfl (.cons rfl (.cons rfl (.cons rfl (.cons rfl (.cons rfl (.cons rfl (.cons rfl (.cons rfl (.cons rfl (.cons rfl (.cons rfl (.cons rfl (.cons rfl (.cons rfl (.cons rfl (.cons rfl (.cons rfl (.cons rfl (.cons rfl (.cons rfl (.cons rfl (.cons rfl (.cons rfl (.cons rfl (.cons rfl (.cons rfl (.cons rfl (.cons rfl (.cons rfl (.cons rfl (.cons rfl (.cons rfl (.nil _)))))))))))))))))))))))))))))))))))))))))))))) ?_
        refine cd_region ?_
        refine st (ev_move rfl) rfl rfl rfl ?_
        refine st (ev_move rfl) rfl rfl rfl ?_
        refine st (ev_add rfl rfl) rfl rfl rfl ?_
        refine st (ev_indexAddr_arrm 0 rfl Try.underlying173 ty167 rfl rfl (by decide) (by decide)) rfl rfl rfl ?_
        refine st (ld_blk1 (h := 9) ty167 rfl rfl rfl (ints_get _ _ _ (by first | omega | (simp only [List.length_append, List.length_cons, List.length_nil, List.length_set, List.length_replicate, List.length_take, List.length_drop, ints_length, wr_length] <;> omega) | rfl))) rfl rfl rfl ?_
        refine st (ev_indexAddr_arrm 1 rfl Try.underlying173 ty167 rfl rfl (by decide) (by decide)) rfl rfl rfl ?_
        refine st (ld_blk1 (h := 9) ty167 rfl rfl rfl (ints_get _ _ _ (by first | omega | (simp only [List.length_append, List.length_cons, List.length_nil, List.length_set, List.length_replicate, List.length_take, List.length_drop, ints_length, wr_length] <;> omega) | rfl))) rfl rfl rfl ?_
        refine st (ev_indexAddr_arrm 2 rfl Try.underlying173 ty167 rfl rfl (by decide) (by decide)) rfl rfl rfl ?_
        refine st (ld_blk1 (h := 9) ty167 rfl rfl rfl (ints_get _ _ _ (by first | omega | (simp only [List.length_append, List.length_cons, List.length_nil, List.length_set, List.length_replicate, List.length_take, List.length_drop, ints_length, wr_length] <;> omega) | rfl))) rfl rfl rfl ?_
        refine st (ev_indexAddr_arrm 3 rfl Try.underlying173 ty167 rfl rfl (by decide) (by decide)) rfl rfl rfl ?_
        refine st (ld_blk1 (h := 9) ty167 rfl rfl rfl (ints_get _ _ _ (by first | omega | (simp only [List.length_append, List.length_cons, List.length_nil, List.length_set, List.length_replicate, List.length_take, List.length_drop, ints_length, wr_length] <;> omega) | rfl))) rfl rfl rfl ?_
        refine st (ev_move rfl) rfl rfl rfl ?_
        refine st (ev_add rfl rfl) rfl rfl rfl ?_
        refine st (ev_indexAddr_arrm 4 rfl Try.underlying173 ty167 rfl rfl (by decide) (by decide)) rfl rfl rfl ?_
        refine st (ld_blk1 (h := 9) ty167 rfl rfl rfl (ints_get _ _ _ (by first | omega | (simp only [List.length_append, List.length_cons, List.length_nil, List.length_set, List.length_replicate, List.length_take, List.length_drop, ints_length, wr_length] <;> omega) | rfl))) rfl rfl rfl ?_
        refine st (ev_indexAddr_arrm 5 rfl Try.underlying173 ty167 rfl rfl (by decide) (by decide)) rfl rfl rfl ?_
        refine st (ld_blk1 (h := 9) ty167 rfl rfl rfl (ints_get _ _ _ (by first | omega | (simp only [List.length_append, List.length_cons, List.length_nil, List.length_set, List.length_replicate, List.length_take, List.length_drop, ints_length, wr_length] <;> omega) | rfl))) rfl rfl rfl ?_
        refine st (ev_indexAddr_arrm 6 rfl Try.underlying173 ty167 rfl rfl (by decide) (by decide)) rfl rfl rfl ?_
        refine st (ld_blk1 (h := 9) ty167 rfl rfl rfl (ints_get _ _ _ (by first | omega | (simp only [List.length_append, List.length_cons, List.length_nil, List.length_set, List.length_replicate, List.length_take, List.length_drop, ints_length, wr_length] <;> omega) | rfl))) rfl rfl rfl ?_
        refine st (ev_build_ints (xs := [_, _, _, _, _, _, _, _]) (zs := List.replicate 8 0) ty173 rfl ty167 rfl rfl rfl rfl rfl) rfl rfl rfl ?_
        refine st_store_all 9 ty173 rfl rfl rfl rfl (by first | omega | (simp only [List.length_append, List.length_cons, List.length_nil, List.length_set, List.length_replicate, List.length_take, List.length_drop, ints_length, wr_length] <;> omega) | rfl) (ints_one _ _) (by first | omega | (simp only [List.length_append, List.length_cons, List.length_nil, List.length_set, List.length_replicate, List.length_take, List.length_drop, ints_length, wr_length] <;> omega) | rfl) rfl ?_
        refine op_nil ?_
        refine ax_block ?_
        refine ax_then ?_
        refine At.regs (L' := [(0, _), (2, _), (6, _), (9, _), (10, _), (11, _), (12, _), (83, _), (84, _), (85, _), (86, _), (87, _), (88, _), (89, _), (90, _), (91, _), (92, _), (93, _), (94, _), (95, _), (96, _), (97, _), (98, _), (99, _), (100, _), (101, _), (102, _), (103, _), (104, _), (105, _), (106, _), (107, _), (108, _), (109, _), (110, _), (111, _), (112, _), (113, _), (114, _), (115, _), (116, _), (117, _), (118, _), (119, _), (120, _), (121, _), (122, _), (123, _), (124, _), (125, _), (126, _), (127, _), (128, _), (129, _), (130, _), (131, _), (132, _), (133, _), (134, _), (135, _), (136, _), (137, _), (138, _), (139, _), (140, _)]) (.cons rfl (.cons rfl (.cons rfl (.cons rfl (.cons rfl (.cons rfl (.cons rfl (.cons rfl (.cons rfl (.cons rfl (.cons rfl (.cons rfl (.cons rfl (.cons rfl (.cons rfl (.cons rfl (.cons rfl (.cons rfl (.cons rfl (.cons rfl (.cons rfl (.cons rfl (.cons rfl (.cons rfl (.cons rfl (.cons rfl (.cons rfl (.cons rfl (.cons rfl (.cons rfl (.cons rfl (.cons rfl (.cons rfl (.cons rfl (.cons rfl (.cons rfl (.cons rfl (.cons rfl (.cons rfl (.cons rfl (.cons rfl (.cons rfl (.cons rfl (.cons rfl (.cons rfl (.cons rfl (.cons rfl (.cons rfl (.cons rfl (.cons rfl (.cons rfl (.cons rfl (.cons rfl (.cons rfl (.cons rfl (.cons rfl (.cons rfl (.cons rfl (.cons rfl (.cons rfl (.cons rfl (.cons rfl (.cons rfl (.cons rfl (.cons rfl (.nil _)))))))))))))))))))))))))))))))))))))))))))))))))))))))))))))))))) ?_
        refine cd_region ?_
        refine st (ev_add64 rfl rfl (by omega) (by omega)) rfl rfl rfl ?_
        refine st (ev_move rfl) rfl rfl rfl ?_
        refine op_nil ?_
        have e0 : 0 + (i : Int).toNat * 1 = i := by omega
        refine ax_heq (i := 9) (v' := .blk b9 (.cells (ints .u32 (rnds k (sched b) s (i + 1))).toArray 173)) rfl (by simp only [e0]; simp only [rnds, rnd, tt, uu, add]) ?_
        exact at_again (i + 1) (by omega) (by omega) (.cons rfl (.cons rfl (.cons rfl (.cons rfl (.cons rfl (.nil _)))))) (.cons rfl (.cons rfl (.cons rfl (.nil _)))) (.cons rfl (.cons rfl (.nil _)))
      ·
        obtain rfl : i = 64 := by omega
        refine cd_exit ?_
        refine ax_then_exit ?_
        refine ax_then_exit ?_
        refine ax_block_hit ?_
        refine ax_then ?_
        refine At.regs (L' := [(0, _), (9, _)]) (.cons rfl (.cons rfl (.nil _))) ?_
        refine cd_seq ?_
        refine cd_region ?_
        refine st (ev_move rfl) rfl rfl rfl ?_
        refine op_nil ?_
        refine ax_then ?_
        refine At.regs (L' := [(0, _), (9, _), (142, _)]) (.cons rfl (.cons rfl (.cons rfl (.nil _)))) ?_
        refine cd_block ?_
        refine cd_loop (ι := Nat) (fun i => i ≤ 8) (fun i => 8 - i)
            (fun i => [(0, .pointer (some ⟨bs, 0, none⟩)), (9, .pointer (some ⟨b9, 0, none⟩)), (142, .int .i64 (i : Int))])
            (fun i => [(0, .blk bs (.cells (ints .u32 (adds s (rnds k (sched b) s 64) i)).toArray TS)), (9, .blk b9 (.cells (ints .u32 (rnds k (sched b) s 64)).toArray 173))])
            (fun i => [(1, .sl p 1 (ints .u8 b)), (2, .mem bk 0 (ints .u32 k))])
            0 (by omega) (.cons rfl (.cons rfl (.cons rfl (.nil _)))) (.cons rfl (.cons rfl (.nil _))) (.cons rfl (.cons rfl (.nil _))) (fun i hi => ?_)
        have hv := rnds_len k (sched b) s hs 64
        have hw := adds_len s (rnds k (sched b) s 64) i
        refine cd_seq ?_
        refine cd_region ?_
        refine st (ev_lss rfl rfl) rfl rfl rfl ?_
        refine op_nil ?_
        refine ax_then ?_
        refine At.regs (L' := [(0, _), (9, _), (142, _), (143, _)]) (.cons rfl (.cons rfl (.cons rfl (.cons rfl (.nil _))))) ?_
        refine cd_seq ?_
        refine cd_if rfl (fun hc143 => ?_) (fun hc143 => ?_)
        ·
          refine cd_skip ?_
          refine ax_then ?_
          refine At.regs (L' := [(0, _), (9, _), (142, _), (143, _)]) (.cons rfl (.cons rfl (.cons rfl (.cons rfl (.nil _))))) ?_
          refine cd_seq ?_
          refine cd_block ?_
          refine cd_seq ?_
          refine cd_region ?_
          refine st (ev_move rfl) rfl rfl rfl ?_
          refine st (ev_assign rfl) rfl rfl rfl ?_
          refine op_nil ?_
          refine ax_then ?_
          refine At.regs (L' := [(0, _), (9, _), (13, _), (142, _), (143, _), (144, _)]) (.cons rfl (.cons rfl (.cons rfl (.cons rfl (.cons rfl (.cons rfl (.nil _))))))) ?_
          refine cd_open_tail 10 hmix (by decide +kernel) ?_
          refine qt (ev_move rfl) rfl rfl rfl ?_
          refine qt (ev_move rfl) rfl rfl rfl ?_
          refine qt (ev_nilCheck rfl) rfl rfl rfl ?_
          refine qt (ev_indexAddr_arr Try.underlying173 ty167 rfl rfl (by omega) (by omega)) rfl rfl rfl ?_
          refine qt (ld_blk1 (h := 0) ty167 rfl rfl rfl (ints_get _ _ _ (by first | omega | (simp only [List.length_append, List.length_cons, List.length_nil, List.length_set, List.length_replicate, List.length_take, List.length_drop, ints_length, wr_length] <;> omega) | rfl))) rfl rfl rfl ?_
          refine qt (ev_move rfl) rfl rfl rfl ?_
          refine qt (ev_indexAddr_arr Try.underlying173 ty167 rfl rfl (by omega) (by omega)) rfl rfl rfl ?_
          refine qt (ld_blk1 (h := 9) ty167 rfl rfl rfl (ints_get _ _ _ (by first | omega | (simp only [List.length_append, List.length_cons, List.length_nil, List.length_set, List.length_replicate, List.length_take, List.length_drop, ints_length, wr_length] <;> omega) | rfl))) rfl rfl rfl ?_
          refine qt (ev_add rfl rfl) rfl rfl rfl ?_
          refine qt (ev_nilCheck rfl) rfl rfl rfl ?_
          refine qt_end ?_
          refine st (ev_indexAddr_arr Try.underlying173 ty167 rfl rfl (by omega) (by omega)) rfl rfl rfl ?_
          refine st_store1 0 ty167 rfl rfl rfl rfl (by first | omega | (simp only [List.length_append, List.length_cons, List.length_nil, List.length_set, List.length_replicate, List.length_take, List.length_drop, ints_length, wr_length] <;> omega) | rfl) rfl ?_
          refine at_heq (i := 0) rfl (by rw [ints_set]) ?_
          refine op_nil ?_
          refine ax_block ?_
          refine ax_then ?_
          refine At.regs (L' := [(0, _), (9, _), (13, _), (142, _), (143, _), (144, _), (145, _), (146, _), (147, _), (148, _), (149, _), (150, _), (151, _), (152, _), (153, _), (154, _), (155, _)]) (.cons rfl (.cons rfl (.cons rfl (.cons rfl (.cons rfl (.cons rfl (.cons rfl (.cons rfl (.cons rfl (.cons rfl (.cons rfl (.cons rfl (.cons rfl (.cons rfl (.cons rfl (.cons rfl (.cons rfl (.nil _)))))))))))))))))) ?_
          refine cd_region ?_
          refine st (ev_add64 rfl rfl (by omega) (by omega)) rfl rfl rfl ?_
          refine st (ev_move rfl) rfl rfl rfl ?_
          refine op_nil ?_
          have e0 : 0 + (i : Int).toNat * 1 = i := by omega
          refine ax_heq (i := 0) (v' := .blk bs (.cells (ints .u32 (adds s (rnds k (sched b) s 64) (i + 1))).toArray TS)) rfl (by simp only [e0]; rfl) ?_
          exact at_again (i + 1) (by omega) (by omega) (.cons rfl (.cons rfl (.cons rfl (.nil _)))) (.cons rfl (.cons rfl (.nil _))) (.cons rfl (.cons rfl (.nil _)))
        ·
          obtain rfl : i = 8 := by omega
          refine cd_exit ?_
          refine ax_then_exit ?_
          refine ax_then_exit ?_
          refine ax_block_hit ?_
          refine rt_none (.inr rfl) Try.results126 ?_
          exact fun w1 sw => ⟨(), trivial, rfl, sw.gives (.cons rfl (.nil _))⟩
end Go.Proofs.Ytgfnmolbagilmaa

namespace Go.Proofs.Ytgfnmolbagilmaa
open Go Go.RowKit Fw
open Sha
set_option linter.unusedVariables false
set_option linter.unusedSimpArgs false
set_option maxRecDepth 20000 in
set_option maxHeartbeats 1000000 in
theorem numbers_any (w : World) : Calls Try.prog 125 #[] w (PostV w (.agg (ints .u32 K).toArray)) := by
  refine calls_at (vs := []) (X := []) (H := []) (F := []) 2 Try.func125 rfl rfl rfl (Sat.start0 w) ?_
  refine cd_seq ?_
  refine cd_region ?_
  refine st_alloc (h := 0) ty169 rfl rfl rfl (fun b0 => ?_)
  refine op_nil ?_
  refine ax_then ?_
  refine At.regs (L' := [(0, _)]) (.cons rfl (.nil _)) ?_
  refine cd_seq ?_
  refine cd_region ?_
  refine st (ev_build_ints (xs := [_, _, _, _, _, _, _, _, _, _, _, _, _, _, _, _, _, _, _, _, _, _, _, _, _, _, _, _, _, _, _, _, _, _, _, _, _, _, _, _, _, _, _, _, _, _, _, _, _, _, _, _, _, _, _, _, _, _, _, _, _, _, _, _]) (zs := List.replicate 64 0) ty169 rfl ty167 rfl rfl rfl rfl rfl) rfl rfl rfl ?_
  refine st_store_all 0 ty169 rfl rfl rfl rfl (by first | omega | (simp only [List.length_append, List.length_cons, List.length_nil, List.length_set, List.length_replicate, List.length_take, List.length_drop, ints_length, wr_length] <;> omega) | rfl) (ints_one _ _) (by first | omega | (simp only [List.length_append, List.length_cons, List.length_nil, List.length_set, List.length_replicate, List.length_take, List.length_drop, ints_length, wr_length] <;> omega) | rfl) rfl ?_
  refine op_nil ?_
  refine ax_then ?_
  refine At.regs (L' := [(0, _)]) (.cons rfl (.nil _)) ?_
  refine cd_ret ?_
  refine rt_cell (h0 := 0) (.inl rfl) Try.results125 ty169 rfl rfl rfl (by first | omega | (simp only [List.length_append, List.length_cons, List.length_nil, List.length_set, List.length_replicate, List.length_take, List.length_drop, ints_length, wr_length] <;> omega) | rfl) ?_
  exact fun w1 sw => ⟨rfl, by have g := sw.gives (.nil _); exact g⟩
set_option maxRecDepth 20000 in
set_option maxHeartbeats 4000000 in
theorem sum_any (p : Value) (l : List Int) (w : World) (hl : l.length ≤ 140737488352000) (h : Rd w p 1 (ints .u8 l)) : Calls Try.prog 107 #[p] w (PostV w (.agg (ints .u8 (sha l)).toArray)) := by
  refine calls_at (vs := [p]) (X := []) (H := []) (F := [(0, .sl p 1 (ints .u8 l))]) 90 Try.func107 rfl rfl rfl (Sat.rd0 0 h) ?_
  refine cd_seq ?_
  refine cd_region ?_
  refine st_alloc (h := 2) ty55 rfl rfl rfl (fun b2 => ?_)
  refine op_nil ?_
  refine ax_then ?_
  refine At.regs (L' := [(0, _), (2, _)]) (.cons rfl (.cons rfl (.nil _))) ?_
  refine cd_seq ?_
  refine cd_region ?_
  refine st (ev_build_ints (xs := [_, _, _, _, _, _, _, _]) (zs := List.replicate 8 0) ty173 rfl ty167 rfl rfl rfl rfl rfl) rfl rfl rfl ?_
  refine st_alloc (h := 3) ty173 rfl rfl rfl (fun b3 => ?_)
  refine st_store_all 3 ty173 rfl rfl rfl rfl (by first | omega | (simp only [List.length_append, List.length_cons, List.length_nil, List.length_set, List.length_replicate, List.length_take, List.length_drop, ints_length, wr_length] <;> omega) | rfl) (ints_one _ _) (by first | omega | (simp only [List.length_append, List.length_cons, List.length_nil, List.length_set, List.length_replicate, List.length_take, List.length_drop, ints_length, wr_length] <;> omega) | rfl) rfl ?_
  refine op_nil ?_
  refine ax_then ?_
  refine At.regs (L' := [(0, _), (2, _), (3, _)]) (.cons rfl (.cons rfl (.cons rfl (.nil _)))) ?_
  refine cd_seq ?_
  refine cd_region ?_
  refine st_callv has125 rfl (fun w1 sw => numbers_any w1) rfl rfl ?_
  refine st_alloc (h := 4) ty169 rfl rfl rfl (fun b4 => ?_)
  refine st_store_all 4 ty169 rfl rfl rfl rfl (by first | omega | (simp only [List.length_append, List.length_cons, List.length_nil, List.length_set, List.length_replicate, List.length_take, List.length_drop, ints_length, wr_length] <;> omega) | rfl) (ints_one _ _) (by first | omega | (simp only [List.length_append, List.length_cons, List.length_nil, List.length_set, List.length_replicate, List.length_take, List.length_drop, ints_length, wr_length] <;> omega) | rfl) rfl ?_
  refine op_nil ?_
  refine ax_then ?_
  refine At.regs (L' := [(0, _), (2, _), (3, _), (4, _)]) (.cons rfl (.cons rfl (.cons rfl (.cons rfl (.nil _))))) ?_
  refine cd_seq ?_
  refine cd_region ?_
  refine st (ev_move rfl) rfl rfl rfl ?_
  refine st (ev_assign rfl) rfl rfl rfl ?_
  refine op_nil ?_
  refine ax_then ?_
  refine At.regs (L' := [(0, _), (2, _), (3, _), (4, _), (5, _)]) (.cons rfl (.cons rfl (.cons rfl (.cons rfl (.cons rfl (.nil _)))))) ?_
  refine cd_seq ?_
  refine cd_block ?_
  refine at_alias (h := 0) 5 rfl ?_
  refine cd_loop (ι := Nat × Value) (fun x => 64 * x.1 ≤ l.length) (fun x => l.length - 64 * x.1)
      (fun x => [(0, p), (2, .pointer (some ⟨b2, 0, none⟩)), (3, .pointer (some ⟨b3, 0, none⟩)), (4, .pointer (some ⟨b4, 0, none⟩)), (5, x.2)])
      (fun x => [(2, .blk b2 (.cells (ints .u8 (List.replicate 32 0)).toArray 55)), (3, .blk b3 (.cells (ints .u32 (absorb S0 l x.1)).toArray 173)), (4, .blk b4 (.cells (ints .u32 (K)).toArray 169))])
      (fun x => [(0, .sl p 1 (ints .u8 l)), (5, .sl x.2 1 (ints .u8 (l.drop (64 * x.1))))])
      (0, p) (by simp) (.cons rfl (.cons rfl (.cons rfl (.cons rfl (.cons rfl (.nil _)))))) (.cons rfl (.cons rfl (.cons rfl (.nil _)))) (.cons rfl (.cons rfl (.nil _))) (fun x hi => ?_)
  refine cd_seq ?_
  refine cd_seq ?_
  refine cd_region ?_
  refine st (ev_move rfl) rfl rfl rfl ?_
  refine st (ev_len_rdi (h := 5) Try.underlying28 rfl rfl) rfl rfl rfl ?_
  refine st (ev_geq rfl rfl) rfl rfl rfl ?_
  refine op_nil ?_
  refine ax_then ?_
  refine At.regs (L' := [(0, _), (2, _), (3, _), (4, _), (5, _), (17, _), (18, _), (19, _)]) (.cons rfl (.cons rfl (.cons rfl (.cons rfl (.cons rfl (.cons rfl (.cons rfl (.cons rfl (.nil _))))))))) ?_
  refine cd_if rfl (fun hc19 => ?_) (fun hc19 => ?_)
  ·
    refine cd_skip ?_
    refine ax_then ?_
    refine At.regs (L' := [(0, _), (2, _), (3, _), (4, _), (5, _), (17, _), (18, _), (19, _)]) (.cons rfl (.cons rfl (.cons rfl (.cons rfl (.cons rfl (.cons rfl (.cons rfl (.cons rfl (.nil _))))))))) ?_
    refine cd_seq ?_
    refine cd_block ?_
    refine cd_region ?_
    refine st (ev_move rfl) rfl rfl rfl ?_
    refine st_call has126 rfl (fun w1 sw => rn 3 (take_any b3 b4 173 (x.2) _ (l.drop (64 * x.1)) K w1 (by simp only [absorb_len]; rfl) rfl (by simp only [List.length_drop] at hc19 ⊢; omega) (sw.blk_eq (h := 3) rfl) (sw.sl_rd (h := 5) rfl) (lies_blk (sw.blk_eq (h := 4) rfl)) (sw.off_sl (f := 5) (h := 3) rfl rfl (by simp [Ent.ids]) (by intro hn; have := congrArg List.length hn; simp only [ints_length, List.length_drop, List.length_nil] at hc19 this; omega)) (sw.ne_blk (h := 3) (h' := 4) rfl rfl (by decide)))) (mod_blk rfl) rfl rfl (fun _ _ => ?_)
    refine op_nil ?_
    refine ax_block ?_
    refine ax_then ?_
    refine At.regs (L' := [(0, _), (2, _), (3, _), (4, _), (5, _), (17, _), (18, _), (19, _), (22, _)]) (.cons rfl (.cons rfl (.cons rfl (.cons rfl (.cons rfl (.cons rfl (.cons rfl (.cons rfl (.cons rfl (.nil _)))))))))) ?_
    refine cd_region ?_
    refine st (ev_move rfl) rfl rfl rfl ?_
    refine st (ev_slicei_lo (l := l.drop (64 * x.1)) Try.underlying28 ty5 rfl rfl (fun w1 sw => sw.sl_rd (h := 5) rfl) (by omega) (by simp only [List.length_drop] at hc19 ⊢; omega)) rfl rfl rfl ?_
    refine at_cuti (h := 5) (lo := 64) (hi := (l.drop (64 * x.1)).length) 5 rfl (by simp only [List.length_drop] at hc19 ⊢; omega) (Nat.le_refl _) ?_
    refine at_feq (i := 5) (v' := .sl (cutAt 1 x.2 64 (l.drop (64 * x.1)).length) 1 (ints .u8 (l.drop (64 * (x.1 + 1))))) rfl (by rw [List.drop_drop, List.take_of_length_le (by simp only [List.length_drop]; omega)]; rfl) ?_
    refine st (ev_assign rfl) rfl rfl rfl ?_
    refine op_nil ?_
    exact at_again ((x.1 + 1, cutAt 1 x.2 64 (l.drop (64 * x.1)).length)) (by simp only [List.length_drop] at hc19; omega) (by simp only [List.length_drop] at hc19; omega) (.cons rfl (.cons rfl (.cons rfl (.cons rfl (.cons rfl (.nil _)))))) (.cons rfl (.cons rfl (.cons rfl (.nil _)))) (.cons rfl (.cons rfl (.nil _)))
  ·
    obtain ⟨j, v⟩ := x
    simp only [List.length_drop] at hi hc19
    obtain rfl : j = l.length / 64 := by omega
    have hrl : (l.drop (64 * (l.length / 64))).length < 64 := by simp only [List.length_drop]; omega
    dsimp only
    generalize hr : l.drop (64 * (l.length / 64)) = r at hrl ⊢
    have hen : en r.length = 64 ∨ en r.length = 128 := by unfold en; split <;> simp
    refine cd_exit ?_
    refine ax_then_exit ?_
    refine ax_then_exit ?_
    refine ax_block_hit ?_
    refine ax_then ?_
    refine At.regs (L' := [(0, _), (2, _), (3, _), (4, _), (5, _)]) (.cons rfl (.cons rfl (.cons rfl (.cons rfl (.cons rfl (.nil _)))))) ?_
    refine cd_seq ?_
    refine cd_region ?_
    refine st_alloc (h := 6) ty175 rfl rfl rfl (fun b6 => ?_)
    refine op_nil ?_
    refine ax_then ?_
    refine At.regs (L' := [(0, _), (2, _), (3, _), (4, _), (5, _), (6, _)]) (.cons rfl (.cons rfl (.cons rfl (.cons rfl (.cons rfl (.cons rfl (.nil _))))))) ?_
    refine cd_seq ?_
    refine cd_region ?_
    refine st (ev_slice_arr_all Try.underlying175 ty5 rfl) rfl rfl rfl ?_
    refine st (ev_move rfl) rfl rfl rfl ?_
    refine st_copy (n := r.length) 6 Try.underlying28 ty5 rfl rfl rfl (fun w1 sw => sw.sl_rd (h := 5) rfl) (by decide) (by first | omega | (simp only [List.length_append, List.length_cons, List.length_nil, List.length_set, List.length_replicate, List.length_take, List.length_drop, ints_length, wr_length] <;> omega) | rfl) (by first | omega | (simp only [List.length_append, List.length_cons, List.length_nil, List.length_set, List.length_replicate, List.length_take, List.length_drop, ints_length, wr_length] <;> omega) | rfl) (ints_one _ _) rfl rfl ?_
    refine at_eq (i := 26) (v' := .int .i64 (r.length : Nat)) rfl (by rw [Nat.min_eq_left (by omega)]) ?_
    refine at_heq (i := 6) (v' := .blk b6 (.cells (ints .u8 (r ++ List.replicate (128 - r.length) 0)).toArray 175)) rfl (by rw [copied r hrl]) ?_
    refine st (ev_assign rfl) rfl rfl rfl ?_
    refine op_nil ?_
    refine ax_then ?_
    refine At.regs (L' := [(0, _), (2, _), (3, _), (4, _), (6, _), (7, _)]) (.cons rfl (.cons rfl (.cons rfl (.cons rfl (.cons rfl (.cons rfl (.nil _))))))) ?_
    refine cd_seq ?_
    refine cd_region ?_
    refine st (ev_move rfl) rfl rfl rfl ?_
    refine st (ev_indexAddr_arr Try.underlying175 ty5 rfl rfl (by omega) (by omega)) rfl rfl rfl ?_
    refine st_store1 6 ty5 rfl rfl rfl rfl (by first | omega | (simp only [List.length_append, List.length_cons, List.length_nil, List.length_set, List.length_replicate, List.length_take, List.length_drop, ints_length, wr_length] <;> omega) | rfl) rfl ?_
    refine at_heq (i := 6) rfl (by rw [ints_set]) ?_
    refine at_heq (i := 6) (v' := .blk b6 (.cells (ints .u8 (base r)).toArray 175)) rfl (by rw [based]) ?_
    refine op_nil ?_
    refine ax_then ?_
    refine At.regs (L' := [(0, _), (2, _), (3, _), (4, _), (6, _), (7, _)]) (.cons rfl (.cons rfl (.cons rfl (.cons rfl (.cons rfl (.cons rfl (.nil _))))))) ?_
    refine cd_seq ?_
    refine cd_region ?_
    refine st (ev_assign rfl) rfl rfl rfl ?_
    refine op_nil ?_
    refine ax_then ?_
    refine At.regs (L' := [(0, _), (2, _), (3, _), (4, _), (6, _), (7, _), (8, _)]) (.cons rfl (.cons rfl (.cons rfl (.cons rfl (.cons rfl (.cons rfl (.cons rfl (.nil _)))))))) ?_
    refine cd_join (ι := Unit) (fun _ => True) (fun _ => [(0, p), (2, .pointer (some ⟨b2, 0, none⟩)), (3, .pointer (some ⟨b3, 0, none⟩)), (4, .pointer (some ⟨b4, 0, none⟩)), (6, .pointer (some ⟨b6, 0, none⟩)), (8, .int .i64 (en r.length : Nat))]) (fun _ => [(2, .blk b2 (.cells (ints .u8 (List.replicate 32 0)).toArray 55)), (3, .blk b3 (.cells (ints .u32 (absorb S0 l (l.length / 64))).toArray 173)), (4, .blk b4 (.cells (ints .u32 (K)).toArray 169)), (6, .blk b6 (.cells (ints .u8 (base r)).toArray 175))]) (fun _ => [(0, .sl p 1 (ints .u8 l))]) ?_ (fun _ hj => ?_)
    ·
      refine cd_seq ?_
      refine cd_region ?_
      refine st (ev_move rfl) rfl rfl rfl ?_
      refine st (ev_geq rfl rfl) rfl rfl rfl ?_
      refine op_nil ?_
      refine ax_then ?_
      refine At.regs (L' := [(0, _), (2, _), (3, _), (4, _), (6, _), (8, _), (30, _)]) (.cons rfl (.cons rfl (.cons rfl (.cons rfl (.cons rfl (.cons rfl (.cons rfl (.nil _)))))))) ?_
      refine cd_if rfl (fun hc30 => ?_) (fun hc30 => ?_)
      ·
        refine cd_region ?_
        refine st (ev_assign rfl) rfl rfl rfl ?_
        refine op_nil ?_
        refine ax_eq (i := 8) (v' := .int .i64 (en r.length : Nat)) rfl (by rw [en, if_pos (by omega)]; rfl) ?_
        exact at_met (()) (trivial) (.cons rfl (.cons rfl (.cons rfl (.cons rfl (.cons rfl (.cons rfl (.nil _))))))) (.cons rfl (.cons rfl (.cons rfl (.cons rfl (.nil _))))) (.cons rfl (.nil _))
      ·
        refine cd_skip ?_
        refine ax_eq (i := 8) (v' := .int .i64 (en r.length : Nat)) rfl (by rw [en, if_neg (by omega)]; rfl) ?_
        exact at_met (()) (trivial) (.cons rfl (.cons rfl (.cons rfl (.cons rfl (.cons rfl (.cons rfl (.nil _))))))) (.cons rfl (.cons rfl (.cons rfl (.cons rfl (.nil _))))) (.cons rfl (.nil _))
    ·
      refine cd_seq ?_
      refine cd_region ?_
      refine st (ev_move rfl) rfl rfl rfl ?_
      refine st (ev_len_rdi (h := 0) Try.underlying28 rfl rfl) rfl rfl rfl ?_
      refine st (ev_convu64 Try.underlying3 Try.underlying135 rfl (by omega) (by omega)) rfl rfl rfl ?_
      refine st (ev_shl rfl rfl (by omega)) rfl rfl rfl ?_
      refine at_eq (i := 34) (v' := .int .u64 (8 * (l.length : Int))) rfl (by rw [ishl3 _ hl]) ?_
      refine st (ev_assign rfl) rfl rfl rfl ?_
      refine op_nil ?_
      refine ax_then ?_
      refine At.regs (L' := [(2, _), (3, _), (4, _), (6, _), (8, _), (9, _)]) (.cons rfl (.cons rfl (.cons rfl (.cons rfl (.cons rfl (.cons rfl (.nil _))))))) ?_
      refine cd_seq ?_
      refine cd_seq ?_
      refine cd_region ?_
      refine st (ev_move rfl) rfl rfl rfl ?_
      refine op_nil ?_
      refine ax_then ?_
      refine At.regs (L' := [(2, _), (3, _), (4, _), (6, _), (8, _), (9, _), (35, _)]) (.cons rfl (.cons rfl (.cons rfl (.cons rfl (.cons rfl (.cons rfl (.cons rfl (.nil _)))))))) ?_
      refine cd_block ?_
      refine cd_loop (ι := Nat) (fun i => i ≤ 8) (fun i => 8 - i)
          (fun i => [(2, .pointer (some ⟨b2, 0, none⟩)), (3, .pointer (some ⟨b3, 0, none⟩)), (4, .pointer (some ⟨b4, 0, none⟩)), (6, .pointer (some ⟨b6, 0, none⟩)), (8, .int .i64 (en r.length : Nat)), (9, .int .u64 (8 * (l.length : Int))), (35, .int .i64 (i : Int))])
          (fun i => [(2, .blk b2 (.cells (ints .u8 (List.replicate 32 0)).toArray 55)), (3, .blk b3 (.cells (ints .u32 (absorb S0 l (l.length / 64))).toArray 173)), (4, .blk b4 (.cells (ints .u32 (K)).toArray 169)), (6, .blk b6 (.cells (ints .u8 (sb (base r) (en r.length) (8 * (l.length : Int)) i)).toArray 175))])
          (fun i => [])
          0 (by omega) (.cons rfl (.cons rfl (.cons rfl (.cons rfl (.cons rfl (.cons rfl (.cons rfl (.nil _)))))))) (.cons rfl (.cons rfl (.cons rfl (.cons rfl (.nil _))))) (.nil _) (fun i hi => ?_)
      have hsb := sb_len (base r) (en r.length) (8 * (l.length : Int)) i
      have hbl := base_len r hrl
      refine cd_seq ?_
      refine cd_region ?_
      refine st (ev_lss rfl rfl) rfl rfl rfl ?_
      refine op_nil ?_
      refine ax_then ?_
      refine At.regs (L' := [(2, _), (3, _), (4, _), (6, _), (8, _), (9, _), (35, _), (36, _)]) (.cons rfl (.cons rfl (.cons rfl (.cons rfl (.cons rfl (.cons rfl (.cons rfl (.cons rfl (.nil _))))))))) ?_
      refine cd_seq ?_
      refine cd_if rfl (fun hc36 => ?_) (fun hc36 => ?_)
      ·
        refine cd_skip ?_
        refine ax_then ?_
        refine At.regs (L' := [(2, _), (3, _), (4, _), (6, _), (8, _), (9, _), (35, _), (36, _)]) (.cons rfl (.cons rfl (.cons rfl (.cons rfl (.cons rfl (.cons rfl (.cons rfl (.cons rfl (.nil _))))))))) ?_
        refine cd_seq ?_
        refine cd_block ?_
        refine cd_seq ?_
        refine cd_region ?_
        refine st (ev_move rfl) rfl rfl rfl ?_
        refine st (ev_assign rfl) rfl rfl rfl ?_
        refine op_nil ?_
        refine ax_then ?_
        refine At.regs (L' := [(2, _), (3, _), (4, _), (6, _), (8, _), (9, _), (10, _), (35, _), (36, _), (37, _)]) (.cons rfl (.cons rfl (.cons rfl (.cons rfl (.cons rfl (.cons rfl (.cons rfl (.cons rfl (.cons rfl (.cons rfl (.nil _))))))))))) ?_
        refine cd_region ?_
        refine st (ev_move rfl) rfl rfl rfl ?_
        refine st (ev_sub64 rfl rfl (by omega) (by omega)) rfl rfl rfl ?_
        refine st (ev_move rfl) rfl rfl rfl ?_
        refine st (ev_sub64 rfl rfl (by omega) (by omega)) rfl rfl rfl ?_
        refine st (ev_move rfl) rfl rfl rfl ?_
        refine st (ev_move rfl) rfl rfl rfl ?_
        refine st (ev_mul64 rfl rfl (by omega) (by omega)) rfl rfl rfl ?_
        refine st (ev_shr rfl rfl (by omega)) rfl rfl rfl ?_
        refine st (ev_conv Try.underlying135 Try.underlying5 rfl) rfl rfl rfl ?_
        refine st (ev_indexAddr_arr Try.underlying175 ty5 rfl rfl (by omega) (by omega)) rfl rfl rfl ?_
        refine st_store1 6 ty5 rfl rfl rfl rfl (by first | omega | (simp only [List.length_append, List.length_cons, List.length_nil, List.length_set, List.length_replicate, List.length_take, List.length_drop, ints_length, wr_length] <;> omega) | rfl) rfl ?_
        refine at_heq (i := 6) rfl (by rw [ints_set]) ?_
        refine op_nil ?_
        refine ax_block ?_
        refine ax_then ?_
        refine At.regs (L' := [(2, _), (3, _), (4, _), (6, _), (8, _), (9, _), (10, _), (35, _), (36, _), (37, _), (38, _), (39, _), (40, _), (41, _), (42, _), (43, _), (44, _), (45, _), (46, _), (47, _)]) (.cons rfl (.cons rfl (.cons rfl (.cons rfl (.cons rfl (.cons rfl (.cons rfl (.cons rfl (.cons rfl (.cons rfl (.cons rfl (.cons rfl (.cons rfl (.cons rfl (.cons rfl (.cons rfl (.cons rfl (.cons rfl (.cons rfl (.cons rfl (.nil _))))))))))))))))))))) ?_
        refine cd_region ?_
        refine st (ev_add64 rfl rfl (by omega) (by omega)) rfl rfl rfl ?_
        refine st (ev_move rfl) rfl rfl rfl ?_
        refine op_nil ?_
        have e0 : 0 + (((en r.length : Nat) : Int) - 1 - (i : Int)).toNat * 1 = en r.length - 1 - i := by omega
        refine ax_heq (i := 6) (v' := .blk b6 (.cells (ints .u8 (sb (base r) (en r.length) (8 * (l.length : Int)) (i + 1))).toArray 175)) rfl (by simp only [e0]; rfl) ?_
        exact at_again (i + 1) (by omega) (by omega) (.cons rfl (.cons rfl (.cons rfl (.cons rfl (.cons rfl (.cons rfl (.cons rfl (.nil _)))))))) (.cons rfl (.cons rfl (.cons rfl (.cons rfl (.nil _))))) (.nil _)
      ·
        obtain rfl : i = 8 := by omega
        refine cd_exit ?_
        refine ax_then_exit ?_
        refine ax_then_exit ?_
        refine ax_block_hit ?_
        refine ax_then ?_
        refine At.regs (L' := [(2, _), (3, _), (4, _), (6, _), (8, _)]) (.cons rfl (.cons rfl (.cons rfl (.cons rfl (.cons rfl (.nil _)))))) ?_
        refine cd_seq ?_
        refine cd_seq ?_
        refine cd_region ?_
        refine st (ev_assign rfl) rfl rfl rfl ?_
        refine op_nil ?_
        refine ax_then ?_
        refine At.regs (L' := [(2, _), (3, _), (4, _), (6, _), (8, _), (11, _)]) (.cons rfl (.cons rfl (.cons rfl (.cons rfl (.cons rfl (.cons rfl (.nil _))))))) ?_
        refine cd_block ?_
        refine cd_loop (ι := Nat) (fun m => 64 * m ≤ en r.length) (fun m => 128 - m)
            (fun m => [(2, .pointer (some ⟨b2, 0, none⟩)), (3, .pointer (some ⟨b3, 0, none⟩)), (4, .pointer (some ⟨b4, 0, none⟩)), (6, .pointer (some ⟨b6, 0, none⟩)), (8, .int .i64 (en r.length : Nat)), (11, .int .i64 (64 * (m : Int)))])
            (fun m => [(2, .blk b2 (.cells (ints .u8 (List.replicate 32 0)).toArray 55)), (3, .blk b3 (.cells (ints .u32 (absorb (absorb S0 l (l.length / 64)) (sb (base r) (en r.length) (8 * (l.length : Int)) 8) m)).toArray 173)), (4, .blk b4 (.cells (ints .u32 (K)).toArray 169)), (6, .blk b6 (.cells (ints .u8 (sb (base r) (en r.length) (8 * (l.length : Int)) 8)).toArray 175))])
            (fun m => [])
            0 (by omega) (.cons rfl (.cons rfl (.cons rfl (.cons rfl (.cons rfl (.cons rfl (.nil _))))))) (.cons rfl (.cons rfl (.cons rfl (.cons rfl (.nil _))))) (.nil _) (fun m hi => ?_)
        have hsb := sb_len (base r) (en r.length) (8 * (l.length : Int)) 8
        have hbl := base_len r hrl
        refine cd_seq ?_
        refine cd_seq ?_
        refine cd_region ?_
        refine st (ev_move rfl) rfl rfl rfl ?_
        refine st (ev_move rfl) rfl rfl rfl ?_
        refine st (ev_lss rfl rfl) rfl rfl rfl ?_
        refine op_nil ?_
        refine ax_then ?_
        refine At.regs (L' := [(2, _), (3, _), (4, _), (6, _), (8, _), (11, _), (49, _), (50, _), (51, _)]) (.cons rfl (.cons rfl (.cons rfl (.cons rfl (.cons rfl (.cons rfl (.cons rfl (.cons rfl (.cons rfl (.nil _)))))))))) ?_
        refine cd_if rfl (fun hc51 => ?_) (fun hc51 => ?_)
        ·
          refine cd_skip ?_
          refine ax_then ?_
          refine At.regs (L' := [(2, _), (3, _), (4, _), (6, _), (8, _), (11, _), (49, _), (50, _), (51, _)]) (.cons rfl (.cons rfl (.cons rfl (.cons rfl (.cons rfl (.cons rfl (.cons rfl (.cons rfl (.cons rfl (.nil _)))))))))) ?_
          refine cd_seq ?_
          refine cd_block ?_
          refine cd_region ?_
          refine st (ev_move rfl) rfl rfl rfl ?_
          refine st (ev_slice_arr_lo Try.underlying175 ty5 rfl rfl (by omega) (by omega)) rfl rfl rfl ?_
          refine st_call has126 rfl (fun w1 sw => rn 3 (take_any b3 b4 173 (.slice (some ⟨b6, 0 + (64 * (m : Int)).toNat * 1, none⟩) (128 - (64 * (m : Int)).toNat) (128 - (64 * (m : Int)).toNat)) _ ((sb (base r) (en r.length) (8 * (l.length : Int)) 8).drop (0 + (64 * (m : Int)).toNat * 1)) K w1 (by simp only [absorb_len]; rfl) rfl (by simp only [List.length_drop]; omega) (sw.blk_eq (h := 3) rfl) (sw.rd_tail (h := 6) rfl (by omega)) (lies_blk (sw.blk_eq (h := 4) rfl)) (fun hb => sw.ne_blk (h := 3) (h' := 6) rfl rfl (by decide) (mem_one hb)) (sw.ne_blk (h := 3) (h' := 4) rfl rfl (by decide)))) (mod_blk rfl) rfl rfl (fun _ _ => ?_)
          refine op_nil ?_
          refine ax_block ?_
          refine ax_then ?_
          refine At.regs (L' := [(2, _), (3, _), (4, _), (6, _), (8, _), (11, _), (49, _), (50, _), (51, _), (54, _), (55, _)]) (.cons rfl (.cons rfl (.cons rfl (.cons rfl (.cons rfl (.cons rfl (.cons rfl (.cons rfl (.cons rfl (.cons rfl (.cons rfl (.nil _)))))))))))) ?_
          refine cd_region ?_
          refine st (ev_move rfl) rfl rfl rfl ?_
          refine st (ev_add64 rfl rfl (by omega) (by omega)) rfl rfl rfl ?_
          refine st (ev_assign rfl) rfl rfl rfl ?_
          refine op_nil ?_
          have e0 : 0 + (64 * (m : Int)).toNat * 1 = 64 * m := by omega
          refine ax_heq (i := 3) (v' := .blk b3 (.cells (ints .u32 (absorb (absorb S0 l (l.length / 64)) (sb (base r) (en r.length) (8 * (l.length : Int)) 8) (m + 1))).toArray 173)) rfl (by simp only [e0]; rfl) ?_
          exact at_again (m + 1) (by omega) (by omega) (.cons rfl (.cons rfl (.cons rfl (.cons rfl (.cons rfl (.cons rfl (.nil _))))))) (.cons rfl (.cons rfl (.cons rfl (.cons rfl (.nil _))))) (.nil _)
        ·
          obtain rfl : m = en r.length / 64 := by omega
          refine cd_exit ?_
          refine ax_then_exit ?_
          refine ax_then_exit ?_
          refine ax_block_hit ?_
          refine ax_then ?_
          refine At.regs (L' := [(2, _), (3, _)]) (.cons rfl (.cons rfl (.nil _))) ?_
          refine cd_seq ?_
          refine cd_seq ?_
          refine at_heq (i := 3) (v' := .blk b3 (.cells (ints .u32 (fs l)).toArray 173)) rfl (by rw [two_texts l r hr.symm]; rfl) ?_
          have hfl := fs_len l
          refine cd_region ?_
          refine st (ld_blk_all (h := 3) ty173 rfl rfl rfl (by first | omega | (simp only [List.length_append, List.length_cons, List.length_nil, List.length_set, List.length_replicate, List.length_take, List.length_drop, ints_length, wr_length] <;> omega) | rfl)) rfl rfl rfl ?_
          refine st (ev_move rfl) rfl rfl rfl ?_
          refine op_nil ?_
          refine ax_then ?_
          refine At.regs (L' := [(2, _), (57, _), (58, _)]) (.cons rfl (.cons rfl (.cons rfl (.nil _)))) ?_
          refine cd_block ?_
          refine cd_loop (ι := Nat) (fun i => i ≤ 8) (fun i => 8 - i)
              (fun i => [(2, .pointer (some ⟨b2, 0, none⟩)), (57, .agg (ints .u32 (fs l)).toArray), (58, .int .i64 (i : Int))])
              (fun i => [(2, .blk b2 (.cells (ints .u8 (outs (fs l) i)).toArray 55))])
              (fun i => [])
              0 (by omega) (.cons rfl (.cons rfl (.cons rfl (.nil _)))) (.cons rfl (.nil _)) (.nil _) (fun i hi => ?_)
          have hfl := fs_len l
          have hol := outs_len (fs l) i
          refine cd_seq ?_
          refine cd_region ?_
          refine st (ev_lss rfl rfl) rfl rfl rfl ?_
          refine op_nil ?_
          refine ax_then ?_
          refine At.regs (L' := [(2, _), (57, _), (58, _), (59, _)]) (.cons rfl (.cons rfl (.cons rfl (.cons rfl (.nil _))))) ?_
          refine cd_seq ?_
          refine cd_if rfl (fun hc59 => ?_) (fun hc59 => ?_)
          ·
            refine cd_skip ?_
            refine ax_then ?_
            refine At.regs (L' := [(2, _), (57, _), (58, _), (59, _)]) (.cons rfl (.cons rfl (.cons rfl (.cons rfl (.nil _))))) ?_
            refine cd_seq ?_
            refine cd_block ?_
            refine cd_seq ?_
            refine cd_region ?_
            refine st (ev_move rfl) rfl rfl rfl ?_
            refine st (ev_indexi Try.underlying173 ty167 rfl rfl (by omega) (by omega) (by first | omega | (simp only [List.length_append, List.length_cons, List.length_nil, List.length_set, List.length_replicate, List.length_take, List.length_drop, ints_length, wr_length] <;> omega) | rfl)) rfl rfl rfl ?_
            refine st (ev_assign rfl) rfl rfl rfl ?_
            refine st (ev_assign rfl) rfl rfl rfl ?_
            refine op_nil ?_
            refine ax_then ?_
            refine At.regs (L' := [(2, _), (12, _), (13, _), (57, _), (58, _), (59, _), (60, _), (61, _)]) (.cons rfl (.cons rfl (.cons rfl (.cons rfl (.cons rfl (.cons rfl (.cons rfl (.cons rfl (.nil _))))))))) ?_
            refine cd_region ?_
            refine st (ev_move rfl) rfl rfl rfl ?_
            refine st (ev_mul64 rfl rfl (by omega) (by omega)) rfl rfl rfl ?_
            refine st (ev_move rfl) rfl rfl rfl ?_
            refine st (ev_mul64 rfl rfl (by omega) (by omega)) rfl rfl rfl ?_
            refine st (ev_add64 rfl rfl (by omega) (by omega)) rfl rfl rfl ?_
            refine st (ev_move rfl) rfl rfl rfl ?_
            refine st (ev_mul64 rfl rfl (by omega) (by omega)) rfl rfl rfl ?_
            refine st (ev_add64 rfl rfl (by omega) (by omega)) rfl rfl rfl ?_
            refine st (ev_move rfl) rfl rfl rfl ?_
            refine st (ev_mul64 rfl rfl (by omega) (by omega)) rfl rfl rfl ?_
            refine st (ev_add64 rfl rfl (by omega) (by omega)) rfl rfl rfl ?_
            refine st (ev_move rfl) rfl rfl rfl ?_
            refine st (ev_shr rfl rfl (by omega)) rfl rfl rfl ?_
            refine st (ev_conv Try.underlying167 Try.underlying5 rfl) rfl rfl rfl ?_
            refine st (ev_move rfl) rfl rfl rfl ?_
            refine st (ev_shr rfl rfl (by omega)) rfl rfl rfl ?_
            refine st (ev_conv Try.underlying167 Try.underlying5 rfl) rfl rfl rfl ?_
            refine st (ev_move rfl) rfl rfl rfl ?_
            refine st (ev_shr rfl rfl (by omega)) rfl rfl rfl ?_
            refine st (ev_conv Try.underlying167 Try.underlying5 rfl) rfl rfl rfl ?_
            refine st (ev_move rfl) rfl rfl rfl ?_
            refine st (ev_conv Try.underlying167 Try.underlying5 rfl) rfl rfl rfl ?_
            refine st (ev_indexAddr_arr Try.underlying55 ty5 rfl rfl (by omega) (by omega)) rfl rfl rfl ?_
            refine st_store1 2 ty5 rfl rfl rfl rfl (by first | omega | (simp only [List.length_append, List.length_cons, List.length_nil, List.length_set, List.length_replicate, List.length_take, List.length_drop, ints_length, wr_length] <;> omega) | rfl) rfl ?_
            refine at_heq (i := 2) rfl (by rw [ints_set]) ?_
            refine st (ev_indexAddr_arr Try.underlying55 ty5 rfl rfl (by omega) (by omega)) rfl rfl rfl ?_
            refine st_store1 2 ty5 rfl rfl rfl rfl (by first | omega | (simp only [List.length_append, List.length_cons, List.length_nil, List.length_set, List.length_replicate, List.length_take, List.length_drop, ints_length, wr_length] <;> omega) | rfl) rfl ?_
            refine at_heq (i := 2) rfl (by rw [ints_set]) ?_
            refine st (ev_indexAddr_arr Try.underlying55 ty5 rfl rfl (by omega) (by omega)) rfl rfl rfl ?_
            refine st_store1 2 ty5 rfl rfl rfl rfl (by first | omega | (simp only [List.length_append, List.length_cons, List.length_nil, List.length_set, List.length_replicate, List.length_take, List.length_drop, ints_length, wr_length] <;> omega) | rfl) rfl ?_
            refine at_heq (i := 2) rfl (by rw [ints_set]) ?_
            refine st (ev_indexAddr_arr Try.underlying55 ty5 rfl rfl (by omega) (by omega)) rfl rfl rfl ?_
            refine st_store1 2 ty5 rfl rfl rfl rfl (by first | omega | (simp only [List.length_append, List.length_cons, List.length_nil, List.length_set, List.length_replicate, List.length_take, List.length_drop, ints_length, wr_length] <;> omega) | rfl) rfl ?_
            refine at_heq (i := 2) rfl (by rw [ints_set]) ?_
            refine op_nil ?_
            refine ax_block ?_
            refine ax_then ?_
            refine At.regs (L' := [(2, _), (12, _), (13, _), (57, _), (58, _), (59, _), (60, _), (61, _), (62, _), (63, _), (64, _), (65, _), (66, _), (67, _), (68, _), (69, _), (70, _), (71, _), (72, _), (73, _), (74, _), (75, _), (76, _), (77, _), (78, _), (79, _), (80, _), (81, _), (82, _), (83, _), (84, _), (85, _), (86, _), (87, _)]) (.cons rfl (.cons rfl (.cons rfl (.cons rfl (.cons rfl (.cons rfl (.cons rfl (.cons rfl (.cons rfl (.cons rfl (.cons rfl (.cons rfl (.cons rfl (.cons rfl (.cons rfl (.cons rfl (.cons rfl (.cons rfl (.cons rfl (.cons rfl (.cons rfl (.cons rfl (.cons rfl (.cons rfl (.cons rfl (.cons rfl (.cons rfl (.cons rfl (.cons rfl (.cons rfl (.cons rfl (.cons rfl (.cons rfl (.cons rfl (.nil _))))))))))))))))))))))))))))))))))) ?_
            refine cd_region ?_
            refine st (ev_add64 rfl rfl (by omega) (by omega)) rfl rfl rfl ?_
            refine st (ev_move rfl) rfl rfl rfl ?_
            refine op_nil ?_
            have e0 : (i : Int).toNat = i := by omega
            have e1 : 0 + (4 * (i : Int)).toNat * 1 = 4 * i := by omega
            have e2 : 0 + (4 * (i : Int) + 1).toNat * 1 = 4 * i + 1 := by omega
            have e3 : 0 + (4 * (i : Int) + 2).toNat * 1 = 4 * i + 2 := by omega
            have e4 : 0 + (4 * (i : Int) + 3).toNat * 1 = 4 * i + 3 := by omega
            refine ax_heq (i := 2) (v' := .blk b2 (.cells (ints .u8 (outs (fs l) (i + 1))).toArray 55)) rfl (by simp only [e0, e1, e2, e3, e4]; rfl) ?_
            exact at_again (i + 1) (by omega) (by omega) (.cons rfl (.cons rfl (.cons rfl (.nil _)))) (.cons rfl (.nil _)) (.nil _)
          ·
            obtain rfl : i = 8 := by omega
            refine cd_exit ?_
            refine ax_then_exit ?_
            refine ax_then_exit ?_
            refine ax_block_hit ?_
            refine ax_then ?_
            refine At.regs (L' := [(2, _)]) (.cons rfl (.nil _)) ?_
            refine cd_seq ?_
            refine at_heq (i := 2) (v' := .blk b2 (.cells (ints .u8 (sha l)).toArray 55)) rfl (by rw [outs_eq]; rfl) ?_
            have hsl := sha_len l
            refine cd_region ?_
            refine st (ld_blk_all (h := 2) ty55 rfl rfl rfl (by first | omega | (simp only [List.length_append, List.length_cons, List.length_nil, List.length_set, List.length_replicate, List.length_take, List.length_drop, ints_length, wr_length] <;> omega) | rfl)) rfl rfl rfl ?_
            refine st_store_all 2 ty55 rfl rfl rfl rfl (by first | omega | (simp only [List.length_append, List.length_cons, List.length_nil, List.length_set, List.length_replicate, List.length_take, List.length_drop, ints_length, wr_length] <;> omega) | rfl) (ints_one _ _) (by first | omega | (simp only [List.length_append, List.length_cons, List.length_nil, List.length_set, List.length_replicate, List.length_take, List.length_drop, ints_length, wr_length] <;> omega) | rfl) rfl ?_
            refine op_nil ?_
            refine ax_then ?_
            refine At.regs (L' := [(2, _)]) (.cons rfl (.nil _)) ?_
            refine cd_ret ?_
            refine rt_cell (h0 := 2) (.inl rfl) Try.results107 ty55 rfl rfl rfl (by first | omega | (simp only [List.length_append, List.length_cons, List.length_nil, List.length_set, List.length_replicate, List.length_take, List.length_drop, ints_length, wr_length] <;> omega) | rfl) ?_
            exact fun w1 sw => ⟨rfl, sw.gives (.nil _)⟩
end Go.Proofs.Ytgfnmolbagilmaa

namespace Go.Proofs.Ytgfnmolbagilmaa
open Go Go.RowKit Fw
open Sha
set_option linter.unusedVariables false
set_option linter.unusedSimpArgs false
set_option maxRecDepth 20000 in
set_option maxHeartbeats 1000000 in
theorem rk_any (w : World) : Calls Try.prog 123 #[] w (PostV w (.agg (ints .u32 K).toArray)) := by
  refine calls_at (vs := []) (X := []) (H := []) (F := []) 2 Try.func123 rfl rfl rfl (Sat.start0 w) ?_
  refine cd_seq ?_
  refine cd_region ?_
  refine st_alloc (h := 0) ty169 rfl rfl rfl (fun b0 => ?_)
  refine op_nil ?_
  refine ax_then ?_
  refine At.regs (L' := [(0, _)]) (.cons rfl (.nil _)) ?_
  refine cd_seq ?_
  refine cd_region ?_
  refine st (ev_build_ints (xs := [_, _, _, _, _, _, _, _, _, _, _, _, _, _, _, _, _, _, _, _, _, _, _, _, _, _, _, _, _, _, _, _, _, _, _, _, _, _, _, _, _, _, _, _, _, _, _, _, _, _, _, _, _, _, _, _, _, _, _, _, _, _, _, _]) (zs := List.replicate 64 0) ty169 rfl ty167 rfl rfl rfl rfl rfl) rfl rfl rfl ?_
  refine st_store_all 0 ty169 rfl rfl rfl rfl (by first | omega | (simp only [List.length_append, List.length_cons, List.length_nil, List.length_set, List.length_replicate, List.length_take, List.length_drop, ints_length, wr_length, comp_len, absorb_len, S0_len] <;> omega) | rfl) (ints_one _ _) (by first | omega | (simp only [List.length_append, List.length_cons, List.length_nil, List.length_set, List.length_replicate, List.length_take, List.length_drop, ints_length, wr_length, comp_len, absorb_len, S0_len] <;> omega) | rfl) rfl ?_
  refine op_nil ?_
  refine ax_then ?_
  refine At.regs (L' := [(0, _)]) (.cons rfl (.nil _)) ?_
  refine cd_ret ?_
  refine rt_cell (h0 := 0) (.inl rfl) Try.results123 ty169 rfl rfl rfl (by first | omega | (simp only [List.length_append, List.length_cons, List.length_nil, List.length_set, List.length_replicate, List.length_take, List.length_drop, ints_length, wr_length, comp_len, absorb_len, S0_len] <;> omega) | rfl) ?_
  exact fun w1 sw => ⟨rfl, by have g := sw.gives (.nil _); exact g⟩
set_option maxRecDepth 20000 in
set_option maxHeartbeats 4000000 in
theorem block_any (bk : Nat) (p : Value) (s b k : List Int) (w : World) (hs : s.length = 8) (hk : k.length = 64) (hb : 64 ≤ b.length) (h2 : Rd w p 1 (ints .u8 b)) (h3 : Lies w bk 0 (ints .u32 k)) : Calls Try.prog 124 #[.agg (ints .u32 s).toArray, p, .pointer (some ⟨bk, 0, none⟩)] w (PostV w (.agg (ints .u32 (comp k s b)).toArray)) := by
  refine calls_at (vs := [.agg (ints .u32 s).toArray, p, .pointer (some ⟨bk, 0, none⟩)]) (X := []) (H := []) (F := [(1, .sl p 1 (ints .u8 b)), (2, .mem bk 0 (ints .u32 k))]) 196 Try.func124 rfl rfl rfl (((Sat.start0 w).read 2 (f := .mem bk 0 (ints .u32 k)) h3 off_nil).read 1 (f := .sl p 1 (ints .u8 b)) h2 off_nil) ?_
  refine cd_seq ?_
  refine cd_region ?_
  refine st_box (h := 3) rfl rfl rfl rfl (fun b3 => ?_)
  refine st_alloc (h := 6) ty168 rfl rfl rfl (fun b6 => ?_)
  refine op_nil ?_
  refine ax_then ?_
  refine At.regs (L' := [(1, _), (2, _), (3, _), (6, _)]) (.cons rfl (.cons rfl (.cons rfl (.cons rfl (.nil _))))) ?_
  refine cd_seq ?_
  refine cd_region ?_
  refine st_alloc (h := 7) ty169 rfl rfl rfl (fun b7 => ?_)
  refine op_nil ?_
  refine ax_then ?_
  refine At.regs (L' := [(1, _), (2, _), (3, _), (6, _), (7, _)]) (.cons rfl (.cons rfl (.cons rfl (.cons rfl (.cons rfl (.nil _)))))) ?_
  refine cd_seq ?_
  refine cd_seq ?_
  refine cd_region ?_
  refine st (ev_assign rfl) rfl rfl rfl ?_
  refine op_nil ?_
  refine ax_then ?_
  refine At.regs (L' := [(1, _), (2, _), (3, _), (6, _), (7, _), (8, _)]) (.cons rfl (.cons rfl (.cons rfl (.cons rfl (.cons rfl (.cons rfl (.nil _))))))) ?_
  refine cd_block ?_
  refine cd_loop (ι := Nat) (fun i => i ≤ 16) (fun i => 16 - i)
      (fun i => [(1, p), (2, .pointer (some ⟨bk, 0, none⟩)), (3, .pointer (some ⟨b3, 0, none⟩)), (6, .pointer (some ⟨b6, 0, none⟩)), (7, .pointer (some ⟨b7, 0, none⟩)), (8, .int .i64 (i : Int))])
      (fun i => [(3, .blk b3 (.cells (ints .u32 (s)).toArray 168)), (6, .blk b6 (.cells (ints .u32 (List.replicate 8 0)).toArray 168)), (7, .blk b7 (.cells (ints .u32 (w1 b i)).toArray 169))])
      (fun i => [(1, .sl p 1 (ints .u8 b)), (2, .mem bk 0 (ints .u32 k))])
      0 (by omega) (.cons rfl (.cons rfl (.cons rfl (.cons rfl (.cons rfl (.cons rfl (.nil _))))))) (.cons rfl (.cons rfl (.cons rfl (.nil _)))) (.cons rfl (.cons rfl (.nil _))) (fun i hi => ?_)
  have hw1 := w1_len b i
  refine cd_seq ?_
  refine cd_seq ?_
  refine cd_region ?_
  refine st (ev_move rfl) rfl rfl rfl ?_
  refine st (ev_lss rfl rfl) rfl rfl rfl ?_
  refine op_nil ?_
  refine ax_then ?_
  refine At.regs (L' := [(1, _), (2, _), (3, _), (6, _), (7, _), (8, _), (19, _), (20, _)]) (.cons rfl (.cons rfl (.cons rfl (.cons rfl (.cons rfl (.cons rfl (.cons rfl (.cons rfl (.nil _))))))))) ?_
  refine cd_if rfl (fun hc20 => ?_) (fun hc20 => ?_)
  ·
    refine cd_skip ?_
    refine ax_then ?_
    refine At.regs (L' := [(1, _), (2, _), (3, _), (6, _), (7, _), (8, _), (19, _), (20, _)]) (.cons rfl (.cons rfl (.cons rfl (.cons rfl (.cons rfl (.cons rfl (.cons rfl (.cons rfl (.nil _))))))))) ?_
    refine cd_seq ?_
    refine cd_block ?_
    refine cd_open_tail 34 hmix (by decide +kernel) ?_
    refine qt (ev_move rfl) rfl rfl rfl ?_
    refine qt (ev_move rfl) rfl rfl rfl ?_
    refine qt (ev_move rfl) rfl rfl rfl ?_
    refine qt (ev_mul64 rfl rfl (by omega) (by omega)) rfl rfl rfl ?_
    refine qt (ev_indexAddr_rdi (h := 1) Try.underlying28 ty5 rfl rfl rfl (by omega) (by first | omega | (simp only [List.length_append, List.length_cons, List.length_nil, List.length_set, List.length_replicate, List.length_take, List.length_drop, ints_length, wr_length, comp_len, absorb_len, S0_len] <;> omega))) rfl rfl rfl ?_
    refine qt (ld_rd1 (h := 1) ty5 rfl rfl rfl (ints_get _ _ _ (by first | omega | (simp only [List.length_append, List.length_cons, List.length_nil, List.length_set, List.length_replicate, List.length_take, List.length_drop, ints_length, wr_length, comp_len, absorb_len, S0_len] <;> omega) | rfl))) rfl rfl rfl ?_
    refine qt (ev_conv Try.underlying5 Try.underlying167 rfl) rfl rfl rfl ?_
    refine qt (ev_shl rfl rfl (by omega)) rfl rfl rfl ?_
    refine qt (ev_move rfl) rfl rfl rfl ?_
    refine qt (ev_move rfl) rfl rfl rfl ?_
    refine qt (ev_mul64 rfl rfl (by omega) (by omega)) rfl rfl rfl ?_
    refine qt (ev_add64 rfl rfl (by omega) (by omega)) rfl rfl rfl ?_
    refine qt (ev_indexAddr_rdi (h := 1) Try.underlying28 ty5 rfl rfl rfl (by omega) (by first | omega | (simp only [List.length_append, List.length_cons, List.length_nil, List.length_set, List.length_replicate, List.length_take, List.length_drop, ints_length, wr_length, comp_len, absorb_len, S0_len] <;> omega))) rfl rfl rfl ?_
    refine qt (ld_rd1 (h := 1) ty5 rfl rfl rfl (ints_get _ _ _ (by first | omega | (simp only [List.length_append, List.length_cons, List.length_nil, List.length_set, List.length_replicate, List.length_take, List.length_drop, ints_length, wr_length, comp_len, absorb_len, S0_len] <;> omega) | rfl))) rfl rfl rfl ?_
    refine qt (ev_conv Try.underlying5 Try.underlying167 rfl) rfl rfl rfl ?_
    refine qt (ev_shl rfl rfl (by omega)) rfl rfl rfl ?_
    refine qt (ev_or rfl rfl) rfl rfl rfl ?_
    refine qt (ev_move rfl) rfl rfl rfl ?_
    refine qt (ev_move rfl) rfl rfl rfl ?_
    refine qt (ev_mul64 rfl rfl (by omega) (by omega)) rfl rfl rfl ?_
    refine qt (ev_add64 rfl rfl (by omega) (by omega)) rfl rfl rfl ?_
    refine qt (ev_indexAddr_rdi (h := 1) Try.underlying28 ty5 rfl rfl rfl (by omega) (by first | omega | (simp only [List.length_append, List.length_cons, List.length_nil, List.length_set, List.length_replicate, List.length_take, List.length_drop, ints_length, wr_length, comp_len, absorb_len, S0_len] <;> omega))) rfl rfl rfl ?_
    refine qt (ld_rd1 (h := 1) ty5 rfl rfl rfl (ints_get _ _ _ (by first | omega | (simp only [List.length_append, List.length_cons, List.length_nil, List.length_set, List.length_replicate, List.length_take, List.length_drop, ints_length, wr_length, comp_len, absorb_len, S0_len] <;> omega) | rfl))) rfl rfl rfl ?_
    refine qt (ev_conv Try.underlying5 Try.underlying167 rfl) rfl rfl rfl ?_
    refine qt (ev_shl rfl rfl (by omega)) rfl rfl rfl ?_
    refine qt (ev_or rfl rfl) rfl rfl rfl ?_
    refine qt (ev_move rfl) rfl rfl rfl ?_
    refine qt (ev_move rfl) rfl rfl rfl ?_
    refine qt (ev_mul64 rfl rfl (by omega) (by omega)) rfl rfl rfl ?_
    refine qt (ev_add64 rfl rfl (by omega) (by omega)) rfl rfl rfl ?_
    refine qt (ev_indexAddr_rdi (h := 1) Try.underlying28 ty5 rfl rfl rfl (by omega) (by first | omega | (simp only [List.length_append, List.length_cons, List.length_nil, List.length_set, List.length_replicate, List.length_take, List.length_drop, ints_length, wr_length, comp_len, absorb_len, S0_len] <;> omega))) rfl rfl rfl ?_
    refine qt (ld_rd1 (h := 1) ty5 rfl rfl rfl (ints_get _ _ _ (by first | omega | (simp only [List.length_append, List.length_cons, List.length_nil, List.length_set, List.length_replicate, List.length_take, List.length_drop, ints_length, wr_length, comp_len, absorb_len, S0_len] <;> omega) | rfl))) rfl rfl rfl ?_
    refine qt (ev_conv Try.underlying5 Try.underlying167 rfl) rfl rfl rfl ?_
    refine qt (ev_or rfl rfl) rfl rfl rfl ?_
    refine qt_end ?_
    refine st (ev_indexAddr_arr Try.underlying169 ty167 rfl rfl (by omega) (by omega)) rfl rfl rfl ?_
    refine st_store1 7 ty167 rfl rfl rfl rfl (by first | omega | (simp only [List.length_append, List.length_cons, List.length_nil, List.length_set, List.length_replicate, List.length_take, List.length_drop, ints_length, wr_length, comp_len, absorb_len, S0_len] <;> omega) | rfl) rfl ?_
    refine at_heq (i := 7) rfl (by rw [ints_set]) ?_
    refine op_nil ?_
    refine ax_block ?_
    refine ax_then ?_
    refine At.regs (L' := [(1, _), (2, _), (3, _), (6, _), (7, _), (8, _), (19, _), (20, _), (23, _), (24, _), (25, _), (26, _), (27, _), (28, _), (29, _), (30, _), (31, _), (32, _), (33, _), (34, _), (35, _), (36, _), (37, _), (38, _), (39, _), (40, _), (41, _), (42, _), (43, _), (44, _), (45, _), (46, _), (47, _), (48, _), (49, _), (50, _), (51, _), (52, _), (53, _), (54, _), (55, _), (56, _), (57, _)]) (.cons rfl (.cons rfl (.cons rfl (.cons rfl (.cons rfl (.cons rfl (.cons rfl (.cons rfl (.cons rfl (.cons rfl (.cons rfl (.cons rfl (.cons rfl (.cons rfl (.cons rfl (.cons rfl (.cons rfl (.cons rfl (.cons rfl (.cons rfl (.cons rfl (.cons rfl (.cons rfl (.cons rfl (.cons rfl (.cons rfl (.cons rfl (.cons rfl (.cons rfl (.cons rfl (.cons rfl (.cons rfl (.cons rfl (.cons rfl (.cons rfl (.cons rfl (.cons rfl (.cons rfl (.cons rfl (.cons rfl (.cons rfl (.cons rfl (.cons rfl (.nil _)))))))))))))))))))))))))))))))))))))))))))) ?_
    refine cd_region ?_
    refine st (ev_move rfl) rfl rfl rfl ?_
    refine st (ev_add64 rfl rfl (by omega) (by omega)) rfl rfl rfl ?_
    refine st (ev_assign rfl) rfl rfl rfl ?_
    refine op_nil ?_
    have e0 : 0 + (i : Int).toNat * 1 = i := by omega
    have e1 : (4 * (i : Int)).toNat = 4 * i := by omega
    have e2 : (4 * (i : Int) + 1).toNat = 4 * i + 1 := by omega
    have e3 : (4 * (i : Int) + 2).toNat = 4 * i + 2 := by omega
    have e4 : (4 * (i : Int) + 3).toNat = 4 * i + 3 := by omega
    refine ax_heq (i := 7) (v' := .blk b7 (.cells (ints .u32 (w1 b (i + 1))).toArray 169)) rfl (by simp only [e0, e1, e2, e3, e4]; rfl) ?_
    exact at_again (i + 1) (by omega) (by omega) (.cons rfl (.cons rfl (.cons rfl (.cons rfl (.cons rfl (.cons rfl (.nil _))))))) (.cons rfl (.cons rfl (.cons rfl (.nil _)))) (.cons rfl (.cons rfl (.nil _)))
  ·
    obtain rfl : i = 16 := by omega
    refine cd_exit ?_
    refine ax_then_exit ?_
    refine ax_then_exit ?_
    refine ax_block_hit ?_
    refine ax_then ?_
    refine At.regs (L' := [(2, _), (3, _), (6, _), (7, _)]) (.cons rfl (.cons rfl (.cons rfl (.cons rfl (.nil _))))) ?_
    refine cd_seq ?_
    refine cd_seq ?_
    refine cd_region ?_
    refine st (ev_assign rfl) rfl rfl rfl ?_
    refine op_nil ?_
    refine ax_then ?_
    refine At.regs (L' := [(2, _), (3, _), (6, _), (7, _), (9, _)]) (.cons rfl (.cons rfl (.cons rfl (.cons rfl (.cons rfl (.nil _)))))) ?_
    refine cd_block ?_
    refine cd_loop (ι := Nat) (fun i => i ≤ 48) (fun i => 48 - i)
        (fun i => [(2, .pointer (some ⟨bk, 0, none⟩)), (3, .pointer (some ⟨b3, 0, none⟩)), (6, .pointer (some ⟨b6, 0, none⟩)), (7, .pointer (some ⟨b7, 0, none⟩)), (9, .int .i64 (16 + (i : Int)))])
        (fun i => [(3, .blk b3 (.cells (ints .u32 (s)).toArray 168)), (6, .blk b6 (.cells (ints .u32 (List.replicate 8 0)).toArray 168)), (7, .blk b7 (.cells (ints .u32 (w2 (w1 b 16) i)).toArray 169))])
        (fun i => [(1, .sl p 1 (ints .u8 b)), (2, .mem bk 0 (ints .u32 k))])
        0 (by omega) (.cons rfl (.cons rfl (.cons rfl (.cons rfl (.cons rfl (.nil _)))))) (.cons rfl (.cons rfl (.cons rfl (.nil _)))) (.cons rfl (.cons rfl (.nil _))) (fun i hi => ?_)
    have hw2 := w2_len (w1 b 16) i
    rw [w1_len] at hw2
    refine cd_seq ?_
    refine cd_seq ?_
    refine cd_region ?_
    refine st (ev_move rfl) rfl rfl rfl ?_
    refine st (ev_lss rfl rfl) rfl rfl rfl ?_
    refine op_nil ?_
    refine ax_then ?_
    refine At.regs (L' := [(2, _), (3, _), (6, _), (7, _), (9, _), (58, _), (59, _)]) (.cons rfl (.cons rfl (.cons rfl (.cons rfl (.cons rfl (.cons rfl (.cons rfl (.nil _)))))))) ?_
    refine cd_if rfl (fun hc59 => ?_) (fun hc59 => ?_)
    ·
      refine cd_skip ?_
      refine ax_then ?_
      refine At.regs (L' := [(2, _), (3, _), (6, _), (7, _), (9, _), (58, _), (59, _)]) (.cons rfl (.cons rfl (.cons rfl (.cons rfl (.cons rfl (.cons rfl (.cons rfl (.nil _)))))))) ?_
      refine cd_seq ?_
      refine cd_block ?_
      refine cd_seq ?_
      refine cd_region ?_
      refine st (ev_move rfl) rfl rfl rfl ?_
      refine st (ev_sub64 rfl rfl (by omega) (by omega)) rfl rfl rfl ?_
      refine st (ev_indexAddr_arr Try.underlying169 ty167 rfl rfl (by omega) (by omega)) rfl rfl rfl ?_
      refine st (ld_blk1 (h := 7) ty167 rfl rfl rfl (ints_get _ _ _ (by first | omega | (simp only [List.length_append, List.length_cons, List.length_nil, List.length_set, List.length_replicate, List.length_take, List.length_drop, ints_length, wr_length, comp_len, absorb_len, S0_len] <;> omega) | rfl))) rfl rfl rfl ?_
      refine st (ev_assign rfl) rfl rfl rfl ?_
      refine op_nil ?_
      refine ax_then ?_
      refine At.regs (L' := [(2, _), (3, _), (6, _), (7, _), (9, _), (10, _), (58, _), (59, _), (62, _), (63, _), (64, _), (65, _)]) (.cons rfl (.cons rfl (.cons rfl (.cons rfl (.cons rfl (.cons rfl (.cons rfl (.cons rfl (.cons rfl (.cons rfl (.cons rfl (.cons rfl (.nil _))))))))))))) ?_
      refine cd_seq ?_
      refine cd_region ?_
      refine st (ev_move rfl) rfl rfl rfl ?_
      refine st (ev_sub64 rfl rfl (by omega) (by omega)) rfl rfl rfl ?_
      refine st (ev_indexAddr_arr Try.underlying169 ty167 rfl rfl (by omega) (by omega)) rfl rfl rfl ?_
      refine st (ld_blk1 (h := 7) ty167 rfl rfl rfl (ints_get _ _ _ (by first | omega | (simp only [List.length_append, List.length_cons, List.length_nil, List.length_set, List.length_replicate, List.length_take, List.length_drop, ints_length, wr_length, comp_len, absorb_len, S0_len] <;> omega) | rfl))) rfl rfl rfl ?_
      refine st (ev_assign rfl) rfl rfl rfl ?_
      refine op_nil ?_
      refine ax_then ?_
      refine At.regs (L' := [(2, _), (3, _), (6, _), (7, _), (9, _), (10, _), (11, _), (58, _), (59, _), (62, _), (63, _), (64, _), (65, _), (66, _), (67, _), (68, _), (69, _)]) (.cons rfl (.cons rfl (.cons rfl (.cons rfl (.cons rfl (.cons rfl (.cons rfl (.cons rfl (.cons rfl (.cons rfl (.cons rfl (.cons rfl (.cons rfl (.cons rfl (.cons rfl (.cons rfl (.cons rfl (.nil _)))))))))))))))))) ?_
      refine cd_open_tail 28 hmix (by decide +kernel) ?_
      refine qt (ev_move rfl) rfl rfl rfl ?_
      refine qt (ev_move rfl) rfl rfl rfl ?_
      refine qt (ev_sub64 rfl rfl (by omega) (by omega)) rfl rfl rfl ?_
      refine qt (ev_indexAddr_arr Try.underlying169 ty167 rfl rfl (by omega) (by omega)) rfl rfl rfl ?_
      refine qt (ld_blk1 (h := 7) ty167 rfl rfl rfl (ints_get _ _ _ (by first | omega | (simp only [List.length_append, List.length_cons, List.length_nil, List.length_set, List.length_replicate, List.length_take, List.length_drop, ints_length, wr_length, comp_len, absorb_len, S0_len] <;> omega) | rfl))) rfl rfl rfl ?_
      refine qt (ev_move rfl) rfl rfl rfl ?_
      refine qt_callv has130 rfl (fun w1 sw => r_any _ _ w1 (by omega) (by omega)) rfl rfl ?_
      refine qt (ev_move rfl) rfl rfl rfl ?_
      refine qt_callv has130 rfl (fun w1 sw => r_any _ _ w1 (by omega) (by omega)) rfl rfl ?_
      refine qt (ev_xor rfl rfl) rfl rfl rfl ?_
      refine qt (ev_move rfl) rfl rfl rfl ?_
      refine qt (ev_shr rfl rfl (by omega)) rfl rfl rfl ?_
      refine qt (ev_xor rfl rfl) rfl rfl rfl ?_
      refine qt (ev_add rfl rfl) rfl rfl rfl ?_
      refine qt (ev_move rfl) rfl rfl rfl ?_
      refine qt (ev_sub64 rfl rfl (by omega) (by omega)) rfl rfl rfl ?_
      refine qt (ev_indexAddr_arr Try.underlying169 ty167 rfl rfl (by omega) (by omega)) rfl rfl rfl ?_
      refine qt (ld_blk1 (h := 7) ty167 rfl rfl rfl (ints_get _ _ _ (by first | omega | (simp only [List.length_append, List.length_cons, List.length_nil, List.length_set, List.length_replicate, List.length_take, List.length_drop, ints_length, wr_length, comp_len, absorb_len, S0_len] <;> omega) | rfl))) rfl rfl rfl ?_
      refine qt (ev_add rfl rfl) rfl rfl rfl ?_
      refine qt (ev_move rfl) rfl rfl rfl ?_
      refine qt_callv has130 rfl (fun w1 sw => r_any _ _ w1 (by omega) (by omega)) rfl rfl ?_
      refine qt (ev_move rfl) rfl rfl rfl ?_
      refine qt_callv has130 rfl (fun w1 sw => r_any _ _ w1 (by omega) (by omega)) rfl rfl ?_
      refine qt (ev_xor rfl rfl) rfl rfl rfl ?_
      refine qt (ev_move rfl) rfl rfl rfl ?_
      refine qt (ev_shr rfl rfl (by omega)) rfl rfl rfl ?_
      refine qt (ev_xor rfl rfl) rfl rfl rfl ?_
      refine qt (ev_add rfl rfl) rfl rfl rfl ?_
      refine qt_end ?_
      refine st (ev_indexAddr_arr Try.underlying169 ty167 rfl rfl (by omega) (by omega)) rfl rfl rfl ?_
      refine st_store1 7 ty167 rfl rfl rfl rfl (by first | omega | (simp only [List.length_append, List.length_cons, List.length_nil, List.length_set, List.length_replicate, List.length_take, List.length_drop, ints_length, wr_length, comp_len, absorb_len, S0_len] <;> omega) | rfl) rfl ?_
      refine at_heq (i := 7) rfl (by rw [ints_set]) ?_
      refine op_nil ?_
      refine ax_block ?_
      refine ax_then ?_
      refine At.regs (L' := [(2, _), (3, _), (6, _), (7, _), (9, _), (10, _), (11, _), (58, _), (59, _), (62, _), (63, _), (64, _), (65, _), (66, _), (67, _), (68, _), (69, _), (70, _), (71, _), (72, _), (73, _), (74, _), (75, _), (76, _), (77, _), (78, _), (79, _), (80, _), (81, _), (82, _), (83, _), (84, _), (85, _), (86, _), (87, _), (88, _), (89, _), (90, _), (91, _), (92, _), (93, _), (94, _), (95, _), (96, _), (97, _), (98, _)]) (.cons rfl (.cons rfl (.cons rfl (.cons rfl (.cons rfl (.cons rfl (.cons rfl (.cons rfl (.cons rfl (.cons rfl (.cons rfl (.cons rfl (.cons rfl (.cons rfl (.cons rfl (.cons rfl (.cons rfl (.cons rfl (.cons rfl (.cons rfl (.cons rfl (.cons rfl (.cons rfl (.cons rfl (.cons rfl (.cons rfl (.cons rfl (.cons rfl (.cons rfl (.cons rfl (.cons rfl (.cons rfl (.cons rfl (.cons rfl (.cons rfl (.cons rfl (.cons rfl (.cons rfl (.cons rfl (.cons rfl (.cons rfl (.cons rfl (.cons rfl (.cons rfl (.cons rfl (.cons rfl (.nil _))))))))))))))))))))))))))))))))))))))))))))))) ?_
      refine cd_region ?_
      refine st (ev_move rfl) rfl rfl rfl ?_
      refine st (ev_add64 rfl rfl (by omega) (by omega)) rfl rfl rfl ?_
      refine st (ev_assign rfl) rfl rfl rfl ?_
      refine op_nil ?_
      have e0 : 0 + (16 + (i : Int)).toNat * 1 = 16 + i := by omega
      have e1 : 0 + (16 + (i : Int) - 16).toNat * 1 = 16 + i - 16 := by omega
      have e2 : 0 + (16 + (i : Int) - 15).toNat * 1 = 16 + i - 15 := by omega
      have e3 : 0 + (16 + (i : Int) - 7).toNat * 1 = 16 + i - 7 := by omega
      have e4 : 0 + (16 + (i : Int) - 2).toNat * 1 = 16 + i - 2 := by omega
      refine ax_heq (i := 7) (v' := .blk b7 (.cells (ints .u32 (w2 (w1 b 16) (i + 1))).toArray 169)) rfl (by simp only [e0, e1, e2, e3, e4]; rfl) ?_
      exact at_again (i + 1) (by omega) (by omega) (.cons rfl (.cons rfl (.cons rfl (.cons rfl (.cons rfl (.nil _)))))) (.cons rfl (.cons rfl (.cons rfl (.nil _)))) (.cons rfl (.cons rfl (.nil _)))
    ·
      obtain rfl : i = 48 := by omega
      refine cd_exit ?_
      refine ax_then_exit ?_
      refine ax_then_exit ?_
      refine ax_block_hit ?_
      refine ax_then ?_
      refine At.regs (L' := [(2, _), (3, _), (6, _), (7, _)]) (.cons rfl (.cons rfl (.cons rfl (.cons rfl (.nil _))))) ?_
      refine cd_seq ?_
      refine cd_region ?_
      refine st (ld_blk_all (h := 3) ty168 rfl rfl rfl (by first | omega | (simp only [List.length_append, List.length_cons, List.length_nil, List.length_set, List.length_replicate, List.length_take, List.length_drop, ints_length, wr_length, comp_len, absorb_len, S0_len] <;> omega) | rfl)) rfl rfl rfl ?_
      refine st_alloc (h := 12) ty168 rfl rfl rfl (fun b12 => ?_)
      refine st_store_all 12 ty168 rfl rfl rfl rfl (by first | omega | (simp only [List.length_append, List.length_cons, List.length_nil, List.length_set, List.length_replicate, List.length_take, List.length_drop, ints_length, wr_length, comp_len, absorb_len, S0_len] <;> omega) | rfl) (ints_one _ _) (by first | omega | (simp only [List.length_append, List.length_cons, List.length_nil, List.length_set, List.length_replicate, List.length_take, List.length_drop, ints_length, wr_length, comp_len, absorb_len, S0_len] <;> omega) | rfl) rfl ?_
      refine op_nil ?_
      refine ax_then ?_
      refine At.regs (L' := [(2, _), (3, _), (6, _), (7, _), (12, _)]) (.cons rfl (.cons rfl (.cons rfl (.cons rfl (.cons rfl (.nil _)))))) ?_
      refine cd_seq ?_
      refine cd_seq ?_
      refine cd_region ?_
      refine st (ev_assign rfl) rfl rfl rfl ?_
      refine op_nil ?_
      refine ax_then ?_
      refine At.regs (L' := [(2, _), (3, _), (6, _), (7, _), (12, _), (13, _)]) (.cons rfl (.cons rfl (.cons rfl (.cons rfl (.cons rfl (.cons rfl (.nil _))))))) ?_
      refine cd_block ?_
      refine cd_loop (ι := Nat) (fun i => i ≤ 64) (fun i => 64 - i)
          (fun i => [(2, .pointer (some ⟨bk, 0, none⟩)), (3, .pointer (some ⟨b3, 0, none⟩)), (6, .pointer (some ⟨b6, 0, none⟩)), (7, .pointer (some ⟨b7, 0, none⟩)), (12, .pointer (some ⟨b12, 0, none⟩)), (13, .int .i64 (i : Int))])
          (fun i => [(3, .blk b3 (.cells (ints .u32 (s)).toArray 168)), (6, .blk b6 (.cells (ints .u32 (List.replicate 8 0)).toArray 168)), (7, .blk b7 (.cells (ints .u32 (sched b)).toArray 169)), (12, .blk b12 (.cells (ints .u32 (rnds k (sched b) s i)).toArray 168))])
          (fun i => [(1, .sl p 1 (ints .u8 b)), (2, .mem bk 0 (ints .u32 k))])
          0 (by omega) (.cons rfl (.cons rfl (.cons rfl (.cons rfl (.cons rfl (.cons rfl (.nil _))))))) (.cons rfl (.cons rfl (.cons rfl (.cons rfl (.nil _))))) (.cons rfl (.cons rfl (.nil _))) (fun i hi => ?_)
      have hv := rnds_len k (sched b) s hs i
      have hw := sched_len b
      refine cd_seq ?_
      refine cd_seq ?_
      refine cd_region ?_
      refine st (ev_move rfl) rfl rfl rfl ?_
      refine st (ev_lss rfl rfl) rfl rfl rfl ?_
      refine op_nil ?_
      refine ax_then ?_
      refine At.regs (L' := [(2, _), (3, _), (6, _), (7, _), (12, _), (13, _), (100, _), (101, _)]) (.cons rfl (.cons rfl (.cons rfl (.cons rfl (.cons rfl (.cons rfl (.cons rfl (.cons rfl (.nil _))))))))) ?_
      refine cd_if rfl (fun hc101 => ?_) (fun hc101 => ?_)
      ·
        refine cd_skip ?_
        refine ax_then ?_
        refine At.regs (L' := [(2, _), (3, _), (6, _), (7, _), (12, _), (13, _), (100, _), (101, _)]) (.cons rfl (.cons rfl (.cons rfl (.cons rfl (.cons rfl (.cons rfl (.cons rfl (.cons rfl (.nil _))))))))) ?_
        refine cd_seq ?_
        refine cd_block ?_
        refine cd_seq ?_
        refine cd_open hmix (by decide +kernel) ?_
        refine qt (ev_indexAddr_arrm 0 rfl Try.underlying168 ty167 rfl rfl (by decide) (by decide)) rfl rfl rfl ?_
        refine qt (ld_blk1 (h := 12) ty167 rfl rfl rfl (ints_get _ _ _ (by first | omega | (simp only [List.length_append, List.length_cons, List.length_nil, List.length_set, List.length_replicate, List.length_take, List.length_drop, ints_length, wr_length, comp_len, absorb_len, S0_len] <;> omega) | rfl))) rfl rfl rfl ?_
        refine qt (ev_indexAddr_arrm 4 rfl Try.underlying168 ty167 rfl rfl (by decide) (by decide)) rfl rfl rfl ?_
        refine qt (ld_blk1 (h := 12) ty167 rfl rfl rfl (ints_get _ _ _ (by first | omega | (simp only [List.length_append, List.length_cons, List.length_nil, List.length_set, List.length_replicate, List.length_take, List.length_drop, ints_length, wr_length, comp_len, absorb_len, S0_len] <;> omega) | rfl))) rfl rfl rfl ?_
        refine qt (ev_assign rfl) rfl rfl rfl ?_
        refine qt (ev_assign rfl) rfl rfl rfl ?_
        refine qt_end ?_
        refine op_nil ?_
        refine ax_then ?_
        refine At.regs (L' := [(2, _), (3, _), (6, _), (7, _), (12, _), (13, _), (14, _), (15, _), (100, _), (101, _), (104, _), (105, _), (106, _), (107, _)]) (.cons rfl (.cons rfl (.cons rfl (.cons rfl (.cons rfl (.cons rfl (.cons rfl (.cons rfl (.cons rfl (.cons rfl (.cons rfl (.cons rfl (.cons rfl (.cons rfl (.nil _))))))))))))))) ?_
        refine cd_seq ?_
        refine cd_open hmix (by decide +kernel) ?_
        refine qt (ev_indexAddr_arrm 7 rfl Try.underlying168 ty167 rfl rfl (by decide) (by decide)) rfl rfl rfl ?_
        refine qt (ld_blk1 (h := 12) ty167 rfl rfl rfl (ints_get _ _ _ (by first | omega | (simp only [List.length_append, List.length_cons, List.length_nil, List.length_set, List.length_replicate, List.length_take, List.length_drop, ints_length, wr_length, comp_len, absorb_len, S0_len] <;> omega) | rfl))) rfl rfl rfl ?_
        refine qt (ev_move rfl) rfl rfl rfl ?_
        refine qt_callv has130 rfl (fun w1 sw => r_any _ _ w1 (by omega) (by omega)) rfl rfl ?_
        refine qt (ev_move rfl) rfl rfl rfl ?_
        refine qt_callv has130 rfl (fun w1 sw => r_any _ _ w1 (by omega) (by omega)) rfl rfl ?_
        refine qt (ev_xor rfl rfl) rfl rfl rfl ?_
        refine qt (ev_move rfl) rfl rfl rfl ?_
        refine qt_callv has130 rfl (fun w1 sw => r_any _ _ w1 (by omega) (by omega)) rfl rfl ?_
        refine qt (ev_xor rfl rfl) rfl rfl rfl ?_
        refine qt (ev_add rfl rfl) rfl rfl rfl ?_
        refine qt (ev_move rfl) rfl rfl rfl ?_
        refine qt (ev_indexAddr_arrm 5 rfl Try.underlying168 ty167 rfl rfl (by decide) (by decide)) rfl rfl rfl ?_
        refine qt (ld_blk1 (h := 12) ty167 rfl rfl rfl (ints_get _ _ _ (by first | omega | (simp only [List.length_append, List.length_cons, List.length_nil, List.length_set, List.length_replicate, List.length_take, List.length_drop, ints_length, wr_length, comp_len, absorb_len, S0_len] <;> omega) | rfl))) rfl rfl rfl ?_
        refine qt (ev_and rfl rfl) rfl rfl rfl ?_
        refine qt (ev_move rfl) rfl rfl rfl ?_
        refine qt (ev_inot rfl) rfl rfl rfl ?_
        refine qt (ev_indexAddr_arrm 6 rfl Try.underlying168 ty167 rfl rfl (by decide) (by decide)) rfl rfl rfl ?_
        refine qt (ld_blk1 (h := 12) ty167 rfl rfl rfl (ints_get _ _ _ (by first | omega | (simp only [List.length_append, List.length_cons, List.length_nil, List.length_set, List.length_replicate, List.length_take, List.length_drop, ints_length, wr_length, comp_len, absorb_len, S0_len] <;> omega) | rfl))) rfl rfl rfl ?_
        refine qt (ev_and rfl rfl) rfl rfl rfl ?_
        refine qt (ev_xor rfl rfl) rfl rfl rfl ?_
        refine qt (ev_add rfl rfl) rfl rfl rfl ?_
        refine qt (ev_move rfl) rfl rfl rfl ?_
        refine qt (ev_move rfl) rfl rfl rfl ?_
        refine qt (ev_nilCheck rfl) rfl rfl rfl ?_
        refine qt (ev_indexAddr_arr Try.underlying169 ty167 rfl rfl (by omega) (by omega)) rfl rfl rfl ?_
        refine qt (ld_mem1 (h := 2) ty167 rfl rfl rfl (Nat.zero_add _).symm (ints_get _ _ _ (by first | omega | (simp only [List.length_append, List.length_cons, List.length_nil, List.length_set, List.length_replicate, List.length_take, List.length_drop, ints_length, wr_length, comp_len, absorb_len, S0_len] <;> omega) | rfl))) rfl rfl rfl ?_
        refine qt (ev_add rfl rfl) rfl rfl rfl ?_
        refine qt (ev_move rfl) rfl rfl rfl ?_
        refine qt (ev_indexAddr_arr Try.underlying169 ty167 rfl rfl (by omega) (by omega)) rfl rfl rfl ?_
        refine qt (ld_blk1 (h := 7) ty167 rfl rfl rfl (ints_get _ _ _ (by first | omega | (simp only [List.length_append, List.length_cons, List.length_nil, List.length_set, List.length_replicate, List.length_take, List.length_drop, ints_length, wr_length, comp_len, absorb_len, S0_len] <;> omega) | rfl))) rfl rfl rfl ?_
        refine qt (ev_add rfl rfl) rfl rfl rfl ?_
        refine qt (ev_assign rfl) rfl rfl rfl ?_
        refine qt_end ?_
        refine op_nil ?_
        refine ax_then ?_
        refine At.regs (L' := [(2, _), (3, _), (6, _), (7, _), (12, _), (13, _), (14, _), (15, _), (16, _), (100, _), (101, _), (104, _), (105, _), (106, _), (107, _), (108, _), (109, _), (110, _), (111, _), (112, _), (113, _), (114, _), (115, _), (116, _), (117, _), (118, _), (119, _), (120, _), (121, _), (122, _), (123, _), (124, _), (125, _), (126, _), (127, _), (128, _), (129, _), (130, _), (131, _), (132, _), (133, _), (134, _), (135, _), (136, _), (137, _), (138, _), (139, _)]) (.cons rfl (.cons rfl (.cons rfl (.cons rfl (.cons rfl (.cons rfl (.cons rfl (.cons rfl (.cons rfl (.cons rfl (.cons rfl (.cons rfl (.cons rfl (.cons rfl (.cons rfl (.cons rfl (.cons rfl (.cons rfl (.cons rfl (.cons rfl (.cons rfl (.cons rfl (.cons rfl (.cons rfl (.cons rfl (.cons rfl (.cons rfl (.cons rfl (.cons rfl (.cons rfl (.cons rfl (.cons rfl (.cons rfl (.cons rfl (.cons rfl (.cons rfl (.cons rfl (.cons rfl (.cons rfl (.cons rfl (.cons rfl (.cons rfl (.cons rfl (.cons rfl (.cons rfl (.cons rfl (.cons rfl (.nil _)))))))))))))))))))))))))))))))))))))))))))))))) ?_
        refine cd_seq ?_
        refine cd_open hmix (by decide +kernel) ?_
        refine qt (ev_move rfl) rfl rfl rfl ?_
        refine qt_callv has130 rfl (fun w1 sw => r_any _ _ w1 (by omega) (by omega)) rfl rfl ?_
        refine qt (ev_move rfl) rfl rfl rfl ?_
        refine qt_callv has130 rfl (fun w1 sw => r_any _ _ w1 (by omega) (by omega)) rfl rfl ?_
        refine qt (ev_xor rfl rfl) rfl rfl rfl ?_
        refine qt (ev_move rfl) rfl rfl rfl ?_
        refine qt_callv has130 rfl (fun w1 sw => r_any _ _ w1 (by omega) (by omega)) rfl rfl ?_
        refine qt (ev_xor rfl rfl) rfl rfl rfl ?_
        refine qt (ev_move rfl) rfl rfl rfl ?_
        refine qt (ev_indexAddr_arrm 1 rfl Try.underlying168 ty167 rfl rfl (by decide) (by decide)) rfl rfl rfl ?_
        refine qt (ld_blk1 (h := 12) ty167 rfl rfl rfl (ints_get _ _ _ (by first | omega | (simp only [List.length_append, List.length_cons, List.length_nil, List.length_set, List.length_replicate, List.length_take, List.length_drop, ints_length, wr_length, comp_len, absorb_len, S0_len] <;> omega) | rfl))) rfl rfl rfl ?_
        refine qt (ev_and rfl rfl) rfl rfl rfl ?_
        refine qt (ev_move rfl) rfl rfl rfl ?_
        refine qt (ev_indexAddr_arrm 2 rfl Try.underlying168 ty167 rfl rfl (by decide) (by decide)) rfl rfl rfl ?_
        refine qt (ld_blk1 (h := 12) ty167 rfl rfl rfl (ints_get _ _ _ (by first | omega | (simp only [List.length_append, List.length_cons, List.length_nil, List.length_set, List.length_replicate, List.length_take, List.length_drop, ints_length, wr_length, comp_len, absorb_len, S0_len] <;> omega) | rfl))) rfl rfl rfl ?_
        refine qt (ev_and rfl rfl) rfl rfl rfl ?_
        refine qt (ev_xor rfl rfl) rfl rfl rfl ?_
        refine qt (ev_indexAddr_arrm 1 rfl Try.underlying168 ty167 rfl rfl (by decide) (by decide)) rfl rfl rfl ?_
        refine qt (ld_blk1 (h := 12) ty167 rfl rfl rfl (ints_get _ _ _ (by first | omega | (simp only [List.length_append, List.length_cons, List.length_nil, List.length_set, List.length_replicate, List.length_take, List.length_drop, ints_length, wr_length, comp_len, absorb_len, S0_len] <;> omega) | rfl))) rfl rfl rfl ?_
        refine qt (ev_indexAddr_arrm 2 rfl Try.underlying168 ty167 rfl rfl (by decide) (by decide)) rfl rfl rfl ?_
        refine qt (ld_blk1 (h := 12) ty167 rfl rfl rfl (ints_get _ _ _ (by first | omega | (simp only [List.length_append, List.length_cons, List.length_nil, List.length_set, List.length_replicate, List.length_take, List.length_drop, ints_length, wr_length, comp_len, absorb_len, S0_len] <;> omega) | rfl))) rfl rfl rfl ?_
        refine qt (ev_and rfl rfl) rfl rfl rfl ?_
        refine qt (ev_xor rfl rfl) rfl rfl rfl ?_
        refine qt (ev_add rfl rfl) rfl rfl rfl ?_
        refine qt (ev_assign rfl) rfl rfl rfl ?_
        refine qt_end ?_
        refine op_nil ?_
        refine ax_then ?_
        refine At.regs (L' := [(2, _), (3, _), (6, _), (7, _), (12, _), (13, _), (14, _), (15, _), (16, _), (17, _), (100, _), (101, _), (104, _), (105, _), (106, _), (107, _), (108, _), (109, _), (110, _), (111, _), (112, _), (113, _), (114, _), (115, _), (116, _), (117, _), (118, _), (119, _), (120, _), (121, _), (122, _), (123, _), (124, _), (125, _), (126, _), (127, _), (128, _), (129, _), (130, _), (131, _), (132, _), (133, _), (134, _), (135, _), (136, _), (137, _), (138, _), (139, _), (140, _), (141, _), (142, _), (143, _), (144, _), (145, _), (146, _), (147, _), (148, _), (149, _), (150, _), (151, _), (152, _), (153, _), (154, _), (155, _), (156, _), (157, _), (158, _), (159, _), (160, _), (161, _), (162, _), (163, _)]) (.cons rfl (.cons rfl (.cons rfl (.cons rfl (.cons rfl (.cons rfl (.cons rfl (.cons rfl (.cons rfl (.cons rfl (.cons rfl (.cons rfl (.cons rfl (.cons rfl (.cons rfl (.cons rfl (.cons rfl (.cons rfl (.cons rfl (.cons rfl (.cons rfl (.cons rfl (.cons rfl (.cons rfl (.cons rfl (.cons rfl (.cons rfl (.cons rfl (.cons rfl (.cons rfl (.cons rfl (.cons rfl (.cons rfl (.cons rfl (.cons rfl (.cons rfl (.cons rfl (.cons rfl (.cons rfl (.cons rfl (.cons rfl (.cons rfl (.cons rfl (.cons rfl (.cons rfl (.cons rfl (.cons rfl (.cons rfl (.cons rfl (.cons rfl (.cons rfl (.cons rfl (.cons rfl (.cons rfl (.cons rfl (.cons rfl (.cons rfl (.cons rfl (.cons rfl (.cons rfl (.cons rfl (.cons rfl (.cons rfl (.cons rfl (.cons rfl (.cons rfl (.cons rfl (.cons rfl (.cons rfl (.cons rfl (.cons rfl (.cons rfl (.nil _))))))))))))))))))))))))))))))))))))))))))))))))))))))))))))))))))))))))) ?_
        refine cd_region ?_
        refine st (ev_move rfl) rfl rfl rfl ?_
        refine st (ev_move rfl) rfl rfl rfl ?_
        refine st (ev_add rfl rfl) rfl rfl rfl ?_
        refine st (ev_move rfl) rfl rfl rfl ?_
        refine st (ev_indexAddr_arrm 1 rfl Try.underlying168 ty167 rfl rfl (by decide) (by decide)) rfl rfl rfl ?_
        refine st (ld_blk1 (h := 12) ty167 rfl rfl rfl (ints_get _ _ _ (by first | omega | (simp only [List.length_append, List.length_cons, List.length_nil, List.length_set, List.length_replicate, List.length_take, List.length_drop, ints_length, wr_length, comp_len, absorb_len, S0_len] <;> omega) | rfl))) rfl rfl rfl ?_
        refine st (ev_indexAddr_arrm 2 rfl Try.underlying168 ty167 rfl rfl (by decide) (by decide)) rfl rfl rfl ?_
        refine st (ld_blk1 (h := 12) ty167 rfl rfl rfl (ints_get _ _ _ (by first | omega | (simp only [List.length_append, List.length_cons, List.length_nil, List.length_set, List.length_replicate, List.length_take, List.length_drop, ints_length, wr_length, comp_len, absorb_len, S0_len] <;> omega) | rfl))) rfl rfl rfl ?_
        refine st (ev_indexAddr_arrm 3 rfl Try.underlying168 ty167 rfl rfl (by decide) (by decide)) rfl rfl rfl ?_
        refine st (ld_blk1 (h := 12) ty167 rfl rfl rfl (ints_get _ _ _ (by first | omega | (simp only [List.length_append, List.length_cons, List.length_nil, List.length_set, List.length_replicate, List.length_take, List.length_drop, ints_length, wr_length, comp_len, absorb_len, S0_len] <;> omega) | rfl))) rfl rfl rfl ?_
        refine st (ev_move rfl) rfl rfl rfl ?_
        refine st (ev_add rfl rfl) rfl rfl rfl ?_
        refine st (ev_move rfl) rfl rfl rfl ?_
        refine st (ev_indexAddr_arrm 5 rfl Try.underlying168 ty167 rfl rfl (by decide) (by decide)) rfl rfl rfl ?_
        refine st (ld_blk1 (h := 12) ty167 rfl rfl rfl (ints_get _ _ _ (by first | omega | (simp only [List.length_append, List.length_cons, List.length_nil, List.length_set, List.length_replicate, List.length_take, List.length_drop, ints_length, wr_length, comp_len, absorb_len, S0_len] <;> omega) | rfl))) rfl rfl rfl ?_
        refine st (ev_indexAddr_arrm 6 rfl Try.underlying168 ty167 rfl rfl (by decide) (by decide)) rfl rfl rfl ?_
        refine st (ld_blk1 (h := 12) ty167 rfl rfl rfl (ints_get _ _ _ (by first | omega | (simp only [List.length_append, List.length_cons, List.length_nil, List.length_set, List.length_replicate, List.length_take, List.length_drop, ints_length, wr_length, comp_len, absorb_len, S0_len] <;> omega) | rfl))) rfl rfl rfl ?_
        refine st (ev_build_ints (xs := [_, _, _, _, _, _, _, _]) (zs := List.replicate 8 0) ty168 rfl ty167 rfl rfl rfl rfl rfl) rfl rfl rfl ?_
        refine st_store_all 12 ty168 rfl rfl rfl rfl (by first | omega | (simp only [List.length_append, List.length_cons, List.length_nil, List.length_set, List.length_replicate, List.length_take, List.length_drop, ints_length, wr_length, comp_len, absorb_len, S0_len] <;> omega) | rfl) (ints_one _ _) (by first | omega | (simp only [List.length_append, List.length_cons, List.length_nil, List.length_set, List.length_replicate, List.length_take, List.length_drop, ints_length, wr_length, comp_len, absorb_len, S0_len] <;> omega) | rfl) rfl ?_
        refine op_nil ?_
        refine ax_block ?_
        refine ax_then ?_
        refine At.regs (L' := [(2, _), (3, _), (6, _), (7, _), (12, _), (13, _), (14, _), (15, _), (16, _), (17, _), (100, _), (101, _), (104, _), (105, _), (106, _), (107, _), (108, _), (109, _), (110, _), (111, _), (112, _), (113, _), (114, _), (115, _), (116, _), (117, _), (118, _), (119, _), (120, _), (121, _), (122, _), (123, _), (124, _), (125, _), (126, _), (127, _), (128, _), (129, _), (130, _), (131, _), (132, _), (133, _), (134, _), (135, _), (136, _), (137, _), (138, _), (139, _), (140, _), (141, _), (142, _), (143, _), (144, _), (145, _), (146, _), (147, _), (148, _), (149, _), (150, _), (151, _), (152, _), (153, _), (154, _), (155, _), (156, _), (157, _), (158, _), (159, _), (160, _), (161, _), (162, _), (163, _), (164, _), (165, _), (166, _), (167, _), (168, _), (169, _), (170, _), (171, _), (172, _), (173, _), (174, _), (175, _), (176, _), (177, _), (178, _), (179, _), (180, _), (181, _)]) (.cons rfl (.cons rfl (.cons rfl (.cons rfl (.cons rfl (.cons rfl (.cons rfl (.cons rfl (.cons rfl (.cons rfl (.cons rfl (.cons rfl (.cons rfl (.cons rfl (.cons rfl (.cons rfl (.cons rfl (.cons rfl (.cons rfl (.cons rfl (.cons rfl (.cons rfl (.cons rfl (.cons rfl (.cons rfl (.cons rfl (.cons rfl (.cons rfl (.cons rfl (.cons rfl (.cons rfl (.cons rfl (.cons rfl (.cons rfl (.cons rfl (.cons rfl (.cons rfl (.cons rfl (.cons rfl (.cons rfl (.cons rfl (.cons rfl (.cons rfl (.cons rfl (.cons rfl (.cons rfl (.cons rfl (.cons rfl (.cons rfl (.cons rfl (.cons rfl (.cons rfl (.cons rfl (.cons rfl (.cons rfl (.cons rfl (.cons rfl (.cons rfl (.cons rfl (.cons rfl (.cons rfl (.cons rfl (.cons rfl (.cons rfl (.cons rfl (.cons rfl (.cons rfl (.cons rfl (.cons rfl (.cons rfl (.cons rfl (.cons rfl (.cons rfl (.cons rfl (.cons rfl (.cons rfl (.cons rfl (.cons rfl (.cons rfl (.cons rfl (.cons rfl (.cons rfl (.cons rfl (.cons rfl (.cons rfl (.cons rfl (.cons rfl (.cons rfl (.cons rfl (.cons rfl (.nil _))))))))))))))))))))))))))))))))))))))))))))))))))))))))))))))))))))))))))))))))))))))))))) ?_
        refine cd_region ?_
        refine st (ev_move rfl) rfl rfl rfl ?_
        refine st (ev_add64 rfl rfl (by omega) (by omega)) rfl rfl rfl ?_
        refine st (ev_assign rfl) rfl rfl rfl ?_
        refine op_nil ?_
        have e0 : 0 + (i : Int).toNat * 1 = i := by omega
        refine ax_heq (i := 12) (v' := .blk b12 (.cells (ints .u32 (rnds k (sched b) s (i + 1))).toArray 168)) rfl (by simp only [e0]; simp only [rnds, rnd, tt, uu, add, b0, b1, ch, mj]) ?_
        exact at_again (i + 1) (by omega) (by omega) (.cons rfl (.cons rfl (.cons rfl (.cons rfl (.cons rfl (.cons rfl (.nil _))))))) (.cons rfl (.cons rfl (.cons rfl (.cons rfl (.nil _))))) (.cons rfl (.cons rfl (.nil _)))
      ·
        obtain rfl : i = 64 := by omega
        refine cd_exit ?_
        refine ax_then_exit ?_
        refine ax_then_exit ?_
        refine ax_block_hit ?_
        refine ax_then ?_
        refine At.regs (L' := [(3, _), (6, _), (12, _)]) (.cons rfl (.cons rfl (.cons rfl (.nil _)))) ?_
        refine cd_seq ?_
        refine cd_seq ?_
        refine cd_region ?_
        refine st (ev_assign rfl) rfl rfl rfl ?_
        refine op_nil ?_
        refine ax_then ?_
        refine At.regs (L' := [(3, _), (6, _), (12, _), (18, _)]) (.cons rfl (.cons rfl (.cons rfl (.cons rfl (.nil _))))) ?_
        refine cd_block ?_
        refine cd_loop (ι := Nat) (fun i => i ≤ 8) (fun i => 8 - i)
            (fun i => [(3, .pointer (some ⟨b3, 0, none⟩)), (6, .pointer (some ⟨b6, 0, none⟩)), (12, .pointer (some ⟨b12, 0, none⟩)), (18, .int .i64 (i : Int))])
            (fun i => [(3, .blk b3 (.cells (ints .u32 (adds s (rnds k (sched b) s 64) i)).toArray 168)), (6, .blk b6 (.cells (ints .u32 (List.replicate 8 0)).toArray 168)), (12, .blk b12 (.cells (ints .u32 (rnds k (sched b) s 64)).toArray 168))])
            (fun i => [(1, .sl p 1 (ints .u8 b)), (2, .mem bk 0 (ints .u32 k))])
            0 (by omega) (.cons rfl (.cons rfl (.cons rfl (.cons rfl (.nil _))))) (.cons rfl (.cons rfl (.cons rfl (.nil _)))) (.cons rfl (.cons rfl (.nil _))) (fun i hi => ?_)
        have hv := rnds_len k (sched b) s hs 64
        have hw := adds_len s (rnds k (sched b) s 64) i
        refine cd_seq ?_
        refine cd_seq ?_
        refine cd_region ?_
        refine st (ev_move rfl) rfl rfl rfl ?_
        refine st (ev_lss rfl rfl) rfl rfl rfl ?_
        refine op_nil ?_
        refine ax_then ?_
        refine At.regs (L' := [(3, _), (6, _), (12, _), (18, _), (182, _), (183, _)]) (.cons rfl (.cons rfl (.cons rfl (.cons rfl (.cons rfl (.cons rfl (.nil _))))))) ?_
        refine cd_if rfl (fun hc183 => ?_) (fun hc183 => ?_)
        ·
          refine cd_skip ?_
          refine ax_then ?_
          refine At.regs (L' := [(3, _), (6, _), (12, _), (18, _), (182, _), (183, _)]) (.cons rfl (.cons rfl (.cons rfl (.cons rfl (.cons rfl (.cons rfl (.nil _))))))) ?_
          refine cd_seq ?_
          refine cd_block ?_
          refine cd_open_tail 8 hmix (by decide +kernel) ?_
          refine qt (ev_move rfl) rfl rfl rfl ?_
          refine qt (ev_move rfl) rfl rfl rfl ?_
          refine qt (ev_indexAddr_arr Try.underlying168 ty167 rfl rfl (by omega) (by omega)) rfl rfl rfl ?_
          refine qt (ld_blk1 (h := 3) ty167 rfl rfl rfl (ints_get _ _ _ (by first | omega | (simp only [List.length_append, List.length_cons, List.length_nil, List.length_set, List.length_replicate, List.length_take, List.length_drop, ints_length, wr_length, comp_len, absorb_len, S0_len] <;> omega) | rfl))) rfl rfl rfl ?_
          refine qt (ev_move rfl) rfl rfl rfl ?_
          refine qt (ev_indexAddr_arr Try.underlying168 ty167 rfl rfl (by omega) (by omega)) rfl rfl rfl ?_
          refine qt (ld_blk1 (h := 12) ty167 rfl rfl rfl (ints_get _ _ _ (by first | omega | (simp only [List.length_append, List.length_cons, List.length_nil, List.length_set, List.length_replicate, List.length_take, List.length_drop, ints_length, wr_length, comp_len, absorb_len, S0_len] <;> omega) | rfl))) rfl rfl rfl ?_
          refine qt (ev_add rfl rfl) rfl rfl rfl ?_
          refine qt_end ?_
          refine st (ev_indexAddr_arr Try.underlying168 ty167 rfl rfl (by omega) (by omega)) rfl rfl rfl ?_
          refine st_store1 3 ty167 rfl rfl rfl rfl (by first | omega | (simp only [List.length_append, List.length_cons, List.length_nil, List.length_set, List.length_replicate, List.length_take, List.length_drop, ints_length, wr_length, comp_len, absorb_len, S0_len] <;> omega) | rfl) rfl ?_
          refine at_heq (i := 3) rfl (by rw [ints_set]) ?_
          refine op_nil ?_
          refine ax_block ?_
          refine ax_then ?_
          refine At.regs (L' := [(3, _), (6, _), (12, _), (18, _), (182, _), (183, _), (186, _), (187, _), (188, _), (189, _), (190, _), (191, _), (192, _), (193, _), (194, _)]) (.cons rfl (.cons rfl (.cons rfl (.cons rfl (.cons rfl (.cons rfl (.cons rfl (.cons rfl (.cons rfl (.cons rfl (.cons rfl (.cons rfl (.cons rfl (.cons rfl (.cons rfl (.nil _)))))))))))))))) ?_
          refine cd_region ?_
          refine st (ev_move rfl) rfl rfl rfl ?_
          refine st (ev_add64 rfl rfl (by omega) (by omega)) rfl rfl rfl ?_
          refine st (ev_assign rfl) rfl rfl rfl ?_
          refine op_nil ?_
          have e0 : 0 + (i : Int).toNat * 1 = i := by omega
          refine ax_heq (i := 3) (v' := .blk b3 (.cells (ints .u32 (adds s (rnds k (sched b) s 64) (i + 1))).toArray 168)) rfl (by simp only [e0]; rfl) ?_
          exact at_again (i + 1) (by omega) (by omega) (.cons rfl (.cons rfl (.cons rfl (.cons rfl (.nil _))))) (.cons rfl (.cons rfl (.cons rfl (.nil _)))) (.cons rfl (.cons rfl (.nil _)))
        ·
          obtain rfl : i = 8 := by omega
          have hco := comp_len k s b
          refine cd_exit ?_
          refine ax_then_exit ?_
          refine ax_then_exit ?_
          refine ax_block_hit ?_
          refine ax_then ?_
          refine At.regs (L' := [(3, _), (6, _)]) (.cons rfl (.cons rfl (.nil _))) ?_
          refine cd_seq ?_
          refine at_heq (i := 3) (v' := .blk b3 (.cells (ints .u32 (comp k s b)).toArray 168)) rfl rfl ?_
          refine cd_region ?_
          refine st (ld_blk_all (h := 3) ty168 rfl rfl rfl (by first | omega | (simp only [List.length_append, List.length_cons, List.length_nil, List.length_set, List.length_replicate, List.length_take, List.length_drop, ints_length, wr_length, comp_len, absorb_len, S0_len] <;> omega) | rfl)) rfl rfl rfl ?_
          refine st_store_all 6 ty168 rfl rfl rfl rfl (by first | omega | (simp only [List.length_append, List.length_cons, List.length_nil, List.length_set, List.length_replicate, List.length_take, List.length_drop, ints_length, wr_length, comp_len, absorb_len, S0_len] <;> omega) | rfl) (ints_one _ _) (by first | omega | (simp only [List.length_append, List.length_cons, List.length_nil, List.length_set, List.length_replicate, List.length_take, List.length_drop, ints_length, wr_length, comp_len, absorb_len, S0_len] <;> omega) | rfl) rfl ?_
          refine op_nil ?_
          refine ax_then ?_
          refine At.regs (L' := [(6, _)]) (.cons rfl (.nil _)) ?_
          refine cd_ret ?_
          refine rt_cell (h0 := 6) (.inl rfl) Try.results124 ty168 rfl rfl rfl (by first | omega | (simp only [List.length_append, List.length_cons, List.length_nil, List.length_set, List.length_replicate, List.length_take, List.length_drop, ints_length, wr_length, comp_len, absorb_len, S0_len] <;> omega) | rfl) ?_
          exact fun w1 sw => ⟨rfl, sw.gives (.nil _)⟩
set_option maxRecDepth 20000 in
set_option maxHeartbeats 4000000 in
theorem rsum_any (p : Value) (b : List Int) (w : World) (hl : b.length ≤ 140737488352000) (h : Rd w p 1 (ints .u8 b)) : Calls Try.prog 98 #[p] w (PostV w (.agg (ints .u8 (sha b)).toArray)) := by
  refine calls_at (vs := [p]) (X := []) (H := []) (F := [(0, .sl p 1 (ints .u8 b))]) 73 Try.func98 rfl rfl rfl (Sat.rd0 0 h) ?_
  refine cd_seq ?_
  refine cd_region ?_
  refine st_alloc (h := 2) ty55 rfl rfl rfl (fun b2 => ?_)
  refine op_nil ?_
  refine ax_then ?_
  refine At.regs (L' := [(0, _), (2, _)]) (.cons rfl (.cons rfl (.nil _))) ?_
  refine cd_seq ?_
  refine cd_region ?_
  refine st_bsi (h := 11) (xs := []) Try.underlying28 ty5 (by decide) rfl rfl (by decide) rfl rfl (fun b11 => ?_)
  refine st (ev_move rfl) rfl rfl rfl ?_
  refine st_appendi (h := 11) Try.underlying28 Try.underlying28 ty5 rfl rfl rfl rfl (fun w1 sw => sw.sl_rd (h := 0) rfl) (by first | omega | (simp only [List.length_append, List.length_cons, List.length_nil, List.length_set, List.length_replicate, List.length_take, List.length_drop, ints_length, wr_length, comp_len, absorb_len, S0_len] <;> omega)) (by decide) rfl rfl (fun v13 => ?_)
  refine st_bsi (h := 14) (xs := [_]) Try.underlying28 ty5 (by decide) rfl rfl (by decide) rfl rfl (fun b14 => ?_)
  refine st_appendi (h := 11) Try.underlying28 Try.underlying28 ty5 rfl rfl rfl rfl (fun w1 sw => sw.own_rd (h := 14) rfl) (by first | omega | (simp only [List.length_append, List.length_cons, List.length_nil, List.length_set, List.length_replicate, List.length_take, List.length_drop, ints_length, wr_length, comp_len, absorb_len, S0_len] <;> omega)) (by decide) rfl rfl (fun v15 => ?_)
  refine st (ev_assign rfl) rfl rfl rfl ?_
  refine op_nil ?_
  refine ax_then ?_
  refine At.regs (L' := [(0, _), (2, _), (3, _)]) (.cons rfl (.cons rfl (.cons rfl (.nil _)))) ?_
  refine cd_seq ?_
  refine cd_block ?_
  refine at_heq (i := 11) (v' := .own (v15) 5 1 (ints .u8 (b ++ [128] ++ List.replicate 0 0))) rfl (by simp) ?_
  refine cd_loop (ι := Nat × Value) (fun x => x.1 ≤ zs b.length) (fun x => 64 - x.1)
      (fun x => [(0, p), (2, .pointer (some ⟨b2, 0, none⟩)), (3, x.2)])
      (fun x => [(2, .blk b2 (.cells (ints .u8 (List.replicate 32 0)).toArray 55)), (11, .own (x.2) 5 1 (ints .u8 (b ++ [128] ++ List.replicate x.1 0)))])
      (fun x => [(0, .sl p 1 (ints .u8 b))])
      (0, v15) (Nat.zero_le _) (.cons rfl (.cons rfl (.cons rfl (.nil _)))) (.cons rfl (.cons rfl (.nil _))) (.cons rfl (.nil _)) (fun x hi => ?_)
  have hzs : zs b.length < 64 := by unfold zs; omega
  have hz56 : (b.length + 1 + zs b.length) % 64 = 56 := by unfold zs; omega
  refine cd_seq ?_
  refine cd_seq ?_
  refine cd_region ?_
  refine st (ev_move rfl) rfl rfl rfl ?_
  refine st (ev_len_owni (h := 11) Try.underlying28 rfl rfl) rfl rfl rfl ?_
  refine st (ev_rem64 rfl rfl (by omega) (by omega)) rfl rfl rfl ?_
  refine st (ev_neq rfl rfl) rfl rfl rfl ?_
  refine op_nil ?_
  refine ax_then ?_
  refine At.regs (L' := [(0, _), (2, _), (3, _), (16, _), (17, _), (18, _), (19, _)]) (.cons rfl (.cons rfl (.cons rfl (.cons rfl (.cons rfl (.cons rfl (.cons rfl (.nil _)))))))) ?_
  refine cd_if rfl (fun hc19 => ?_) (fun hc19 => ?_)
  ·
    refine cd_skip ?_
    refine ax_then ?_
    refine At.regs (L' := [(0, _), (2, _), (3, _), (16, _), (17, _), (18, _), (19, _)]) (.cons rfl (.cons rfl (.cons rfl (.cons rfl (.cons rfl (.cons rfl (.cons rfl (.nil _)))))))) ?_
    refine cd_block ?_
    refine cd_region ?_
    refine st (ev_move rfl) rfl rfl rfl ?_
    refine st_bsi (h := 21) (xs := [_]) Try.underlying28 ty5 (by decide) rfl rfl (by decide) rfl rfl (fun b21 => ?_)
    refine st_appendi (h := 11) Try.underlying28 Try.underlying28 ty5 rfl rfl rfl rfl (fun w1 sw => sw.own_rd (h := 21) rfl) (by first | omega | (simp only [List.length_append, List.length_cons, List.length_nil, List.length_set, List.length_replicate, List.length_take, List.length_drop, ints_length, wr_length, comp_len, absorb_len, S0_len] <;> omega)) (by decide) rfl rfl (fun v22 => ?_)
    refine st (ev_assign rfl) rfl rfl rfl ?_
    refine op_nil ?_
    refine ax_block ?_
    refine ax_heq (i := 11) (v' := .own (v22) 5 1 (ints .u8 (b ++ [128] ++ List.replicate (x.1 + 1) 0))) rfl (by rw [List.append_assoc, ← List.replicate_succ']) ?_
    exact at_again ((x.1 + 1, v22)) (by simp only [List.length_append, List.length_replicate, List.length_cons, List.length_nil] at hc19; show x.1 + 1 ≤ _; omega) (by omega) (.cons rfl (.cons rfl (.cons rfl (.nil _)))) (.cons rfl (.cons rfl (.nil _))) (.cons rfl (.nil _))
  ·
    obtain ⟨z, v⟩ := x
    simp only [List.length_append, List.length_replicate, List.length_cons, List.length_nil] at hi hc19
    obtain rfl : z = zs b.length := by omega
    dsimp only
    refine cd_exit ?_
    refine ax_then_exit ?_
    refine ax_then_exit ?_
    refine ax_block_hit ?_
    refine ax_then ?_
    refine At.regs (L' := [(0, _), (2, _), (3, _)]) (.cons rfl (.cons rfl (.cons rfl (.nil _)))) ?_
    refine cd_seq ?_
    refine cd_region ?_
    refine st (ev_move rfl) rfl rfl rfl ?_
    refine st (ev_len_rdi (h := 0) Try.underlying28 rfl rfl) rfl rfl rfl ?_
    refine st (ev_convu64 Try.underlying3 Try.underlying135 rfl (by omega) (by omega)) rfl rfl rfl ?_
    refine st (ev_mul rfl rfl) rfl rfl rfl ?_
    refine at_eq (i := 26) (v' := .int .u64 (8 * (b.length : Int))) rfl (by rw [mul8 _ hl]) ?_
    refine st (ev_assign rfl) rfl rfl rfl ?_
    refine op_nil ?_
    refine ax_then ?_
    refine At.regs (L' := [(2, _), (3, _), (4, _)]) (.cons rfl (.cons rfl (.cons rfl (.nil _)))) ?_
    refine cd_seq ?_
    refine cd_seq ?_
    refine cd_region ?_
    refine st (ev_assign rfl) rfl rfl rfl ?_
    refine op_nil ?_
    refine ax_then ?_
    refine At.regs (L' := [(2, _), (3, _), (4, _), (5, _)]) (.cons rfl (.cons rfl (.cons rfl (.cons rfl (.nil _))))) ?_
    refine cd_block ?_
    refine at_heq (i := 11) (v' := .own (v) 5 1 (ints .u8 (b ++ [128] ++ List.replicate (zs b.length) 0 ++ bes (8 * (b.length : Int)) 0))) rfl (by simp [bes]) ?_
    refine at_eq (i := 5) (v' := .int .i64 (7 - ((0 : Nat) : Int))) rfl rfl ?_
    refine cd_loop (ι := Nat × Value) (fun x => x.1 ≤ 8) (fun x => 8 - x.1)
        (fun x => [(2, .pointer (some ⟨b2, 0, none⟩)), (3, x.2), (4, .int .u64 (8 * (b.length : Int))), (5, .int .i64 (7 - (x.1 : Int)))])
        (fun x => [(2, .blk b2 (.cells (ints .u8 (List.replicate 32 0)).toArray 55)), (11, .own (x.2) 5 1 (ints .u8 (b ++ [128] ++ List.replicate (zs b.length) 0 ++ bes (8 * (b.length : Int)) x.1)))])
        (fun x => [])
        (0, v) (by omega) (.cons rfl (.cons rfl (.cons rfl (.cons rfl (.nil _))))) (.cons rfl (.cons rfl (.nil _))) (.nil _) (fun x hi => ?_)
    have hbe := bes_len (8 * (b.length : Int)) x.1
    refine cd_seq ?_
    refine cd_seq ?_
    refine cd_region ?_
    refine st (ev_move rfl) rfl rfl rfl ?_
    refine st (ev_geq rfl rfl) rfl rfl rfl ?_
    refine op_nil ?_
    refine ax_then ?_
    refine At.regs (L' := [(2, _), (3, _), (4, _), (5, _), (27, _), (28, _)]) (.cons rfl (.cons rfl (.cons rfl (.cons rfl (.cons rfl (.cons rfl (.nil _))))))) ?_
    refine cd_if rfl (fun hc28 => ?_) (fun hc28 => ?_)
    ·
      refine cd_skip ?_
      refine ax_then ?_
      refine At.regs (L' := [(2, _), (3, _), (4, _), (5, _), (27, _), (28, _)]) (.cons rfl (.cons rfl (.cons rfl (.cons rfl (.cons rfl (.cons rfl (.nil _))))))) ?_
      refine cd_seq ?_
      refine cd_block ?_
      refine cd_region ?_
      refine st (ev_move rfl) rfl rfl rfl ?_
      refine st (ev_move rfl) rfl rfl rfl ?_
      refine st (ev_move rfl) rfl rfl rfl ?_
      refine st (ev_mul64 rfl rfl (by omega) (by omega)) rfl rfl rfl ?_
      refine st (ev_convu64 Try.underlying3 Try.underlying136 rfl (by omega) (by omega)) rfl rfl rfl ?_
      refine st (ev_shr rfl rfl (by omega)) rfl rfl rfl ?_
      refine st (ev_conv Try.underlying135 Try.underlying5 rfl) rfl rfl rfl ?_
      refine st_bsi (h := 38) (xs := [_]) Try.underlying28 ty5 (by decide) rfl rfl (by decide) rfl rfl (fun b38 => ?_)
      refine st_appendi (h := 11) Try.underlying28 Try.underlying28 ty5 rfl rfl rfl rfl (fun w1 sw => sw.own_rd (h := 38) rfl) (by first | omega | (simp only [List.length_append, List.length_cons, List.length_nil, List.length_set, List.length_replicate, List.length_take, List.length_drop, ints_length, wr_length, comp_len, absorb_len, S0_len] <;> omega)) (by decide) rfl rfl (fun v39 => ?_)
      refine st (ev_assign rfl) rfl rfl rfl ?_
      refine op_nil ?_
      refine ax_block ?_
      refine ax_then ?_
      refine At.regs (L' := [(2, _), (3, _), (4, _), (5, _), (27, _), (28, _), (31, _), (32, _), (33, _), (34, _), (35, _), (36, _), (37, _), (38, _), (39, _)]) (.cons rfl (.cons rfl (.cons rfl (.cons rfl (.cons rfl (.cons rfl (.cons rfl (.cons rfl (.cons rfl (.cons rfl (.cons rfl (.cons rfl (.cons rfl (.cons rfl (.cons rfl (.nil _)))))))))))))))) ?_
      refine cd_region ?_
      refine st (ev_move rfl) rfl rfl rfl ?_
      refine st (ev_sub64 rfl rfl (by omega) (by omega)) rfl rfl rfl ?_
      refine st (ev_assign rfl) rfl rfl rfl ?_
      refine op_nil ?_
      have e0 : 8 * (7 - (x.1 : Int)) = 8 * ((7 - x.1 : Nat) : Int) := by omega
      refine ax_heq (i := 11) (v' := .own (v39) 5 1 (ints .u8 (b ++ [128] ++ List.replicate (zs b.length) 0 ++ bes (8 * (b.length : Int)) (x.1 + 1)))) rfl (by simp only [e0, List.append_assoc]; rfl) ?_
      refine ax_eq (i := 5) (v' := .int .i64 (7 - ((x.1 + 1 : Nat) : Int))) rfl (by congr 1; omega) ?_
      exact at_again ((x.1 + 1, v39)) (by show x.1 + 1 ≤ 8; omega) (by omega) (.cons rfl (.cons rfl (.cons rfl (.cons rfl (.nil _))))) (.cons rfl (.cons rfl (.nil _))) (.nil _)
    ·
      obtain ⟨j, v⟩ := x
      dsimp only at hi hc28 ⊢
      obtain rfl : j = 8 := by omega
      have hpl := pad_len b
      have hpd := pad_len64 b
      have hzs : zs b.length < 64 := by unfold zs; omega
      refine at_heq (i := 11) (v' := .own (v) 5 1 (ints .u8 (pad b))) rfl rfl ?_
      refine cd_exit ?_
      refine ax_then_exit ?_
      refine ax_then_exit ?_
      refine ax_block_hit ?_
      refine ax_then ?_
      refine At.regs (L' := [(2, _), (3, _)]) (.cons rfl (.cons rfl (.nil _))) ?_
      refine cd_seq ?_
      refine cd_region ?_
      refine st (ev_build_ints (xs := [_, _, _, _, _, _, _, _]) (zs := List.replicate 8 0) ty168 rfl ty167 rfl rfl rfl rfl rfl) rfl rfl rfl ?_
      refine st_alloc (h := 6) ty168 rfl rfl rfl (fun b6 => ?_)
      refine st_store_all 6 ty168 rfl rfl rfl rfl (by first | omega | (simp only [List.length_append, List.length_cons, List.length_nil, List.length_set, List.length_replicate, List.length_take, List.length_drop, ints_length, wr_length, comp_len, absorb_len, S0_len] <;> omega) | rfl) (ints_one _ _) (by first | omega | (simp only [List.length_append, List.length_cons, List.length_nil, List.length_set, List.length_replicate, List.length_take, List.length_drop, ints_length, wr_length, comp_len, absorb_len, S0_len] <;> omega) | rfl) rfl ?_
      refine op_nil ?_
      refine ax_then ?_
      refine At.regs (L' := [(2, _), (3, _), (6, _)]) (.cons rfl (.cons rfl (.cons rfl (.nil _)))) ?_
      refine cd_seq ?_
      refine cd_region ?_
      refine st_callv has123 rfl (fun w1 sw => rk_any w1) rfl rfl ?_
      refine st_alloc (h := 7) ty169 rfl rfl rfl (fun b7 => ?_)
      refine st_store_all 7 ty169 rfl rfl rfl rfl (by first | omega | (simp only [List.length_append, List.length_cons, List.length_nil, List.length_set, List.length_replicate, List.length_take, List.length_drop, ints_length, wr_length, comp_len, absorb_len, S0_len] <;> omega) | rfl) (ints_one _ _) (by first | omega | (simp only [List.length_append, List.length_cons, List.length_nil, List.length_set, List.length_replicate, List.length_take, List.length_drop, ints_length, wr_length, comp_len, absorb_len, S0_len] <;> omega) | rfl) rfl ?_
      refine op_nil ?_
      refine ax_then ?_
      refine At.regs (L' := [(2, _), (3, _), (6, _), (7, _)]) (.cons rfl (.cons rfl (.cons rfl (.cons rfl (.nil _))))) ?_
      refine cd_seq ?_
      refine cd_seq ?_
      refine cd_region ?_
      refine st (ev_assign rfl) rfl rfl rfl ?_
      refine op_nil ?_
      refine ax_then ?_
      refine At.regs (L' := [(2, _), (3, _), (6, _), (7, _), (8, _)]) (.cons rfl (.cons rfl (.cons rfl (.cons rfl (.cons rfl (.nil _)))))) ?_
      refine cd_block ?_
      refine cd_loop (ι := Nat) (fun m => 64 * m ≤ (pad b).length) (fun m => (pad b).length - m)
          (fun m => [(2, .pointer (some ⟨b2, 0, none⟩)), (3, v), (6, .pointer (some ⟨b6, 0, none⟩)), (7, .pointer (some ⟨b7, 0, none⟩)), (8, .int .i64 (64 * (m : Int)))])
          (fun m => [(2, .blk b2 (.cells (ints .u8 (List.replicate 32 0)).toArray 55)), (6, .blk b6 (.cells (ints .u32 (absorb S0 (pad b) m)).toArray 168)), (7, .blk b7 (.cells (ints .u32 (K)).toArray 169)), (11, .own (v) 5 1 (ints .u8 (pad b)))])
          (fun m => [])
          0 (by omega) (.cons rfl (.cons rfl (.cons rfl (.cons rfl (.cons rfl (.nil _)))))) (.cons rfl (.cons rfl (.cons rfl (.cons rfl (.nil _))))) (.nil _) (fun m hi => ?_)
      have hal : (absorb S0 (pad b) m).length = 8 := by rw [absorb_len]; rfl
      refine cd_seq ?_
      refine cd_seq ?_
      refine cd_region ?_
      refine st (ev_move rfl) rfl rfl rfl ?_
      refine st (ev_move rfl) rfl rfl rfl ?_
      refine st (ev_len_owni (h := 11) Try.underlying28 rfl rfl) rfl rfl rfl ?_
      refine st (ev_lss rfl rfl) rfl rfl rfl ?_
      refine op_nil ?_
      refine ax_then ?_
      refine At.regs (L' := [(2, _), (3, _), (6, _), (7, _), (8, _), (42, _), (43, _), (44, _), (45, _)]) (.cons rfl (.cons rfl (.cons rfl (.cons rfl (.cons rfl (.cons rfl (.cons rfl (.cons rfl (.cons rfl (.nil _)))))))))) ?_
      refine cd_if rfl (fun hc45 => ?_) (fun hc45 => ?_)
      ·
        refine cd_skip ?_
        refine ax_then ?_
        refine At.regs (L' := [(2, _), (3, _), (6, _), (7, _), (8, _), (42, _), (43, _), (44, _), (45, _)]) (.cons rfl (.cons rfl (.cons rfl (.cons rfl (.cons rfl (.cons rfl (.cons rfl (.cons rfl (.cons rfl (.nil _)))))))))) ?_
        refine cd_seq ?_
        refine cd_block ?_
        refine cd_open_tail 7 hmix (by decide +kernel) ?_
        refine qt (ld_blk_all (h := 6) ty168 rfl rfl rfl (by first | omega | (simp only [List.length_append, List.length_cons, List.length_nil, List.length_set, List.length_replicate, List.length_take, List.length_drop, ints_length, wr_length, comp_len, absorb_len, S0_len] <;> omega) | rfl)) rfl rfl rfl ?_
        refine qt (ev_move rfl) rfl rfl rfl ?_
        refine qt (ev_move rfl) rfl rfl rfl ?_
        refine qt (ev_move rfl) rfl rfl rfl ?_
        refine qt (ev_add64 rfl rfl (by omega) (by omega)) rfl rfl rfl ?_
        refine qt (ev_slicei Try.underlying28 ty5 rfl rfl rfl (fun w1 sw => sw.own_rd (h := 11) rfl) (by omega) (by omega) (by first | omega | (simp only [List.length_append, List.length_cons, List.length_nil, List.length_set, List.length_replicate, List.length_take, List.length_drop, ints_length, wr_length, comp_len, absorb_len, S0_len] <;> omega))) rfl rfl rfl ?_
        refine qt_callv has124 rfl (fun w1 sw => block_any b7 _ _ _ K w1 hal rfl (by simp only [List.length_take, List.length_drop]; omega) ((sw.own_rd (h := 11) rfl).cuti (by omega) (by omega)) (lies_blk (sw.blk_eq (h := 7) rfl))) rfl rfl ?_
        refine qt_end ?_
        refine st_store_all 6 ty168 rfl rfl rfl rfl (by first | omega | (simp only [List.length_append, List.length_cons, List.length_nil, List.length_set, List.length_replicate, List.length_take, List.length_drop, ints_length, wr_length, comp_len, absorb_len, S0_len] <;> omega) | rfl) (ints_one _ _) (by first | omega | (simp only [List.length_append, List.length_cons, List.length_nil, List.length_set, List.length_replicate, List.length_take, List.length_drop, ints_length, wr_length, comp_len, absorb_len, S0_len] <;> omega) | rfl) rfl ?_
        refine op_nil ?_
        refine ax_block ?_
        refine ax_then ?_
        refine At.regs (L' := [(2, _), (3, _), (6, _), (7, _), (8, _), (42, _), (43, _), (44, _), (45, _), (48, _), (49, _), (50, _), (51, _), (52, _), (53, _), (54, _)]) (.cons rfl (.cons rfl (.cons rfl (.cons rfl (.cons rfl (.cons rfl (.cons rfl (.cons rfl (.cons rfl (.cons rfl (.cons rfl (.cons rfl (.cons rfl (.cons rfl (.cons rfl (.cons rfl (.nil _))))))))))))))))) ?_
        refine cd_region ?_
        refine st (ev_move rfl) rfl rfl rfl ?_
        refine st (ev_add64 rfl rfl (by omega) (by omega)) rfl rfl rfl ?_
        refine st (ev_assign rfl) rfl rfl rfl ?_
        refine op_nil ?_
        have e0 : (64 * (m : Int)).toNat = 64 * m := by omega
        refine ax_heq (i := 6) (v' := .blk b6 (.cells (ints .u32 (absorb S0 (pad b) (m + 1))).toArray 168)) rfl (by simp only [e0]; rw [comp_take _ _ _ _ (by omega)]; rfl) ?_
        exact at_again (m + 1) (by omega) (by omega) (.cons rfl (.cons rfl (.cons rfl (.cons rfl (.cons rfl (.nil _)))))) (.cons rfl (.cons rfl (.cons rfl (.cons rfl (.nil _))))) (.nil _)
      ·
        obtain rfl : m = (pad b).length / 64 := by omega
        refine cd_exit ?_
        refine ax_then_exit ?_
        refine ax_then_exit ?_
        refine ax_block_hit ?_
        refine ax_then ?_
        refine At.regs (L' := [(2, _), (6, _)]) (.cons rfl (.cons rfl (.nil _))) ?_
        refine cd_seq ?_
        refine at_heq (i := 6) (v' := .blk b6 (.cells (ints .u32 (fs b)).toArray 168)) rfl rfl ?_
        refine cd_region ?_
        refine st_alloc (h := 9) ty55 rfl rfl rfl (fun b9 => ?_)
        refine op_nil ?_
        refine ax_then ?_
        refine At.regs (L' := [(2, _), (6, _), (9, _)]) (.cons rfl (.cons rfl (.cons rfl (.nil _)))) ?_
        refine cd_seq ?_
        refine cd_seq ?_
        refine cd_region ?_
        refine st (ev_assign rfl) rfl rfl rfl ?_
        refine op_nil ?_
        refine ax_then ?_
        refine At.regs (L' := [(2, _), (6, _), (9, _), (10, _)]) (.cons rfl (.cons rfl (.cons rfl (.cons rfl (.nil _))))) ?_
        refine cd_block ?_
        refine cd_loop (ι := Nat) (fun i => i ≤ 32) (fun i => 32 - i)
            (fun i => [(2, .pointer (some ⟨b2, 0, none⟩)), (6, .pointer (some ⟨b6, 0, none⟩)), (9, .pointer (some ⟨b9, 0, none⟩)), (10, .int .i64 (i : Int))])
            (fun i => [(2, .blk b2 (.cells (ints .u8 (List.replicate 32 0)).toArray 55)), (6, .blk b6 (.cells (ints .u32 (fs b)).toArray 168)), (9, .blk b9 (.cells (ints .u8 (outr (fs b) i)).toArray 55))])
            (fun i => [])
            0 (by omega) (.cons rfl (.cons rfl (.cons rfl (.cons rfl (.nil _))))) (.cons rfl (.cons rfl (.cons rfl (.nil _)))) (.nil _) (fun i hi => ?_)
        have hfl := fs_len b
        have hol := outr_len (fs b) i
        refine cd_seq ?_
        refine cd_seq ?_
        refine cd_region ?_
        refine st (ev_move rfl) rfl rfl rfl ?_
        refine st (ev_lss rfl rfl) rfl rfl rfl ?_
        refine op_nil ?_
        refine ax_then ?_
        refine At.regs (L' := [(2, _), (6, _), (9, _), (10, _), (55, _), (56, _)]) (.cons rfl (.cons rfl (.cons rfl (.cons rfl (.cons rfl (.cons rfl (.nil _))))))) ?_
        refine cd_if rfl (fun hc56 => ?_) (fun hc56 => ?_)
        ·
          refine cd_skip ?_
          refine ax_then ?_
          refine At.regs (L' := [(2, _), (6, _), (9, _), (10, _), (55, _), (56, _)]) (.cons rfl (.cons rfl (.cons rfl (.cons rfl (.cons rfl (.cons rfl (.nil _))))))) ?_
          refine cd_seq ?_
          refine cd_block ?_
          refine cd_region ?_
          refine st (ev_move rfl) rfl rfl rfl ?_
          refine st (ev_move rfl) rfl rfl rfl ?_
          refine st (ev_quo64 rfl rfl (by omega) (by omega) (by omega)) rfl rfl rfl ?_
          refine st (ev_indexAddr_arr Try.underlying168 ty167 rfl rfl (by omega) (by omega)) rfl rfl rfl ?_
          refine st (ld_blk1 (h := 6) ty167 rfl rfl rfl (ints_get _ _ _ (by first | omega | (simp only [List.length_append, List.length_cons, List.length_nil, List.length_set, List.length_replicate, List.length_take, List.length_drop, ints_length, wr_length, comp_len, absorb_len, S0_len] <;> omega) | rfl))) rfl rfl rfl ?_
          refine st (ev_move rfl) rfl rfl rfl ?_
          refine st (ev_rem64 rfl rfl (by omega) (by omega)) rfl rfl rfl ?_
          refine st (ev_mul64 rfl rfl (by omega) (by omega)) rfl rfl rfl ?_
          refine st (ev_sub64 rfl rfl (by omega) (by omega)) rfl rfl rfl ?_
          refine st (ev_convu64 Try.underlying3 Try.underlying136 rfl (by omega) (by omega)) rfl rfl rfl ?_
          refine st (ev_shr rfl rfl (by omega)) rfl rfl rfl ?_
          refine st (ev_conv Try.underlying167 Try.underlying5 rfl) rfl rfl rfl ?_
          refine st (ev_indexAddr_arr Try.underlying55 ty5 rfl rfl (by omega) (by omega)) rfl rfl rfl ?_
          refine st_store1 9 ty5 rfl rfl rfl rfl (by first | omega | (simp only [List.length_append, List.length_cons, List.length_nil, List.length_set, List.length_replicate, List.length_take, List.length_drop, ints_length, wr_length, comp_len, absorb_len, S0_len] <;> omega) | rfl) rfl ?_
          refine at_heq (i := 9) rfl (by rw [ints_set]) ?_
          refine op_nil ?_
          refine ax_block ?_
          refine ax_then ?_
          refine At.regs (L' := [(2, _), (6, _), (9, _), (10, _), (55, _), (56, _), (59, _), (60, _), (61, _), (62, _), (63, _), (64, _), (65, _), (66, _), (67, _), (68, _), (69, _), (70, _), (71, _)]) (.cons rfl (.cons rfl (.cons rfl (.cons rfl (.cons rfl (.cons rfl (.cons rfl (.cons rfl (.cons rfl (.cons rfl (.cons rfl (.cons rfl (.cons rfl (.cons rfl (.cons rfl (.cons rfl (.cons rfl (.cons rfl (.cons rfl (.nil _)))))))))))))))))))) ?_
          refine cd_region ?_
          refine st (ev_move rfl) rfl rfl rfl ?_
          refine st (ev_add64 rfl rfl (by omega) (by omega)) rfl rfl rfl ?_
          refine st (ev_assign rfl) rfl rfl rfl ?_
          refine op_nil ?_
          have e0 : 0 + (i : Int).toNat * 1 = i := by omega
          have e1 : 0 + ((i : Int) / 4).toNat * 1 = i / 4 := by omega
          have e2 : (i : Int) % 4 = ((i % 4 : Nat) : Int) := by omega
          refine ax_heq (i := 9) (v' := .blk b9 (.cells (ints .u8 (outr (fs b) (i + 1))).toArray 55)) rfl (by simp only [e0, e1, e2]; rfl) ?_
          exact at_again (i + 1) (by omega) (by omega) (.cons rfl (.cons rfl (.cons rfl (.cons rfl (.nil _))))) (.cons rfl (.cons rfl (.cons rfl (.nil _)))) (.nil _)
        ·
          obtain rfl : i = 32 := by omega
          refine cd_exit ?_
          refine ax_then_exit ?_
          refine ax_then_exit ?_
          refine ax_block_hit ?_
          refine ax_then ?_
          refine At.regs (L' := [(2, _), (9, _)]) (.cons rfl (.cons rfl (.nil _))) ?_
          refine cd_seq ?_
          refine at_heq (i := 9) (v' := .blk b9 (.cells (ints .u8 (sha b)).toArray 55)) rfl (by rw [outr_eq]; rfl) ?_
          have hsl := sha_len b
          refine cd_region ?_
          refine st (ld_blk_all (h := 9) ty55 rfl rfl rfl (by first | omega | (simp only [List.length_append, List.length_cons, List.length_nil, List.length_set, List.length_replicate, List.length_take, List.length_drop, ints_length, wr_length, comp_len, absorb_len, S0_len] <;> omega) | rfl)) rfl rfl rfl ?_
          refine st_store_all 2 ty55 rfl rfl rfl rfl (by first | omega | (simp only [List.length_append, List.length_cons, List.length_nil, List.length_set, List.length_replicate, List.length_take, List.length_drop, ints_length, wr_length, comp_len, absorb_len, S0_len] <;> omega) | rfl) (ints_one _ _) (by first | omega | (simp only [List.length_append, List.length_cons, List.length_nil, List.length_set, List.length_replicate, List.length_take, List.length_drop, ints_length, wr_length, comp_len, absorb_len, S0_len] <;> omega) | rfl) rfl ?_
          refine op_nil ?_
          refine ax_then ?_
          refine At.regs (L' := [(2, _)]) (.cons rfl (.nil _)) ?_
          refine cd_ret ?_
          refine rt_cell (h0 := 2) (.inl rfl) Try.results98 ty55 rfl rfl rfl (by first | omega | (simp only [List.length_append, List.length_cons, List.length_nil, List.length_set, List.length_replicate, List.length_take, List.length_drop, ints_length, wr_length, comp_len, absorb_len, S0_len] <;> omega) | rfl) ?_
          exact fun w1 sw => ⟨rfl, sw.gives (.nil _)⟩
end Go.Proofs.Ytgfnmolbagilmaa

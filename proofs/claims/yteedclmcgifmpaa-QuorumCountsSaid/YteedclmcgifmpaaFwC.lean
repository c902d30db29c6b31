/- Merged: Fw10, Fw13. -/
import Derived.Test.YteedclmcgifmpaaFwB
import Derived.Test.YteedclmcgifmpaaShaA
import Derived.Carry
import Derived.OpenShut
import Derived.ProofKit
import Derived.ChangeSame
import Derived.HandedShaped
import Derived.SizedLaws
/- From the row's reading of the arguments to the walks' words, and back. -/
namespace Go.Proofs.Yteedclmcgifmpaa.Fw
open Go Go.RowKit Go.WideShapes Go.ChangeShapes
set_option linter.unusedSimpArgs false
set_option linter.unusedVariables false

section
variable {H : Type} {enc : TypeId × Value → H} {P : Program} {W : World}

/-- All arguments read as they did. -/
theorem all_below (hl : laidOutB P = true) {W' : World} (hb : Below W.heap.size W W') {sp : Nat → Bool} :
    ∀ (ts : List TypeId) (vs : List Value) (ds : List (DataW H)) (ps : List MemPlace), (∀ t, t ∈ ts → P.readableRec t = true ∧ t < P.types.size) →
      DataW.TrodAll enc P W 0 (fun _ => true) true ts vs ds ps → (∀ x, x ∈ ps → x.block < W.heap.size) → (∀ x, x ∈ ps → sp x.block = true) → DataW.TrodAll enc P W' 0 sp true ts vs ds ps
  | [], [], [], _, _, h, _, _ => h
  | t :: ts, v :: vs, d :: ds, _, ht, h, hlt, hsp => by
    obtain ⟨p, q, h1, h2, rfl⟩ := h
    refine ⟨p, q, WideElems.Trod_stays hl (ht t (by simp)).1 (ht t (by simp)).2 h1 (fun x hx => hb.same (hlt x (by simp [hx]))) (fun x hx => hsp x (by simp [hx])), ?_, rfl⟩
    exact all_below hl hb ts vs ds q (fun t h => ht t (by simp [h])) h2 (fun x hx => hlt x (by simp [hx])) (fun x hx => hsp x (by simp [hx]))
  | [], [], _ :: _, _, _, h, _, _ => h.elim
  | [], _ :: _, _, _, _, h, _, _ => h.elim
  | _ :: _, [], _, _, _, h, _, _ => h.elim
  | _ :: _, _ :: _, [], _, _, h, _, _ => h.elim

theorem ok_slice {r : Reach} {base : Nat} {t e : TypeId} {v : Value} (ht : P.underlying t = some (.slice e)) (h : Value.okWide P W r base t v) :
    ∃ a len cap, v = .slice a len cap ∧ len ≤ cap ∧ (a = none → cap = 0) ∧ ∀ x, a = some x → x.spot = none := by
  obtain ⟨a, len, cap, rfl⟩ := okWide_slice ht h
  simp only [Value.okWide, ht, Cell.okWide] at h
  cases a with
  | none =>
    simp only [Cell.ok, ht] at h
    have : len = 0 ∧ cap = 0 := by split at h <;> simp_all
    obtain ⟨rfl, rfl⟩ := this
    exact ⟨none, 0, 0, rfl, Nat.le_refl _, fun _ => rfl, fun x hx => by cases hx⟩
  | some x =>
    simp only [Cell.ok, ht] at h
    obtain ⟨h1, _, h2⟩ := h
    exact ⟨_, _, _, rfl, h1, (fun hn => by cases hn), fun y hy => by cases hy; exact h2.2.1⟩

/-- No part is larger than memory. -/
def Light (P : Program) (t : TypeId) (d : DataW H) : Prop := ∀ n, n ∈ d.weights P t → n ≤ reachBytes
theorem light_of {ts : List TypeId} {ds : List (DataW H)} {j : Nat} {t : TypeId} {d : DataW H} (h : (DataW.weightsEach P ts ds).all (· ≤ reachBytes) = true) (ht : ts[j]? = some t) (hd : ds[j]? = some d) : Light P t d := fun n hn => by
  have := List.all_eq_true.1 h _ (DataW.weights_mem_each ht hd n hn)
  simpa using this
theorem weights_all {e : TypeId} : ∀ {ds : List (DataW H)} {i : Nat} {d : DataW H}, ds[i]? = some d → ∀ n, n ∈ d.weights P e → n ∈ DataW.weightsAll P e ds
  | d0 :: ds, 0, d, hd, n, hn => by
    simp only [List.getElem?_cons_zero, Option.some.injEq] at hd
    subst hd
    simp only [DataW.weightsAll, List.mem_append]
    exact .inl hn
  | d0 :: ds, i + 1, d, hd, n, hn => by
    simp only [List.getElem?_cons_succ] at hd
    simp only [DataW.weightsAll, List.mem_append]
    exact .inr (weights_all hd n hn)
  | [], _, _, hd, _, _ => by simp at hd
/-- An element's reading. -/
def Tr (enc : TypeId × Value → H) (P : Program) (W : World) (t : TypeId) (cs : List Value) : Prop := ∃ fuel d ps, DataW.trod enc P W 0 (fun _ => true) true fuel t cs = some (d, ps) ∧ Light P t d
theorem all_rows {ts : List TypeId} (h : (ts.all fun t => P.readableRec t && decide (t < P.types.size)) = true) : ∀ t, t ∈ ts → P.readableRec t = true ∧ t < P.types.size := by
  intro t ht
  have := List.all_eq_true.1 h t ht
  simpa using this

/-- A slice, opened: its cells lie, and each element reads. -/
theorem rd_of {r : Reach} {base : Nat} {t e : TypeId} {v : Value} {d : DataW H} {ps : List MemPlace} (ht : P.underlying t = some (.slice e)) (he : 0 < P.cellsOf e)
    (hval : Value.okWide P W r base t v) (hd : DataW.Trod enc P W 0 (fun _ => true) true t v d ps) (hw : Light P t d) :
    ∃ (l : List Value) (n : Nat), Rd W v (P.cellsOf e) l ∧ l.length = n * P.cellsOf e ∧ n * P.bytesOf e ≤ reachBytes ∧ ∀ i, i < n → Tr enc P W e ((l.drop (i * P.cellsOf e)).take (P.cellsOf e)) := by
  obtain ⟨a, len, cap, rfl, h1, h2, h3⟩ := ok_slice ht hval
  obtain ⟨fuel, hf⟩ := hd
  rcases DataW.trod_slice ht hf with ⟨hc, _⟩ | ⟨a, len', cap', elems, rest, n, rfl, hc, hdd, hb, hl, hm, hlen, hel, _⟩
  · simp [Value.cells] at hc
    obtain ⟨rfl, rfl, rfl⟩ := hc
    exact ⟨[], 0, ⟨none, 0, 0, rfl, by simp, by omega, fun _ => rfl, fun x hx => by cases hx⟩, by simp, by simp, fun i hi => by omega⟩
  · simp [Value.cells] at hc
    obtain ⟨rfl, rfl, rfl⟩ := hc
    obtain ⟨b, off, spot⟩ := a
    obtain rfl : spot = none := h3 _ rfl
    obtain ⟨rfl, _⟩ := Prod.mk.injEq .. ▸ hdd
    have hbytes : len * P.bytesOf e ≤ reachBytes := by
      have h := hw ((elems.length + rest.length) * P.bytesOf e) (by simp [DataW.weights, ht])
      refine Nat.le_trans (Nat.mul_le_mul_right _ ?_) h
      omega
    have one : ∀ i, i < len → ∃ cs x, W.cells? 0 ((⟨b, off, none⟩ : Addr).add (i * P.cellsOf e)) (P.cellsOf e) = some cs ∧ DataW.trod enc P W 0 (fun _ => true) true n e cs = some x ∧ Light P e x.1 := by
      intro i hi
      have h := hel i hi
      have hx : ∃ x, elems[i]? = some x := ⟨elems[i]'(by omega), List.getElem?_eq_getElem (by omega)⟩
      obtain ⟨x, hx⟩ := hx
      rw [hx] at h
      obtain ⟨cs, h4, h5⟩ := Option.bind_eq_some_iff.1 h
      exact ⟨cs, x, h4, h5, fun k hk => hw k (by
        simp only [DataW.weights, ht, List.mem_cons, List.mem_append]
        exact .inr (.inl (weights_all (i := i) (by rw [List.getElem?_map, hx]; rfl) k hk)))⟩
    have all : ∀ m, m ≤ len → ∃ l : List Value, l.length = m * P.cellsOf e ∧ (∀ i, i < l.length → W.cell? ⟨b, off + i, none⟩ = l[i]?) ∧ ∀ i, i < m → Tr enc P W e ((l.drop (i * P.cellsOf e)).take (P.cellsOf e)) := by
      intro m
      induction m with
      | zero => exact fun _ => ⟨[], by simp, fun i hi => by simp at hi, fun i hi => by omega⟩
      | succ m ih =>
        intro hm
        obtain ⟨l, h4, h5, h6⟩ := ih (by omega)
        obtain ⟨cs, x, h7, h8, h8w⟩ := one m (by omega)
        obtain ⟨_, h9, h10⟩ := World.cells?_some h7
        refine ⟨l ++ cs, by rw [List.length_append, h4, h9, Nat.succ_mul], fun i hi => ?_, fun i hi => ?_⟩
        · by_cases hil : i < l.length
          · rw [List.getElem?_append_left hil]; exact h5 i hil
          · rw [List.getElem?_append_right (by omega), ← h10 (i - l.length) (by rw [List.length_append] at hi; omega)]
            have e1 : off + i = off + m * P.cellsOf e + (i - l.length) := by omega
            rw [e1, add_plain, add_plain]
        · by_cases him : i < m
          · have hlt : i * P.cellsOf e + P.cellsOf e ≤ l.length := by rw [h4, ← Nat.succ_mul]; exact Nat.mul_le_mul_right _ him
            have := h6 i him
            rw [List.drop_append_of_le_length (by omega), List.take_append_of_le_length (by rw [List.length_drop]; omega)]
            exact this
          · obtain rfl : i = m := by omega
            rw [List.drop_left' h4, List.take_of_length_le (by omega)]
            exact ⟨n, x.1, x.2, h8, h8w⟩
    obtain ⟨l, h4, h5, h6⟩ := all len (Nat.le_refl _)
    exact ⟨l, len, ⟨_, len, cap, rfl, h4, hl, (fun hn => by cases hn), fun x hx => by cases hx; exact ⟨fun _ => rfl, h5⟩⟩, h4, hbytes, h6⟩

theorem take1 {l : List Value} {i : Nat} (hi : i < l.length) : (l.drop i).take 1 = [l[i]] := by rw [List.drop_eq_getElem_cons hi, List.take_succ_cons, List.take_zero]
/-- A row of whole numbers of one kind. -/
theorem ints_all {k : IntKind} : ∀ (l : List Value), (∀ i, i < l.length → ∃ n, l[i]? = some (.int k n) ∧ (Lit.int k n).wf = true) → ∃ zs, l = ints k zs ∧ ∀ z, z ∈ zs → (Lit.int k z).wf = true
  | [], _ => ⟨[], rfl, fun z hz => by cases hz⟩
  | v :: l, h => by
    obtain ⟨n, h1, h2⟩ := h 0 (by simp)
    obtain ⟨zs, rfl, h3⟩ := ints_all l (fun i hi => by have := h (i + 1) (by simp; omega); simpa using this)
    refine ⟨n :: zs, by simp at h1; rw [h1]; rfl, fun z hz => ?_⟩
    rcases List.mem_cons.1 hz with rfl | hz
    · exact h2
    · exact h3 z hz
theorem tr_int {t : TypeId} {k : IntKind} {cs : List Value} (ht : P.underlying t = some (.int k)) (h : Tr enc P W t cs) : ∃ n, cs = [.int k n] ∧ (Lit.int k n).wf = true := by
  obtain ⟨fuel, x, y, h, _⟩ := h
  obtain ⟨n, h1, _, h2⟩ := DataW.trod_int ht h
  exact ⟨n, h1, h2⟩
/-- An array of whole numbers, read. -/
theorem tr_ints {t e : TypeId} {n : Nat} {k : IntKind} {cs : List Value} (ht : P.underlying t = some (.array n e)) (he : P.underlying e = some (.int k)) (hc : P.cellsOf e = 1) (hn : P.cellsOf t = n)
    (h : Tr enc P W t cs) : ∃ zs, cs = ints k zs ∧ zs.length = n ∧ ∀ z, z ∈ zs → (Lit.int k z).wf = true := by
  obtain ⟨fuel, x, y, h, _⟩ := h
  obtain ⟨xs, m, _, _, h1, h2, h3⟩ := DataW.trod_array ht h
  obtain ⟨zs, rfl, h4⟩ := ints_all (k := k) cs (fun i hi => by
    have h := h3 i (by omega)
    rw [hc, Nat.mul_one] at h
    rw [take1 hi, List.getElem?_eq_getElem (by omega)] at h
    obtain ⟨n, h5, _, h6⟩ := DataW.trod_int he h
    exact ⟨n, by rw [List.getElem?_eq_getElem hi, (List.cons.inj h5).1], h6⟩)
  exact ⟨zs, rfl, by rw [ints_length] at h1; omega, h4⟩
theorem wf_byt {zs : List Int} (h : ∀ z, z ∈ zs → (Lit.int .u8 z).wf = true) : Sha.Byt zs := by
  intro z hz
  have := h z hz
  simp only [Lit.wf, IntKind.has, IntKind.min, IntKind.max, IntKind.signed, IntKind.bits] at this
  simp at this
  omega
/-- A slice of whole numbers, opened. -/
theorem rd_ints {r : Reach} {base : Nat} {t e : TypeId} {k : IntKind} {v : Value} {d : DataW H} {ps : List MemPlace} (ht : P.underlying t = some (.slice e)) (he : P.underlying e = some (.int k)) (hc : P.cellsOf e = 1)
    (hval : Value.okWide P W r base t v) (hd : DataW.Trod enc P W 0 (fun _ => true) true t v d ps) (hw : Light P t d) :
    ∃ l, Rd W v 1 (ints k l) ∧ l.length * P.bytesOf e ≤ reachBytes ∧ ∀ z, z ∈ l → (Lit.int k z).wf = true := by
  obtain ⟨l, n, h1, h2, h3, h4⟩ := rd_of ht (by omega) hval hd hw
  rw [hc, Nat.mul_one] at h2
  rw [hc] at h1
  obtain ⟨zs, rfl, h5⟩ := ints_all (k := k) l (fun i hi => by
    obtain ⟨m, h5, h6⟩ := tr_int he (h4 i (by omega))
    rw [hc, Nat.mul_one, take1 hi] at h5
    exact ⟨m, by rw [List.getElem?_eq_getElem hi, (List.cons.inj h5).1], h6⟩)
  exact ⟨zs, h1, by rw [ints_length] at h2; rw [h2]; exact h3, h5⟩
/-- An array of whole numbers as an argument. -/
theorem open_arr {r : Reach} {base : Nat} {t e : TypeId} {n : Nat} {k : IntKind} {v : Value} {d : DataW H} {ps : List MemPlace} (ht : P.underlying t = some (.array n e)) (he : P.underlying e = some (.int k)) (hc : P.cellsOf e = 1) (hn : P.cellsOf t = n)
    (hval : Value.okWide P W r base t v) (hd : DataW.Trod enc P W 0 (fun _ => true) true t v d ps) (hw : Light P t d) : ∃ zs, v = .agg (ints k zs).toArray ∧ zs.length = n ∧ ∀ z, z ∈ zs → (Lit.int k z).wf = true := by
  simp only [Value.okWide, ht] at hval
  obtain ⟨cs, rfl, _⟩ := hval
  obtain ⟨fuel, hf⟩ := hd
  obtain ⟨zs, h1, h2, h3⟩ := tr_ints ht he hc hn ⟨fuel, _, _, hf, hw⟩
  exact ⟨zs, by rw [← h1]; rfl, h2, h3⟩
end
end Go.Proofs.Yteedclmcgifmpaa.Fw

/- Structs and rows of hashes among the arguments. -/
namespace Go.Proofs.Yteedclmcgifmpaa.Fw
open Go Go.RowKit Go.WideShapes Go.ChangeShapes
set_option linter.unusedVariables false

section
variable {H : Type} {enc : TypeId × Value → H} {P : Program} {W : World}

/-- A slice value that may be. -/
def OkS (v : Value) : Prop := ∃ a len cap, v = .slice a len cap ∧ len ≤ cap ∧ (a = none → cap = 0) ∧ ∀ x, a = some x → x.spot = none
theorem ok_cell {r : Reach} {base : Nat} {t e : TypeId} {v : Value} (ht : P.underlying t = some (.slice e)) (h : Cell.okWide P W r base t v) : OkS v :=
  ok_slice (r := r) (base := base) (W := W) ht (by simpa only [Value.okWide, ht] using h)
/-- A slice, opened. -/
theorem rd_tr {t e : TypeId} {v : Value} (ht : P.underlying t = some (.slice e)) (he : 0 < P.cellsOf e) (hok : OkS v) (h : Tr enc P W t [v]) :
    ∃ (l : List Value) (n : Nat), Rd W v (P.cellsOf e) l ∧ l.length = n * P.cellsOf e ∧ n * P.bytesOf e ≤ reachBytes ∧ ∀ i, i < n → Tr enc P W e ((l.drop (i * P.cellsOf e)).take (P.cellsOf e)) := by
  obtain ⟨fuel, d, ps, hf, hw⟩ := h
  obtain ⟨a, len, cap, rfl, h1, h2, h3⟩ := hok
  rcases DataW.trod_slice ht hf with ⟨hc, _⟩ | ⟨a, len', cap', elems, rest, n, rfl, hc, hdd, hb, hl, hm, hlen, hel, _⟩
  · simp at hc
    obtain ⟨rfl, rfl, rfl⟩ := hc
    exact ⟨[], 0, ⟨none, 0, 0, rfl, by simp, by omega, fun _ => rfl, fun x hx => by cases hx⟩, by simp, by simp, fun i hi => by omega⟩
  · simp at hc
    obtain ⟨rfl, rfl, rfl⟩ := hc
    obtain ⟨b, off, spot⟩ := a
    obtain rfl : spot = none := h3 _ rfl
    obtain ⟨rfl, _⟩ := Prod.mk.injEq .. ▸ hdd
    have hbytes : len * P.bytesOf e ≤ reachBytes := by
      have h := hw ((elems.length + rest.length) * P.bytesOf e) (by simp [DataW.weights, ht])
      refine Nat.le_trans (Nat.mul_le_mul_right _ ?_) h
      omega
    have one : ∀ i, i < len → ∃ cs x, W.cells? 0 ((⟨b, off, none⟩ : Addr).add (i * P.cellsOf e)) (P.cellsOf e) = some cs ∧ DataW.trod enc P W 0 (fun _ => true) true n e cs = some x ∧ Light P e x.1 := by
      intro i hi
      have h := hel i hi
      have hx : ∃ x, elems[i]? = some x := ⟨elems[i]'(by omega), List.getElem?_eq_getElem (by omega)⟩
      obtain ⟨x, hx⟩ := hx
      rw [hx] at h
      obtain ⟨cs, h4, h5⟩ := Option.bind_eq_some_iff.1 h
      exact ⟨cs, x, h4, h5, fun k hk => hw k (by
        simp only [DataW.weights, ht, List.mem_cons, List.mem_append]
        exact .inr (.inl (weights_all (i := i) (by rw [List.getElem?_map, hx]; rfl) k hk)))⟩
    have all : ∀ m, m ≤ len → ∃ l : List Value, l.length = m * P.cellsOf e ∧ (∀ i, i < l.length → W.cell? ⟨b, off + i, none⟩ = l[i]?) ∧ ∀ i, i < m → Tr enc P W e ((l.drop (i * P.cellsOf e)).take (P.cellsOf e)) := by
      intro m
      induction m with
      | zero => exact fun _ => ⟨[], by simp, fun i hi => by simp at hi, fun i hi => by omega⟩
      | succ m ih =>
        intro hm
        obtain ⟨l, h4, h5, h6⟩ := ih (by omega)
        obtain ⟨cs, x, h7, h8, h8w⟩ := one m (by omega)
        obtain ⟨_, h9, h10⟩ := World.cells?_some h7
        refine ⟨l ++ cs, by rw [List.length_append, h4, h9, Nat.succ_mul], fun i hi => ?_, fun i hi => ?_⟩
        · by_cases hil : i < l.length
          · rw [List.getElem?_append_left hil]; exact h5 i hil
          · rw [List.getElem?_append_right (by omega), ← h10 (i - l.length) (by rw [List.length_append] at hi; omega)]
            have e1 : off + i = off + m * P.cellsOf e + (i - l.length) := by omega
            rw [e1, add_plain, add_plain]
        · by_cases him : i < m
          · have hlt : i * P.cellsOf e + P.cellsOf e ≤ l.length := by rw [h4, ← Nat.succ_mul]; exact Nat.mul_le_mul_right _ him
            have := h6 i him
            rw [List.drop_append_of_le_length (by omega), List.take_append_of_le_length (by rw [List.length_drop]; omega)]
            exact this
          · obtain rfl : i = m := by omega
            rw [List.drop_left' h4, List.take_of_length_le (by omega)]
            exact ⟨n, x.1, x.2, h8, h8w⟩
    obtain ⟨l, h4, h5, h6⟩ := all len (Nat.le_refl _)
    exact ⟨l, len, ⟨_, len, cap, rfl, h4, hl, (fun hn => by cases hn), fun x hx => by cases hx; exact ⟨fun _ => rfl, h5⟩⟩, h4, hbytes, h6⟩
/-- A struct as an argument, opened. -/
theorem open_struct {r : Reach} {base : Nat} {t : TypeId} {fs : Array Field} {v : Value} {d : DataW H} {ps : List MemPlace} (ht : P.underlying t = some (.struct fs))
    (hval : Value.okWide P W r base t v) (hd : DataW.Trod enc P W 0 (fun _ => true) true t v d ps) (hw : Light P t d) :
    ∃ cs : List Value, v = .agg cs.toArray ∧ cs.length = P.cellsOf t ∧ Row.okWide P W r base t cs.toArray ∧ ∀ (i : Nat) (f : Field), fs[i]? = some f → Tr enc P W f.type ((cs.drop f.offset).take (P.cellsOf f.type)) := by
  simp only [Value.okWide, ht] at hval
  obtain ⟨cs, rfl, h1, h2⟩ := hval
  obtain ⟨fuel, hf⟩ := hd
  obtain ⟨xs, n, rfl, hx, h3, h4, h5⟩ := DataW.trod_struct ht hf
  obtain ⟨rfl, _⟩ := Prod.mk.injEq .. ▸ hx
  refine ⟨cs.toList, by simp, h3, by simpa using h2, fun i f hi => ?_⟩
  have h := h5 i f hi
  have hlt : i < fs.size := (Array.getElem?_eq_some_iff.1 hi).1
  obtain ⟨x, hx⟩ : ∃ x, xs[i]? = some x := ⟨xs[i], List.getElem?_eq_getElem (by omega)⟩
  rw [hx] at h
  refine ⟨n, x.1, x.2, h, fun k hk => hw k ?_⟩
  simp only [DataW.weights, ht]
  exact DataW.weights_mem_each (j := i) (t := f.type) (d := x.1) (by simp [hi]) (by rw [List.getElem?_map, hx]; rfl) k hk
/-- A cell of a struct that is a slice. -/
theorem ok_field {r : Reach} {base : Nat} {t u e : TypeId} {cs : List Value} {ts : List TypeId} {i : Nat} {v : Value} (h : Row.okWide P W r base t cs.toArray) (hts : P.cellTypes P.depth t = some ts) (hi : cs[i]? = some v) (hu : ts[i % ts.length]? = some u) (he : P.underlying u = some (.slice e)) : OkS v := by
  obtain ⟨ts', h1, _, h2⟩ := h
  rw [hts] at h1
  cases h1
  obtain ⟨u', h3, h4⟩ := h2 i v (by simpa using hi)
  rw [hu] at h3
  cases h3
  exact ok_cell he h4
/-- A row of hashes. -/
theorem flat_all {t e : TypeId} (ht : P.underlying t = some (.array 32 e)) (he : P.underlying e = some (.int .u8)) (hc : P.cellsOf e = 1) (hn : P.cellsOf t = 32) : ∀ (n : Nat) (l : List Value), l.length = n * 32 → (∀ i, i < n → Tr enc P W t ((l.drop (i * 32)).take 32)) →
    ∃ hs, l = flat hs ∧ H32 hs ∧ hs.length = n ∧ ∀ h, h ∈ hs → Sha.Byt h
  | 0, l, hl, _ => ⟨[], by rw [List.length_eq_zero_iff.1 (by omega : l.length = 0)]; rfl, .nil, rfl, fun h hh => by cases hh⟩
  | n + 1, l, hl, h => by
    obtain ⟨zs, h1, h2, h3⟩ := tr_ints ht he hc hn (h 0 (by omega))
    obtain ⟨hs, h4, h5, h6, h7⟩ := flat_all ht he hc hn n (l.drop 32) (by rw [List.length_drop]; omega) (fun i hi => by
      have := h (i + 1) (by omega)
      rw [List.drop_drop]
      have e1 : 32 + i * 32 = (i + 1) * 32 := by omega
      rw [e1]
      exact this)
    rw [Nat.zero_mul, List.drop_zero] at h1
    refine ⟨zs :: hs, ?_, .cons h2 h5, by rw [List.length_cons, h6], fun x hx => ?_⟩
    · rw [flat_cons, ← h1, ← h4, List.take_append_drop]
    · rcases List.mem_cons.1 hx with rfl | hx
      · exact wf_byt h3
      · exact h7 x hx
theorem rd_hashes {t e b : TypeId} {v : Value} (ht : P.underlying t = some (.slice e)) (he : P.underlying e = some (.array 32 b)) (hb : P.underlying b = some (.int .u8)) (hc : P.cellsOf b = 1) (hn : P.cellsOf e = 32) (hok : OkS v) (h : Tr enc P W t [v]) :
    ∃ hs, Rd W v 32 (flat hs) ∧ H32 hs ∧ hs.length * P.bytesOf e ≤ reachBytes ∧ ∀ h, h ∈ hs → Sha.Byt h := by
  obtain ⟨l, n, h1, h2, h3, h4⟩ := rd_tr ht (by omega) hok h
  rw [hn] at h1 h2 h4
  obtain ⟨hs, rfl, h5, h6, h7⟩ := flat_all he hb hc hn n l h2 h4
  exact ⟨hs, h1, h5, by rw [h6]; exact h3, h7⟩
theorem tr_of {t : TypeId} {v : Value} {d : DataW H} {ps : List MemPlace} (hd : DataW.Trod enc P W 0 (fun _ => true) true t v d ps) (hw : Light P t d) (hv : v.cells.toList = [v]) : Tr enc P W t [v] := by
  obtain ⟨fuel, hf⟩ := hd
  rw [hv] at hf
  exact ⟨fuel, _, _, hf, hw⟩
theorem two {l : List Value} (h : l.length = 2) : ∃ a b, l = [a, b] := by
  match l, h with
  | [a, b], _ => exact ⟨a, b, rfl⟩
theorem three {l : List Value} (h : l.length = 3) : ∃ a b c, l = [a, b, c] := by
  match l, h with
  | [a, b, c], _ => exact ⟨a, b, c, rfl⟩
/-- A slice of hashes as an argument. -/
theorem open_hashes {r : Reach} {base : Nat} {t e b : TypeId} {v : Value} {d : DataW H} {ps : List MemPlace} (ht : P.underlying t = some (.slice e)) (he : P.underlying e = some (.array 32 b)) (hb : P.underlying b = some (.int .u8)) (hc : P.cellsOf b = 1) (hn : P.cellsOf e = 32)
    (hval : Value.okWide P W r base t v) (hd : DataW.Trod enc P W 0 (fun _ => true) true t v d ps) (hw : Light P t d) :
    ∃ hs, Rd W v 32 (flat hs) ∧ H32 hs ∧ hs.length * P.bytesOf e ≤ reachBytes ∧ ∀ h, h ∈ hs → Sha.Byt h := by
  have hok : OkS v := ok_slice ht hval
  obtain ⟨a, len, cap, rfl, _⟩ := ok_slice ht hval
  exact rd_hashes ht he hb hc hn hok (tr_of hd hw rfl)
end
end Go.Proofs.Yteedclmcgifmpaa.Fw

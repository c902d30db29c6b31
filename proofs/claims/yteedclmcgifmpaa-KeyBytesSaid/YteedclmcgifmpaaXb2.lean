/- The statement's proof, part 2: what its walks and its plain laws need. -/
import Derived.Test.YteedclmcgifmpaaRows
import Derived.Tactics
import Derived.Deep.Quiet
import Derived.StillTail
import Derived.Laws.World
import Derived.Laws.Sem
import Derived.Laws.Entries
import Derived.Below
import Derived.Deep.LoopGhost
import Derived.Laws.BytesString
import Derived.Laws.IdiomStrings
import Derived.KernelRfl
import Derived.Carry
import Derived.OpenShut
import Derived.ProofKit
import Derived.ChangeSame
import Derived.HandedShaped
import Derived.SizedLaws
import Derived.Test.YteedclmcgifmpaaProg
import Derived.Test.YteedclmcgifmpaaXb1
namespace Go.Proofs.Yteedclmcgifmpaa.Fw
open Go Go.RowKit Go.WideShapes Go.ChangeShapes
set_option linter.unusedSimpArgs false
set_option linter.unusedVariables false
section
variable {H : Type} {enc : TypeId × Value → H} {P : Program} {W : World}
/-- All arguments read as they did. -/
theorem all_below (hl : laidOutB P = true) {W' : World} (hb : Below W.heap.size W W') {sp : Nat → Bool} :
    ∀ (ts : List TypeId) (vs : List Value) (ds : List (DataW H)) (ps : List MemPlace), (∀ t, t ∈ ts → P.readableRec t = true ∧ t < P.types.size) →
      DataW.TrodAll enc P W 0 (fun _ => true) true ts vs ds ps → (∀ x, x ∈ ps → x.block < W.heap.size) → (∀ x, x ∈ ps → sp x.block = true) → DataW.TrodAll enc P W' 0 sp true ts vs ds ps
  | [], [], [], _, _, h, _, _ => h
  | t :: ts, v :: vs, d :: ds, _, ht, h, hlt, hsp => by
    obtain ⟨p, q, h1, h2, rfl⟩ := h
    refine ⟨p, q, WideElems.Trod_stays hl (ht t (by simp)).1 (ht t (by simp)).2 h1 (fun x hx => hb.same (hlt x (by simp [hx]))) (fun x hx => hsp x (by simp [hx])), ?_, rfl⟩
    exact all_below hl hb ts vs ds q (fun t h => ht t (by simp [h])) h2 (fun x hx => hlt x (by simp [hx])) (fun x hx => hsp x (by simp [hx]))
  | [], [], _ :: _, _, _, h, _, _ => h.elim
  | [], _ :: _, _, _, _, h, _, _ => h.elim
  | _ :: _, [], _, _, _, h, _, _ => h.elim
  | _ :: _, _ :: _, [], _, _, h, _, _ => h.elim
theorem ok_slice {r : Reach} {base : Nat} {t e : TypeId} {v : Value} (ht : P.underlying t = some (.slice e)) (h : Value.okWide P W r base t v) :
    ∃ a len cap, v = .slice a len cap ∧ len ≤ cap ∧ (a = none → cap = 0) ∧ ∀ x, a = some x → x.spot = none := by
  obtain ⟨a, len, cap, rfl⟩ := okWide_slice ht h
  simp only [Value.okWide, ht, Cell.okWide] at h
  cases a with
  | none =>
    simp only [Cell.ok, ht] at h
    have : len = 0 ∧ cap = 0 := by split at h <;> simp_all
    obtain ⟨rfl, rfl⟩ := this
    exact ⟨none, 0, 0, rfl, Nat.le_refl _, fun _ => rfl, fun x hx => by cases hx⟩
  | some x =>
    simp only [Cell.ok, ht] at h
    obtain ⟨h1, _, h2⟩ := h
    exact ⟨_, _, _, rfl, h1, (fun hn => by cases hn), fun y hy => by cases hy; exact h2.2.1⟩
/-- No part is larger than memory. -/
def Light (P : Program) (t : TypeId) (d : DataW H) : Prop := ∀ n, n ∈ d.weights P t → n ≤ reachBytes
theorem light_of {ts : List TypeId} {ds : List (DataW H)} {j : Nat} {t : TypeId} {d : DataW H} (h : (DataW.weightsEach P ts ds).all (· ≤ reachBytes) = true) (ht : ts[j]? = some t) (hd : ds[j]? = some d) : Light P t d := fun n hn => by
  have := List.all_eq_true.1 h _ (DataW.weights_mem_each ht hd n hn)
  simpa using this
theorem weights_all {e : TypeId} : ∀ {ds : List (DataW H)} {i : Nat} {d : DataW H}, ds[i]? = some d → ∀ n, n ∈ d.weights P e → n ∈ DataW.weightsAll P e ds
  | d0 :: ds, 0, d, hd, n, hn => by
    simp only [List.getElem?_cons_zero, Option.some.injEq] at hd
    subst hd
    simp only [DataW.weightsAll, List.mem_append]
    exact .inl hn
  | d0 :: ds, i + 1, d, hd, n, hn => by
    simp only [List.getElem?_cons_succ] at hd
    simp only [DataW.weightsAll, List.mem_append]
    exact .inr (weights_all hd n hn)
  | [], _, _, hd, _, _ => by simp at hd
/-- An element's reading. -/
def Tr (enc : TypeId × Value → H) (P : Program) (W : World) (t : TypeId) (cs : List Value) : Prop := ∃ fuel d ps, DataW.trod enc P W 0 (fun _ => true) true fuel t cs = some (d, ps) ∧ Light P t d
theorem all_rows {ts : List TypeId} (h : (ts.all fun t => P.readableRec t && decide (t < P.types.size)) = true) : ∀ t, t ∈ ts → P.readableRec t = true ∧ t < P.types.size := by
  intro t ht
  have := List.all_eq_true.1 h t ht
  simpa using this
/-- A slice, opened: its cells lie, and each element reads. -/
theorem rd_of {r : Reach} {base : Nat} {t e : TypeId} {v : Value} {d : DataW H} {ps : List MemPlace} (ht : P.underlying t = some (.slice e)) (he : 0 < P.cellsOf e)
    (hval : Value.okWide P W r base t v) (hd : DataW.Trod enc P W 0 (fun _ => true) true t v d ps) (hw : Light P t d) :
    ∃ (l : List Value) (n : Nat), Rd W v (P.cellsOf e) l ∧ l.length = n * P.cellsOf e ∧ n * P.bytesOf e ≤ reachBytes ∧ ∀ i, i < n → Tr enc P W e ((l.drop (i * P.cellsOf e)).take (P.cellsOf e)) := by
  obtain ⟨a, len, cap, rfl, h1, h2, h3⟩ := ok_slice ht hval
  obtain ⟨fuel, hf⟩ := hd
  rcases DataW.trod_slice ht hf with ⟨hc, _⟩ | ⟨a, len', cap', elems, rest, n, rfl, hc, hdd, hb, hl, hm, hlen, hel, _⟩
  · simp [Value.cells] at hc
    obtain ⟨rfl, rfl, rfl⟩ := hc
    exact ⟨[], 0, ⟨none, 0, 0, rfl, by simp, by omega, fun _ => rfl, fun x hx => by cases hx⟩, by simp, by simp, fun i hi => by omega⟩
  · simp [Value.cells] at hc
    obtain ⟨rfl, rfl, rfl⟩ := hc
    obtain ⟨b, off, spot⟩ := a
    obtain rfl : spot = none := h3 _ rfl
    obtain ⟨rfl, _⟩ := Prod.mk.injEq .. ▸ hdd
    have hbytes : len * P.bytesOf e ≤ reachBytes := by
      have h := hw ((elems.length + rest.length) * P.bytesOf e) (by simp [DataW.weights, ht])
      refine Nat.le_trans (Nat.mul_le_mul_right _ ?_) h
      omega
    have one : ∀ i, i < len → ∃ cs x, W.cells? 0 ((⟨b, off, none⟩ : Addr).add (i * P.cellsOf e)) (P.cellsOf e) = some cs ∧ DataW.trod enc P W 0 (fun _ => true) true n e cs = some x ∧ Light P e x.1 := by
      intro i hi
      have h := hel i hi
      have hx : ∃ x, elems[i]? = some x := ⟨elems[i]'(by omega), List.getElem?_eq_getElem (by omega)⟩
      obtain ⟨x, hx⟩ := hx
      rw [hx] at h
      obtain ⟨cs, h4, h5⟩ := Option.bind_eq_some_iff.1 h
      exact ⟨cs, x, h4, h5, fun k hk => hw k (by
        simp only [DataW.weights, ht, List.mem_cons, List.mem_append]
        exact .inr (.inl (weights_all (i := i) (by rw [List.getElem?_map, hx]; rfl) k hk)))⟩
    have all : ∀ m, m ≤ len → ∃ l : List Value, l.length = m * P.cellsOf e ∧ (∀ i, i < l.length → W.cell? ⟨b, off + i, none⟩ = l[i]?) ∧ ∀ i, i < m → Tr enc P W e ((l.drop (i * P.cellsOf e)).take (P.cellsOf e)) := by
      intro m
      induction m with
      | zero => exact fun _ => ⟨[], by simp, fun i hi => by simp at hi, fun i hi => by omega⟩
      | succ m ih =>
        intro hm
        obtain ⟨l, h4, h5, h6⟩ := ih (by omega)
        obtain ⟨cs, x, h7, h8, h8w⟩ := one m (by omega)
        obtain ⟨_, h9, h10⟩ := World.cells?_some h7
        refine ⟨l ++ cs, by rw [List.length_append, h4, h9, Nat.succ_mul], fun i hi => ?_, fun i hi => ?_⟩
        · by_cases hil : i < l.length
          · rw [List.getElem?_append_left hil]; exact h5 i hil
          · rw [List.getElem?_append_right (by omega), ← h10 (i - l.length) (by rw [List.length_append] at hi; omega)]
            have e1 : off + i = off + m * P.cellsOf e + (i - l.length) := by omega
            rw [e1, add_plain, add_plain]
        · by_cases him : i < m
          · have hlt : i * P.cellsOf e + P.cellsOf e ≤ l.length := by rw [h4, ← Nat.succ_mul]; exact Nat.mul_le_mul_right _ him
            have := h6 i him
            rw [List.drop_append_of_le_length (by omega), List.take_append_of_le_length (by rw [List.length_drop]; omega)]
            exact this
          · obtain rfl : i = m := by omega
            rw [List.drop_left' h4, List.take_of_length_le (by omega)]
            exact ⟨n, x.1, x.2, h8, h8w⟩
    obtain ⟨l, h4, h5, h6⟩ := all len (Nat.le_refl _)
    exact ⟨l, len, ⟨_, len, cap, rfl, h4, hl, (fun hn => by cases hn), fun x hx => by cases hx; exact ⟨fun _ => rfl, h5⟩⟩, h4, hbytes, h6⟩
theorem take1 {l : List Value} {i : Nat} (hi : i < l.length) : (l.drop i).take 1 = [l[i]] := by rw [List.drop_eq_getElem_cons hi, List.take_succ_cons, List.take_zero]
/-- A row of whole numbers of one kind. -/
theorem ints_all {k : IntKind} : ∀ (l : List Value), (∀ i, i < l.length → ∃ n, l[i]? = some (.int k n) ∧ (Lit.int k n).wf = true) → ∃ zs, l = ints k zs ∧ ∀ z, z ∈ zs → (Lit.int k z).wf = true
  | [], _ => ⟨[], rfl, fun z hz => by cases hz⟩
  | v :: l, h => by
    obtain ⟨n, h1, h2⟩ := h 0 (by simp)
    obtain ⟨zs, rfl, h3⟩ := ints_all l (fun i hi => by have := h (i + 1) (by simp; omega); simpa using this)
    refine ⟨n :: zs, by simp at h1; rw [h1]; rfl, fun z hz => ?_⟩
    rcases List.mem_cons.1 hz with rfl | hz
    · exact h2
    · exact h3 z hz
theorem tr_int {t : TypeId} {k : IntKind} {cs : List Value} (ht : P.underlying t = some (.int k)) (h : Tr enc P W t cs) : ∃ n, cs = [.int k n] ∧ (Lit.int k n).wf = true := by
  obtain ⟨fuel, x, y, h, _⟩ := h
  obtain ⟨n, h1, _, h2⟩ := DataW.trod_int ht h
  exact ⟨n, h1, h2⟩
/-- An array of whole numbers, read. -/
theorem tr_ints {t e : TypeId} {n : Nat} {k : IntKind} {cs : List Value} (ht : P.underlying t = some (.array n e)) (he : P.underlying e = some (.int k)) (hc : P.cellsOf e = 1) (hn : P.cellsOf t = n)
    (h : Tr enc P W t cs) : ∃ zs, cs = ints k zs ∧ zs.length = n ∧ ∀ z, z ∈ zs → (Lit.int k z).wf = true := by
  obtain ⟨fuel, x, y, h, _⟩ := h
  obtain ⟨xs, m, _, _, h1, h2, h3⟩ := DataW.trod_array ht h
  obtain ⟨zs, rfl, h4⟩ := ints_all (k := k) cs (fun i hi => by
    have h := h3 i (by omega)
    rw [hc, Nat.mul_one] at h
    rw [take1 hi, List.getElem?_eq_getElem (by omega)] at h
    obtain ⟨n, h5, _, h6⟩ := DataW.trod_int he h
    exact ⟨n, by rw [List.getElem?_eq_getElem hi, (List.cons.inj h5).1], h6⟩)
  exact ⟨zs, rfl, by rw [ints_length] at h1; omega, h4⟩
theorem wf_byt {zs : List Int} (h : ∀ z, z ∈ zs → (Lit.int .u8 z).wf = true) : Sha.Byt zs := by
  intro z hz
  have := h z hz
  simp only [Lit.wf, IntKind.has, IntKind.min, IntKind.max, IntKind.signed, IntKind.bits] at this
  simp at this
  omega
/-- A slice of whole numbers, opened. -/
theorem rd_ints {r : Reach} {base : Nat} {t e : TypeId} {k : IntKind} {v : Value} {d : DataW H} {ps : List MemPlace} (ht : P.underlying t = some (.slice e)) (he : P.underlying e = some (.int k)) (hc : P.cellsOf e = 1)
    (hval : Value.okWide P W r base t v) (hd : DataW.Trod enc P W 0 (fun _ => true) true t v d ps) (hw : Light P t d) :
    ∃ l, Rd W v 1 (ints k l) ∧ l.length * P.bytesOf e ≤ reachBytes ∧ ∀ z, z ∈ l → (Lit.int k z).wf = true := by
  obtain ⟨l, n, h1, h2, h3, h4⟩ := rd_of ht (by omega) hval hd hw
  rw [hc, Nat.mul_one] at h2
  rw [hc] at h1
  obtain ⟨zs, rfl, h5⟩ := ints_all (k := k) l (fun i hi => by
    obtain ⟨m, h5, h6⟩ := tr_int he (h4 i (by omega))
    rw [hc, Nat.mul_one, take1 hi] at h5
    exact ⟨m, by rw [List.getElem?_eq_getElem hi, (List.cons.inj h5).1], h6⟩)
  exact ⟨zs, h1, by rw [ints_length] at h2; rw [h2]; exact h3, h5⟩
end
end Go.Proofs.Yteedclmcgifmpaa.Fw
namespace Go.Proofs.Yteedclmcgifmpaa.Fw
open Go Go.RowKit Go.WideShapes Go.ChangeShapes
set_option linter.unusedVariables false
section
variable {H : Type} {enc : TypeId × Value → H} {P : Program} {W : World}
/-- A slice value that may be. -/
def OkS (v : Value) : Prop := ∃ a len cap, v = .slice a len cap ∧ len ≤ cap ∧ (a = none → cap = 0) ∧ ∀ x, a = some x → x.spot = none
theorem ok_cell {r : Reach} {base : Nat} {t e : TypeId} {v : Value} (ht : P.underlying t = some (.slice e)) (h : Cell.okWide P W r base t v) : OkS v :=
  ok_slice (r := r) (base := base) (W := W) ht (by simpa only [Value.okWide, ht] using h)
/-- A slice, opened. -/
theorem rd_tr {t e : TypeId} {v : Value} (ht : P.underlying t = some (.slice e)) (he : 0 < P.cellsOf e) (hok : OkS v) (h : Tr enc P W t [v]) :
    ∃ (l : List Value) (n : Nat), Rd W v (P.cellsOf e) l ∧ l.length = n * P.cellsOf e ∧ n * P.bytesOf e ≤ reachBytes ∧ ∀ i, i < n → Tr enc P W e ((l.drop (i * P.cellsOf e)).take (P.cellsOf e)) := by
  obtain ⟨fuel, d, ps, hf, hw⟩ := h
  obtain ⟨a, len, cap, rfl, h1, h2, h3⟩ := hok
  rcases DataW.trod_slice ht hf with ⟨hc, _⟩ | ⟨a, len', cap', elems, rest, n, rfl, hc, hdd, hb, hl, hm, hlen, hel, _⟩
  · simp at hc
    obtain ⟨rfl, rfl, rfl⟩ := hc
    exact ⟨[], 0, ⟨none, 0, 0, rfl, by simp, by omega, fun _ => rfl, fun x hx => by cases hx⟩, by simp, by simp, fun i hi => by omega⟩
  · simp at hc
    obtain ⟨rfl, rfl, rfl⟩ := hc
    obtain ⟨b, off, spot⟩ := a
    obtain rfl : spot = none := h3 _ rfl
    obtain ⟨rfl, _⟩ := Prod.mk.injEq .. ▸ hdd
    have hbytes : len * P.bytesOf e ≤ reachBytes := by
      have h := hw ((elems.length + rest.length) * P.bytesOf e) (by simp [DataW.weights, ht])
      refine Nat.le_trans (Nat.mul_le_mul_right _ ?_) h
      omega
    have one : ∀ i, i < len → ∃ cs x, W.cells? 0 ((⟨b, off, none⟩ : Addr).add (i * P.cellsOf e)) (P.cellsOf e) = some cs ∧ DataW.trod enc P W 0 (fun _ => true) true n e cs = some x ∧ Light P e x.1 := by
      intro i hi
      have h := hel i hi
      have hx : ∃ x, elems[i]? = some x := ⟨elems[i]'(by omega), List.getElem?_eq_getElem (by omega)⟩
      obtain ⟨x, hx⟩ := hx
      rw [hx] at h
      obtain ⟨cs, h4, h5⟩ := Option.bind_eq_some_iff.1 h
      exact ⟨cs, x, h4, h5, fun k hk => hw k (by
        simp only [DataW.weights, ht, List.mem_cons, List.mem_append]
        exact .inr (.inl (weights_all (i := i) (by rw [List.getElem?_map, hx]; rfl) k hk)))⟩
    have all : ∀ m, m ≤ len → ∃ l : List Value, l.length = m * P.cellsOf e ∧ (∀ i, i < l.length → W.cell? ⟨b, off + i, none⟩ = l[i]?) ∧ ∀ i, i < m → Tr enc P W e ((l.drop (i * P.cellsOf e)).take (P.cellsOf e)) := by
      intro m
      induction m with
      | zero => exact fun _ => ⟨[], by simp, fun i hi => by simp at hi, fun i hi => by omega⟩
      | succ m ih =>
        intro hm
        obtain ⟨l, h4, h5, h6⟩ := ih (by omega)
        obtain ⟨cs, x, h7, h8, h8w⟩ := one m (by omega)
        obtain ⟨_, h9, h10⟩ := World.cells?_some h7
        refine ⟨l ++ cs, by rw [List.length_append, h4, h9, Nat.succ_mul], fun i hi => ?_, fun i hi => ?_⟩
        · by_cases hil : i < l.length
          · rw [List.getElem?_append_left hil]; exact h5 i hil
          · rw [List.getElem?_append_right (by omega), ← h10 (i - l.length) (by rw [List.length_append] at hi; omega)]
            have e1 : off + i = off + m * P.cellsOf e + (i - l.length) := by omega
            rw [e1, add_plain, add_plain]
        · by_cases him : i < m
          · have hlt : i * P.cellsOf e + P.cellsOf e ≤ l.length := by rw [h4, ← Nat.succ_mul]; exact Nat.mul_le_mul_right _ him
            have := h6 i him
            rw [List.drop_append_of_le_length (by omega), List.take_append_of_le_length (by rw [List.length_drop]; omega)]
            exact this
          · obtain rfl : i = m := by omega
            rw [List.drop_left' h4, List.take_of_length_le (by omega)]
            exact ⟨n, x.1, x.2, h8, h8w⟩
    obtain ⟨l, h4, h5, h6⟩ := all len (Nat.le_refl _)
    exact ⟨l, len, ⟨_, len, cap, rfl, h4, hl, (fun hn => by cases hn), fun x hx => by cases hx; exact ⟨fun _ => rfl, h5⟩⟩, h4, hbytes, h6⟩
/-- A struct as an argument, opened. -/
theorem open_struct {r : Reach} {base : Nat} {t : TypeId} {fs : Array Field} {v : Value} {d : DataW H} {ps : List MemPlace} (ht : P.underlying t = some (.struct fs))
    (hval : Value.okWide P W r base t v) (hd : DataW.Trod enc P W 0 (fun _ => true) true t v d ps) (hw : Light P t d) :
    ∃ cs : List Value, v = .agg cs.toArray ∧ cs.length = P.cellsOf t ∧ Row.okWide P W r base t cs.toArray ∧ ∀ (i : Nat) (f : Field), fs[i]? = some f → Tr enc P W f.type ((cs.drop f.offset).take (P.cellsOf f.type)) := by
  simp only [Value.okWide, ht] at hval
  obtain ⟨cs, rfl, h1, h2⟩ := hval
  obtain ⟨fuel, hf⟩ := hd
  obtain ⟨xs, n, rfl, hx, h3, h4, h5⟩ := DataW.trod_struct ht hf
  obtain ⟨rfl, _⟩ := Prod.mk.injEq .. ▸ hx
  refine ⟨cs.toList, by simp, h3, by simpa using h2, fun i f hi => ?_⟩
  have h := h5 i f hi
  have hlt : i < fs.size := (Array.getElem?_eq_some_iff.1 hi).1
  obtain ⟨x, hx⟩ : ∃ x, xs[i]? = some x := ⟨xs[i], List.getElem?_eq_getElem (by omega)⟩
  rw [hx] at h
  refine ⟨n, x.1, x.2, h, fun k hk => hw k ?_⟩
  simp only [DataW.weights, ht]
  exact DataW.weights_mem_each (j := i) (t := f.type) (d := x.1) (by simp [hi]) (by rw [List.getElem?_map, hx]; rfl) k hk
/-- A cell of a struct that is a slice. -/
theorem ok_field {r : Reach} {base : Nat} {t u e : TypeId} {cs : List Value} {ts : List TypeId} {i : Nat} {v : Value} (h : Row.okWide P W r base t cs.toArray) (hts : P.cellTypes P.depth t = some ts) (hi : cs[i]? = some v) (hu : ts[i % ts.length]? = some u) (he : P.underlying u = some (.slice e)) : OkS v := by
  obtain ⟨ts', h1, _, h2⟩ := h
  rw [hts] at h1
  cases h1
  obtain ⟨u', h3, h4⟩ := h2 i v (by simpa using hi)
  rw [hu] at h3
  cases h3
  exact ok_cell he h4
/-- A row of hashes. -/
theorem flat_all {t e : TypeId} (ht : P.underlying t = some (.array 32 e)) (he : P.underlying e = some (.int .u8)) (hc : P.cellsOf e = 1) (hn : P.cellsOf t = 32) : ∀ (n : Nat) (l : List Value), l.length = n * 32 → (∀ i, i < n → Tr enc P W t ((l.drop (i * 32)).take 32)) →
    ∃ hs, l = flat hs ∧ H32 hs ∧ hs.length = n ∧ ∀ h, h ∈ hs → Sha.Byt h
  | 0, l, hl, _ => ⟨[], by rw [List.length_eq_zero_iff.1 (by omega : l.length = 0)]; rfl, .nil, rfl, fun h hh => by cases hh⟩
  | n + 1, l, hl, h => by
    obtain ⟨zs, h1, h2, h3⟩ := tr_ints ht he hc hn (h 0 (by omega))
    obtain ⟨hs, h4, h5, h6, h7⟩ := flat_all ht he hc hn n (l.drop 32) (by rw [List.length_drop]; omega) (fun i hi => by
      have := h (i + 1) (by omega)
      rw [List.drop_drop]
      have e1 : 32 + i * 32 = (i + 1) * 32 := by omega
      rw [e1]
      exact this)
    rw [Nat.zero_mul, List.drop_zero] at h1
    refine ⟨zs :: hs, ?_, .cons h2 h5, by rw [List.length_cons, h6], fun x hx => ?_⟩
    · rw [flat_cons, ← h1, ← h4, List.take_append_drop]
    · rcases List.mem_cons.1 hx with rfl | hx
      · exact wf_byt h3
      · exact h7 x hx
theorem rd_hashes {t e b : TypeId} {v : Value} (ht : P.underlying t = some (.slice e)) (he : P.underlying e = some (.array 32 b)) (hb : P.underlying b = some (.int .u8)) (hc : P.cellsOf b = 1) (hn : P.cellsOf e = 32) (hok : OkS v) (h : Tr enc P W t [v]) :
    ∃ hs, Rd W v 32 (flat hs) ∧ H32 hs ∧ hs.length * P.bytesOf e ≤ reachBytes ∧ ∀ h, h ∈ hs → Sha.Byt h := by
  obtain ⟨l, n, h1, h2, h3, h4⟩ := rd_tr ht (by omega) hok h
  rw [hn] at h1 h2 h4
  obtain ⟨hs, rfl, h5, h6, h7⟩ := flat_all he hb hc hn n l h2 h4
  exact ⟨hs, h1, h5, by rw [h6]; exact h3, h7⟩
theorem two {l : List Value} (h : l.length = 2) : ∃ a b, l = [a, b] := by
  match l, h with
  | [a, b], _ => exact ⟨a, b, rfl⟩
theorem three {l : List Value} (h : l.length = 3) : ∃ a b c, l = [a, b, c] := by
  match l, h with
  | [a, b, c], _ => exact ⟨a, b, c, rfl⟩
end
end Go.Proofs.Yteedclmcgifmpaa.Fw

namespace Go.Proofs.Yteedclmcgifmpaa.Ots
open Go Fw Sha
set_option linter.unusedSimpArgs false
set_option linter.unusedVariables false
/-- n steps along a chain -/
def way (c : Int) (h : List Int) (a : Nat) : Nat → List Int
  | 0 => h
  | n + 1 => sha ([1, IntKind.u8.wrap c, IntKind.u8.wrap ((a + n : Nat) : Int)] ++ way c h a n)
theorem way_len (c : Int) {h : List Int} (hl : h.length = 32) (a : Nat) : ∀ n, (way c h a n).length = 32
  | 0 => hl
  | n + 1 => sha_len _
def walk (h : List Int) (c f t : Int) : List Int := way c h (max f 0).toNat (min t 3 - max f 0).toNat
theorem walk_len (c f t : Int) {h : List Int} (hl : h.length = 32) : (walk h c f t).length = 32 := way_len _ hl _ _
def secret (seed : List Int) (leaf chain : Int) : List Int := sha ([0] ++ seed ++ [IntKind.u8.wrap leaf, IntKind.u8.wrap chain])
theorem secret_len (s : List Int) (l c : Int) : (secret s l c).length = 32 := sha_len _
/-- the first n chains' ends, in one text -/
def tex (f : Nat → List Int) : Nat → List Int
  | 0 => [2]
  | n + 1 => tex f n ++ f n
theorem tex_len {f : Nat → List Int} (h : ∀ i, (f i).length = 32) : ∀ n, (tex f n).length = 1 + 32 * n
  | 0 => rfl
  | n + 1 => by rw [tex, List.length_append, tex_len h n, h n]; omega
def ends (f : Nat → List Int) : List Int := sha (tex f 36)
def pub (seed : List Int) (leaf : Int) : List Int := ends fun c => walk (secret seed leaf c) c 0 3
/-- a digit of a digest -/
def dg (h : List Int) (i : Nat) : Int := h.getD (i / 4) 0 / 2 ^ (6 - 2 * (i % 4)) % 4
/-- what the first n digits lack -/
def lack (h : List Int) : Nat → Int
  | 0 => 0
  | n + 1 => lack h n + (3 - dg h n)
/-- the digits so far -/
def d1 (h : List Int) (i : Nat) : List Int := (List.range i).map (dg h) ++ List.replicate (36 - i) 0
def d2 (h : List Int) (j : Nat) : List Int := (List.range 32).map (dg h) ++ (List.range j).map (fun j => lack h 32 / 4 ^ j % 4) ++ List.replicate (4 - j) 0
theorem d2_len (h : List Int) (j : Nat) (hj : j ≤ 4) : (d2 h j).length = 36 := by simp [d2]; omega
def digits (m : List Int) : List Int := d2 (sha m) 4
theorem digits_len (m : List Int) : (digits m).length = 36 := d2_len _ 4 (by decide)
end Go.Proofs.Yteedclmcgifmpaa.Ots
namespace Go.Proofs.Yteedclmcgifmpaa.Ots
open Go Fw Sha
set_option linter.unusedSimpArgs false
set_option linter.unusedVariables false
theorem wrap8 {n : Nat} (h : n < 256) : IntKind.u8.wrap (n : Int) = (n : Int) := by
  have := u8_n n
  rw [Nat.mod_eq_of_lt h] at this
  exact this
theorem _root_.Go.Proofs.Yteedclmcgifmpaa.Sha.Bn.cons {x : Nat} {l : List Nat} (h1 : x < 256) (h2 : Bn l) : Bn (x :: l) := fun y hy => (List.mem_cons.1 hy).elim (fun e => e ▸ h1) (h2 y)
theorem _root_.Go.Proofs.Yteedclmcgifmpaa.Sha.Bn.append {a b : List Nat} (h1 : Bn a) (h2 : Bn b) : Bn (a ++ b) := fun y hy => (List.mem_append.1 hy).elim (h1 y) (h2 y)
theorem _root_.Go.Proofs.Yteedclmcgifmpaa.Sha.Bn.nil : Bn [] := fun y hy => by cases hy
end Go.Proofs.Yteedclmcgifmpaa.Ots
namespace Go.Proofs.Yteedclmcgifmpaa.Mk
open Go Fw Sha
set_option linter.unusedSimpArgs false
set_option linter.unusedVariables false
def node (a b : List Int) : List Int := sha ([3] ++ a ++ b)
theorem node_len (a b : List Int) : (node a b).length = 32 := sha_len _
def half (n : Nat) : Nat := 2 ^ Nat.log2 (n - 1)
theorem half_pos (n : Nat) : 0 < half n := Nat.pow_pos (by decide)
theorem half_lt {n : Nat} (h : 2 ≤ n) : half n < n := by
  have := Nat.log2_self_le (n := n - 1) (by omega)
  rw [half]
  omega
def root (l : List (List Int)) : List Int :=
  if h : 2 ≤ l.length then node (root (l.take (half l.length))) (root (l.drop (half l.length))) else l.headD (List.replicate 32 0)
termination_by l.length
decreasing_by
  · have := half_lt h; simp only [List.length_take]; omega
  · have := half_pos l.length; simp only [List.length_drop]; omega
end Go.Proofs.Yteedclmcgifmpaa.Mk
namespace Go.Proofs.Yteedclmcgifmpaa.Mk
open Go Fw
set_option linter.unusedSimpArgs false
set_option linter.unusedVariables false
end Go.Proofs.Yteedclmcgifmpaa.Mk
namespace Go.Proofs.Yteedclmcgifmpaa.Ots
open Go Fw Sha
set_option linter.unusedSimpArgs false
set_option linter.unusedVariables false
def pk (l : List Nat) : Nat := l.foldl (fun a b => a * 256 + b) 0
def hp (x : List Nat) : Nat := pk (shaN x)
end Go.Proofs.Yteedclmcgifmpaa.Ots

namespace Go.Proofs.Yteedclmcgifmpaa
open Go Fw
set_option maxRecDepth 100000
theorem ty_mk {P : Program} {t : TypeId} {d : TypeDesc} {sz bytes : Nat} {z : Value} (h : P.underlying t = some d) (hi : (P.info? t).map (fun i => (i.size, i.bytes, i.zero)) = some (sz, bytes, some z)) : Ty P t d sz bytes z := by
  refine ⟨h, ?_⟩
  cases e : P.info? t with
  | none => rw [e] at hi; cases hi
  | some i => rw [e] at hi; simp only [Option.map_some, Option.some.injEq, Prod.mk.injEq] at hi; exact ⟨i, rfl, hi.1, hi.2.1, hi.2.2⟩
theorem hmix : Try.prog.follows .mixedOrders = true := by kernel_rfl
theorem ty3 : Ty Try.prog 3 (.int .i64) 1 8 (Value.int .i64 0) := ty_mk Try.underlying3 (by kernel_rfl)
theorem ty4 : Ty Try.prog 4 (.bool) 1 1 (Value.bool false) := ty_mk Try.underlying4 (by kernel_rfl)
theorem ty5 : Ty Try.prog 5 (.int .u8) 1 1 (Value.int .u8 0) := ty_mk Try.underlying5 (by kernel_rfl)
theorem ty22 : Ty Try.prog 22 (.slice 5) 1 24 (Value.slice none 0 0) := ty_mk Try.underlying22 (by kernel_rfl)
theorem ty26 : Ty Try.prog 26 (.slice 39) 1 24 (Value.slice none 0 0) := ty_mk Try.underlying26 (by kernel_rfl)
theorem ty39 : Ty Try.prog 39 (.array 32 5) 32 32 (.agg (ints .u8 (List.replicate 32 0) : List Value).toArray) := ty_mk Try.underlying39 (by kernel_rfl)
theorem ty42 : Ty Try.prog 42 (.struct #[⟨"Leaf", 3, 0, false, "", "", 0⟩, ⟨"Chains", 26, 1, false, "", "", 8⟩, ⟨"Path", 26, 2, false, "", "", 32⟩]) 3 56 (.agg ([Value.int .i64 0, Value.slice none 0 0, Value.slice none 0 0] : List Value).toArray) := ty_mk Try.underlying42 (by kernel_rfl)
theorem ty81 : Ty Try.prog 81 (.struct #[⟨"seed", 39, 0, false, "", "ostler/key", 0⟩, ⟨"leaves", 26, 32, false, "", "ostler/key", 32⟩, ⟨"used", 3, 33, false, "", "ostler/key", 56⟩]) 34 64 (.agg ((ints .u8 (List.replicate 32 0)) ++ [Value.slice none 0 0, Value.int .i64 0] : List Value).toArray) := ty_mk Try.underlying81 (by kernel_rfl)
theorem ty91 : Ty Try.prog 91 (.struct #[⟨"b", 22, 0, false, "", "ostler/octet", 0⟩]) 1 24 (.agg ([Value.slice none 0 0] : List Value).toArray) := ty_mk Try.underlying91 (by kernel_rfl)
theorem ty102 : Ty Try.prog 102 (.struct #[⟨"B", 22, 0, false, "", "", 0⟩, ⟨"E", 4, 1, false, "", "", 24⟩]) 2 32 (.agg ([Value.slice none 0 0, Value.bool false] : List Value).toArray) := ty_mk Try.underlying102 (by kernel_rfl)
theorem ty109 : Ty Try.prog 109 (.struct #[⟨"seed", 39, 0, false, "", "ostler/ots", 0⟩, ⟨"n", 3, 32, false, "", "ostler/ots", 32⟩]) 33 40 (.agg ((ints .u8 (List.replicate 32 0)) ++ [Value.int .i64 0] : List Value).toArray) := ty_mk Try.underlying109 (by kernel_rfl)
theorem ty125 : Ty Try.prog 125 (.struct #[⟨"rest", 22, 0, false, "", "ostler/octet", 0⟩, ⟨"bad", 4, 1, false, "", "ostler/octet", 24⟩]) 2 32 (.agg ([Value.slice none 0 0, Value.bool false] : List Value).toArray) := ty_mk Try.underlying125 (by kernel_rfl)
theorem ty126 : Ty Try.prog 126 (.int .u32) 1 4 (Value.int .u32 0) := ty_mk Try.underlying126 (by kernel_rfl)
theorem ty128 : Ty Try.prog 128 (.array 64 126) 64 256 (.agg (ints .u32 (List.replicate 64 0) : List Value).toArray) := ty_mk Try.underlying128 (by kernel_rfl)
theorem ty132 : Ty Try.prog 132 (.array 8 126) 8 32 (.agg (ints .u32 (List.replicate 8 0) : List Value).toArray) := ty_mk Try.underlying132 (by kernel_rfl)
theorem ty134 : Ty Try.prog 134 (.array 128 5) 128 128 (.agg (ints .u8 (List.replicate 128 0) : List Value).toArray) := ty_mk Try.underlying134 (by kernel_rfl)
theorem eqg39 : Try.prog.eqGuardType Try.prog.depth 39 = false := by kernel_rfl
theorem has16 : Has Try.prog 16 := ⟨_, Try.func16, by kernel_rfl, rfl⟩
theorem has26 : Has Try.prog 26 := ⟨_, Try.func26, by kernel_rfl, rfl⟩
theorem has29 : Has Try.prog 29 := ⟨_, Try.func29, by kernel_rfl, rfl⟩
theorem has31 : Has Try.prog 31 := ⟨_, Try.func31, by kernel_rfl, rfl⟩
theorem has32 : Has Try.prog 32 := ⟨_, Try.func32, by kernel_rfl, rfl⟩
theorem has33 : Has Try.prog 33 := ⟨_, Try.func33, by kernel_rfl, rfl⟩
theorem has34 : Has Try.prog 34 := ⟨_, Try.func34, by kernel_rfl, rfl⟩
theorem has37 : Has Try.prog 37 := ⟨_, Try.func37, by kernel_rfl, rfl⟩
theorem has39 : Has Try.prog 39 := ⟨_, Try.func39, by kernel_rfl, rfl⟩
theorem has40 : Has Try.prog 40 := ⟨_, Try.func40, by kernel_rfl, rfl⟩
theorem has41 : Has Try.prog 41 := ⟨_, Try.func41, by kernel_rfl, rfl⟩
theorem has42 : Has Try.prog 42 := ⟨_, Try.func42, by kernel_rfl, rfl⟩
theorem has46 : Has Try.prog 46 := ⟨_, Try.func46, by kernel_rfl, rfl⟩
theorem has61 : Has Try.prog 61 := ⟨_, Try.func61, by kernel_rfl, rfl⟩
theorem has62 : Has Try.prog 62 := ⟨_, Try.func62, by kernel_rfl, rfl⟩
theorem has63 : Has Try.prog 63 := ⟨_, Try.func63, by kernel_rfl, rfl⟩
theorem has64 : Has Try.prog 64 := ⟨_, Try.func64, by kernel_rfl, rfl⟩
theorem has65 : Has Try.prog 65 := ⟨_, Try.func65, by kernel_rfl, rfl⟩
theorem has66 : Has Try.prog 66 := ⟨_, Try.func66, by kernel_rfl, rfl⟩
theorem has67 : Has Try.prog 67 := ⟨_, Try.func67, by kernel_rfl, rfl⟩
theorem has68 : Has Try.prog 68 := ⟨_, Try.func68, by kernel_rfl, rfl⟩
theorem has69 : Has Try.prog 69 := ⟨_, Try.func69, by kernel_rfl, rfl⟩
theorem has70 : Has Try.prog 70 := ⟨_, Try.func70, by kernel_rfl, rfl⟩
theorem has71 : Has Try.prog 71 := ⟨_, Try.func71, by kernel_rfl, rfl⟩
theorem has72 : Has Try.prog 72 := ⟨_, Try.func72, by kernel_rfl, rfl⟩
theorem has75 : Has Try.prog 75 := ⟨_, Try.func75, by kernel_rfl, rfl⟩
theorem has76 : Has Try.prog 76 := ⟨_, Try.func76, by kernel_rfl, rfl⟩
theorem has83 : Has Try.prog 83 := ⟨_, Try.func83, by kernel_rfl, rfl⟩
theorem has87 : Has Try.prog 87 := ⟨_, Try.func87, by kernel_rfl, rfl⟩
theorem has88 : Has Try.prog 88 := ⟨_, Try.func88, by kernel_rfl, rfl⟩
theorem has91 : Has Try.prog 91 := ⟨_, Try.func91, by kernel_rfl, rfl⟩
theorem has92 : Has Try.prog 92 := ⟨_, Try.func92, by kernel_rfl, rfl⟩
theorem has93 : Has Try.prog 93 := ⟨_, Try.func93, by kernel_rfl, rfl⟩
theorem has94 : Has Try.prog 94 := ⟨_, Try.func94, by kernel_rfl, rfl⟩
theorem has95 : Has Try.prog 95 := ⟨_, Try.func95, by kernel_rfl, rfl⟩
theorem has96 : Has Try.prog 96 := ⟨_, Try.func96, by kernel_rfl, rfl⟩
theorem has97 : Has Try.prog 97 := ⟨_, Try.func97, by kernel_rfl, rfl⟩
theorem has100 : Has Try.prog 100 := ⟨_, Try.func100, by kernel_rfl, rfl⟩
theorem has101 : Has Try.prog 101 := ⟨_, Try.func101, by kernel_rfl, rfl⟩
theorem has104 : Has Try.prog 104 := ⟨_, Try.func104, by kernel_rfl, rfl⟩
theorem has105 : Has Try.prog 105 := ⟨_, Try.func105, by kernel_rfl, rfl⟩
theorem has106 : Has Try.prog 106 := ⟨_, Try.func106, by kernel_rfl, rfl⟩
theorem has107 : Has Try.prog 107 := ⟨_, Try.func107, by kernel_rfl, rfl⟩
theorem has108 : Has Try.prog 108 := ⟨_, Try.func108, by kernel_rfl, rfl⟩
theorem has109 : Has Try.prog 109 := ⟨_, Try.func109, by kernel_rfl, rfl⟩
theorem has112 : Has Try.prog 112 := ⟨_, Try.func112, by kernel_rfl, rfl⟩
theorem pl42 : ∀ w, ((#[⟨"Leaf", 3, 0, false, "", "", 0⟩, ⟨"Chains", 26, 1, false, "", "", 8⟩, ⟨"Path", 26, 2, false, "", "", 32⟩] : Array Field).mapM fun f => (do pure (f.offset, ← sizeOf f.type) : Sem (Nat × Nat))).run Try.prog w = .ok #[(0, 1), (1, 1), (2, 1)] w := fun w => by
  simp [ty26.run_size, ty3.run_size]
theorem pl81 : ∀ w, ((#[⟨"seed", 39, 0, false, "", "ostler/key", 0⟩, ⟨"leaves", 26, 32, false, "", "ostler/key", 32⟩, ⟨"used", 3, 33, false, "", "ostler/key", 56⟩] : Array Field).mapM fun f => (do pure (f.offset, ← sizeOf f.type) : Sem (Nat × Nat))).run Try.prog w = .ok #[(0, 32), (32, 1), (33, 1)] w := fun w => by
  simp [ty26.run_size, ty3.run_size, ty39.run_size]
theorem pl102 : ∀ w, ((#[⟨"B", 22, 0, false, "", "", 0⟩, ⟨"E", 4, 1, false, "", "", 24⟩] : Array Field).mapM fun f => (do pure (f.offset, ← sizeOf f.type) : Sem (Nat × Nat))).run Try.prog w = .ok #[(0, 1), (1, 1)] w := fun w => by
  simp [ty22.run_size, ty4.run_size]
theorem pl109 : ∀ w, ((#[⟨"seed", 39, 0, false, "", "ostler/ots", 0⟩, ⟨"n", 3, 32, false, "", "ostler/ots", 32⟩] : Array Field).mapM fun f => (do pure (f.offset, ← sizeOf f.type) : Sem (Nat × Nat))).run Try.prog w = .ok #[(0, 32), (32, 1)] w := fun w => by
  simp [ty3.run_size, ty39.run_size]
theorem pl125 : ∀ w, ((#[⟨"rest", 22, 0, false, "", "ostler/octet", 0⟩, ⟨"bad", 4, 1, false, "", "ostler/octet", 24⟩] : Array Field).mapM fun f => (do pure (f.offset, ← sizeOf f.type) : Sem (Nat × Nat))).run Try.prog w = .ok #[(0, 1), (1, 1)] w := fun w => by
  simp [ty22.run_size, ty4.run_size]
end Go.Proofs.Yteedclmcgifmpaa

namespace Go.Proofs.Yteedclmcgifmpaa
open Go Go.RowKit Fw
open Sha
set_option linter.unusedVariables false
set_option linter.unusedSimpArgs false
set_option maxRecDepth 20000 in
set_option maxHeartbeats 1000000 in
theorem turn_any (x n : Int) (w : World) (h0 : 0 ≤ n) (h1 : n ≤ 32) : Calls Try.prog 112 #[.int .u32 x, .int .u64 n] w (PostV w (.int .u32 (turn x n))) := by
  refine calls_at (vs := [.int .u32 x, .int .u64 n]) (X := []) (H := []) (F := []) 13 Try.func112 rfl rfl rfl (Sat.start0 w) ?_
  refine cd_seq ?_
  refine cd_region ?_
  refine st (ev_assign rfl) rfl rfl rfl ?_
  refine op_nil ?_
  refine ax_then ?_
  refine At.regs (L' := [(0, _), (1, _), (4, _)]) (.cons rfl (.cons rfl (.cons rfl (.nil _)))) ?_
  refine cd_seq ?_
  refine cd_region ?_
  refine st (ev_move rfl) rfl rfl rfl ?_
  refine st (ev_move rfl) rfl rfl rfl ?_
  refine st (ev_shr rfl rfl (by omega)) rfl rfl rfl ?_
  refine st (ev_move rfl) rfl rfl rfl ?_
  refine st (ev_move rfl) rfl rfl rfl ?_
  refine st (ev_subu64 rfl rfl (by omega) (by omega)) rfl rfl rfl ?_
  refine st (ev_shl rfl rfl (by omega)) rfl rfl rfl ?_
  refine st (ev_or rfl rfl) rfl rfl rfl ?_
  refine st (ev_assign rfl) rfl rfl rfl ?_
  refine op_nil ?_
  refine ax_then ?_
  refine At.regs (L' := [(4, _)]) (.cons rfl (.nil _)) ?_
  refine cd_ret ?_
  refine rt_tmp (.inl rfl) Try.results112 rfl ?_
  exact fun w1 sw => ⟨rfl, sw.gives (.nil _)⟩
set_option maxRecDepth 20000 in
set_option maxHeartbeats 1000000 in
theorem s0_any (x : Int) (w : World) : Calls Try.prog 104 #[.int .u32 x] w (PostV w (.int .u32 (s0 x))) := by
  refine calls_at (vs := [.int .u32 x]) (X := []) (H := []) (F := []) 11 Try.func104 rfl rfl rfl (Sat.start0 w) ?_
  refine cd_seq ?_
  refine cd_region ?_
  refine st (ev_assign rfl) rfl rfl rfl ?_
  refine op_nil ?_
  refine ax_then ?_
  refine At.regs (L' := [(0, _), (2, _)]) (.cons rfl (.cons rfl (.nil _))) ?_
  refine cd_seq ?_
  refine cd_region ?_
  refine st (ev_move rfl) rfl rfl rfl ?_
  refine st_callv has112 rfl (fun w1 sw => turn_any _ _ w1 (by omega) (by omega)) rfl rfl ?_
  refine st (ev_move rfl) rfl rfl rfl ?_
  refine st_callv has112 rfl (fun w1 sw => turn_any _ _ w1 (by omega) (by omega)) rfl rfl ?_
  refine st (ev_xor rfl rfl) rfl rfl rfl ?_
  refine st (ev_move rfl) rfl rfl rfl ?_
  refine st (ev_shr rfl rfl (by omega)) rfl rfl rfl ?_
  refine st (ev_xor rfl rfl) rfl rfl rfl ?_
  refine st (ev_assign rfl) rfl rfl rfl ?_
  refine op_nil ?_
  refine ax_then ?_
  refine At.regs (L' := [(2, _)]) (.cons rfl (.nil _)) ?_
  refine cd_ret ?_
  refine rt_tmp (.inl rfl) Try.results104 rfl ?_
  exact fun w1 sw => ⟨rfl, sw.gives (.nil _)⟩
set_option maxRecDepth 20000 in
set_option maxHeartbeats 1000000 in
theorem s1_any (x : Int) (w : World) : Calls Try.prog 105 #[.int .u32 x] w (PostV w (.int .u32 (s1 x))) := by
  refine calls_at (vs := [.int .u32 x]) (X := []) (H := []) (F := []) 11 Try.func105 rfl rfl rfl (Sat.start0 w) ?_
  refine cd_seq ?_
  refine cd_region ?_
  refine st (ev_assign rfl) rfl rfl rfl ?_
  refine op_nil ?_
  refine ax_then ?_
  refine At.regs (L' := [(0, _), (2, _)]) (.cons rfl (.cons rfl (.nil _))) ?_
  refine cd_seq ?_
  refine cd_region ?_
  refine st (ev_move rfl) rfl rfl rfl ?_
  refine st_callv has112 rfl (fun w1 sw => turn_any _ _ w1 (by omega) (by omega)) rfl rfl ?_
  refine st (ev_move rfl) rfl rfl rfl ?_
  refine st_callv has112 rfl (fun w1 sw => turn_any _ _ w1 (by omega) (by omega)) rfl rfl ?_
  refine st (ev_xor rfl rfl) rfl rfl rfl ?_
  refine st (ev_move rfl) rfl rfl rfl ?_
  refine st (ev_shr rfl rfl (by omega)) rfl rfl rfl ?_
  refine st (ev_xor rfl rfl) rfl rfl rfl ?_
  refine st (ev_assign rfl) rfl rfl rfl ?_
  refine op_nil ?_
  refine ax_then ?_
  refine At.regs (L' := [(2, _)]) (.cons rfl (.nil _)) ?_
  refine cd_ret ?_
  refine rt_tmp (.inl rfl) Try.results105 rfl ?_
  exact fun w1 sw => ⟨rfl, sw.gives (.nil _)⟩
set_option maxRecDepth 20000 in
set_option maxHeartbeats 1000000 in
theorem b0_any (x : Int) (w : World) : Calls Try.prog 108 #[.int .u32 x] w (PostV w (.int .u32 (b0 x))) := by
  refine calls_at (vs := [.int .u32 x]) (X := []) (H := []) (F := []) 11 Try.func108 rfl rfl rfl (Sat.start0 w) ?_
  refine cd_seq ?_
  refine cd_region ?_
  refine st (ev_assign rfl) rfl rfl rfl ?_
  refine op_nil ?_
  refine ax_then ?_
  refine At.regs (L' := [(0, _), (2, _)]) (.cons rfl (.cons rfl (.nil _))) ?_
  refine cd_seq ?_
  refine cd_region ?_
  refine st (ev_move rfl) rfl rfl rfl ?_
  refine st_callv has112 rfl (fun w1 sw => turn_any _ _ w1 (by omega) (by omega)) rfl rfl ?_
  refine st (ev_move rfl) rfl rfl rfl ?_
  refine st_callv has112 rfl (fun w1 sw => turn_any _ _ w1 (by omega) (by omega)) rfl rfl ?_
  refine st (ev_xor rfl rfl) rfl rfl rfl ?_
  refine st (ev_move rfl) rfl rfl rfl ?_
  refine st_callv has112 rfl (fun w1 sw => turn_any _ _ w1 (by omega) (by omega)) rfl rfl ?_
  refine st (ev_xor rfl rfl) rfl rfl rfl ?_
  refine st (ev_assign rfl) rfl rfl rfl ?_
  refine op_nil ?_
  refine ax_then ?_
  refine At.regs (L' := [(2, _)]) (.cons rfl (.nil _)) ?_
  refine cd_ret ?_
  refine rt_tmp (.inl rfl) Try.results108 rfl ?_
  exact fun w1 sw => ⟨rfl, sw.gives (.nil _)⟩
set_option maxRecDepth 20000 in
set_option maxHeartbeats 1000000 in
theorem b1_any (x : Int) (w : World) : Calls Try.prog 106 #[.int .u32 x] w (PostV w (.int .u32 (b1 x))) := by
  refine calls_at (vs := [.int .u32 x]) (X := []) (H := []) (F := []) 11 Try.func106 rfl rfl rfl (Sat.start0 w) ?_
  refine cd_seq ?_
  refine cd_region ?_
  refine st (ev_assign rfl) rfl rfl rfl ?_
  refine op_nil ?_
  refine ax_then ?_
  refine At.regs (L' := [(0, _), (2, _)]) (.cons rfl (.cons rfl (.nil _))) ?_
  refine cd_seq ?_
  refine cd_region ?_
  refine st (ev_move rfl) rfl rfl rfl ?_
  refine st_callv has112 rfl (fun w1 sw => turn_any _ _ w1 (by omega) (by omega)) rfl rfl ?_
  refine st (ev_move rfl) rfl rfl rfl ?_
  refine st_callv has112 rfl (fun w1 sw => turn_any _ _ w1 (by omega) (by omega)) rfl rfl ?_
  refine st (ev_xor rfl rfl) rfl rfl rfl ?_
  refine st (ev_move rfl) rfl rfl rfl ?_
  refine st_callv has112 rfl (fun w1 sw => turn_any _ _ w1 (by omega) (by omega)) rfl rfl ?_
  refine st (ev_xor rfl rfl) rfl rfl rfl ?_
  refine st (ev_assign rfl) rfl rfl rfl ?_
  refine op_nil ?_
  refine ax_then ?_
  refine At.regs (L' := [(2, _)]) (.cons rfl (.nil _)) ?_
  refine cd_ret ?_
  refine rt_tmp (.inl rfl) Try.results106 rfl ?_
  exact fun w1 sw => ⟨rfl, sw.gives (.nil _)⟩
set_option maxRecDepth 20000 in
set_option maxHeartbeats 1000000 in
theorem ch_any (x y z : Int) (w : World) : Calls Try.prog 107 #[.int .u32 x, .int .u32 y, .int .u32 z] w (PostV w (.int .u32 (ch x y z))) := by
  refine calls_at (vs := [.int .u32 x, .int .u32 y, .int .u32 z]) (X := []) (H := []) (F := []) 15 Try.func107 rfl rfl rfl (Sat.start0 w) ?_
  refine cd_seq ?_
  refine cd_region ?_
  refine st (ev_assign rfl) rfl rfl rfl ?_
  refine op_nil ?_
  refine ax_then ?_
  refine At.regs (L' := [(0, _), (1, _), (2, _), (6, _)]) (.cons rfl (.cons rfl (.cons rfl (.cons rfl (.nil _))))) ?_
  refine cd_seq ?_
  refine cd_region ?_
  refine st (ev_move rfl) rfl rfl rfl ?_
  refine st (ev_move rfl) rfl rfl rfl ?_
  refine st (ev_and rfl rfl) rfl rfl rfl ?_
  refine st (ev_move rfl) rfl rfl rfl ?_
  refine st (ev_inot rfl) rfl rfl rfl ?_
  refine st (ev_move rfl) rfl rfl rfl ?_
  refine st (ev_and rfl rfl) rfl rfl rfl ?_
  refine st (ev_xor rfl rfl) rfl rfl rfl ?_
  refine st (ev_assign rfl) rfl rfl rfl ?_
  refine op_nil ?_
  refine ax_then ?_
  refine At.regs (L' := [(6, _)]) (.cons rfl (.nil _)) ?_
  refine cd_ret ?_
  refine rt_tmp (.inl rfl) Try.results107 rfl ?_
  exact fun w1 sw => ⟨rfl, sw.gives (.nil _)⟩
set_option maxRecDepth 20000 in
set_option maxHeartbeats 1000000 in
theorem mj_any (x y z : Int) (w : World) : Calls Try.prog 109 #[.int .u32 x, .int .u32 y, .int .u32 z] w (PostV w (.int .u32 (mj x y z))) := by
  refine calls_at (vs := [.int .u32 x, .int .u32 y, .int .u32 z]) (X := []) (H := []) (F := []) 18 Try.func109 rfl rfl rfl (Sat.start0 w) ?_
  refine cd_seq ?_
  refine cd_region ?_
  refine st (ev_assign rfl) rfl rfl rfl ?_
  refine op_nil ?_
  refine ax_then ?_
  refine At.regs (L' := [(0, _), (1, _), (2, _), (6, _)]) (.cons rfl (.cons rfl (.cons rfl (.cons rfl (.nil _))))) ?_
  refine cd_seq ?_
  refine cd_region ?_
  refine st (ev_move rfl) rfl rfl rfl ?_
  refine st (ev_move rfl) rfl rfl rfl ?_
  refine st (ev_and rfl rfl) rfl rfl rfl ?_
  refine st (ev_move rfl) rfl rfl rfl ?_
  refine st (ev_move rfl) rfl rfl rfl ?_
  refine st (ev_and rfl rfl) rfl rfl rfl ?_
  refine st (ev_xor rfl rfl) rfl rfl rfl ?_
  refine st (ev_move rfl) rfl rfl rfl ?_
  refine st (ev_move rfl) rfl rfl rfl ?_
  refine st (ev_and rfl rfl) rfl rfl rfl ?_
  refine st (ev_xor rfl rfl) rfl rfl rfl ?_
  refine st (ev_assign rfl) rfl rfl rfl ?_
  refine op_nil ?_
  refine ax_then ?_
  refine At.regs (L' := [(6, _)]) (.cons rfl (.nil _)) ?_
  refine cd_ret ?_
  refine rt_tmp (.inl rfl) Try.results109 rfl ?_
  exact fun w1 sw => ⟨rfl, sw.gives (.nil _)⟩
set_option maxRecDepth 20000 in
set_option maxHeartbeats 4000000 in
theorem take_any (bs bk TS : Nat) (p : Value) (s b k : List Int) (w : World) (hs : s.length = 8) (hk : k.length = 64) (hb : 64 ≤ b.length) (h1 : w.heap[bs]? = some (.cells (ints .u32 s).toArray TS)) (h2 : Rd w p 1 (ints .u8 b)) (h3 : Lies w bk 0 (ints .u32 k)) (h4 : bs ∉ blkOf p) (h5 : bs ≠ bk) : Calls Try.prog 101 #[.pointer (some ⟨bs, 0, none⟩), p, .pointer (some ⟨bk, 0, none⟩)] w (Post (ι := Unit) w [bs] (fun _ => True) (fun _ => .tuple #[]) (fun _ => [(0, .blk bs (.cells (ints .u32 (comp k s b)).toArray TS))])) := by
  refine calls_at (vs := [.pointer (some ⟨bs, 0, none⟩), p, .pointer (some ⟨bk, 0, none⟩)]) (X := [bs]) (H := [(0, .blk bs (.cells (ints .u32 (s)).toArray TS))]) (F := [(1, .sl p 1 (ints .u8 b)), (2, .mem bk 0 (ints .u32 k))]) 157 Try.func101 rfl rfl rfl (((Sat.blk0 w 0 bs _ h1).read 2 (f := .mem bk 0 (ints .u32 k)) h3 (off_one fun b hb => .inr (by rw [mem_one hb]; exact h5))).read 1 (f := .sl p 1 (ints .u8 b)) h2 (off_one fun b hb => .inr (by rw [mem_one hb]; exact h4))) ?_
  refine cd_seq ?_
  refine cd_region ?_
  refine st_alloc (h := 6) ty128 rfl rfl rfl (fun b6 => ?_)
  refine op_nil ?_
  refine ax_then ?_
  refine At.regs (L' := [(0, _), (1, _), (2, _), (6, _)]) (.cons rfl (.cons rfl (.cons rfl (.cons rfl (.nil _))))) ?_
  refine cd_seq ?_
  refine cd_seq ?_
  refine cd_region ?_
  refine st (ev_move rfl) rfl rfl rfl ?_
  refine op_nil ?_
  refine ax_then ?_
  refine At.regs (L' := [(0, _), (1, _), (2, _), (6, _), (14, _)]) (.cons rfl (.cons rfl (.cons rfl (.cons rfl (.cons rfl (.nil _)))))) ?_
  refine cd_block ?_
  refine cd_loop (ι := Nat) (fun i => i ≤ 16) (fun i => 16 - i)
      (fun i => [(0, .pointer (some ⟨bs, 0, none⟩)), (1, p), (2, .pointer (some ⟨bk, 0, none⟩)), (6, .pointer (some ⟨b6, 0, none⟩)), (14, .int .i64 (i : Int))])
      (fun i => [(0, .blk bs (.cells (ints .u32 (s)).toArray TS)), (6, .blk b6 (.cells (ints .u32 (w1 b i)).toArray 128))])
      (fun i => [(1, .sl p 1 (ints .u8 b)), (2, .mem bk 0 (ints .u32 k))])
      0 (by omega) (.cons rfl (.cons rfl (.cons rfl (.cons rfl (.cons rfl (.nil _)))))) (.cons rfl (.cons rfl (.nil _))) (.cons rfl (.cons rfl (.nil _))) (fun i hi => ?_)
  have hw1 := w1_len b i
  refine cd_seq ?_
  refine cd_region ?_
  refine st (ev_lss rfl rfl) rfl rfl rfl ?_
  refine op_nil ?_
  refine ax_then ?_
  refine At.regs (L' := [(0, _), (1, _), (2, _), (6, _), (14, _), (15, _)]) (.cons rfl (.cons rfl (.cons rfl (.cons rfl (.cons rfl (.cons rfl (.nil _))))))) ?_
  refine cd_seq ?_
  refine cd_if rfl (fun hc15 => ?_) (fun hc15 => ?_)
  ·
    refine cd_skip ?_
    refine ax_then ?_
    refine At.regs (L' := [(0, _), (1, _), (2, _), (6, _), (14, _), (15, _)]) (.cons rfl (.cons rfl (.cons rfl (.cons rfl (.cons rfl (.cons rfl (.nil _))))))) ?_
    refine cd_seq ?_
    refine cd_block ?_
    refine cd_seq ?_
    refine cd_region ?_
    refine st (ev_move rfl) rfl rfl rfl ?_
    refine st (ev_assign rfl) rfl rfl rfl ?_
    refine op_nil ?_
    refine ax_then ?_
    refine At.regs (L' := [(0, _), (1, _), (2, _), (6, _), (7, _), (14, _), (15, _), (16, _)]) (.cons rfl (.cons rfl (.cons rfl (.cons rfl (.cons rfl (.cons rfl (.cons rfl (.cons rfl (.nil _))))))))) ?_
    refine cd_open_tail 34 hmix (by decide +kernel) ?_
    refine qt (ev_move rfl) rfl rfl rfl ?_
    refine qt (ev_move rfl) rfl rfl rfl ?_
    refine qt (ev_move rfl) rfl rfl rfl ?_
    refine qt (ev_mul64 rfl rfl (by omega) (by omega)) rfl rfl rfl ?_
    refine qt (ev_indexAddr_rdi (h := 1) Try.underlying22 ty5 rfl rfl rfl (by omega) (by first | omega | (simp only [List.length_append, List.length_cons, List.length_nil, List.length_set, List.length_replicate, List.length_take, List.length_drop, ints_length, wr_length] <;> omega))) rfl rfl rfl ?_
    refine qt (ld_rd1 (h := 1) ty5 rfl rfl rfl (ints_get _ _ _ (by first | omega | (simp only [List.length_append, List.length_cons, List.length_nil, List.length_set, List.length_replicate, List.length_take, List.length_drop, ints_length, wr_length] <;> omega) | rfl))) rfl rfl rfl ?_
    refine qt (ev_conv Try.underlying5 Try.underlying126 rfl) rfl rfl rfl ?_
    refine qt (ev_shl rfl rfl (by omega)) rfl rfl rfl ?_
    refine qt (ev_move rfl) rfl rfl rfl ?_
    refine qt (ev_move rfl) rfl rfl rfl ?_
    refine qt (ev_mul64 rfl rfl (by omega) (by omega)) rfl rfl rfl ?_
    refine qt (ev_add64 rfl rfl (by omega) (by omega)) rfl rfl rfl ?_
    refine qt (ev_indexAddr_rdi (h := 1) Try.underlying22 ty5 rfl rfl rfl (by omega) (by first | omega | (simp only [List.length_append, List.length_cons, List.length_nil, List.length_set, List.length_replicate, List.length_take, List.length_drop, ints_length, wr_length] <;> omega))) rfl rfl rfl ?_
    refine qt (ld_rd1 (h := 1) ty5 rfl rfl rfl (ints_get _ _ _ (by first | omega | (simp only [List.length_append, List.length_cons, List.length_nil, List.length_set, List.length_replicate, List.length_take, List.length_drop, ints_length, wr_length] <;> omega) | rfl))) rfl rfl rfl ?_
    refine qt (ev_conv Try.underlying5 Try.underlying126 rfl) rfl rfl rfl ?_
    refine qt (ev_shl rfl rfl (by omega)) rfl rfl rfl ?_
    refine qt (ev_or rfl rfl) rfl rfl rfl ?_
    refine qt (ev_move rfl) rfl rfl rfl ?_
    refine qt (ev_move rfl) rfl rfl rfl ?_
    refine qt (ev_mul64 rfl rfl (by omega) (by omega)) rfl rfl rfl ?_
    refine qt (ev_add64 rfl rfl (by omega) (by omega)) rfl rfl rfl ?_
    refine qt (ev_indexAddr_rdi (h := 1) Try.underlying22 ty5 rfl rfl rfl (by omega) (by first | omega | (simp only [List.length_append, List.length_cons, List.length_nil, List.length_set, List.length_replicate, List.length_take, List.length_drop, ints_length, wr_length] <;> omega))) rfl rfl rfl ?_
    refine qt (ld_rd1 (h := 1) ty5 rfl rfl rfl (ints_get _ _ _ (by first | omega | (simp only [List.length_append, List.length_cons, List.length_nil, List.length_set, List.length_replicate, List.length_take, List.length_drop, ints_length, wr_length] <;> omega) | rfl))) rfl rfl rfl ?_
    refine qt (ev_conv Try.underlying5 Try.underlying126 rfl) rfl rfl rfl ?_
    refine qt (ev_shl rfl rfl (by omega)) rfl rfl rfl ?_
    refine qt (ev_or rfl rfl) rfl rfl rfl ?_
    refine qt (ev_move rfl) rfl rfl rfl ?_
    refine qt (ev_move rfl) rfl rfl rfl ?_
    refine qt (ev_mul64 rfl rfl (by omega) (by omega)) rfl rfl rfl ?_
    refine qt (ev_add64 rfl rfl (by omega) (by omega)) rfl rfl rfl ?_
    refine qt (ev_indexAddr_rdi (h := 1) Try.underlying22 ty5 rfl rfl rfl (by omega) (by first | omega | (simp only [List.length_append, List.length_cons, List.length_nil, List.length_set, List.length_replicate, List.length_take, List.length_drop, ints_length, wr_length] <;> omega))) rfl rfl rfl ?_
    refine qt (ld_rd1 (h := 1) ty5 rfl rfl rfl (ints_get _ _ _ (by first | omega | (simp only [List.length_append, List.length_cons, List.length_nil, List.length_set, List.length_replicate, List.length_take, List.length_drop, ints_length, wr_length] <;> omega) | rfl))) rfl rfl rfl ?_
    refine qt (ev_conv Try.underlying5 Try.underlying126 rfl) rfl rfl rfl ?_
    refine qt (ev_or rfl rfl) rfl rfl rfl ?_
    refine qt_end ?_
    refine st (ev_indexAddr_arr Try.underlying128 ty126 rfl rfl (by omega) (by omega)) rfl rfl rfl ?_
    refine st_store1 6 ty126 rfl rfl rfl rfl (by first | omega | (simp only [List.length_append, List.length_cons, List.length_nil, List.length_set, List.length_replicate, List.length_take, List.length_drop, ints_length, wr_length] <;> omega) | rfl) rfl ?_
    refine at_heq (i := 6) rfl (by rw [ints_set]) ?_
    refine op_nil ?_
    refine ax_block ?_
    refine ax_then ?_
    refine At.regs (L' := [(0, _), (1, _), (2, _), (6, _), (7, _), (14, _), (15, _), (16, _), (17, _), (18, _), (19, _), (20, _), (21, _), (22, _), (23, _), (24, _), (25, _), (26, _), (27, _), (28, _), (29, _), (30, _), (31, _), (32, _), (33, _), (34, _), (35, _), (36, _), (37, _), (38, _), (39, _), (40, _), (41, _), (42, _), (43, _), (44, _), (45, _), (46, _), (47, _), (48, _), (49, _), (50, _), (51, _)]) (.cons rfl (.cons rfl (.cons rfl (.cons rfl (.cons rfl (.cons rfl (.cons rfl (.cons rfl (.cons rfl (.cons rfl (.cons rfl (.cons rfl (.cons rfl (.cons rfl (.cons rfl (.cons rfl (.cons rfl (.cons rfl (.cons rfl (.cons rfl (.cons rfl (.cons rfl (.cons rfl (.cons rfl (.cons rfl (.cons rfl (.cons rfl (.cons rfl (.cons rfl (.cons rfl (.cons rfl (.cons rfl (.cons rfl (.cons rfl (.cons rfl (.cons rfl (.cons rfl (.cons rfl (.cons rfl (.cons rfl (.cons rfl (.cons rfl (.cons rfl (.nil _)))))))))))))))))))))))))))))))))))))))))))) ?_
    refine cd_region ?_
    refine st (ev_add64 rfl rfl (by omega) (by omega)) rfl rfl rfl ?_
    refine st (ev_move rfl) rfl rfl rfl ?_
    refine op_nil ?_
    have e0 : 0 + (i : Int).toNat * 1 = i := by omega
    have e1 : (4 * (i : Int)).toNat * 1 = 4 * i := by omega
    have e2 : (4 * (i : Int) + 1).toNat * 1 = 4 * i + 1 := by omega
    have e3 : (4 * (i : Int) + 2).toNat * 1 = 4 * i + 2 := by omega
    have e4 : (4 * (i : Int) + 3).toNat * 1 = 4 * i + 3 := by omega
    refine ax_heq (i := 6) (v' := .blk b6 (.cells (ints .u32 (w1 b (i + 1))).toArray 128)) rfl (by simp only [e0, e1, e2, e3, e4]; rfl) ?_
    exact at_again (i + 1) (by omega) (by omega) (.cons rfl (.cons rfl (.cons rfl (.cons rfl (.cons rfl (.nil _)))))) (.cons rfl (.cons rfl (.nil _))) (.cons rfl (.cons rfl (.nil _)))
  ·
    obtain rfl : i = 16 := by omega
    refine cd_exit ?_
    refine ax_then_exit ?_
    refine ax_then_exit ?_
    refine ax_block_hit ?_
    refine ax_then ?_
    refine At.regs (L' := [(0, _), (2, _), (6, _)]) (.cons rfl (.cons rfl (.cons rfl (.nil _)))) ?_
    refine cd_seq ?_
    refine cd_seq ?_
    refine cd_region ?_
    refine st (ev_assign rfl) rfl rfl rfl ?_
    refine op_nil ?_
    refine ax_then ?_
    refine At.regs (L' := [(0, _), (2, _), (6, _), (8, _)]) (.cons rfl (.cons rfl (.cons rfl (.cons rfl (.nil _))))) ?_
    refine cd_block ?_
    refine cd_loop (ι := Nat) (fun i => i ≤ 48) (fun i => 48 - i)
        (fun i => [(0, .pointer (some ⟨bs, 0, none⟩)), (2, .pointer (some ⟨bk, 0, none⟩)), (6, .pointer (some ⟨b6, 0, none⟩)), (8, .int .i64 (16 + (i : Int)))])
        (fun i => [(0, .blk bs (.cells (ints .u32 (s)).toArray TS)), (6, .blk b6 (.cells (ints .u32 (w2 (w1 b 16) i)).toArray 128))])
        (fun i => [(1, .sl p 1 (ints .u8 b)), (2, .mem bk 0 (ints .u32 k))])
        0 (by omega) (.cons rfl (.cons rfl (.cons rfl (.cons rfl (.nil _))))) (.cons rfl (.cons rfl (.nil _))) (.cons rfl (.cons rfl (.nil _))) (fun i hi => ?_)
    have hw2 := w2_len (w1 b 16) i
    rw [w1_len] at hw2
    refine cd_seq ?_
    refine cd_seq ?_
    refine cd_region ?_
    refine st (ev_move rfl) rfl rfl rfl ?_
    refine st (ev_lss rfl rfl) rfl rfl rfl ?_
    refine op_nil ?_
    refine ax_then ?_
    refine At.regs (L' := [(0, _), (2, _), (6, _), (8, _), (53, _), (54, _)]) (.cons rfl (.cons rfl (.cons rfl (.cons rfl (.cons rfl (.cons rfl (.nil _))))))) ?_
    refine cd_if rfl (fun hc54 => ?_) (fun hc54 => ?_)
    ·
      refine cd_skip ?_
      refine ax_then ?_
      refine At.regs (L' := [(0, _), (2, _), (6, _), (8, _), (53, _), (54, _)]) (.cons rfl (.cons rfl (.cons rfl (.cons rfl (.cons rfl (.cons rfl (.nil _))))))) ?_
      refine cd_seq ?_
      refine cd_block ?_
      refine cd_open_tail 22 hmix (by decide +kernel) ?_
      refine qt (ev_move rfl) rfl rfl rfl ?_
      refine qt (ev_move rfl) rfl rfl rfl ?_
      refine qt (ev_sub64 rfl rfl (by omega) (by omega)) rfl rfl rfl ?_
      refine qt (ev_indexAddr_arr Try.underlying128 ty126 rfl rfl (by omega) (by omega)) rfl rfl rfl ?_
      refine qt (ld_blk1 (h := 6) ty126 rfl rfl rfl (ints_get _ _ _ (by first | omega | (simp only [List.length_append, List.length_cons, List.length_nil, List.length_set, List.length_replicate, List.length_take, List.length_drop, ints_length, wr_length] <;> omega) | rfl))) rfl rfl rfl ?_
      refine qt (ev_move rfl) rfl rfl rfl ?_
      refine qt (ev_sub64 rfl rfl (by omega) (by omega)) rfl rfl rfl ?_
      refine qt (ev_indexAddr_arr Try.underlying128 ty126 rfl rfl (by omega) (by omega)) rfl rfl rfl ?_
      refine qt (ld_blk1 (h := 6) ty126 rfl rfl rfl (ints_get _ _ _ (by first | omega | (simp only [List.length_append, List.length_cons, List.length_nil, List.length_set, List.length_replicate, List.length_take, List.length_drop, ints_length, wr_length] <;> omega) | rfl))) rfl rfl rfl ?_
      refine qt_callv has104 rfl (fun w1 sw => s0_any _ w1) rfl rfl ?_
      refine qt (ev_add rfl rfl) rfl rfl rfl ?_
      refine qt (ev_move rfl) rfl rfl rfl ?_
      refine qt (ev_sub64 rfl rfl (by omega) (by omega)) rfl rfl rfl ?_
      refine qt (ev_indexAddr_arr Try.underlying128 ty126 rfl rfl (by omega) (by omega)) rfl rfl rfl ?_
      refine qt (ld_blk1 (h := 6) ty126 rfl rfl rfl (ints_get _ _ _ (by first | omega | (simp only [List.length_append, List.length_cons, List.length_nil, List.length_set, List.length_replicate, List.length_take, List.length_drop, ints_length, wr_length] <;> omega) | rfl))) rfl rfl rfl ?_
      refine qt (ev_add rfl rfl) rfl rfl rfl ?_
      refine qt (ev_move rfl) rfl rfl rfl ?_
      refine qt (ev_sub64 rfl rfl (by omega) (by omega)) rfl rfl rfl ?_
      refine qt (ev_indexAddr_arr Try.underlying128 ty126 rfl rfl (by omega) (by omega)) rfl rfl rfl ?_
      refine qt (ld_blk1 (h := 6) ty126 rfl rfl rfl (ints_get _ _ _ (by first | omega | (simp only [List.length_append, List.length_cons, List.length_nil, List.length_set, List.length_replicate, List.length_take, List.length_drop, ints_length, wr_length] <;> omega) | rfl))) rfl rfl rfl ?_
      refine qt_callv has105 rfl (fun w1 sw => s1_any _ w1) rfl rfl ?_
      refine qt (ev_add rfl rfl) rfl rfl rfl ?_
      refine qt_end ?_
      refine st (ev_indexAddr_arr Try.underlying128 ty126 rfl rfl (by omega) (by omega)) rfl rfl rfl ?_
      refine st_store1 6 ty126 rfl rfl rfl rfl (by first | omega | (simp only [List.length_append, List.length_cons, List.length_nil, List.length_set, List.length_replicate, List.length_take, List.length_drop, ints_length, wr_length] <;> omega) | rfl) rfl ?_
      refine at_heq (i := 6) rfl (by rw [ints_set]) ?_
      refine op_nil ?_
      refine ax_block ?_
      refine ax_then ?_
      refine At.regs (L' := [(0, _), (2, _), (6, _), (8, _), (53, _), (54, _), (57, _), (58, _), (59, _), (60, _), (61, _), (62, _), (63, _), (64, _), (65, _), (66, _), (67, _), (68, _), (69, _), (70, _), (71, _), (72, _), (73, _), (74, _), (75, _), (76, _), (77, _), (78, _), (79, _)]) (.cons rfl (.cons rfl (.cons rfl (.cons rfl (.cons rfl (.cons rfl (.cons rfl (.cons rfl (.cons rfl (.cons rfl (.cons rfl (.cons rfl (.cons rfl (.cons rfl (.cons rfl (.cons rfl (.cons rfl (.cons rfl (.cons rfl (.cons rfl (.cons rfl (.cons rfl (.cons rfl (.cons rfl (.cons rfl (.cons rfl (.cons rfl (.cons rfl (.cons rfl (.nil _)))))))))))))))))))))))))))))) ?_
      refine cd_region ?_
      refine st (ev_move rfl) rfl rfl rfl ?_
      refine st (ev_add64 rfl rfl (by omega) (by omega)) rfl rfl rfl ?_
      refine st (ev_assign rfl) rfl rfl rfl ?_
      refine op_nil ?_
      have e0 : 0 + (16 + (i : Int)).toNat * 1 = 16 + i := by omega
      have e1 : 0 + (16 + (i : Int) - 16).toNat * 1 = 16 + i - 16 := by omega
      have e2 : 0 + (16 + (i : Int) - 15).toNat * 1 = 16 + i - 15 := by omega
      have e3 : 0 + (16 + (i : Int) - 7).toNat * 1 = 16 + i - 7 := by omega
      have e4 : 0 + (16 + (i : Int) - 2).toNat * 1 = 16 + i - 2 := by omega
      refine ax_heq (i := 6) (v' := .blk b6 (.cells (ints .u32 (w2 (w1 b 16) (i + 1))).toArray 128)) rfl (by simp only [e0, e1, e2, e3, e4]; rfl) ?_
      exact at_again (i + 1) (by omega) (by omega) (.cons rfl (.cons rfl (.cons rfl (.cons rfl (.nil _))))) (.cons rfl (.cons rfl (.nil _))) (.cons rfl (.cons rfl (.nil _)))
    ·
      obtain rfl : i = 48 := by omega
      refine cd_exit ?_
      refine ax_then_exit ?_
      refine ax_then_exit ?_
      refine ax_block_hit ?_
      refine ax_then ?_
      refine At.regs (L' := [(0, _), (2, _), (6, _)]) (.cons rfl (.cons rfl (.cons rfl (.nil _)))) ?_
      refine cd_seq ?_
      refine cd_region ?_
      refine st (ev_move rfl) rfl rfl rfl ?_
      refine st (ev_nilCheck rfl) rfl rfl rfl ?_
      refine st (ld_blk_all (h := 0) ty132 rfl rfl rfl (by first | omega | (simp only [List.length_append, List.length_cons, List.length_nil, List.length_set, List.length_replicate, List.length_take, List.length_drop, ints_length, wr_length] <;> omega) | rfl)) rfl rfl rfl ?_
      refine st_alloc (h := 9) ty132 rfl rfl rfl (fun b9 => ?_)
      refine st_store_all 9 ty132 rfl rfl rfl rfl (by first | omega | (simp only [List.length_append, List.length_cons, List.length_nil, List.length_set, List.length_replicate, List.length_take, List.length_drop, ints_length, wr_length] <;> omega) | rfl) (ints_one _ _) (by first | omega | (simp only [List.length_append, List.length_cons, List.length_nil, List.length_set, List.length_replicate, List.length_take, List.length_drop, ints_length, wr_length] <;> omega) | rfl) rfl ?_
      refine op_nil ?_
      refine ax_then ?_
      refine At.regs (L' := [(0, _), (2, _), (6, _), (9, _)]) (.cons rfl (.cons rfl (.cons rfl (.cons rfl (.nil _))))) ?_
      refine cd_seq ?_
      refine cd_seq ?_
      refine cd_region ?_
      refine st (ev_move rfl) rfl rfl rfl ?_
      refine op_nil ?_
      refine ax_then ?_
      refine At.regs (L' := [(0, _), (2, _), (6, _), (9, _), (83, _)]) (.cons rfl (.cons rfl (.cons rfl (.cons rfl (.cons rfl (.nil _)))))) ?_
      refine cd_block ?_
      refine cd_loop (ι := Nat) (fun i => i ≤ 64) (fun i => 64 - i)
          (fun i => [(0, .pointer (some ⟨bs, 0, none⟩)), (2, .pointer (some ⟨bk, 0, none⟩)), (6, .pointer (some ⟨b6, 0, none⟩)), (9, .pointer (some ⟨b9, 0, none⟩)), (83, .int .i64 (i : Int))])
          (fun i => [(0, .blk bs (.cells (ints .u32 (s)).toArray TS)), (6, .blk b6 (.cells (ints .u32 (sched b)).toArray 128)), (9, .blk b9 (.cells (ints .u32 (rnds k (sched b) s i)).toArray 132))])
          (fun i => [(1, .sl p 1 (ints .u8 b)), (2, .mem bk 0 (ints .u32 k))])
          0 (by omega) (.cons rfl (.cons rfl (.cons rfl (.cons rfl (.cons rfl (.nil _)))))) (.cons rfl (.cons rfl (.cons rfl (.nil _)))) (.cons rfl (.cons rfl (.nil _))) (fun i hi => ?_)
      have hv := rnds_len k (sched b) s hs i
      have hw := sched_len b
      refine cd_seq ?_
      refine cd_region ?_
      refine st (ev_lss rfl rfl) rfl rfl rfl ?_
      refine op_nil ?_
      refine ax_then ?_
      refine At.regs (L' := [(0, _), (2, _), (6, _), (9, _), (83, _), (84, _)]) (.cons rfl (.cons rfl (.cons rfl (.cons rfl (.cons rfl (.cons rfl (.nil _))))))) ?_
      refine cd_seq ?_
      refine cd_if rfl (fun hc84 => ?_) (fun hc84 => ?_)
      ·
        refine cd_skip ?_
        refine ax_then ?_
        refine At.regs (L' := [(0, _), (2, _), (6, _), (9, _), (83, _), (84, _)]) (.cons rfl (.cons rfl (.cons rfl (.cons rfl (.cons rfl (.cons rfl (.nil _))))))) ?_
        refine cd_seq ?_
        refine cd_block ?_
        refine cd_seq ?_
        refine cd_region ?_
        refine st (ev_move rfl) rfl rfl rfl ?_
        refine st (ev_assign rfl) rfl rfl rfl ?_
        refine op_nil ?_
        refine ax_then ?_
        refine At.regs (L' := [(0, _), (2, _), (6, _), (9, _), (10, _), (83, _), (84, _), (85, _)]) (.cons rfl (.cons rfl (.cons rfl (.cons rfl (.cons rfl (.cons rfl (.cons rfl (.cons rfl (.nil _))))))))) ?_
        refine cd_seq ?_
        refine cd_open hmix (by decide +kernel) ?_
        refine qt (ev_indexAddr_arrm 7 rfl Try.underlying132 ty126 rfl rfl (by decide) (by decide)) rfl rfl rfl ?_
        refine qt (ld_blk1 (h := 9) ty126 rfl rfl rfl (ints_get _ _ _ (by first | omega | (simp only [List.length_append, List.length_cons, List.length_nil, List.length_set, List.length_replicate, List.length_take, List.length_drop, ints_length, wr_length] <;> omega) | rfl))) rfl rfl rfl ?_
        refine qt (ev_indexAddr_arrm 4 rfl Try.underlying132 ty126 rfl rfl (by decide) (by decide)) rfl rfl rfl ?_
        refine qt (ld_blk1 (h := 9) ty126 rfl rfl rfl (ints_get _ _ _ (by first | omega | (simp only [List.length_append, List.length_cons, List.length_nil, List.length_set, List.length_replicate, List.length_take, List.length_drop, ints_length, wr_length] <;> omega) | rfl))) rfl rfl rfl ?_
        refine qt_callv has106 rfl (fun w1 sw => b1_any _ w1) rfl rfl ?_
        refine qt (ev_add rfl rfl) rfl rfl rfl ?_
        refine qt (ev_indexAddr_arrm 4 rfl Try.underlying132 ty126 rfl rfl (by decide) (by decide)) rfl rfl rfl ?_
        refine qt (ld_blk1 (h := 9) ty126 rfl rfl rfl (ints_get _ _ _ (by first | omega | (simp only [List.length_append, List.length_cons, List.length_nil, List.length_set, List.length_replicate, List.length_take, List.length_drop, ints_length, wr_length] <;> omega) | rfl))) rfl rfl rfl ?_
        refine qt (ev_indexAddr_arrm 5 rfl Try.underlying132 ty126 rfl rfl (by decide) (by decide)) rfl rfl rfl ?_
        refine qt (ld_blk1 (h := 9) ty126 rfl rfl rfl (ints_get _ _ _ (by first | omega | (simp only [List.length_append, List.length_cons, List.length_nil, List.length_set, List.length_replicate, List.length_take, List.length_drop, ints_length, wr_length] <;> omega) | rfl))) rfl rfl rfl ?_
        refine qt (ev_indexAddr_arrm 6 rfl Try.underlying132 ty126 rfl rfl (by decide) (by decide)) rfl rfl rfl ?_
        refine qt (ld_blk1 (h := 9) ty126 rfl rfl rfl (ints_get _ _ _ (by first | omega | (simp only [List.length_append, List.length_cons, List.length_nil, List.length_set, List.length_replicate, List.length_take, List.length_drop, ints_length, wr_length] <;> omega) | rfl))) rfl rfl rfl ?_
        refine qt_callv has107 rfl (fun w1 sw => ch_any _ _ _ w1) rfl rfl ?_
        refine qt (ev_add rfl rfl) rfl rfl rfl ?_
        refine qt (ev_move rfl) rfl rfl rfl ?_
        refine qt (ev_move rfl) rfl rfl rfl ?_
        refine qt (ev_nilCheck rfl) rfl rfl rfl ?_
        refine qt (ev_indexAddr_arr Try.underlying128 ty126 rfl rfl (by omega) (by omega)) rfl rfl rfl ?_
        refine qt (ld_mem1 (h := 2) ty126 rfl rfl rfl (Nat.zero_add _).symm (ints_get _ _ _ (by first | omega | (simp only [List.length_append, List.length_cons, List.length_nil, List.length_set, List.length_replicate, List.length_take, List.length_drop, ints_length, wr_length] <;> omega) | rfl))) rfl rfl rfl ?_
        refine qt (ev_add rfl rfl) rfl rfl rfl ?_
        refine qt (ev_move rfl) rfl rfl rfl ?_
        refine qt (ev_indexAddr_arr Try.underlying128 ty126 rfl rfl (by omega) (by omega)) rfl rfl rfl ?_
        refine qt (ld_blk1 (h := 6) ty126 rfl rfl rfl (ints_get _ _ _ (by first | omega | (simp only [List.length_append, List.length_cons, List.length_nil, List.length_set, List.length_replicate, List.length_take, List.length_drop, ints_length, wr_length] <;> omega) | rfl))) rfl rfl rfl ?_
        refine qt (ev_add rfl rfl) rfl rfl rfl ?_
        refine qt (ev_assign rfl) rfl rfl rfl ?_
        refine qt_end ?_
        refine op_nil ?_
        refine ax_then ?_
        refine At.regs (L' := [(0, _), (2, _), (6, _), (9, _), (10, _), (11, _), (83, _), (84, _), (85, _), (86, _), (87, _), (88, _), (89, _), (90, _), (91, _), (92, _), (93, _), (94, _), (95, _), (96, _), (97, _), (98, _), (99, _), (100, _), (101, _), (102, _), (103, _), (104, _), (105, _), (106, _), (107, _), (108, _), (109, _)]) (.cons rfl (.cons rfl (.cons rfl (.cons rfl (.cons rfl (.cons rfl (.cons rfl (.cons rfl (.cons rfl (.cons rfl (.cons rfl (.cons rfl (.cons rfl (.cons rfl (.cons rfl (.cons rfl (.cons rfl (.cons rfl (.cons rfl (.cons rfl (.cons rfl (.cons rfl (.cons rfl (.cons rfl (.cons rfl (.cons rfl (.cons rfl (.cons rfl (.cons rfl (.cons rfl (.cons rfl (.cons rfl (.cons rfl (.nil _)))))))))))))))))))))))))))))))))) ?_
        refine cd_seq ?_
        refine cd_open hmix (by decide +kernel) ?_
        refine qt (ev_indexAddr_arrm 0 rfl Try.underlying132 ty126 rfl rfl (by decide) (by decide)) rfl rfl rfl ?_
        refine qt (ld_blk1 (h := 9) ty126 rfl rfl rfl (ints_get _ _ _ (by first | omega | (simp only [List.length_append, List.length_cons, List.length_nil, List.length_set, List.length_replicate, List.length_take, List.length_drop, ints_length, wr_length] <;> omega) | rfl))) rfl rfl rfl ?_
        refine qt_callv has108 rfl (fun w1 sw => b0_any _ w1) rfl rfl ?_
        refine qt (ev_indexAddr_arrm 0 rfl Try.underlying132 ty126 rfl rfl (by decide) (by decide)) rfl rfl rfl ?_
        refine qt (ld_blk1 (h := 9) ty126 rfl rfl rfl (ints_get _ _ _ (by first | omega | (simp only [List.length_append, List.length_cons, List.length_nil, List.length_set, List.length_replicate, List.length_take, List.length_drop, ints_length, wr_length] <;> omega) | rfl))) rfl rfl rfl ?_
        refine qt (ev_indexAddr_arrm 1 rfl Try.underlying132 ty126 rfl rfl (by decide) (by decide)) rfl rfl rfl ?_
        refine qt (ld_blk1 (h := 9) ty126 rfl rfl rfl (ints_get _ _ _ (by first | omega | (simp only [List.length_append, List.length_cons, List.length_nil, List.length_set, List.length_replicate, List.length_take, List.length_drop, ints_length, wr_length] <;> omega) | rfl))) rfl rfl rfl ?_
        refine qt (ev_indexAddr_arrm 2 rfl Try.underlying132 ty126 rfl rfl (by decide) (by decide)) rfl rfl rfl ?_
        refine qt (ld_blk1 (h := 9) ty126 rfl rfl rfl (ints_get _ _ _ (by first | omega | (simp only [List.length_append, List.length_cons, List.length_nil, List.length_set, List.length_replicate, List.length_take, List.length_drop, ints_length, wr_length] <;> omega) | rfl))) rfl rfl rfl ?_
        refine qt_callv has109 rfl (fun w1 sw => mj_any _ _ _ w1) rfl rfl ?_
        refine qt (ev_add rfl rfl) rfl rfl rfl ?_
        refine qt (ev_assign rfl) rfl rfl rfl ?_
        refine qt_end ?_
        refine op_nil ?_
        refine ax_then ?_
        refine At.regs (L' := [(0, _), (2, _), (6, _), (9, _), (10, _), (11, _), (12, _), (83, _), (84, _), (85, _), (86, _), (87, _), (88, _), (89, _), (90, _), (91, _), (92, _), (93, _), (94, _), (95, _), (96, _), (97, _), (98, _), (99, _), (100, _), (101, _), (102, _), (103, _), (104, _), (105, _), (106, _), (107, _), (108, _), (109, _), (110, _), (111, _), (112, _), (113, _), (114, _), (115, _), (116, _), (117, _), (118, _), (119, _), (120, _)]) (.cons rfl (.cons rfl (.cons rfl (.cons rfl (.cons rfl (.cons rfl (.cons rfl (.cons rfl (.cons rfl (.cons rfl (.cons rfl (.cons rfl (.cons rfl (.cons rfl (.cons rfl (.cons rfl (.cons rfl (.cons rfl (.cons rfl (.cons rfl (.cons rfl (.cons rfl (.cons rfl (.cons rfl (.cons rfl (.cons rfl (.cons rfl (.cons rfl (.cons rfl (.cons rfl (.cons rfl (.cons rfl (.cons rfl (.cons rfl (.cons rfl (.cons rfl (.cons rfl (.cons rfl (.cons rfl (.cons rfl (.cons rfl (.cons rfl (.cons rfl (.cons rfl (.cons rfl (.nil _)))))))))))))))))))))))))))))))))))))))))))))) ?_
        refine cd_region ?_
        refine st (ev_move rfl) rfl rfl rfl ?_
        refine st (ev_move rfl) rfl rfl rfl ?_
        refine st (ev_add rfl rfl) rfl rfl rfl ?_
        refine st (ev_indexAddr_arrm 0 rfl Try.underlying132 ty126 rfl rfl (by decide) (by decide)) rfl rfl rfl ?_
        refine st (ld_blk1 (h := 9) ty126 rfl rfl rfl (ints_get _ _ _ (by first | omega | (simp only [List.length_append, List.length_cons, List.length_nil, List.length_set, List.length_replicate, List.length_take, List.length_drop, ints_length, wr_length] <;> omega) | rfl))) rfl rfl rfl ?_
        refine st (ev_indexAddr_arrm 1 rfl Try.underlying132 ty126 rfl rfl (by decide) (by decide)) rfl rfl rfl ?_
        refine st (ld_blk1 (h := 9) ty126 rfl rfl rfl (ints_get _ _ _ (by first | omega | (simp only [List.length_append, List.length_cons, List.length_nil, List.length_set, List.length_replicate, List.length_take, List.length_drop, ints_length, wr_length] <;> omega) | rfl))) rfl rfl rfl ?_
        refine st (ev_indexAddr_arrm 2 rfl Try.underlying132 ty126 rfl rfl (by decide) (by decide)) rfl rfl rfl ?_
        refine st (ld_blk1 (h := 9) ty126 rfl rfl rfl (ints_get _ _ _ (by first | omega | (simp only [List.length_append, List.length_cons, List.length_nil, List.length_set, List.length_replicate, List.length_take, List.length_drop, ints_length, wr_length] <;> omega) | rfl))) rfl rfl rfl ?_
        refine st (ev_indexAddr_arrm 3 rfl Try.underlying132 ty126 rfl rfl (by decide) (by decide)) rfl rfl rfl ?_
        refine st (ld_blk1 (h := 9) ty126 rfl rfl rfl (ints_get _ _ _ (by first | omega | (simp only [List.length_append, List.length_cons, List.length_nil, List.length_set, List.length_replicate, List.length_take, List.length_drop, ints_length, wr_length] <;> omega) | rfl))) rfl rfl rfl ?_
        refine st (ev_move rfl) rfl rfl rfl ?_
        refine st (ev_add rfl rfl) rfl rfl rfl ?_
        refine st (ev_indexAddr_arrm 4 rfl Try.underlying132 ty126 rfl rfl (by decide) (by decide)) rfl rfl rfl ?_
        refine st (ld_blk1 (h := 9) ty126 rfl rfl rfl (ints_get _ _ _ (by first | omega | (simp only [List.length_append, List.length_cons, List.length_nil, List.length_set, List.length_replicate, List.length_take, List.length_drop, ints_length, wr_length] <;> omega) | rfl))) rfl rfl rfl ?_
        refine st (ev_indexAddr_arrm 5 rfl Try.underlying132 ty126 rfl rfl (by decide) (by decide)) rfl rfl rfl ?_
        refine st (ld_blk1 (h := 9) ty126 rfl rfl rfl (ints_get _ _ _ (by first | omega | (simp only [List.length_append, List.length_cons, List.length_nil, List.length_set, List.length_replicate, List.length_take, List.length_drop, ints_length, wr_length] <;> omega) | rfl))) rfl rfl rfl ?_
        refine st (ev_indexAddr_arrm 6 rfl Try.underlying132 ty126 rfl rfl (by decide) (by decide)) rfl rfl rfl ?_
        refine st (ld_blk1 (h := 9) ty126 rfl rfl rfl (ints_get _ _ _ (by first | omega | (simp only [List.length_append, List.length_cons, List.length_nil, List.length_set, List.length_replicate, List.length_take, List.length_drop, ints_length, wr_length] <;> omega) | rfl))) rfl rfl rfl ?_
        refine st (ev_build_ints (xs := [_, _, _, _, _, _, _, _]) (zs := List.replicate 8 0) ty132 rfl ty126 rfl rfl rfl rfl rfl) rfl rfl rfl ?_
        refine st_store_all 9 ty132 rfl rfl rfl rfl (by first | omega | (simp only [List.length_append, List.length_cons, List.length_nil, List.length_set, List.length_replicate, List.length_take, List.length_drop, ints_length, wr_length] <;> omega) | rfl) (ints_one _ _) (by first | omega | (simp only [List.length_append, List.length_cons, List.length_nil, List.length_set, List.length_replicate, List.length_take, List.length_drop, ints_length, wr_length] <;> omega) | rfl) rfl ?_
        refine op_nil ?_
        refine ax_block ?_
        refine ax_then ?_
        refine At.regs (L' := [(0, _), (2, _), (6, _), (9, _), (10, _), (11, _), (12, _), (83, _), (84, _), (85, _), (86, _), (87, _), (88, _), (89, _), (90, _), (91, _), (92, _), (93, _), (94, _), (95, _), (96, _), (97, _), (98, _), (99, _), (100, _), (101, _), (102, _), (103, _), (104, _), (105, _), (106, _), (107, _), (108, _), (109, _), (110, _), (111, _), (112, _), (113, _), (114, _), (115, _), (116, _), (117, _), (118, _), (119, _), (120, _), (121, _), (122, _), (123, _), (124, _), (125, _), (126, _), (127, _), (128, _), (129, _), (130, _), (131, _), (132, _), (133, _), (134, _), (135, _), (136, _), (137, _), (138, _), (139, _), (140, _)]) (.cons rfl (.cons rfl (.cons rfl (.cons rfl (.cons rfl (.cons rfl (.cons rfl (.cons rfl (.cons rfl (.cons rfl (.cons rfl (.cons rfl (.cons rfl (.cons rfl (.cons rfl (.cons rfl (.cons rfl (.cons rfl (.cons rfl (.cons rfl (.cons rfl (.cons rfl (.cons rfl (.cons rfl (.cons rfl (.cons rfl (.cons rfl (.cons rfl (.cons rfl (.cons rfl (.cons rfl (.cons rfl (.cons rfl (.cons rfl (.cons rfl (.cons rfl (.cons rfl (.cons rfl (.cons rfl (.cons rfl (.cons rfl (.cons rfl (.cons rfl (.cons rfl (.cons rfl (.cons rfl (.cons rfl (.cons rfl (.cons rfl (.cons rfl (.cons rfl (.cons rfl (.cons rfl (.cons rfl (.cons rfl (.cons rfl (.cons rfl (.cons rfl (.cons rfl (.cons rfl (.cons rfl (.cons rfl (.cons rfl (.cons rfl (.cons rfl (.nil _)))))))))))))))))))))))))))))))))))))))))))))))))))))))))))))))))) ?_
        refine cd_region ?_
        refine st (ev_add64 rfl rfl (by omega) (by omega)) rfl rfl rfl ?_
        refine st (ev_move rfl) rfl rfl rfl ?_
        refine op_nil ?_
        have e0 : 0 + (i : Int).toNat * 1 = i := by omega
        refine ax_heq (i := 9) (v' := .blk b9 (.cells (ints .u32 (rnds k (sched b) s (i + 1))).toArray 132)) rfl (by simp only [e0]; simp only [rnds, rnd, tt, uu, add]) ?_
        exact at_again (i + 1) (by omega) (by omega) (.cons rfl (.cons rfl (.cons rfl (.cons rfl (.cons rfl (.nil _)))))) (.cons rfl (.cons rfl (.cons rfl (.nil _)))) (.cons rfl (.cons rfl (.nil _)))
      ·
        obtain rfl : i = 64 := by omega
        refine cd_exit ?_
        refine ax_then_exit ?_
        refine ax_then_exit ?_
        refine ax_block_hit ?_
        refine ax_then ?_
        refine At.regs (L' := [(0, _), (9, _)]) (.cons rfl (.cons rfl (.nil _))) ?_
        refine cd_seq ?_
        refine cd_region ?_
        refine st (ev_move rfl) rfl rfl rfl ?_
        refine op_nil ?_
        refine ax_then ?_
        refine At.regs (L' := [(0, _), (9, _), (142, _)]) (.cons rfl (.cons rfl (.cons rfl (.nil _)))) ?_
        refine cd_block ?_
        refine cd_loop (ι := Nat) (fun i => i ≤ 8) (fun i => 8 - i)
            (fun i => [(0, .pointer (some ⟨bs, 0, none⟩)), (9, .pointer (some ⟨b9, 0, none⟩)), (142, .int .i64 (i : Int))])
            (fun i => [(0, .blk bs (.cells (ints .u32 (adds s (rnds k (sched b) s 64) i)).toArray TS)), (9, .blk b9 (.cells (ints .u32 (rnds k (sched b) s 64)).toArray 132))])
            (fun i => [(1, .sl p 1 (ints .u8 b)), (2, .mem bk 0 (ints .u32 k))])
            0 (by omega) (.cons rfl (.cons rfl (.cons rfl (.nil _)))) (.cons rfl (.cons rfl (.nil _))) (.cons rfl (.cons rfl (.nil _))) (fun i hi => ?_)
        have hv := rnds_len k (sched b) s hs 64
        have hw := adds_len s (rnds k (sched b) s 64) i
        refine cd_seq ?_
        refine cd_region ?_
        refine st (ev_lss rfl rfl) rfl rfl rfl ?_
        refine op_nil ?_
        refine ax_then ?_
        refine At.regs (L' := [(0, _), (9, _), (142, _), (143, _)]) (.cons rfl (.cons rfl (.cons rfl (.cons rfl (.nil _))))) ?_
        refine cd_seq ?_
        refine cd_if rfl (fun hc143 => ?_) (fun hc143 => ?_)
        ·
          refine cd_skip ?_
          refine ax_then ?_
          refine At.regs (L' := [(0, _), (9, _), (142, _), (143, _)]) (.cons rfl (.cons rfl (.cons rfl (.cons rfl (.nil _))))) ?_
          refine cd_seq ?_
          refine cd_block ?_
          refine cd_seq ?_
          refine cd_region ?_
          refine st (ev_move rfl) rfl rfl rfl ?_
          refine st (ev_assign rfl) rfl rfl rfl ?_
          refine op_nil ?_
          refine ax_then ?_
          refine At.regs (L' := [(0, _), (9, _), (13, _), (142, _), (143, _), (144, _)]) (.cons rfl (.cons rfl (.cons rfl (.cons rfl (.cons rfl (.cons rfl (.nil _))))))) ?_
          refine cd_open_tail 10 hmix (by decide +kernel) ?_
          refine qt (ev_move rfl) rfl rfl rfl ?_
          refine qt (ev_move rfl) rfl rfl rfl ?_
          refine qt (ev_nilCheck rfl) rfl rfl rfl ?_
          refine qt (ev_indexAddr_arr Try.underlying132 ty126 rfl rfl (by omega) (by omega)) rfl rfl rfl ?_
          refine qt (ld_blk1 (h := 0) ty126 rfl rfl rfl (ints_get _ _ _ (by first | omega | (simp only [List.length_append, List.length_cons, List.length_nil, List.length_set, List.length_replicate, List.length_take, List.length_drop, ints_length, wr_length] <;> omega) | rfl))) rfl rfl rfl ?_
          refine qt (ev_move rfl) rfl rfl rfl ?_
          refine qt (ev_indexAddr_arr Try.underlying132 ty126 rfl rfl (by omega) (by omega)) rfl rfl rfl ?_
          refine qt (ld_blk1 (h := 9) ty126 rfl rfl rfl (ints_get _ _ _ (by first | omega | (simp only [List.length_append, List.length_cons, List.length_nil, List.length_set, List.length_replicate, List.length_take, List.length_drop, ints_length, wr_length] <;> omega) | rfl))) rfl rfl rfl ?_
          refine qt (ev_add rfl rfl) rfl rfl rfl ?_
          refine qt (ev_nilCheck rfl) rfl rfl rfl ?_
          refine qt_end ?_
          refine st (ev_indexAddr_arr Try.underlying132 ty126 rfl rfl (by omega) (by omega)) rfl rfl rfl ?_
          refine st_store1 0 ty126 rfl rfl rfl rfl (by first | omega | (simp only [List.length_append, List.length_cons, List.length_nil, List.length_set, List.length_replicate, List.length_take, List.length_drop, ints_length, wr_length] <;> omega) | rfl) rfl ?_
          refine at_heq (i := 0) rfl (by rw [ints_set]) ?_
          refine op_nil ?_
          refine ax_block ?_
          refine ax_then ?_
          refine At.regs (L' := [(0, _), (9, _), (13, _), (142, _), (143, _), (144, _), (145, _), (146, _), (147, _), (148, _), (149, _), (150, _), (151, _), (152, _), (153, _), (154, _), (155, _)]) (.cons rfl (.cons rfl (.cons rfl (.cons rfl (.cons rfl (.cons rfl (.cons rfl (.cons rfl (.cons rfl (.cons rfl (.cons rfl (.cons rfl (.cons rfl (.cons rfl (.cons rfl (.cons rfl (.cons rfl (.nil _)))))))))))))))))) ?_
          refine cd_region ?_
          refine st (ev_add64 rfl rfl (by omega) (by omega)) rfl rfl rfl ?_
          refine st (ev_move rfl) rfl rfl rfl ?_
          refine op_nil ?_
          have e0 : 0 + (i : Int).toNat * 1 = i := by omega
          refine ax_heq (i := 0) (v' := .blk bs (.cells (ints .u32 (adds s (rnds k (sched b) s 64) (i + 1))).toArray TS)) rfl (by simp only [e0]; rfl) ?_
          exact at_again (i + 1) (by omega) (by omega) (.cons rfl (.cons rfl (.cons rfl (.nil _)))) (.cons rfl (.cons rfl (.nil _))) (.cons rfl (.cons rfl (.nil _)))
        ·
          obtain rfl : i = 8 := by omega
          refine cd_exit ?_
          refine ax_then_exit ?_
          refine ax_then_exit ?_
          refine ax_block_hit ?_
          refine rt_none (.inr rfl) Try.results101 ?_
          exact fun w1 sw => ⟨(), trivial, rfl, sw.gives (.cons rfl (.nil _))⟩
end Go.Proofs.Yteedclmcgifmpaa

namespace Go.Proofs.Yteedclmcgifmpaa
open Go Go.RowKit Fw
open Sha
set_option linter.unusedVariables false
set_option linter.unusedSimpArgs false
set_option maxRecDepth 20000 in
set_option maxHeartbeats 1000000 in
theorem numbers_any (w : World) : Calls Try.prog 100 #[] w (PostV w (.agg (ints .u32 K).toArray)) := by
  refine calls_at (vs := []) (X := []) (H := []) (F := []) 2 Try.func100 rfl rfl rfl (Sat.start0 w) ?_
  refine cd_seq ?_
  refine cd_region ?_
  refine st_alloc (h := 0) ty128 rfl rfl rfl (fun b0 => ?_)
  refine op_nil ?_
  refine ax_then ?_
  refine At.regs (L' := [(0, _)]) (.cons rfl (.nil _)) ?_
  refine cd_seq ?_
  refine cd_region ?_
  refine st (ev_build_ints (xs := [_, _, _, _, _, _, _, _, _, _, _, _, _, _, _, _, _, _, _, _, _, _, _, _, _, _, _, _, _, _, _, _, _, _, _, _, _, _, _, _, _, _, _, _, _, _, _, _, _, _, _, _, _, _, _, _, _, _, _, _, _, _, _, _]) (zs := List.replicate 64 0) ty128 rfl ty126 rfl rfl rfl rfl rfl) rfl rfl rfl ?_
  refine st_store_all 0 ty128 rfl rfl rfl rfl (by first | omega | (simp only [List.length_append, List.length_cons, List.length_nil, List.length_set, List.length_replicate, List.length_take, List.length_drop, ints_length, wr_length] <;> omega) | rfl) (ints_one _ _) (by first | omega | (simp only [List.length_append, List.length_cons, List.length_nil, List.length_set, List.length_replicate, List.length_take, List.length_drop, ints_length, wr_length] <;> omega) | rfl) rfl ?_
  refine op_nil ?_
  refine ax_then ?_
  refine At.regs (L' := [(0, _)]) (.cons rfl (.nil _)) ?_
  refine cd_ret ?_
  refine rt_cell (h0 := 0) (.inl rfl) Try.results100 ty128 rfl rfl rfl (by first | omega | (simp only [List.length_append, List.length_cons, List.length_nil, List.length_set, List.length_replicate, List.length_take, List.length_drop, ints_length, wr_length] <;> omega) | rfl) ?_
  exact fun w1 sw => ⟨rfl, by have g := sw.gives (.nil _); exact g⟩
set_option maxRecDepth 20000 in
set_option maxHeartbeats 4000000 in
theorem sum_any (p : Value) (l : List Int) (w : World) (hl : l.length ≤ 140737488352000) (h : Rd w p 1 (ints .u8 l)) : Calls Try.prog 83 #[p] w (PostV w (.agg (ints .u8 (sha l)).toArray)) := by
  refine calls_at (vs := [p]) (X := []) (H := []) (F := [(0, .sl p 1 (ints .u8 l))]) 90 Try.func83 rfl rfl rfl (Sat.rd0 0 h) ?_
  refine cd_seq ?_
  refine cd_region ?_
  refine st_alloc (h := 2) ty39 rfl rfl rfl (fun b2 => ?_)
  refine op_nil ?_
  refine ax_then ?_
  refine At.regs (L' := [(0, _), (2, _)]) (.cons rfl (.cons rfl (.nil _))) ?_
  refine cd_seq ?_
  refine cd_region ?_
  refine st (ev_build_ints (xs := [_, _, _, _, _, _, _, _]) (zs := List.replicate 8 0) ty132 rfl ty126 rfl rfl rfl rfl rfl) rfl rfl rfl ?_
  refine st_alloc (h := 3) ty132 rfl rfl rfl (fun b3 => ?_)
  refine st_store_all 3 ty132 rfl rfl rfl rfl (by first | omega | (simp only [List.length_append, List.length_cons, List.length_nil, List.length_set, List.length_replicate, List.length_take, List.length_drop, ints_length, wr_length] <;> omega) | rfl) (ints_one _ _) (by first | omega | (simp only [List.length_append, List.length_cons, List.length_nil, List.length_set, List.length_replicate, List.length_take, List.length_drop, ints_length, wr_length] <;> omega) | rfl) rfl ?_
  refine op_nil ?_
  refine ax_then ?_
  refine At.regs (L' := [(0, _), (2, _), (3, _)]) (.cons rfl (.cons rfl (.cons rfl (.nil _)))) ?_
  refine cd_seq ?_
  refine cd_region ?_
  refine st_callv has100 rfl (fun w1 sw => numbers_any w1) rfl rfl ?_
  refine st_alloc (h := 4) ty128 rfl rfl rfl (fun b4 => ?_)
  refine st_store_all 4 ty128 rfl rfl rfl rfl (by first | omega | (simp only [List.length_append, List.length_cons, List.length_nil, List.length_set, List.length_replicate, List.length_take, List.length_drop, ints_length, wr_length] <;> omega) | rfl) (ints_one _ _) (by first | omega | (simp only [List.length_append, List.length_cons, List.length_nil, List.length_set, List.length_replicate, List.length_take, List.length_drop, ints_length, wr_length] <;> omega) | rfl) rfl ?_
  refine op_nil ?_
  refine ax_then ?_
  refine At.regs (L' := [(0, _), (2, _), (3, _), (4, _)]) (.cons rfl (.cons rfl (.cons rfl (.cons rfl (.nil _))))) ?_
  refine cd_seq ?_
  refine cd_region ?_
  refine st (ev_move rfl) rfl rfl rfl ?_
  refine st (ev_assign rfl) rfl rfl rfl ?_
  refine op_nil ?_
  refine ax_then ?_
  refine At.regs (L' := [(0, _), (2, _), (3, _), (4, _), (5, _)]) (.cons rfl (.cons rfl (.cons rfl (.cons rfl (.cons rfl (.nil _)))))) ?_
  refine cd_seq ?_
  refine cd_block ?_
  refine at_alias (h := 0) 5 rfl ?_
  refine cd_loop (ι := Nat × Value) (fun x => 64 * x.1 ≤ l.length) (fun x => l.length - 64 * x.1)
      (fun x => [(0, p), (2, .pointer (some ⟨b2, 0, none⟩)), (3, .pointer (some ⟨b3, 0, none⟩)), (4, .pointer (some ⟨b4, 0, none⟩)), (5, x.2)])
      (fun x => [(2, .blk b2 (.cells (ints .u8 (List.replicate 32 0)).toArray 39)), (3, .blk b3 (.cells (ints .u32 (absorb S0 l x.1)).toArray 132)), (4, .blk b4 (.cells (ints .u32 (K)).toArray 128))])
      (fun x => [(0, .sl p 1 (ints .u8 l)), (5, .sl x.2 1 (ints .u8 (l.drop (64 * x.1))))])
      (0, p) (by simp) (.cons rfl (.cons rfl (.cons rfl (.cons rfl (.cons rfl (.nil _)))))) (.cons rfl (.cons rfl (.cons rfl (.nil _)))) (.cons rfl (.cons rfl (.nil _))) (fun x hi => ?_)
  refine cd_seq ?_
  refine cd_seq ?_
  refine cd_region ?_
  refine st (ev_move rfl) rfl rfl rfl ?_
  refine st (ev_len_rdi (h := 5) Try.underlying22 rfl rfl) rfl rfl rfl ?_
  refine st (ev_geq rfl rfl) rfl rfl rfl ?_
  refine op_nil ?_
  refine ax_then ?_
  refine At.regs (L' := [(0, _), (2, _), (3, _), (4, _), (5, _), (17, _), (18, _), (19, _)]) (.cons rfl (.cons rfl (.cons rfl (.cons rfl (.cons rfl (.cons rfl (.cons rfl (.cons rfl (.nil _))))))))) ?_
  refine cd_if rfl (fun hc19 => ?_) (fun hc19 => ?_)
  ·
    refine cd_skip ?_
    refine ax_then ?_
    refine At.regs (L' := [(0, _), (2, _), (3, _), (4, _), (5, _), (17, _), (18, _), (19, _)]) (.cons rfl (.cons rfl (.cons rfl (.cons rfl (.cons rfl (.cons rfl (.cons rfl (.cons rfl (.nil _))))))))) ?_
    refine cd_seq ?_
    refine cd_block ?_
    refine cd_region ?_
    refine st (ev_move rfl) rfl rfl rfl ?_
    refine st_call has101 rfl (fun w1 sw => rn 3 (take_any b3 b4 132 (x.2) _ (l.drop (64 * x.1)) K w1 (by simp only [absorb_len]; rfl) rfl (by simp only [List.length_drop] at hc19 ⊢; omega) (sw.blk_eq (h := 3) rfl) (sw.sl_rd (h := 5) rfl) (lies_blk (sw.blk_eq (h := 4) rfl)) (sw.off_sl (f := 5) (h := 3) rfl rfl (by simp [Ent.ids]) (by intro hn; have := congrArg List.length hn; simp only [ints_length, List.length_drop, List.length_nil] at hc19 this; omega)) (sw.ne_blk (h := 3) (h' := 4) rfl rfl (by decide)))) (mod_blk rfl) rfl rfl (fun _ _ => ?_)
    refine op_nil ?_
    refine ax_block ?_
    refine ax_then ?_
    refine At.regs (L' := [(0, _), (2, _), (3, _), (4, _), (5, _), (17, _), (18, _), (19, _), (22, _)]) (.cons rfl (.cons rfl (.cons rfl (.cons rfl (.cons rfl (.cons rfl (.cons rfl (.cons rfl (.cons rfl (.nil _)))))))))) ?_
    refine cd_region ?_
    refine st (ev_move rfl) rfl rfl rfl ?_
    refine st (ev_slicei_lo (l := l.drop (64 * x.1)) Try.underlying22 ty5 rfl rfl (fun w1 sw => sw.sl_rd (h := 5) rfl) (by omega) (by simp only [List.length_drop] at hc19 ⊢; omega)) rfl rfl rfl ?_
    refine at_cuti (h := 5) (lo := 64) (hi := (l.drop (64 * x.1)).length) 5 rfl (by simp only [List.length_drop] at hc19 ⊢; omega) (Nat.le_refl _) ?_
    refine at_feq (i := 5) (v' := .sl (cutAt 1 x.2 64 (l.drop (64 * x.1)).length) 1 (ints .u8 (l.drop (64 * (x.1 + 1))))) rfl (by rw [List.drop_drop, List.take_of_length_le (by simp only [List.length_drop]; omega)]; rfl) ?_
    refine st (ev_assign rfl) rfl rfl rfl ?_
    refine op_nil ?_
    exact at_again ((x.1 + 1, cutAt 1 x.2 64 (l.drop (64 * x.1)).length)) (by simp only [List.length_drop] at hc19; omega) (by simp only [List.length_drop] at hc19; omega) (.cons rfl (.cons rfl (.cons rfl (.cons rfl (.cons rfl (.nil _)))))) (.cons rfl (.cons rfl (.cons rfl (.nil _)))) (.cons rfl (.cons rfl (.nil _)))
  ·
    obtain ⟨j, v⟩ := x
    simp only [List.length_drop] at hi hc19
    obtain rfl : j = l.length / 64 := by omega
    have hrl : (l.drop (64 * (l.length / 64))).length < 64 := by simp only [List.length_drop]; omega
    dsimp only
    generalize hr : l.drop (64 * (l.length / 64)) = r at hrl ⊢
    have hen : en r.length = 64 ∨ en r.length = 128 := by unfold en; split <;> simp
    refine cd_exit ?_
    refine ax_then_exit ?_
    refine ax_then_exit ?_
    refine ax_block_hit ?_
    refine ax_then ?_
    refine At.regs (L' := [(0, _), (2, _), (3, _), (4, _), (5, _)]) (.cons rfl (.cons rfl (.cons rfl (.cons rfl (.cons rfl (.nil _)))))) ?_
    refine cd_seq ?_
    refine cd_region ?_
    refine st_alloc (h := 6) ty134 rfl rfl rfl (fun b6 => ?_)
    refine op_nil ?_
    refine ax_then ?_
    refine At.regs (L' := [(0, _), (2, _), (3, _), (4, _), (5, _), (6, _)]) (.cons rfl (.cons rfl (.cons rfl (.cons rfl (.cons rfl (.cons rfl (.nil _))))))) ?_
    refine cd_seq ?_
    refine cd_region ?_
    refine st (ev_slice_arr_all Try.underlying134 ty5 rfl) rfl rfl rfl ?_
    refine st (ev_move rfl) rfl rfl rfl ?_
    refine st_copy (n := r.length) 6 Try.underlying22 ty5 rfl rfl rfl (fun w1 sw => sw.sl_rd (h := 5) rfl) (by decide) (by first | omega | (simp only [List.length_append, List.length_cons, List.length_nil, List.length_set, List.length_replicate, List.length_take, List.length_drop, ints_length, wr_length] <;> omega) | rfl) (by first | omega | (simp only [List.length_append, List.length_cons, List.length_nil, List.length_set, List.length_replicate, List.length_take, List.length_drop, ints_length, wr_length] <;> omega) | rfl) (ints_one _ _) rfl rfl ?_
    refine at_eq (i := 26) (v' := .int .i64 (r.length : Nat)) rfl (by rw [Nat.min_eq_left (by omega)]) ?_
    refine at_heq (i := 6) (v' := .blk b6 (.cells (ints .u8 (r ++ List.replicate (128 - r.length) 0)).toArray 134)) rfl (by rw [copied r hrl]) ?_
    refine st (ev_assign rfl) rfl rfl rfl ?_
    refine op_nil ?_
    refine ax_then ?_
    refine At.regs (L' := [(0, _), (2, _), (3, _), (4, _), (6, _), (7, _)]) (.cons rfl (.cons rfl (.cons rfl (.cons rfl (.cons rfl (.cons rfl (.nil _))))))) ?_
    refine cd_seq ?_
    refine cd_region ?_
    refine st (ev_move rfl) rfl rfl rfl ?_
    refine st (ev_indexAddr_arr Try.underlying134 ty5 rfl rfl (by omega) (by omega)) rfl rfl rfl ?_
    refine st_store1 6 ty5 rfl rfl rfl rfl (by first | omega | (simp only [List.length_append, List.length_cons, List.length_nil, List.length_set, List.length_replicate, List.length_take, List.length_drop, ints_length, wr_length] <;> omega) | rfl) rfl ?_
    refine at_heq (i := 6) rfl (by rw [ints_set]) ?_
    refine at_heq (i := 6) (v' := .blk b6 (.cells (ints .u8 (base r)).toArray 134)) rfl (by rw [based]) ?_
    refine op_nil ?_
    refine ax_then ?_
    refine At.regs (L' := [(0, _), (2, _), (3, _), (4, _), (6, _), (7, _)]) (.cons rfl (.cons rfl (.cons rfl (.cons rfl (.cons rfl (.cons rfl (.nil _))))))) ?_
    refine cd_seq ?_
    refine cd_region ?_
    refine st (ev_assign rfl) rfl rfl rfl ?_
    refine op_nil ?_
    refine ax_then ?_
    refine At.regs (L' := [(0, _), (2, _), (3, _), (4, _), (6, _), (7, _), (8, _)]) (.cons rfl (.cons rfl (.cons rfl (.cons rfl (.cons rfl (.cons rfl (.cons rfl (.nil _)))))))) ?_
    refine cd_join (ι := Unit) (fun _ => True) (fun _ => [(0, p), (2, .pointer (some ⟨b2, 0, none⟩)), (3, .pointer (some ⟨b3, 0, none⟩)), (4, .pointer (some ⟨b4, 0, none⟩)), (6, .pointer (some ⟨b6, 0, none⟩)), (8, .int .i64 (en r.length : Nat))]) (fun _ => [(2, .blk b2 (.cells (ints .u8 (List.replicate 32 0)).toArray 39)), (3, .blk b3 (.cells (ints .u32 (absorb S0 l (l.length / 64))).toArray 132)), (4, .blk b4 (.cells (ints .u32 (K)).toArray 128)), (6, .blk b6 (.cells (ints .u8 (base r)).toArray 134))]) (fun _ => [(0, .sl p 1 (ints .u8 l))]) ?_ (fun _ hj => ?_)
    ·
      refine cd_seq ?_
      refine cd_region ?_
      refine st (ev_move rfl) rfl rfl rfl ?_
      refine st (ev_geq rfl rfl) rfl rfl rfl ?_
      refine op_nil ?_
      refine ax_then ?_
      refine At.regs (L' := [(0, _), (2, _), (3, _), (4, _), (6, _), (8, _), (30, _)]) (.cons rfl (.cons rfl (.cons rfl (.cons rfl (.cons rfl (.cons rfl (.cons rfl (.nil _)))))))) ?_
      refine cd_if rfl (fun hc30 => ?_) (fun hc30 => ?_)
      ·
        refine cd_region ?_
        refine st (ev_assign rfl) rfl rfl rfl ?_
        refine op_nil ?_
        refine ax_eq (i := 8) (v' := .int .i64 (en r.length : Nat)) rfl (by rw [en, if_pos (by omega)]; rfl) ?_
        exact at_met (()) (trivial) (.cons rfl (.cons rfl (.cons rfl (.cons rfl (.cons rfl (.cons rfl (.nil _))))))) (.cons rfl (.cons rfl (.cons rfl (.cons rfl (.nil _))))) (.cons rfl (.nil _))
      ·
        refine cd_skip ?_
        refine ax_eq (i := 8) (v' := .int .i64 (en r.length : Nat)) rfl (by rw [en, if_neg (by omega)]; rfl) ?_
        exact at_met (()) (trivial) (.cons rfl (.cons rfl (.cons rfl (.cons rfl (.cons rfl (.cons rfl (.nil _))))))) (.cons rfl (.cons rfl (.cons rfl (.cons rfl (.nil _))))) (.cons rfl (.nil _))
    ·
      refine cd_seq ?_
      refine cd_region ?_
      refine st (ev_move rfl) rfl rfl rfl ?_
      refine st (ev_len_rdi (h := 0) Try.underlying22 rfl rfl) rfl rfl rfl ?_
      refine st (ev_convu64 Try.underlying3 Try.underlying121 rfl (by omega) (by omega)) rfl rfl rfl ?_
      refine st (ev_shl rfl rfl (by omega)) rfl rfl rfl ?_
      refine at_eq (i := 34) (v' := .int .u64 (8 * (l.length : Int))) rfl (by rw [ishl3 _ hl]) ?_
      refine st (ev_assign rfl) rfl rfl rfl ?_
      refine op_nil ?_
      refine ax_then ?_
      refine At.regs (L' := [(2, _), (3, _), (4, _), (6, _), (8, _), (9, _)]) (.cons rfl (.cons rfl (.cons rfl (.cons rfl (.cons rfl (.cons rfl (.nil _))))))) ?_
      refine cd_seq ?_
      refine cd_seq ?_
      refine cd_region ?_
      refine st (ev_move rfl) rfl rfl rfl ?_
      refine op_nil ?_
      refine ax_then ?_
      refine At.regs (L' := [(2, _), (3, _), (4, _), (6, _), (8, _), (9, _), (35, _)]) (.cons rfl (.cons rfl (.cons rfl (.cons rfl (.cons rfl (.cons rfl (.cons rfl (.nil _)))))))) ?_
      refine cd_block ?_
      refine cd_loop (ι := Nat) (fun i => i ≤ 8) (fun i => 8 - i)
          (fun i => [(2, .pointer (some ⟨b2, 0, none⟩)), (3, .pointer (some ⟨b3, 0, none⟩)), (4, .pointer (some ⟨b4, 0, none⟩)), (6, .pointer (some ⟨b6, 0, none⟩)), (8, .int .i64 (en r.length : Nat)), (9, .int .u64 (8 * (l.length : Int))), (35, .int .i64 (i : Int))])
          (fun i => [(2, .blk b2 (.cells (ints .u8 (List.replicate 32 0)).toArray 39)), (3, .blk b3 (.cells (ints .u32 (absorb S0 l (l.length / 64))).toArray 132)), (4, .blk b4 (.cells (ints .u32 (K)).toArray 128)), (6, .blk b6 (.cells (ints .u8 (sb (base r) (en r.length) (8 * (l.length : Int)) i)).toArray 134))])
          (fun i => [])
          0 (by omega) (.cons rfl (.cons rfl (.cons rfl (.cons rfl (.cons rfl (.cons rfl (.cons rfl (.nil _)))))))) (.cons rfl (.cons rfl (.cons rfl (.cons rfl (.nil _))))) (.nil _) (fun i hi => ?_)
      have hsb := sb_len (base r) (en r.length) (8 * (l.length : Int)) i
      have hbl := base_len r hrl
      refine cd_seq ?_
      refine cd_region ?_
      refine st (ev_lss rfl rfl) rfl rfl rfl ?_
      refine op_nil ?_
      refine ax_then ?_
      refine At.regs (L' := [(2, _), (3, _), (4, _), (6, _), (8, _), (9, _), (35, _), (36, _)]) (.cons rfl (.cons rfl (.cons rfl (.cons rfl (.cons rfl (.cons rfl (.cons rfl (.cons rfl (.nil _))))))))) ?_
      refine cd_seq ?_
      refine cd_if rfl (fun hc36 => ?_) (fun hc36 => ?_)
      ·
        refine cd_skip ?_
        refine ax_then ?_
        refine At.regs (L' := [(2, _), (3, _), (4, _), (6, _), (8, _), (9, _), (35, _), (36, _)]) (.cons rfl (.cons rfl (.cons rfl (.cons rfl (.cons rfl (.cons rfl (.cons rfl (.cons rfl (.nil _))))))))) ?_
        refine cd_seq ?_
        refine cd_block ?_
        refine cd_seq ?_
        refine cd_region ?_
        refine st (ev_move rfl) rfl rfl rfl ?_
        refine st (ev_assign rfl) rfl rfl rfl ?_
        refine op_nil ?_
        refine ax_then ?_
        refine At.regs (L' := [(2, _), (3, _), (4, _), (6, _), (8, _), (9, _), (10, _), (35, _), (36, _), (37, _)]) (.cons rfl (.cons rfl (.cons rfl (.cons rfl (.cons rfl (.cons rfl (.cons rfl (.cons rfl (.cons rfl (.cons rfl (.nil _))))))))))) ?_
        refine cd_region ?_
        refine st (ev_move rfl) rfl rfl rfl ?_
        refine st (ev_sub64 rfl rfl (by omega) (by omega)) rfl rfl rfl ?_
        refine st (ev_move rfl) rfl rfl rfl ?_
        refine st (ev_sub64 rfl rfl (by omega) (by omega)) rfl rfl rfl ?_
        refine st (ev_move rfl) rfl rfl rfl ?_
        refine st (ev_move rfl) rfl rfl rfl ?_
        refine st (ev_mul64 rfl rfl (by omega) (by omega)) rfl rfl rfl ?_
        refine st (ev_shr rfl rfl (by omega)) rfl rfl rfl ?_
        refine st (ev_conv Try.underlying121 Try.underlying5 rfl) rfl rfl rfl ?_
        refine st (ev_indexAddr_arr Try.underlying134 ty5 rfl rfl (by omega) (by omega)) rfl rfl rfl ?_
        refine st_store1 6 ty5 rfl rfl rfl rfl (by first | omega | (simp only [List.length_append, List.length_cons, List.length_nil, List.length_set, List.length_replicate, List.length_take, List.length_drop, ints_length, wr_length] <;> omega) | rfl) rfl ?_
        refine at_heq (i := 6) rfl (by rw [ints_set]) ?_
        refine op_nil ?_
        refine ax_block ?_
        refine ax_then ?_
        refine At.regs (L' := [(2, _), (3, _), (4, _), (6, _), (8, _), (9, _), (10, _), (35, _), (36, _), (37, _), (38, _), (39, _), (40, _), (41, _), (42, _), (43, _), (44, _), (45, _), (46, _), (47, _)]) (.cons rfl (.cons rfl (.cons rfl (.cons rfl (.cons rfl (.cons rfl (.cons rfl (.cons rfl (.cons rfl (.cons rfl (.cons rfl (.cons rfl (.cons rfl (.cons rfl (.cons rfl (.cons rfl (.cons rfl (.cons rfl (.cons rfl (.cons rfl (.nil _))))))))))))))))))))) ?_
        refine cd_region ?_
        refine st (ev_add64 rfl rfl (by omega) (by omega)) rfl rfl rfl ?_
        refine st (ev_move rfl) rfl rfl rfl ?_
        refine op_nil ?_
        have e0 : 0 + (((en r.length : Nat) : Int) - 1 - (i : Int)).toNat * 1 = en r.length - 1 - i := by omega
        refine ax_heq (i := 6) (v' := .blk b6 (.cells (ints .u8 (sb (base r) (en r.length) (8 * (l.length : Int)) (i + 1))).toArray 134)) rfl (by simp only [e0]; rfl) ?_
        exact at_again (i + 1) (by omega) (by omega) (.cons rfl (.cons rfl (.cons rfl (.cons rfl (.cons rfl (.cons rfl (.cons rfl (.nil _)))))))) (.cons rfl (.cons rfl (.cons rfl (.cons rfl (.nil _))))) (.nil _)
      ·
        obtain rfl : i = 8 := by omega
        refine cd_exit ?_
        refine ax_then_exit ?_
        refine ax_then_exit ?_
        refine ax_block_hit ?_
        refine ax_then ?_
        refine At.regs (L' := [(2, _), (3, _), (4, _), (6, _), (8, _)]) (.cons rfl (.cons rfl (.cons rfl (.cons rfl (.cons rfl (.nil _)))))) ?_
        refine cd_seq ?_
        refine cd_seq ?_
        refine cd_region ?_
        refine st (ev_assign rfl) rfl rfl rfl ?_
        refine op_nil ?_
        refine ax_then ?_
        refine At.regs (L' := [(2, _), (3, _), (4, _), (6, _), (8, _), (11, _)]) (.cons rfl (.cons rfl (.cons rfl (.cons rfl (.cons rfl (.cons rfl (.nil _))))))) ?_
        refine cd_block ?_
        refine cd_loop (ι := Nat) (fun m => 64 * m ≤ en r.length) (fun m => 128 - m)
            (fun m => [(2, .pointer (some ⟨b2, 0, none⟩)), (3, .pointer (some ⟨b3, 0, none⟩)), (4, .pointer (some ⟨b4, 0, none⟩)), (6, .pointer (some ⟨b6, 0, none⟩)), (8, .int .i64 (en r.length : Nat)), (11, .int .i64 (64 * (m : Int)))])
            (fun m => [(2, .blk b2 (.cells (ints .u8 (List.replicate 32 0)).toArray 39)), (3, .blk b3 (.cells (ints .u32 (absorb (absorb S0 l (l.length / 64)) (sb (base r) (en r.length) (8 * (l.length : Int)) 8) m)).toArray 132)), (4, .blk b4 (.cells (ints .u32 (K)).toArray 128)), (6, .blk b6 (.cells (ints .u8 (sb (base r) (en r.length) (8 * (l.length : Int)) 8)).toArray 134))])
            (fun m => [])
            0 (by omega) (.cons rfl (.cons rfl (.cons rfl (.cons rfl (.cons rfl (.cons rfl (.nil _))))))) (.cons rfl (.cons rfl (.cons rfl (.cons rfl (.nil _))))) (.nil _) (fun m hi => ?_)
        have hsb := sb_len (base r) (en r.length) (8 * (l.length : Int)) 8
        have hbl := base_len r hrl
        refine cd_seq ?_
        refine cd_seq ?_
        refine cd_region ?_
        refine st (ev_move rfl) rfl rfl rfl ?_
        refine st (ev_move rfl) rfl rfl rfl ?_
        refine st (ev_lss rfl rfl) rfl rfl rfl ?_
        refine op_nil ?_
        refine ax_then ?_
        refine At.regs (L' := [(2, _), (3, _), (4, _), (6, _), (8, _), (11, _), (49, _), (50, _), (51, _)]) (.cons rfl (.cons rfl (.cons rfl (.cons rfl (.cons rfl (.cons rfl (.cons rfl (.cons rfl (.cons rfl (.nil _)))))))))) ?_
        refine cd_if rfl (fun hc51 => ?_) (fun hc51 => ?_)
        ·
          refine cd_skip ?_
          refine ax_then ?_
          refine At.regs (L' := [(2, _), (3, _), (4, _), (6, _), (8, _), (11, _), (49, _), (50, _), (51, _)]) (.cons rfl (.cons rfl (.cons rfl (.cons rfl (.cons rfl (.cons rfl (.cons rfl (.cons rfl (.cons rfl (.nil _)))))))))) ?_
          refine cd_seq ?_
          refine cd_block ?_
          refine cd_region ?_
          refine st (ev_move rfl) rfl rfl rfl ?_
          refine st (ev_slice_arr_lo Try.underlying134 ty5 rfl rfl (by omega) (by omega)) rfl rfl rfl ?_
          refine st_call has101 rfl (fun w1 sw => rn 3 (take_any b3 b4 132 (.slice (some ⟨b6, 0 + (64 * (m : Int)).toNat * 1, none⟩) (128 - (64 * (m : Int)).toNat) (128 - (64 * (m : Int)).toNat)) _ ((sb (base r) (en r.length) (8 * (l.length : Int)) 8).drop (0 + (64 * (m : Int)).toNat * 1)) K w1 (by simp only [absorb_len]; rfl) rfl (by simp only [List.length_drop]; omega) (sw.blk_eq (h := 3) rfl) (sw.rd_tail (h := 6) rfl (by omega)) (lies_blk (sw.blk_eq (h := 4) rfl)) (fun hb => sw.ne_blk (h := 3) (h' := 6) rfl rfl (by decide) (mem_one hb)) (sw.ne_blk (h := 3) (h' := 4) rfl rfl (by decide)))) (mod_blk rfl) rfl rfl (fun _ _ => ?_)
          refine op_nil ?_
          refine ax_block ?_
          refine ax_then ?_
          refine At.regs (L' := [(2, _), (3, _), (4, _), (6, _), (8, _), (11, _), (49, _), (50, _), (51, _), (54, _), (55, _)]) (.cons rfl (.cons rfl (.cons rfl (.cons rfl (.cons rfl (.cons rfl (.cons rfl (.cons rfl (.cons rfl (.cons rfl (.cons rfl (.nil _)))))))))))) ?_
          refine cd_region ?_
          refine st (ev_move rfl) rfl rfl rfl ?_
          refine st (ev_add64 rfl rfl (by omega) (by omega)) rfl rfl rfl ?_
          refine st (ev_assign rfl) rfl rfl rfl ?_
          refine op_nil ?_
          have e0 : 0 + (64 * (m : Int)).toNat * 1 = 64 * m := by omega
          refine ax_heq (i := 3) (v' := .blk b3 (.cells (ints .u32 (absorb (absorb S0 l (l.length / 64)) (sb (base r) (en r.length) (8 * (l.length : Int)) 8) (m + 1))).toArray 132)) rfl (by simp only [e0]; rfl) ?_
          exact at_again (m + 1) (by omega) (by omega) (.cons rfl (.cons rfl (.cons rfl (.cons rfl (.cons rfl (.cons rfl (.nil _))))))) (.cons rfl (.cons rfl (.cons rfl (.cons rfl (.nil _))))) (.nil _)
        ·
          obtain rfl : m = en r.length / 64 := by omega
          refine cd_exit ?_
          refine ax_then_exit ?_
          refine ax_then_exit ?_
          refine ax_block_hit ?_
          refine ax_then ?_
          refine At.regs (L' := [(2, _), (3, _)]) (.cons rfl (.cons rfl (.nil _))) ?_
          refine cd_seq ?_
          refine cd_seq ?_
          refine at_heq (i := 3) (v' := .blk b3 (.cells (ints .u32 (fs l)).toArray 132)) rfl (by rw [two_texts l r hr.symm]; rfl) ?_
          have hfl := fs_len l
          refine cd_region ?_
          refine st (ld_blk_all (h := 3) ty132 rfl rfl rfl (by first | omega | (simp only [List.length_append, List.length_cons, List.length_nil, List.length_set, List.length_replicate, List.length_take, List.length_drop, ints_length, wr_length] <;> omega) | rfl)) rfl rfl rfl ?_
          refine st (ev_move rfl) rfl rfl rfl ?_
          refine op_nil ?_
          refine ax_then ?_
          refine At.regs (L' := [(2, _), (57, _), (58, _)]) (.cons rfl (.cons rfl (.cons rfl (.nil _)))) ?_
          refine cd_block ?_
          refine cd_loop (ι := Nat) (fun i => i ≤ 8) (fun i => 8 - i)
              (fun i => [(2, .pointer (some ⟨b2, 0, none⟩)), (57, .agg (ints .u32 (fs l)).toArray), (58, .int .i64 (i : Int))])
              (fun i => [(2, .blk b2 (.cells (ints .u8 (outs (fs l) i)).toArray 39))])
              (fun i => [])
              0 (by omega) (.cons rfl (.cons rfl (.cons rfl (.nil _)))) (.cons rfl (.nil _)) (.nil _) (fun i hi => ?_)
          have hfl := fs_len l
          have hol := outs_len (fs l) i
          refine cd_seq ?_
          refine cd_region ?_
          refine st (ev_lss rfl rfl) rfl rfl rfl ?_
          refine op_nil ?_
          refine ax_then ?_
          refine At.regs (L' := [(2, _), (57, _), (58, _), (59, _)]) (.cons rfl (.cons rfl (.cons rfl (.cons rfl (.nil _))))) ?_
          refine cd_seq ?_
          refine cd_if rfl (fun hc59 => ?_) (fun hc59 => ?_)
          ·
            refine cd_skip ?_
            refine ax_then ?_
            refine At.regs (L' := [(2, _), (57, _), (58, _), (59, _)]) (.cons rfl (.cons rfl (.cons rfl (.cons rfl (.nil _))))) ?_
            refine cd_seq ?_
            refine cd_block ?_
            refine cd_seq ?_
            refine cd_region ?_
            refine st (ev_move rfl) rfl rfl rfl ?_
            refine st (ev_indexi Try.underlying132 ty126 rfl rfl (by omega) (by omega) (by first | omega | (simp only [List.length_append, List.length_cons, List.length_nil, List.length_set, List.length_replicate, List.length_take, List.length_drop, ints_length, wr_length] <;> omega) | rfl)) rfl rfl rfl ?_
            refine st (ev_assign rfl) rfl rfl rfl ?_
            refine st (ev_assign rfl) rfl rfl rfl ?_
            refine op_nil ?_
            refine ax_then ?_
            refine At.regs (L' := [(2, _), (12, _), (13, _), (57, _), (58, _), (59, _), (60, _), (61, _)]) (.cons rfl (.cons rfl (.cons rfl (.cons rfl (.cons rfl (.cons rfl (.cons rfl (.cons rfl (.nil _))))))))) ?_
            refine cd_region ?_
            refine st (ev_move rfl) rfl rfl rfl ?_
            refine st (ev_mul64 rfl rfl (by omega) (by omega)) rfl rfl rfl ?_
            refine st (ev_move rfl) rfl rfl rfl ?_
            refine st (ev_mul64 rfl rfl (by omega) (by omega)) rfl rfl rfl ?_
            refine st (ev_add64 rfl rfl (by omega) (by omega)) rfl rfl rfl ?_
            refine st (ev_move rfl) rfl rfl rfl ?_
            refine st (ev_mul64 rfl rfl (by omega) (by omega)) rfl rfl rfl ?_
            refine st (ev_add64 rfl rfl (by omega) (by omega)) rfl rfl rfl ?_
            refine st (ev_move rfl) rfl rfl rfl ?_
            refine st (ev_mul64 rfl rfl (by omega) (by omega)) rfl rfl rfl ?_
            refine st (ev_add64 rfl rfl (by omega) (by omega)) rfl rfl rfl ?_
            refine st (ev_move rfl) rfl rfl rfl ?_
            refine st (ev_shr rfl rfl (by omega)) rfl rfl rfl ?_
            refine st (ev_conv Try.underlying126 Try.underlying5 rfl) rfl rfl rfl ?_
            refine st (ev_move rfl) rfl rfl rfl ?_
            refine st (ev_shr rfl rfl (by omega)) rfl rfl rfl ?_
            refine st (ev_conv Try.underlying126 Try.underlying5 rfl) rfl rfl rfl ?_
            refine st (ev_move rfl) rfl rfl rfl ?_
            refine st (ev_shr rfl rfl (by omega)) rfl rfl rfl ?_
            refine st (ev_conv Try.underlying126 Try.underlying5 rfl) rfl rfl rfl ?_
            refine st (ev_move rfl) rfl rfl rfl ?_
            refine st (ev_conv Try.underlying126 Try.underlying5 rfl) rfl rfl rfl ?_
            refine st (ev_indexAddr_arr Try.underlying39 ty5 rfl rfl (by omega) (by omega)) rfl rfl rfl ?_
            refine st_store1 2 ty5 rfl rfl rfl rfl (by first | omega | (simp only [List.length_append, List.length_cons, List.length_nil, List.length_set, List.length_replicate, List.length_take, List.length_drop, ints_length, wr_length] <;> omega) | rfl) rfl ?_
            refine at_heq (i := 2) rfl (by rw [ints_set]) ?_
            refine st (ev_indexAddr_arr Try.underlying39 ty5 rfl rfl (by omega) (by omega)) rfl rfl rfl ?_
            refine st_store1 2 ty5 rfl rfl rfl rfl (by first | omega | (simp only [List.length_append, List.length_cons, List.length_nil, List.length_set, List.length_replicate, List.length_take, List.length_drop, ints_length, wr_length] <;> omega) | rfl) rfl ?_
            refine at_heq (i := 2) rfl (by rw [ints_set]) ?_
            refine st (ev_indexAddr_arr Try.underlying39 ty5 rfl rfl (by omega) (by omega)) rfl rfl rfl ?_
            refine st_store1 2 ty5 rfl rfl rfl rfl (by first | omega | (simp only [List.length_append, List.length_cons, List.length_nil, List.length_set, List.length_replicate, List.length_take, List.length_drop, ints_length, wr_length] <;> omega) | rfl) rfl ?_
            refine at_heq (i := 2) rfl (by rw [ints_set]) ?_
            refine st (ev_indexAddr_arr Try.underlying39 ty5 rfl rfl (by omega) (by omega)) rfl rfl rfl ?_
            refine st_store1 2 ty5 rfl rfl rfl rfl (by first | omega | (simp only [List.length_append, List.length_cons, List.length_nil, List.length_set, List.length_replicate, List.length_take, List.length_drop, ints_length, wr_length] <;> omega) | rfl) rfl ?_
            refine at_heq (i := 2) rfl (by rw [ints_set]) ?_
            refine op_nil ?_
            refine ax_block ?_
            refine ax_then ?_
            refine At.regs (L' := [(2, _), (12, _), (13, _), (57, _), (58, _), (59, _), (60, _), (61, _), (62, _), (63, _), (64, _), (65, _), (66, _), (67, _), (68, _), (69, _), (70, _), (71, _), (72, _), (73, _), (74, _), (75, _), (76, _), (77, _), (78, _), (79, _), (80, _), (81, _), (82, _), (83, _), (84, _), (85, _), (86, _), (87, _)]) (.cons rfl (.cons rfl (.cons rfl (.cons rfl (.cons rfl (.cons rfl (.cons rfl (.cons rfl (.cons rfl (.cons rfl (.cons rfl (.cons rfl (.cons rfl (.cons rfl (.cons rfl (.cons rfl (.cons rfl (.cons rfl (.cons rfl (.cons rfl (.cons rfl (.cons rfl (.cons rfl (.cons rfl (.cons rfl (.cons rfl (.cons rfl (.cons rfl (.cons rfl (.cons rfl (.cons rfl (.cons rfl (.cons rfl (.cons rfl (.nil _))))))))))))))))))))))))))))))))))) ?_
            refine cd_region ?_
            refine st (ev_add64 rfl rfl (by omega) (by omega)) rfl rfl rfl ?_
            refine st (ev_move rfl) rfl rfl rfl ?_
            refine op_nil ?_
            have e0 : (i : Int).toNat = i := by omega
            have e1 : 0 + (4 * (i : Int)).toNat * 1 = 4 * i := by omega
            have e2 : 0 + (4 * (i : Int) + 1).toNat * 1 = 4 * i + 1 := by omega
            have e3 : 0 + (4 * (i : Int) + 2).toNat * 1 = 4 * i + 2 := by omega
            have e4 : 0 + (4 * (i : Int) + 3).toNat * 1 = 4 * i + 3 := by omega
            refine ax_heq (i := 2) (v' := .blk b2 (.cells (ints .u8 (outs (fs l) (i + 1))).toArray 39)) rfl (by simp only [e0, e1, e2, e3, e4]; rfl) ?_
            exact at_again (i + 1) (by omega) (by omega) (.cons rfl (.cons rfl (.cons rfl (.nil _)))) (.cons rfl (.nil _)) (.nil _)
          ·
            obtain rfl : i = 8 := by omega
            refine cd_exit ?_
            refine ax_then_exit ?_
            refine ax_then_exit ?_
            refine ax_block_hit ?_
            refine ax_then ?_
            refine At.regs (L' := [(2, _)]) (.cons rfl (.nil _)) ?_
            refine cd_seq ?_
            refine at_heq (i := 2) (v' := .blk b2 (.cells (ints .u8 (sha l)).toArray 39)) rfl (by rw [outs_eq]; rfl) ?_
            have hsl := sha_len l
            refine cd_region ?_
            refine st (ld_blk_all (h := 2) ty39 rfl rfl rfl (by first | omega | (simp only [List.length_append, List.length_cons, List.length_nil, List.length_set, List.length_replicate, List.length_take, List.length_drop, ints_length, wr_length] <;> omega) | rfl)) rfl rfl rfl ?_
            refine st_store_all 2 ty39 rfl rfl rfl rfl (by first | omega | (simp only [List.length_append, List.length_cons, List.length_nil, List.length_set, List.length_replicate, List.length_take, List.length_drop, ints_length, wr_length] <;> omega) | rfl) (ints_one _ _) (by first | omega | (simp only [List.length_append, List.length_cons, List.length_nil, List.length_set, List.length_replicate, List.length_take, List.length_drop, ints_length, wr_length] <;> omega) | rfl) rfl ?_
            refine op_nil ?_
            refine ax_then ?_
            refine At.regs (L' := [(2, _)]) (.cons rfl (.nil _)) ?_
            refine cd_ret ?_
            refine rt_cell (h0 := 2) (.inl rfl) Try.results83 ty39 rfl rfl rfl (by first | omega | (simp only [List.length_append, List.length_cons, List.length_nil, List.length_set, List.length_replicate, List.length_take, List.length_drop, ints_length, wr_length] <;> omega) | rfl) ?_
            exact fun w1 sw => ⟨rfl, sw.gives (.nil _)⟩
end Go.Proofs.Yteedclmcgifmpaa

namespace Go.Proofs.Yteedclmcgifmpaa
open Go Go.RowKit Fw
open Sha
open Ots
set_option linter.unusedVariables false
set_option linter.unusedSimpArgs false
set_option maxRecDepth 20000 in
set_option maxHeartbeats 1000000 in
theorem walk_any (h0 : List Int) (c f t : Int) (w : World) (hl : h0.length = 32) (hf : f ≤ 9223372036854775807) : Calls Try.prog 87 #[.agg (ints .u8 (h0)).toArray, .int .i64 c, .int .i64 f, .int .i64 t] w (PostV w (.agg (ints .u8 (walk h0 c f t)).toArray)) := by
  refine calls_at (vs := [.agg (ints .u8 (h0)).toArray, .int .i64 c, .int .i64 f, .int .i64 t]) (X := []) (H := []) (F := []) 27 Try.func87 rfl rfl rfl (Sat.start0 w) ?_
  refine cd_seq ?_
  refine cd_region ?_
  refine st_box (h := 4) rfl rfl rfl rfl (fun b4 => ?_)
  refine st_alloc (h := 8) ty39 rfl rfl rfl (fun b8 => ?_)
  refine op_nil ?_
  refine ax_then ?_
  refine At.regs (L' := [(1, _), (2, _), (3, _), (4, _), (8, _)]) (.cons rfl (.cons rfl (.cons rfl (.cons rfl (.cons rfl (.nil _)))))) ?_
  refine cd_seq ?_
  refine cd_seq ?_
  refine cd_region ?_
  refine st (ev_move rfl) rfl rfl rfl ?_
  refine st (ev_max2 rfl rfl) rfl rfl rfl ?_
  obtain ⟨a, ha⟩ : ∃ a : Nat, max f 0 = (a : Int) := ⟨(max f 0).toNat, (Int.toNat_of_nonneg (by omega)).symm⟩
  refine at_eq (i := 11) (v' := .int .i64 ((a + 0 : Nat) : Int)) rfl (by rw [ha]; rfl) ?_
  refine st (ev_assign rfl) rfl rfl rfl ?_
  refine op_nil ?_
  refine ax_then ?_
  refine At.regs (L' := [(1, _), (3, _), (4, _), (8, _), (9, _)]) (.cons rfl (.cons rfl (.cons rfl (.cons rfl (.cons rfl (.nil _)))))) ?_
  refine cd_block ?_
  refine cd_loop (ι := Nat) (fun k => k ≤ (min t 3 - a).toNat) (fun k => (min t 3 - a).toNat - k)
      (fun k => [(1, .int .i64 c), (3, .int .i64 t), (4, .pointer (some ⟨b4, 0, none⟩)), (8, .pointer (some ⟨b8, 0, none⟩)), (9, .int .i64 ((a + k : Nat) : Int))])
      (fun k => [(4, .blk b4 (.cells (ints .u8 (way c h0 a k)).toArray 39)), (8, .blk b8 (.cells (ints .u8 (List.replicate 32 0)).toArray 39))])
      (fun k => [])
      0 (by omega) (.cons rfl (.cons rfl (.cons rfl (.cons rfl (.cons rfl (.nil _)))))) (.cons rfl (.cons rfl (.nil _))) (.nil _) (fun k hi => ?_)
  have hwl := way_len c hl a k
  have hwl1 := way_len c hl a (k + 1)
  refine cd_seq ?_
  refine cd_seq ?_
  refine cd_region ?_
  refine st (ev_move rfl) rfl rfl rfl ?_
  refine st (ev_move rfl) rfl rfl rfl ?_
  refine st (ev_min2 rfl rfl) rfl rfl rfl ?_
  refine st (ev_lss rfl rfl) rfl rfl rfl ?_
  refine op_nil ?_
  refine ax_then ?_
  refine At.regs (L' := [(1, _), (3, _), (4, _), (8, _), (9, _), (12, _), (13, _), (14, _), (15, _)]) (.cons rfl (.cons rfl (.cons rfl (.cons rfl (.cons rfl (.cons rfl (.cons rfl (.cons rfl (.cons rfl (.nil _)))))))))) ?_
  refine cd_if rfl (fun hc15 => ?_) (fun hc15 => ?_)
  ·
    refine cd_skip ?_
    refine ax_then ?_
    refine At.regs (L' := [(1, _), (3, _), (4, _), (8, _), (9, _), (12, _), (13, _), (14, _), (15, _)]) (.cons rfl (.cons rfl (.cons rfl (.cons rfl (.cons rfl (.cons rfl (.cons rfl (.cons rfl (.cons rfl (.nil _)))))))))) ?_
    refine cd_seq ?_
    refine cd_block ?_
    refine cd_region ?_
    refine st (ev_move rfl) rfl rfl rfl ?_
    refine st (ev_conv Try.underlying3 Try.underlying5 rfl) rfl rfl rfl ?_
    refine st (ev_move rfl) rfl rfl rfl ?_
    refine st (ev_conv Try.underlying3 Try.underlying5 rfl) rfl rfl rfl ?_
    refine st_bsi (h := 22) (xs := [_, _, _]) Try.underlying22 ty5 (by decide) rfl rfl (by decide) rfl rfl (fun b22 => ?_)
    refine st (ev_slice_arr_all Try.underlying39 ty5 rfl) rfl rfl rfl ?_
    refine st_appendi (h := 22) Try.underlying22 Try.underlying22 ty5 rfl rfl rfl rfl (fun w1 sw => rd_blk_all sw (h := 4) rfl (by first | omega | (simp only [List.length_append, List.length_cons, List.length_nil, List.length_set, List.length_replicate, List.length_take, List.length_drop, ints_length, wr_length, sha_len, way_len _ (by assumption), secret_len, digits_len] <;> omega) | rfl)) (by first | omega | (simp only [List.length_append, List.length_cons, List.length_nil, List.length_set, List.length_replicate, List.length_take, List.length_drop, ints_length, wr_length, sha_len, way_len _ (by assumption), secret_len, digits_len] <;> omega)) (by decide) rfl rfl (fun v24 => ?_)
    refine st_callv has83 rfl (fun w1 sw => sum_any v24 ([1, IntKind.u8.wrap c, IntKind.u8.wrap ((a + k : Nat) : Int)] ++ way c h0 a k) w1 (by simp only [List.length_append, List.length_cons, List.length_nil, hwl]; omega) (sw.own_rd (h := 22) rfl)) rfl rfl ?_
    refine at_eq (i := 25) (v' := .agg (ints .u8 (way c h0 a (k + 1))).toArray) rfl rfl ?_
    refine st_store_all 4 ty39 rfl rfl rfl rfl (by first | omega | (simp only [List.length_append, List.length_cons, List.length_nil, List.length_set, List.length_replicate, List.length_take, List.length_drop, ints_length, wr_length, sha_len, way_len _ (by assumption), secret_len, digits_len] <;> omega) | rfl) (ints_one _ _) (by first | omega | (simp only [List.length_append, List.length_cons, List.length_nil, List.length_set, List.length_replicate, List.length_take, List.length_drop, ints_length, wr_length, sha_len, way_len _ (by assumption), secret_len, digits_len] <;> omega) | rfl) rfl ?_
    refine op_nil ?_
    refine ax_block ?_
    refine ax_then ?_
    refine At.regs (L' := [(1, _), (3, _), (4, _), (8, _), (9, _), (12, _), (13, _), (14, _), (15, _), (18, _), (19, _), (20, _), (21, _), (22, _), (23, _), (24, _), (25, _)]) (.cons rfl (.cons rfl (.cons rfl (.cons rfl (.cons rfl (.cons rfl (.cons rfl (.cons rfl (.cons rfl (.cons rfl (.cons rfl (.cons rfl (.cons rfl (.cons rfl (.cons rfl (.cons rfl (.cons rfl (.nil _)))))))))))))))))) ?_
    refine cd_region ?_
    refine st (ev_move rfl) rfl rfl rfl ?_
    refine st (ev_add64 rfl rfl (by omega) (by omega)) rfl rfl rfl ?_
    refine st (ev_assign rfl) rfl rfl rfl ?_
    refine op_nil ?_
    refine ax_eq (i := 9) (v' := .int .i64 ((a + (k + 1) : Nat) : Int)) rfl (by congr 1) ?_
    exact at_again (k + 1) (by omega) (by omega) (.cons rfl (.cons rfl (.cons rfl (.cons rfl (.cons rfl (.nil _)))))) (.cons rfl (.cons rfl (.nil _))) (.nil _)
  ·
    obtain rfl : k = (min t 3 - a).toNat := by omega
    have hwk : way c h0 a (min t 3 - a).toNat = walk h0 c f t := by rw [walk, ha]; rfl
    refine at_heq (i := 4) (v' := .blk b4 (.cells (ints .u8 (walk h0 c f t)).toArray 39)) rfl (by rw [hwk]) ?_
    have hwl2 := walk_len c f t hl
    refine cd_exit ?_
    refine ax_then_exit ?_
    refine ax_then_exit ?_
    refine ax_block_hit ?_
    refine ax_then ?_
    refine At.regs (L' := [(4, _), (8, _)]) (.cons rfl (.cons rfl (.nil _))) ?_
    refine cd_seq ?_
    refine cd_region ?_
    refine st (ld_blk_all (h := 4) ty39 rfl rfl rfl (by first | omega | (simp only [List.length_append, List.length_cons, List.length_nil, List.length_set, List.length_replicate, List.length_take, List.length_drop, ints_length, wr_length, sha_len, way_len _ (by assumption), secret_len, digits_len] <;> omega) | rfl)) rfl rfl rfl ?_
    refine st_store_all 8 ty39 rfl rfl rfl rfl (by first | omega | (simp only [List.length_append, List.length_cons, List.length_nil, List.length_set, List.length_replicate, List.length_take, List.length_drop, ints_length, wr_length, sha_len, way_len _ (by assumption), secret_len, digits_len] <;> omega) | rfl) (ints_one _ _) (by first | omega | (simp only [List.length_append, List.length_cons, List.length_nil, List.length_set, List.length_replicate, List.length_take, List.length_drop, ints_length, wr_length, sha_len, way_len _ (by assumption), secret_len, digits_len] <;> omega) | rfl) rfl ?_
    refine op_nil ?_
    refine ax_then ?_
    refine At.regs (L' := [(8, _)]) (.cons rfl (.nil _)) ?_
    refine cd_ret ?_
    refine rt_cell (h0 := 8) (.inl rfl) Try.results87 ty39 rfl rfl rfl (by first | omega | (simp only [List.length_append, List.length_cons, List.length_nil, List.length_set, List.length_replicate, List.length_take, List.length_drop, ints_length, wr_length, sha_len, way_len _ (by assumption), secret_len, digits_len] <;> omega) | rfl) ?_
    exact fun w1 sw => ⟨rfl, sw.gives (.nil _)⟩
set_option maxRecDepth 20000 in
set_option maxHeartbeats 1000000 in
theorem secret_any (s : List Int) (l c : Int) (w : World) (hl : s.length = 32) : Calls Try.prog 88 #[.agg (ints .u8 (s)).toArray, .int .i64 l, .int .i64 c] w (PostV w (.agg (ints .u8 (secret s l c)).toArray)) := by
  refine calls_at (vs := [.agg (ints .u8 (s)).toArray, .int .i64 l, .int .i64 c]) (X := []) (H := []) (F := []) 17 Try.func88 rfl rfl rfl (Sat.start0 w) ?_
  refine cd_seq ?_
  refine cd_region ?_
  refine st_box (h := 3) rfl rfl rfl rfl (fun b3 => ?_)
  refine st_alloc (h := 6) ty39 rfl rfl rfl (fun b6 => ?_)
  refine op_nil ?_
  refine ax_then ?_
  refine At.regs (L' := [(1, _), (2, _), (3, _), (6, _)]) (.cons rfl (.cons rfl (.cons rfl (.cons rfl (.nil _))))) ?_
  refine cd_seq ?_
  refine cd_region ?_
  refine st_bsi (h := 7) (xs := [_]) Try.underlying22 ty5 (by decide) rfl rfl (by decide) rfl rfl (fun b7 => ?_)
  refine st (ev_slice_arr_all Try.underlying39 ty5 rfl) rfl rfl rfl ?_
  refine st_appendi (h := 7) Try.underlying22 Try.underlying22 ty5 rfl rfl rfl rfl (fun w1 sw => rd_blk_all sw (h := 3) rfl (by first | omega | (simp only [List.length_append, List.length_cons, List.length_nil, List.length_set, List.length_replicate, List.length_take, List.length_drop, ints_length, wr_length, sha_len, way_len _ (by assumption), secret_len, digits_len] <;> omega) | rfl)) (by first | omega | (simp only [List.length_append, List.length_cons, List.length_nil, List.length_set, List.length_replicate, List.length_take, List.length_drop, ints_length, wr_length, sha_len, way_len _ (by assumption), secret_len, digits_len] <;> omega)) (by decide) rfl rfl (fun v9 => ?_)
  refine st (ev_move rfl) rfl rfl rfl ?_
  refine st (ev_conv Try.underlying3 Try.underlying5 rfl) rfl rfl rfl ?_
  refine st (ev_move rfl) rfl rfl rfl ?_
  refine st (ev_conv Try.underlying3 Try.underlying5 rfl) rfl rfl rfl ?_
  refine st_bsi (h := 14) (xs := [_, _]) Try.underlying22 ty5 (by decide) rfl rfl (by decide) rfl rfl (fun b14 => ?_)
  refine st_appendi (h := 7) Try.underlying22 Try.underlying22 ty5 rfl rfl rfl rfl (fun w1 sw => sw.own_rd (h := 14) rfl) (by first | omega | (simp only [List.length_append, List.length_cons, List.length_nil, List.length_set, List.length_replicate, List.length_take, List.length_drop, ints_length, wr_length, sha_len, way_len _ (by assumption), secret_len, digits_len] <;> omega)) (by decide) rfl rfl (fun v15 => ?_)
  refine st_callv has83 rfl (fun w1 sw => sum_any v15 ([0] ++ s ++ [IntKind.u8.wrap l, IntKind.u8.wrap c]) w1 (by simp only [List.length_append, List.length_cons, List.length_nil]; omega) (sw.own_rd (h := 7) rfl)) rfl rfl ?_
  refine at_eq (i := 16) (v' := .agg (ints .u8 (secret s l c)).toArray) rfl rfl ?_
  have hsl := secret_len s l c
  refine st_store_all 6 ty39 rfl rfl rfl rfl (by first | omega | (simp only [List.length_append, List.length_cons, List.length_nil, List.length_set, List.length_replicate, List.length_take, List.length_drop, ints_length, wr_length, sha_len, way_len _ (by assumption), secret_len, digits_len] <;> omega) | rfl) (ints_one _ _) (by first | omega | (simp only [List.length_append, List.length_cons, List.length_nil, List.length_set, List.length_replicate, List.length_take, List.length_drop, ints_length, wr_length, sha_len, way_len _ (by assumption), secret_len, digits_len] <;> omega) | rfl) rfl ?_
  refine op_nil ?_
  refine ax_then ?_
  refine At.regs (L' := [(6, _)]) (.cons rfl (.nil _)) ?_
  refine cd_ret ?_
  refine rt_cell (h0 := 6) (.inl rfl) Try.results88 ty39 rfl rfl rfl (by first | omega | (simp only [List.length_append, List.length_cons, List.length_nil, List.length_set, List.length_replicate, List.length_take, List.length_drop, ints_length, wr_length, sha_len, way_len _ (by assumption), secret_len, digits_len] <;> omega) | rfl) ?_
  exact fun w1 sw => ⟨rfl, sw.gives (.nil _)⟩
end Go.Proofs.Yteedclmcgifmpaa
namespace Go.Proofs.Yteedclmcgifmpaa
open Go Go.RowKit Fw
open Sha
open Ots
set_option linter.unusedVariables false
set_option linter.unusedSimpArgs false
set_option maxRecDepth 20000 in
set_option maxHeartbeats 2000000 in
theorem ends_any (k : Nat) (hk : Has Try.prog k) (vf vc : List Value) (v : Value) (cs : List (List Int)) (g : Nat → List Int) (hg : ∀ i, (g i).length = 32) (w : World) (h : Rd w v 32 (flat cs)) (hc : ∀ (w1 : World) (i : Nat), i < 36 → Rd w1 v 32 (flat cs) → Calls Try.prog k (vf ++ [Value.int .i64 (i : Int)] ++ vc).toArray w1 (PostV w1 (.agg (ints .u8 (g i)).toArray))) : Calls Try.prog 75 #[.func (.func k) vf.toArray vc.toArray] w (PostV w (.agg (ints .u8 (ends g)).toArray)) := by
  refine calls_at (vs := [.func (.func k) vf.toArray vc.toArray]) (X := []) (H := []) (F := [(20, .sl v 32 (flat (cs)))]) 19 Try.func75 rfl rfl rfl (Sat.rd0 20 h) ?_
  refine cd_seq ?_
  refine cd_region ?_
  refine st_alloc (h := 2) ty39 rfl rfl rfl (fun b2 => ?_)
  refine op_nil ?_
  refine ax_then ?_
  refine At.regs (L' := [(0, _), (2, _)]) (.cons rfl (.cons rfl (.nil _))) ?_
  refine cd_seq ?_
  refine cd_region ?_
  refine st_bsi (h := 6) (xs := [_]) Try.underlying22 ty5 (by decide) rfl rfl (by decide) rfl rfl (fun b6 => ?_)
  refine st (ev_assign rfl) rfl rfl rfl ?_
  refine op_nil ?_
  refine ax_then ?_
  refine At.regs (L' := [(0, _), (2, _), (3, _)]) (.cons rfl (.cons rfl (.cons rfl (.nil _)))) ?_
  refine cd_seq ?_
  refine cd_seq ?_
  refine cd_region ?_
  refine st (ev_move rfl) rfl rfl rfl ?_
  refine op_nil ?_
  refine ax_then ?_
  refine At.regs (L' := [(0, _), (2, _), (3, _), (7, _)]) (.cons rfl (.cons rfl (.cons rfl (.cons rfl (.nil _))))) ?_
  refine cd_block ?_
  refine cd_loop (ι := Nat × Value) (fun x => x.1 ≤ 36) (fun x => 36 - x.1)
      (fun x => [(0, .func (.func k) vf.toArray vc.toArray), (2, .pointer (some ⟨b2, 0, none⟩)), (3, x.2), (7, .int .i64 (x.1 : Int))])
      (fun x => [(2, .blk b2 (.cells (ints .u8 (List.replicate 32 0)).toArray 39)), (6, .own (x.2) 5 1 (ints .u8 (tex g x.1)))])
      (fun x => [(20, .sl v 32 (flat (cs)))])
      (0, _) (by omega) (.cons rfl (.cons rfl (.cons rfl (.cons rfl (.nil _))))) (.cons rfl (.cons rfl (.nil _))) (.cons rfl (.nil _)) (fun x hi => ?_)
  have htx := tex_len hg x.1
  have hgx := hg x.1
  refine cd_seq ?_
  refine cd_region ?_
  refine st (ev_lss rfl rfl) rfl rfl rfl ?_
  refine op_nil ?_
  refine ax_then ?_
  refine At.regs (L' := [(0, _), (2, _), (3, _), (7, _), (8, _)]) (.cons rfl (.cons rfl (.cons rfl (.cons rfl (.cons rfl (.nil _)))))) ?_
  refine cd_seq ?_
  refine cd_if rfl (fun hc8 => ?_) (fun hc8 => ?_)
  ·
    refine cd_skip ?_
    refine ax_then ?_
    refine At.regs (L' := [(0, _), (2, _), (3, _), (7, _), (8, _)]) (.cons rfl (.cons rfl (.cons rfl (.cons rfl (.cons rfl (.nil _)))))) ?_
    refine cd_seq ?_
    refine cd_block ?_
    refine cd_seq ?_
    refine cd_region ?_
    refine st (ev_move rfl) rfl rfl rfl ?_
    refine st (ev_assign rfl) rfl rfl rfl ?_
    refine op_nil ?_
    refine ax_then ?_
    refine At.regs (L' := [(0, _), (2, _), (3, _), (4, _), (7, _), (8, _), (9, _)]) (.cons rfl (.cons rfl (.cons rfl (.cons rfl (.cons rfl (.cons rfl (.cons rfl (.nil _)))))))) ?_
    refine cd_seq ?_
    refine cd_region ?_
    refine st (ev_move rfl) rfl rfl rfl ?_
    refine st (ev_move rfl) rfl rfl rfl ?_
    refine st_callv_fn hk rfl rfl rfl (fun w1 sw => hc w1 x.1 (by omega) (sw.sl_rd (h := 20) rfl)) rfl rfl ?_
    refine st_alloc (h := 5) ty39 rfl rfl rfl (fun b5 => ?_)
    refine st_store_all 5 ty39 rfl rfl rfl rfl (by first | omega | (simp only [List.length_append, List.length_cons, List.length_nil, List.length_set, List.length_replicate, List.length_take, List.length_drop, ints_length, wr_length, sha_len, way_len _ (by assumption), secret_len, digits_len] <;> omega) | rfl) (ints_one _ _) (by first | omega | (simp only [List.length_append, List.length_cons, List.length_nil, List.length_set, List.length_replicate, List.length_take, List.length_drop, ints_length, wr_length, sha_len, way_len _ (by assumption), secret_len, digits_len] <;> omega) | rfl) rfl ?_
    refine op_nil ?_
    refine ax_then ?_
    refine At.regs (L' := [(0, _), (2, _), (3, _), (4, _), (5, _), (7, _), (8, _), (9, _), (10, _), (11, _), (12, _)]) (.cons rfl (.cons rfl (.cons rfl (.cons rfl (.cons rfl (.cons rfl (.cons rfl (.cons rfl (.cons rfl (.cons rfl (.cons rfl (.nil _)))))))))))) ?_
    refine cd_region ?_
    refine st (ev_move rfl) rfl rfl rfl ?_
    refine st (ev_slice_arr_all Try.underlying39 ty5 rfl) rfl rfl rfl ?_
    refine st_appendi (h := 6) Try.underlying22 Try.underlying22 ty5 rfl rfl rfl rfl (fun w1 sw => rd_blk_all sw (h := 5) rfl (by first | omega | (simp only [List.length_append, List.length_cons, List.length_nil, List.length_set, List.length_replicate, List.length_take, List.length_drop, ints_length, wr_length, sha_len, way_len _ (by assumption), secret_len, digits_len] <;> omega) | rfl)) (by first | omega | (simp only [List.length_append, List.length_cons, List.length_nil, List.length_set, List.length_replicate, List.length_take, List.length_drop, ints_length, wr_length, sha_len, way_len _ (by assumption), secret_len, digits_len] <;> omega)) (by decide) rfl rfl (fun v15 => ?_)
    refine st (ev_assign rfl) rfl rfl rfl ?_
    refine op_nil ?_
    refine ax_block ?_
    refine ax_then ?_
    refine At.regs (L' := [(0, _), (2, _), (3, _), (4, _), (5, _), (7, _), (8, _), (9, _), (10, _), (11, _), (12, _), (13, _), (14, _), (15, _)]) (.cons rfl (.cons rfl (.cons rfl (.cons rfl (.cons rfl (.cons rfl (.cons rfl (.cons rfl (.cons rfl (.cons rfl (.cons rfl (.cons rfl (.cons rfl (.cons rfl (.nil _))))))))))))))) ?_
    refine cd_region ?_
    refine st (ev_add64 rfl rfl (by omega) (by omega)) rfl rfl rfl ?_
    refine st (ev_move rfl) rfl rfl rfl ?_
    refine op_nil ?_
    refine ax_heq (i := 6) (v' := .own (v15) 5 1 (ints .u8 (tex g (x.1 + 1)))) rfl rfl ?_
    exact at_again ((x.1 + 1, v15)) (by show x.1 + 1 ≤ 36; omega) (by omega) (.cons rfl (.cons rfl (.cons rfl (.cons rfl (.nil _))))) (.cons rfl (.cons rfl (.nil _))) (.cons rfl (.nil _))
  ·
    obtain ⟨j, u⟩ := x
    dsimp only at hi hc8 htx hgx ⊢
    obtain rfl : j = 36 := by omega
    refine cd_exit ?_
    refine ax_then_exit ?_
    refine ax_then_exit ?_
    refine ax_block_hit ?_
    refine ax_then ?_
    refine At.regs (L' := [(2, _), (3, _)]) (.cons rfl (.cons rfl (.nil _))) ?_
    refine cd_seq ?_
    refine cd_region ?_
    refine st (ev_move rfl) rfl rfl rfl ?_
    refine st_callv has83 rfl (fun w1 sw => sum_any u (tex g 36) w1 (by rw [htx]; omega) (sw.own_rd (h := 6) rfl)) rfl rfl ?_
    refine st_store_all 2 ty39 rfl rfl rfl rfl (by first | omega | (simp only [List.length_append, List.length_cons, List.length_nil, List.length_set, List.length_replicate, List.length_take, List.length_drop, ints_length, wr_length, sha_len, way_len _ (by assumption), secret_len, digits_len] <;> omega) | rfl) (ints_one _ _) (by first | omega | (simp only [List.length_append, List.length_cons, List.length_nil, List.length_set, List.length_replicate, List.length_take, List.length_drop, ints_length, wr_length, sha_len, way_len _ (by assumption), secret_len, digits_len] <;> omega) | rfl) rfl ?_
    refine op_nil ?_
    refine ax_then ?_
    refine At.regs (L' := [(2, _)]) (.cons rfl (.nil _)) ?_
    refine cd_ret ?_
    refine rt_cell (h0 := 2) (.inl rfl) Try.results75 ty39 rfl rfl rfl (by first | omega | (simp only [List.length_append, List.length_cons, List.length_nil, List.length_set, List.length_replicate, List.length_take, List.length_drop, ints_length, wr_length, sha_len, way_len _ (by assumption), secret_len, digits_len] <;> omega) | rfl) ?_
    exact fun w1 sw => ⟨rfl, sw.gives (.nil _)⟩
theorem cut32 (s : List Int) (x : Value) (hl : s.length = 32) : ((ints .u8 s ++ [x]).drop 0).take 32 = ints .u8 s := by
  rw [List.drop_zero, List.take_left' (by rw [ints_length, hl])]
theorem at32 (s : List Int) (x : Value) (hl : s.length = 32) : (ints .u8 s ++ [x])[32]? = some x := by
  rw [List.getElem?_append_right (by rw [ints_length, hl]; decide), ints_length, hl]
  rfl
set_option maxRecDepth 20000 in
set_option maxHeartbeats 1000000 in
theorem leafEnd_any (s : List Int) (l c : Int) (w : World) (hl : s.length = 32) : Calls Try.prog 76 #[.agg (ints .u8 s ++ [Value.int .i64 l]).toArray, .int .i64 c] w (PostV w (.agg (ints .u8 (walk (secret s l c) c 0 3)).toArray)) := by
  refine calls_at (vs := [.agg (ints .u8 s ++ [Value.int .i64 l]).toArray, .int .i64 c]) (X := []) (H := []) (F := []) 13 Try.func76 rfl rfl rfl (Sat.start0 w) ?_
  refine cd_seq ?_
  refine cd_region ?_
  refine st_box (h := 2) rfl rfl rfl rfl (fun b2 => ?_)
  refine st_alloc (h := 4) ty39 rfl rfl rfl (fun b4 => ?_)
  refine op_nil ?_
  refine ax_then ?_
  refine At.regs (L' := [(1, _), (2, _), (4, _)]) (.cons rfl (.cons rfl (.cons rfl (.nil _)))) ?_
  refine cd_seq ?_
  refine cd_region ?_
  refine st (ev_fieldAddr (b := _) Try.underlying109 (f := _) rfl ty39 (by decide) rfl) rfl rfl rfl ?_
  refine st (ld_blk (h := 2) ty39 rfl rfl rfl (by rw [List.length_append, ints_length, hl]; show 0 + 32 ≤ 32 + 1; decide)) rfl rfl rfl ?_
  refine at_eq (i := 6) (v' := .agg (ints .u8 (s)).toArray) rfl (congrArg (fun x => Value.agg (List.toArray x)) (cut32 s (.int .i64 l) hl)) ?_
  refine st (ev_fieldAddr (b := _) Try.underlying109 (f := _) rfl ty3 (by decide) rfl) rfl rfl rfl ?_
  refine st (ld_blk1 (h := 2) ty3 rfl rfl rfl (at32 s _ hl)) rfl rfl rfl ?_
  refine st (ev_move rfl) rfl rfl rfl ?_
  refine st_callv has88 rfl (fun w1 sw => secret_any s l c w1 hl) rfl rfl ?_
  refine st (ev_move rfl) rfl rfl rfl ?_
  refine st_callv has87 rfl (fun w1 sw => walk_any (secret s l c) c 0 3 w1 (secret_len s l c) (by decide)) rfl rfl ?_
  have hwl := walk_len (h := secret s l c) c 0 3 (secret_len s l c)
  refine st_store_all 4 ty39 rfl rfl rfl rfl (by first | omega | (simp only [List.length_append, List.length_cons, List.length_nil, List.length_set, List.length_replicate, List.length_take, List.length_drop, ints_length, wr_length, sha_len, way_len _ (by assumption), secret_len, digits_len] <;> omega) | rfl) (ints_one _ _) (by first | omega | (simp only [List.length_append, List.length_cons, List.length_nil, List.length_set, List.length_replicate, List.length_take, List.length_drop, ints_length, wr_length, sha_len, way_len _ (by assumption), secret_len, digits_len] <;> omega) | rfl) rfl ?_
  refine op_nil ?_
  refine ax_then ?_
  refine At.regs (L' := [(4, _)]) (.cons rfl (.nil _)) ?_
  refine cd_ret ?_
  refine rt_cell (h0 := 4) (.inl rfl) Try.results76 ty39 rfl rfl rfl (by first | omega | (simp only [List.length_append, List.length_cons, List.length_nil, List.length_set, List.length_replicate, List.length_take, List.length_drop, ints_length, wr_length, sha_len, way_len _ (by assumption), secret_len, digits_len] <;> omega) | rfl) ?_
  exact fun w1 sw => ⟨rfl, sw.gives (.nil _)⟩
theorem rd_nil {w : World} (sz : Nat) : Rd w (.slice none 0 0) sz (flat []) := ⟨none, 0, 0, rfl, by simp [flat, ints], Nat.le_refl _, fun _ => rfl, fun x hx => by cases hx⟩
set_option maxRecDepth 20000 in
set_option maxHeartbeats 1000000 in
theorem public_any (s : List Int) (l : Int) (w : World) (hl : s.length = 32) : Calls Try.prog 46 #[.agg (ints .u8 (s)).toArray, .int .i64 l] w (PostV w (.agg (ints .u8 (pub s l)).toArray)) := by
  refine calls_at (vs := [.agg (ints .u8 (s)).toArray, .int .i64 l]) (X := []) (H := []) (F := []) 10 Try.func46 rfl rfl rfl (Sat.start0 w) ?_
  refine cd_seq ?_
  refine cd_region ?_
  refine st_box (h := 2) rfl rfl rfl rfl (fun b2 => ?_)
  refine st_alloc (h := 4) ty39 rfl rfl rfl (fun b4 => ?_)
  refine op_nil ?_
  refine ax_then ?_
  refine At.regs (L' := [(1, _), (2, _), (4, _)]) (.cons rfl (.cons rfl (.cons rfl (.nil _)))) ?_
  refine cd_seq ?_
  refine cd_region ?_
  refine st (ld_blk_all (h := 2) ty39 rfl rfl rfl (by first | omega | (simp only [List.length_append, List.length_cons, List.length_nil, List.length_set, List.length_replicate, List.length_take, List.length_drop, ints_length, wr_length, sha_len, way_len _ (by assumption), secret_len, digits_len] <;> omega) | rfl)) rfl rfl rfl ?_
  refine st (ev_move rfl) rfl rfl rfl ?_
  refine st (ev_build_struct ty109 rfl pl109 rfl ((fill_put (i := 0) (off := 0) (n := 32) (vs := ints .u8 s) rfl rfl (by rw [ints_length, hl]) (Nat.le_of_ble_eq_true rfl)).trans ((fill_put (i := 1) (off := 32) (n := 1) (vs := [.int .i64 l]) rfl rfl rfl (by rw [wr_length (by rw [ints_length, hl]; exact Nat.le_of_ble_eq_true rfl)]; exact Nat.le_of_ble_eq_true rfl)).trans fill_nil))) rfl rfl rfl ?_
  refine at_eq (i := 7) (v' := .agg (ints .u8 s ++ [Value.int .i64 l]).toArray) rfl (congrArg (fun x => Value.agg (List.toArray x)) (put_last (by rw [ints_length, hl]) rfl)) ?_
  refine st (ev_func rfl rfl) rfl rfl rfl ?_
  refine st_callv has75 rfl (fun w1 sw => ends_any 76 has76 [.agg (ints .u8 s ++ [Value.int .i64 l]).toArray] [] (.slice none 0 0) [] (fun c => walk (secret s l c) c 0 3) (fun i => walk_len _ _ _ (secret_len s l i)) w1 (rd_nil 32) (fun w2 i _ _ => leafEnd_any s l i w2 hl)) rfl rfl ?_
  have hpl : (pub s l).length = 32 := sha_len _
  refine st_store_all 4 ty39 rfl rfl rfl rfl (by first | omega | (simp only [List.length_append, List.length_cons, List.length_nil, List.length_set, List.length_replicate, List.length_take, List.length_drop, ints_length, wr_length, sha_len, way_len _ (by assumption), secret_len, digits_len] <;> omega) | rfl) (ints_one _ _) (by first | omega | (simp only [List.length_append, List.length_cons, List.length_nil, List.length_set, List.length_replicate, List.length_take, List.length_drop, ints_length, wr_length, sha_len, way_len _ (by assumption), secret_len, digits_len] <;> omega) | rfl) rfl ?_
  refine op_nil ?_
  refine ax_then ?_
  refine At.regs (L' := [(4, _)]) (.cons rfl (.nil _)) ?_
  refine cd_ret ?_
  refine rt_cell (h0 := 4) (.inl rfl) Try.results46 ty39 rfl rfl rfl (by first | omega | (simp only [List.length_append, List.length_cons, List.length_nil, List.length_set, List.length_replicate, List.length_take, List.length_drop, ints_length, wr_length, sha_len, way_len _ (by assumption), secret_len, digits_len] <;> omega) | rfl) ?_
  exact fun w1 sw => ⟨rfl, sw.gives (.nil _)⟩
end Go.Proofs.Yteedclmcgifmpaa
namespace Go.Proofs.Yteedclmcgifmpaa
open Go Go.RowKit Fw
open Sha
open Ots
set_option linter.unusedVariables false
set_option linter.unusedSimpArgs false
end Go.Proofs.Yteedclmcgifmpaa
namespace Go.Proofs.Yteedclmcgifmpaa
open Go Go.RowKit Fw
open Sha
open Ots
set_option linter.unusedVariables false
set_option linter.unusedSimpArgs false
end Go.Proofs.Yteedclmcgifmpaa
namespace Go.Proofs.Yteedclmcgifmpaa
open Go Go.RowKit Fw
open Sha
open Ots
set_option linter.unusedVariables false
set_option linter.unusedSimpArgs false
def recov (m : List Int) (cs : List (List Int)) : List Int := if cs.length = 36 then ends (fun c => walk (cs.getD c []) c ((digits m).getD c 0) 3) else List.replicate 32 0
theorem recov_len (m : List Int) (cs : List (List Int)) : (recov m cs).length = 32 := by
  rw [recov]
  split
  · exact sha_len _
  · simp
end Go.Proofs.Yteedclmcgifmpaa
namespace Go.Proofs.Yteedclmcgifmpaa
open Go Go.RowKit Fw
open Sha
open Ots
set_option linter.unusedVariables false
set_option linter.unusedSimpArgs false
theorem hashes_ext {a b : List (List Int)} (hl : a.length = b.length) (h : ∀ i, i < a.length → a.getD i [] = b.getD i []) : a = b := by
  apply List.ext_getElem hl
  intro i h1 h2
  have := h i h1
  simpa [List.getD_eq_getElem?_getD, h1, h2] using this
set_option maxRecDepth 20000 in
set_option maxHeartbeats 2000000 in
theorem hashes_any (p q : Value) (a b : List (List Int)) (w : World) (ha : H32 a) (hb : H32 b) (hal : a.length ≤ 140737488352000) (hbl : b.length ≤ 140737488352000) (h : Rd w p 32 (flat a)) (h' : Rd w q 32 (flat b)) : Calls Try.prog 16 #[p, q] w (PostV w (.bool (decide (a = b)))) := by
  refine calls_at (vs := [p, q]) (X := []) (H := []) (F := [(1, .sl q 32 (flat (b))), (0, .sl p 32 (flat (a)))]) 26 Try.func16 rfl rfl rfl ((Sat.rd0 0 h).more 1 h') ?_
  refine cd_seq ?_
  refine cd_region ?_
  refine st (ev_assign rfl) rfl rfl rfl ?_
  refine op_nil ?_
  refine ax_then ?_
  refine At.regs (L' := [(0, _), (1, _), (4, _)]) (.cons rfl (.cons rfl (.cons rfl (.nil _)))) ?_
  refine cd_seq ?_
  refine cd_seq ?_
  refine cd_region ?_
  refine st (ev_move rfl) rfl rfl rfl ?_
  refine st (ev_len_rdh (h := 0) Try.underlying26 rfl rfl (by assumption)) rfl rfl rfl ?_
  refine st (ev_move rfl) rfl rfl rfl ?_
  refine st (ev_len_rdh (h := 1) Try.underlying26 rfl rfl (by assumption)) rfl rfl rfl ?_
  refine st (ev_neq rfl rfl) rfl rfl rfl ?_
  refine op_nil ?_
  refine ax_then ?_
  refine At.regs (L' := [(0, _), (1, _), (4, _), (10, _)]) (.cons rfl (.cons rfl (.cons rfl (.cons rfl (.nil _))))) ?_
  refine cd_if rfl (fun hc10 => ?_) (fun hc10 => ?_)
  ·
    refine cd_seq ?_
    refine cd_region ?_
    refine st (ev_assign rfl) rfl rfl rfl ?_
    refine op_nil ?_
    refine ax_then ?_
    refine At.regs (L' := [(0, _), (1, _), (4, _)]) (.cons rfl (.cons rfl (.cons rfl (.nil _)))) ?_
    refine cd_ret ?_
    refine ax_then_ret ?_
    refine rt_tmp (.inl rfl) Try.results16 rfl ?_
    exact fun w1 sw => ⟨by rw [decide_eq_false (by intro e; subst e; omega)], sw.gives (.nil _)⟩
  ·
    have hab : a.length = b.length := by omega
    refine cd_skip ?_
    refine ax_then ?_
    refine At.regs (L' := [(0, _), (1, _), (4, _)]) (.cons rfl (.cons rfl (.cons rfl (.nil _)))) ?_
    refine cd_seq ?_
    refine cd_seq ?_
    refine cd_region ?_
    refine st (ev_assign rfl) rfl rfl rfl ?_
    refine op_nil ?_
    refine ax_then ?_
    refine At.regs (L' := [(0, _), (1, _), (4, _), (5, _)]) (.cons rfl (.cons rfl (.cons rfl (.cons rfl (.nil _))))) ?_
    refine cd_block ?_
    refine cd_loop (ι := Nat) (fun i => i ≤ a.length ∧ ∀ j, j < i → a.getD j [] = b.getD j []) (fun i => a.length - i)
        (fun i => [(0, p), (1, q), (5, .int .i64 (i : Int))])
        (fun i => [])
        (fun i => [(0, .sl p 32 (flat (a))), (1, .sl q 32 (flat (b)))])
        0 (⟨by omega, fun j hj => by omega⟩) (.cons rfl (.cons rfl (.cons rfl (.nil _)))) (.nil _) (.cons rfl (.cons rfl (.nil _))) (fun i hi => ?_)
    have hi1 := hi.1
    have e0 : (i : Int).toNat = i := by omega
    have ga : i < a.length → (a.getD (i : Int).toNat []).length = 32 := fun hx => ha.get (by omega)
    have gb : i < a.length → (b.getD (i : Int).toNat []).length = 32 := fun hx => hb.get (by omega)
    refine cd_seq ?_
    refine cd_seq ?_
    refine cd_region ?_
    refine st (ev_move rfl) rfl rfl rfl ?_
    refine st (ev_move rfl) rfl rfl rfl ?_
    refine st (ev_len_rdh (h := 0) Try.underlying26 rfl rfl (by assumption)) rfl rfl rfl ?_
    refine st (ev_lss rfl rfl) rfl rfl rfl ?_
    refine op_nil ?_
    refine ax_then ?_
    refine At.regs (L' := [(0, _), (1, _), (5, _), (11, _), (12, _), (13, _), (14, _)]) (.cons rfl (.cons rfl (.cons rfl (.cons rfl (.cons rfl (.cons rfl (.cons rfl (.nil _)))))))) ?_
    refine cd_if rfl (fun hc14 => ?_) (fun hc14 => ?_)
    ·
      have ga2 := ga (by omega)
      have gb2 := gb (by omega)
      refine cd_skip ?_
      refine ax_then ?_
      refine At.regs (L' := [(0, _), (1, _), (5, _), (11, _), (12, _), (13, _), (14, _)]) (.cons rfl (.cons rfl (.cons rfl (.cons rfl (.cons rfl (.cons rfl (.cons rfl (.nil _)))))))) ?_
      refine cd_seq ?_
      refine cd_block ?_
      refine cd_seq ?_
      refine cd_open hmix (by decide +kernel) ?_
      refine qt (ev_move rfl) rfl rfl rfl ?_
      refine qt (ev_move rfl) rfl rfl rfl ?_
      refine qt (ev_indexAddr_rdh (h := 0) Try.underlying26 ty39 rfl rfl rfl (by assumption) (by omega) (by omega)) rfl rfl rfl ?_
      refine qt (ld_rdh (h := 0) ty39 rfl rfl rfl (by assumption) (by omega)) rfl rfl rfl ?_
      refine qt (ev_move rfl) rfl rfl rfl ?_
      refine qt (ev_move rfl) rfl rfl rfl ?_
      refine qt (ev_indexAddr_rdh (h := 1) Try.underlying26 ty39 rfl rfl rfl (by assumption) (by omega) (by omega)) rfl rfl rfl ?_
      refine qt (ld_rdh (h := 1) ty39 rfl rfl rfl (by assumption) (by omega)) rfl rfl rfl ?_
      refine qt (ev_neq_arr Try.underlying39 ty5 eqg39 rfl rfl (by first | omega | (simp only [List.length_append, List.length_cons, List.length_nil, List.length_set, List.length_replicate, List.length_take, List.length_drop, ints_length, wr_length, sha_len, way_len _ (by assumption), secret_len, digits_len, recov_len] <;> omega) | rfl) (by first | omega | (simp only [List.length_append, List.length_cons, List.length_nil, List.length_set, List.length_replicate, List.length_take, List.length_drop, ints_length, wr_length, sha_len, way_len _ (by assumption), secret_len, digits_len, recov_len] <;> omega) | rfl)) rfl rfl rfl ?_
      refine qt_end ?_
      refine op_nil ?_
      refine ax_then ?_
      refine At.regs (L' := [(0, _), (1, _), (5, _), (11, _), (12, _), (13, _), (14, _), (17, _), (18, _), (19, _), (20, _), (21, _), (22, _), (23, _), (24, _), (25, _)]) (.cons rfl (.cons rfl (.cons rfl (.cons rfl (.cons rfl (.cons rfl (.cons rfl (.cons rfl (.cons rfl (.cons rfl (.cons rfl (.cons rfl (.cons rfl (.cons rfl (.cons rfl (.cons rfl (.nil _))))))))))))))))) ?_
      refine cd_if rfl (fun hc25 => ?_) (fun hc25 => ?_)
      ·
        have hne : a ≠ b := by intro e; subst e; exact hc25 rfl
        refine cd_seq ?_
        refine cd_region ?_
        refine st (ev_assign rfl) rfl rfl rfl ?_
        refine op_nil ?_
        refine ax_then ?_
        refine At.regs (L' := [(0, _), (1, _), (4, _), (5, _), (11, _), (12, _), (13, _), (14, _), (17, _), (18, _), (19, _), (20, _), (21, _), (22, _), (23, _), (24, _), (25, _)]) (.cons rfl (.cons rfl (.cons rfl (.cons rfl (.cons rfl (.cons rfl (.cons rfl (.cons rfl (.cons rfl (.cons rfl (.cons rfl (.cons rfl (.cons rfl (.cons rfl (.cons rfl (.cons rfl (.cons rfl (.nil _)))))))))))))))))) ?_
        refine cd_ret ?_
        refine ax_block_ret ?_
        refine ax_then_ret ?_
        refine ax_then_ret ?_
        refine ax_block_ret ?_
        refine ax_then_ret ?_
        refine rt_tmp (.inl rfl) Try.results16 rfl ?_
        exact fun w1 sw => ⟨by rw [decide_eq_false hne], sw.gives (.nil _)⟩
      ·
        refine cd_skip ?_
        refine ax_block ?_
        refine ax_then ?_
        refine At.regs (L' := [(0, _), (1, _), (5, _), (11, _), (12, _), (13, _), (14, _), (17, _), (18, _), (19, _), (20, _), (21, _), (22, _), (23, _), (24, _), (25, _)]) (.cons rfl (.cons rfl (.cons rfl (.cons rfl (.cons rfl (.cons rfl (.cons rfl (.cons rfl (.cons rfl (.cons rfl (.cons rfl (.cons rfl (.cons rfl (.cons rfl (.cons rfl (.cons rfl (.nil _))))))))))))))))) ?_
        refine cd_region ?_
        refine st (ev_move rfl) rfl rfl rfl ?_
        refine st (ev_add64 rfl rfl (by omega) (by omega)) rfl rfl rfl ?_
        refine st (ev_assign rfl) rfl rfl rfl ?_
        refine op_nil ?_
        exact at_again (i + 1) (⟨by omega, fun j hj => (Nat.lt_succ_iff_lt_or_eq.1 hj).elim (hi.2 j) (fun e => by subst e; simpa using hc25)⟩) (by omega) (.cons rfl (.cons rfl (.cons rfl (.nil _)))) (.nil _) (.cons rfl (.cons rfl (.nil _)))
    ·
      obtain rfl : i = a.length := by omega
      refine cd_exit ?_
      refine ax_then_exit ?_
      refine ax_then_exit ?_
      refine ax_block_hit ?_
      refine ax_then ?_
      refine At.regs (L' := []) (.nil _) ?_
      refine cd_seq ?_
      refine cd_region ?_
      refine st (ev_assign rfl) rfl rfl rfl ?_
      refine op_nil ?_
      refine ax_then ?_
      refine At.regs (L' := [(4, _)]) (.cons rfl (.nil _)) ?_
      refine cd_ret ?_
      refine rt_tmp (.inl rfl) Try.results16 rfl ?_
      exact fun w1 sw => ⟨by rw [decide_eq_true (hashes_ext hab hi.2)], sw.gives (.nil _)⟩
end Go.Proofs.Yteedclmcgifmpaa
namespace Go.Proofs.Yteedclmcgifmpaa
open Go Go.RowKit Fw
open Sha
open Ots
set_option linter.unusedVariables false
set_option linter.unusedSimpArgs false
end Go.Proofs.Yteedclmcgifmpaa

namespace Go.Proofs.Yteedclmcgifmpaa.Ky
open Go Fw Sha Ots Mk Go.Proofs.Yteedclmcgifmpaa
set_option linter.unusedSimpArgs false
set_option linter.unusedVariables false
def leaves (s : List Int) (n : Nat) : List (List Int) := (List.range n).map fun (l : Nat) => pub s l
theorem leaves_snoc (s : List Int) (n : Nat) : leaves s (n + 1) = leaves s n ++ [pub s n] := by simp [leaves, List.range_succ]
theorem leaves_len (s : List Int) (n : Nat) : (leaves s n).length = n := by simp [leaves]
theorem leaves_h32 (s : List Int) (n : Nat) : H32 (leaves s n) := fun h hh => by
  simp only [leaves, List.mem_map] at hh
  obtain ⟨c, _, rfl⟩ := hh
  exact sha_len _
def named (r : List Int) : List Int := sha ([4] ++ r)
theorem named_len (r : List Int) : (named r).length = 32 := sha_len _
def keyPub (s : List Int) : List Int := named (root (leaves s 16))
theorem keyPub_len (s : List Int) : (keyPub s).length = 32 := sha_len _
def isSig (leaf : Int) (cs ps : List (List Int)) : Prop := 0 ≤ leaf ∧ leaf < 16 ∧ cs.length = 36 ∧ ps.length = 4
instance (leaf : Int) (cs ps : List (List Int)) : Decidable (isSig leaf cs ps) := by unfold isSig; infer_instance
def clamp (u : Int) : Int := min (max u 0) 16
/-- the cells of a key: its seed, what it holds, how many are used -/
def cells (s : List Int) (v : Value) (n : Int) : List Value := ints .u8 s ++ [v, .int .i64 n]
theorem cells_len {s : List Int} (hl : s.length = 32) (v : Value) (n : Int) : (cells s v n).length = 34 := by simp [cells, hl, ints_length]
theorem cells_32 {s : List Int} (hl : s.length = 32) (v : Value) (n : Int) : (cells s v n)[32]? = some v := by
  rw [cells, List.getElem?_append_right (by rw [ints_length, hl]; decide), ints_length, hl]; rfl
theorem cells_33 {s : List Int} (hl : s.length = 32) (v : Value) (n : Int) : (cells s v n)[33]? = some (.int .i64 n) := by
  rw [cells, List.getElem?_append_right (by rw [ints_length, hl]; decide), ints_length, hl]; rfl
theorem cells_set32 {s : List Int} (hl : s.length = 32) (v v' : Value) (n : Int) : (cells s v n).set 32 v' = cells s v' n := by
  rw [cells, List.set_append_right _ _ (by rw [ints_length, hl]; decide), ints_length, hl]; rfl
theorem cells_set33 {s : List Int} (hl : s.length = 32) (v : Value) (n n' : Int) : (cells s v n).set 33 (.int .i64 n') = cells s v n' := by
  rw [cells, List.set_append_right _ _ (by rw [ints_length, hl]; decide), ints_length, hl]; rfl
theorem key_new {s : List Int} (hl : s.length = 32) (n : Int) : wr (wr (ints .u8 (List.replicate 32 0) ++ [.slice none 0 0, .int .i64 0]) 0 (ints .u8 s)) 33 [.int .i64 n] = cells s (.slice none 0 0) n := by
  have h1 : wr (ints .u8 (List.replicate 32 0) ++ [Value.slice none 0 0, .int .i64 0]) 0 (ints .u8 s) = ints .u8 s ++ [.slice none 0 0, .int .i64 0] := by
    rw [wr, List.take_zero, List.nil_append, ints_length, hl, Nat.zero_add, List.drop_left' (by simp [ints_length])]
  rw [h1, wr_one (by simp [hl, ints_length])]
  exact cells_set33 hl _ _ _
end Go.Proofs.Yteedclmcgifmpaa.Ky

namespace Go.Proofs.Yteedclmcgifmpaa.Fw
open Go Go.RowKit Go.Proofs.Yteedclmcgifmpaa
theorem Sat.fmap {w0 w : World} {X : List Nat} {H : List (Nat × Ent)} {F : List (Nat × FE)} (sw : Sat w0 X H F w) {h sz sz' : Nat} {v v' : Value} {l l' : List Value} (h' : Nat) (hh : lk F h = some (.sl v sz l)) (hR : ∀ w, Rd w v sz l → Rd w v' sz' l') (hB : ∀ b, b ∈ blkOf v' → b ∈ blkOf v) (hl : l = [] → l' = []) : Sat w0 X H ((h', .sl v' sz' l') :: F) w :=
  sw.read h' (hR w (sw.sl_rd hh)) fun k e hk b hb => (sw.off _ _ _ _ hh hk b hb).elim (fun h => .inl (hl h)) fun h => .inr fun hb' => h (hB b hb')
theorem at_fmap {K : Act → World → Prop} {E : Env} {L : List (Nat × Value)} {H : List (Nat × Ent)} {F : List (Nat × FE)} {h sz sz' : Nat} {v v' : Value} {l l' : List Value} (h' : Nat) (hh : lk F h = some (.sl v sz l)) (hR : ∀ w, Rd w v sz l → Rd w v' sz' l') (hB : ∀ b, b ∈ blkOf v' → b ∈ blkOf v) (hl : l = [] → l' = [])
    (k : At K E L H ((h', .sl v' sz' l') :: F)) : At K E L H F := fun a w fa sw => k a w fa (sw.fmap h' hh hR hB hl)
theorem blkOf_cut (sz : Nat) (v : Value) (lo hi : Nat) : ∀ b, b ∈ blkOf (cutAt sz v lo hi) → b ∈ blkOf v := by
  intro b hb
  cases v with
  | slice a n c =>
    cases a with
    | none => simp only [cutAt] at hb; split at hb <;> simp [blkOf] at hb
    | some x =>
      have e : ∀ y : Addr, (y.add (lo * sz)).block = y.block := fun y => by unfold Addr.add; split <;> rfl
      simp only [cutAt] at hb
      split at hb
      · exact hb
      · simp only [blkOf, Option.map_some, e] at hb ⊢; exact hb
  | _ => simp [cutAt, blkOf] at hb
end Go.Proofs.Yteedclmcgifmpaa.Fw
namespace Go.Proofs.Yteedclmcgifmpaa.Ky
open Go Fw Sha Ots Mk Go.Proofs.Yteedclmcgifmpaa
set_option linter.unusedSimpArgs false
set_option linter.unusedVariables false
def nil0 : Value := .slice none 0 0
theorem rd_nil0 {w : World} : Rd w nil0 1 (ints .u8 []) := ⟨none, 0, 0, rfl, by simp [ints], Nat.le_refl _, fun _ => rfl, fun x hx => by cases hx⟩
/-- 32 bytes, if there are so many -/
def rawOut (r : List Int) : List Int := if 32 ≤ r.length then r.take 32 else []
def rawRest (r : List Int) : List Int := if 32 ≤ r.length then r.drop 32 else []
def rawV (v : Value) (r : List Int) : Value := if 32 ≤ r.length then cutAt 1 v 32 r.length else nil0
def hashOf (r : List Int) : List Int := if 32 ≤ r.length then r.take 32 else List.replicate 32 0
theorem rawOut_len (r : List Int) : (rawOut r).length ≤ 32 := by unfold rawOut; split <;> simp <;> omega
theorem rawRest_len (r : List Int) : (rawRest r).length ≤ r.length := by unfold rawRest; split <;> simp
theorem hashOf_len (r : List Int) : (hashOf r).length = 32 := by unfold hashOf; split <;> simp <;> omega
theorem rawV_rd {w : World} {v : Value} {r : List Int} (h : Rd w v 1 (ints .u8 r)) : Rd w (rawV v r) 1 (ints .u8 (rawRest r)) := by
  unfold rawV rawRest
  split
  · have := h.cuti (lo := 32) (hi := r.length) (by omega) (Nat.le_refl _)
    rwa [List.take_of_length_le (by rw [List.length_drop]; exact Nat.le_refl _)] at this
  · exact rd_nil0
theorem rawV_blk (v : Value) (r : List Int) : ∀ b, b ∈ blkOf (rawV v r) → b ∈ blkOf v := by
  unfold rawV
  split
  · exact blkOf_cut _ _ _ _
  · intro b hb; simp [blkOf, nil0] at hb
theorem raw_nil {r : List Int} (h : ints .u8 r = []) : ints .u8 (rawRest r) = [] := by
  have : r = [] := List.length_eq_zero_iff.1 (by have := congrArg List.length h; rwa [ints_length] at this)
  subst this
  rfl
/-- what is copied over noughts -/
theorem hash_copy (r : List Int) : wr (ints .u8 (List.replicate 32 0)) 0 ((ints .u8 (rawOut r)).take (min (rawOut r).length 32 * 1)) = ints .u8 (hashOf r) := by
  have h := rawOut_len r
  rw [Nat.mul_one, Nat.min_eq_left h, List.take_of_length_le (by rw [ints_length]; exact Nat.le_refl _)]
  by_cases hc : 32 ≤ r.length
  · rw [wr_all (by rw [ints_length, ints_length]; simp [rawOut, hc])]
    simp [rawOut, hashOf, hc]
  · simp [rawOut, hashOf, hc, ints, wr]
/-- after n digests -/
def restS (r : List Int) : Nat → List Int
  | 0 => r
  | n + 1 => rawRest (restS r n)
def badS (b : Bool) (r : List Int) : Nat → Bool
  | 0 => b
  | n + 1 => badS b r n || decide ((restS r n).length < 32)
def valS (v : Value) (r : List Int) : Nat → Value
  | 0 => v
  | n + 1 => rawV (valS v r n) (restS r n)
def hashS (r : List Int) : Nat → List (List Int)
  | 0 => []
  | n + 1 => hashS r n ++ [hashOf (restS r n)]
theorem hashS_h32 (r : List Int) : ∀ n, H32 (hashS r n)
  | 0 => H32.nil
  | n + 1 => (hashS_h32 r n).snoc (hashOf_len _)
theorem hashS_len (r : List Int) : ∀ n, (hashS r n).length = n
  | 0 => rfl
  | n + 1 => by rw [hashS, List.length_append, hashS_len r n]; rfl
theorem restS_le (r : List Int) : ∀ n, (restS r n).length ≤ r.length
  | 0 => Nat.le_refl _
  | n + 1 => Nat.le_trans (rawRest_len _) (restS_le r n)
theorem valS_rd {w : World} {v : Value} {r : List Int} (h : Rd w v 1 (ints .u8 r)) : ∀ n, Rd w (valS v r n) 1 (ints .u8 (restS r n))
  | 0 => h
  | n + 1 => rawV_rd (valS_rd h n)
theorem valS_blk (v : Value) (r : List Int) : ∀ n b, b ∈ blkOf (valS v r n) → b ∈ blkOf v
  | 0, _, h => h
  | n + 1, b, h => valS_blk v r n b (rawV_blk _ _ b h)
theorem restS_nil {r : List Int} (h : ints .u8 r = []) : ∀ n, ints .u8 (restS r n) = []
  | 0 => h
  | n + 1 => raw_nil (restS_nil h n)
theorem restS_add (r : List Int) (m : Nat) : ∀ n, restS (restS r m) n = restS r (m + n)
  | 0 => rfl
  | n + 1 => by rw [restS, restS_add r m n]; rfl
theorem badS_add (b : Bool) (r : List Int) (m : Nat) : ∀ n, badS (badS b r m) (restS r m) n = badS b r (m + n)
  | 0 => rfl
  | n + 1 => by rw [badS, badS_add b r m n, restS_add]; rfl
theorem restS_long {r : List Int} : ∀ {n : Nat}, 32 * n ≤ r.length → restS r n = r.drop (32 * n)
  | 0, _ => by simp [restS]
  | n + 1, h => by
    rw [restS, restS_long (n := n) (by omega), rawRest, if_pos (by rw [List.length_drop]; omega), List.drop_drop, Nat.mul_succ]
theorem badS_long {b : Bool} {r : List Int} : ∀ {n : Nat}, 32 * n ≤ r.length → badS b r n = b
  | 0, _ => rfl
  | n + 1, h => by
    rw [badS, badS_long (n := n) (by omega), restS_long (n := n) (by omega), List.length_drop]
    simp
    omega
theorem badS_short {b : Bool} {r : List Int} : ∀ {n : Nat}, r.length < 32 * n → badS b r n = true
  | 0, h => by omega
  | n + 1, h => by
    rw [badS]
    by_cases hn : r.length < 32 * n
    · rw [badS_short hn]; rfl
    · rw [restS_long (n := n) (by omega), List.length_drop]
      simp
      omega
theorem badS_true (r : List Int) : ∀ n, badS true r n = true
  | 0 => rfl
  | n + 1 => by rw [badS, badS_true r n]; rfl
/-- all is well at 40 digests, and nothing is left, just for so many bytes -/
theorem whole_iff (b : Bool) (r : List Int) : (!badS b r 40 && decide ((restS r 40).length = 0)) = (!b && decide (r.length = 1280)) := by
  cases b with
  | true => rw [badS_true]; simp only [Bool.not_true, Bool.false_and]
  | false =>
    by_cases h : 32 * 40 ≤ r.length
    · rw [badS_long (n := 40) h, restS_long (n := 40) h, List.length_drop]
      simp only [Bool.not_false, Bool.true_and]
      exact decide_eq_decide.2 (by omega)
    · rw [badS_short (n := 40) (by omega)]
      have : ¬ r.length = 1280 := by omega
      simp [this]
/-- a signature's bytes -/
def enc (leaf : Int) (cs ps : List (List Int)) : List Int := [leaf] ++ (cs ++ ps).flatten
theorem enc_len {leaf : Int} {cs ps : List (List Int)} (hu : H32 cs) (hu' : H32 ps) : (enc leaf cs ps).length = 1 + 32 * (cs.length + ps.length) := by
  have hfl : ∀ {l : List (List Int)}, H32 l → l.flatten.length = 32 * l.length := fun {l} hl => by
    induction l with
    | nil => rfl
    | cons a r ih => rw [List.flatten_cons, List.length_append, hl.head, ih hl.tail, List.length_cons]; omega
  rw [enc, List.length_append, hfl (hu.append hu'), List.length_append]
  rfl
end Go.Proofs.Yteedclmcgifmpaa.Ky

namespace Go.Proofs.Yteedclmcgifmpaa.Rr
open Go Fw Sha Ky Go.Proofs.Yteedclmcgifmpaa
set_option linter.unusedSimpArgs false
set_option linter.unusedVariables false
/-- what is left of what is read -/
structure Und (v : Value) (r : List Int) (v' : Value) (r' : List Int) : Prop where
  rd : ∀ w, Rd w v 1 (ints .u8 r) → Rd w v' 1 (ints .u8 r')
  blk : ∀ b, b ∈ blkOf v' → b ∈ blkOf v
  len : r'.length ≤ r.length
  mem : ∀ c, c ∈ r' → c ∈ r
theorem Und.refl (v : Value) (r : List Int) : Und v r v r := ⟨fun _ h => h, fun _ h => h, Nat.le_refl _, fun _ h => h⟩
theorem Und.trans {v v' v'' : Value} {r r' r'' : List Int} (a : Und v r v' r') (b : Und v' r' v'' r'') : Und v r v'' r'' :=
  ⟨fun w h => b.rd w (a.rd w h), fun x h => a.blk x (b.blk x h), Nat.le_trans b.len a.len, fun c h => a.mem c (b.mem c h)⟩
theorem Und.none (v : Value) (r : List Int) : Und v r nil0 [] := ⟨fun _ _ => rd_nil0, fun b h => by simp [blkOf, nil0] at h, Nat.zero_le _, fun c h => by cases h⟩
theorem Und.cut (v : Value) {r : List Int} {k : Nat} (hk : k ≤ r.length) : Und v r (cutAt 1 v k r.length) (r.drop k) :=
  ⟨fun w h => by
    have := h.cuti (lo := k) (hi := r.length) hk (Nat.le_refl _)
    rwa [List.take_of_length_le (by rw [List.length_drop]; exact Nat.le_refl _)] at this, blkOf_cut _ _ _ _, by simp, fun c h => List.mem_of_mem_drop h⟩
theorem Und.nil {v v' : Value} {r r' : List Int} (a : Und v r v' r') (h : ints .u8 r = []) : ints .u8 r' = [] := by
  have e : r.length = 0 := by have := congrArg List.length h; rwa [ints_length] at this
  have := a.len
  have : r' = [] := List.length_eq_zero_iff.1 (by omega)
  rw [this]; rfl
theorem Und.byt {v v' : Value} {r r' : List Int} (a : Und v r v' r') (h : Byt r) : Byt r' := fun c hc => h c (a.mem c hc)
/-- one byte more of a number -/
def acc (u c : Int) (i : Nat) : Int := ior .u64 u (ishl .u64 (IntKind.u64.wrap (iand .u8 c 127)) (7 * (i : Int)))
def numG : Nat → Int → List Int → Option (Int × Nat)
  | _, _, [] => none
  | i, u, c :: r => if i ≥ 9 ∨ (i > 0 ∧ c = 0) then none else if c < 128 then (if acc u c i > 4611686018427387904 then none else some (acc u c i, i + 1)) else numG (i + 1) (acc u c i) r
def numS (r : List Int) : Option (Int × Nat) := numG 0 0 r
def nVal (r : List Int) : Int := match numS r with | some x => x.1 | none => 0
def nRest (r : List Int) : List Int := match numS r with | some x => r.drop x.2 | none => []
def nBad (r : List Int) : Bool := (numS r).isNone
theorem acc_pos (u c : Int) (i : Nat) : 0 ≤ acc u c i := by
  unfold acc ior
  simp only [IntKind.wrap, IntKind.signed, IntKind.bits, Bool.false_and, Bool.false_eq_true, if_false]
  exact Int.emod_nonneg _ (by decide)
theorem numG_spec : ∀ (r : List Int) (i : Nat) (u : Int) (x : Int × Nat), numG i u r = some x → 0 ≤ x.1 ∧ x.1 ≤ 4611686018427387904 ∧ i < x.2 ∧ x.2 ≤ i + r.length ∧ x.2 ≤ 9
  | [], _, _, _, h => by simp [numG] at h
  | c :: r, i, u, x, h => by
    simp only [numG] at h
    split at h
    · cases h
    · next h9 =>
      split at h
      · split at h
        · cases h
        · next hb => cases h; exact ⟨acc_pos _ _ _, by simpa using hb, Nat.lt_succ_self _, by simp, by show i + 1 ≤ 9; omega⟩
      · have := numG_spec r (i + 1) _ x h
        simp only [List.length_cons]
        omega
theorem numS_spec {r : List Int} {x : Int × Nat} (h : numS r = some x) : 0 ≤ x.1 ∧ x.1 ≤ 4611686018427387904 ∧ 0 < x.2 ∧ x.2 ≤ r.length ∧ x.2 ≤ 9 := by
  have := numG_spec r 0 0 x h
  omega
theorem nUnd_ok (v : Value) {r : List Int} {x : Int × Nat} (h : numS r = some x) : Und v r (cutAt 1 v x.2 r.length) (nRest r) := by
  have := numS_spec h
  have e : nRest r = r.drop x.2 := by unfold nRest; rw [h]
  rw [e]
  exact Und.cut v (by omega)
theorem nUnd_no (v : Value) {r : List Int} (h : numS r = none) : Und v r nil0 (nRest r) := by
  have e : nRest r = [] := by unfold nRest; rw [h]
  rw [e]
  exact Und.none v r
theorem nRest_len (r : List Int) : (nRest r).length ≤ r.length := by
  unfold nRest
  split
  · simp
  · exact Nat.zero_le _
theorem nRest_no {r : List Int} (h : nBad r = true) : nRest r = [] := by
  unfold nBad at h
  unfold nRest
  cases e : numS r with
  | none => rfl
  | some x => rw [e] at h; cases h
theorem nVal_no {r : List Int} (h : numS r = none) : nVal r = 0 ∧ nBad r = true ∧ nRest r = [] := by
  refine ⟨by unfold nVal; rw [h], by unfold nBad; rw [h]; rfl, by unfold nRest; rw [h]⟩
theorem nVal_ok {r : List Int} {x : Int × Nat} (h : numS r = some x) : nVal r = x.1 ∧ nBad r = false ∧ nRest r = r.drop x.2 := by
  refine ⟨by unfold nVal; rw [h], by unfold nBad; rw [h]; rfl, by unfold nRest; rw [h]⟩
theorem numG_brk {i : Nat} {u c : Int} {r : List Int} (h : i ≥ 9 ∨ (i > 0 ∧ c = 0)) : numG i u (c :: r) = none := by rw [numG, if_pos h]
theorem numG_big {i : Nat} {u c : Int} {r : List Int} (h : c < 128) (hb : acc u c i > 4611686018427387904) : numG i u (c :: r) = none := by
  rw [numG]
  split
  · rfl
  · first | rfl | rw [if_pos h, if_pos hb]
theorem numG_ok {i : Nat} {u c : Int} {r : List Int} (h : ¬ (i ≥ 9 ∨ (i > 0 ∧ c = 0))) (hc : c < 128) (hb : ¬ acc u c i > 4611686018427387904) : numG i u (c :: r) = some (acc u c i, i + 1) := by rw [numG, if_neg h, if_pos hc, if_neg hb]
theorem numG_go {i : Nat} {u c : Int} {r : List Int} (h : ¬ (i ≥ 9 ∨ (i > 0 ∧ c = 0))) (hc : ¬ c < 128) : numG i u (c :: r) = numG (i + 1) (acc u c i) r := by rw [numG, if_neg h, if_neg hc]
theorem numG_ten {u : Int} : ∀ {r : List Int}, numG 10 u r = none
  | [] => rfl
  | c :: r => numG_brk (.inl (by decide))
/-- a tenth byte has a number too large -/
theorem acc_nine (u : Int) : acc u 1 9 > 4611686018427387904 := by
  have e : ishl .u64 (IntKind.u64.wrap (iand .u8 1 127)) (7 * ((9 : Nat) : Int)) = 9223372036854775808 := by decide +kernel
  unfold acc
  rw [e, ior]
  have h : (BitVec.ofInt IntKind.u64.bits u ||| BitVec.ofInt IntKind.u64.bits 9223372036854775808).toNat ≥ 9223372036854775808 := by
    rw [BitVec.toNat_or]
    refine Nat.le_trans ?_ Nat.right_le_or
    decide +kernel
  have h2 : (BitVec.ofInt IntKind.u64.bits u ||| BitVec.ofInt IntKind.u64.bits 9223372036854775808).toNat < 2 ^ 64 := BitVec.isLt _
  generalize (BitVec.ofInt IntKind.u64.bits u ||| BitVec.ofInt IntKind.u64.bits 9223372036854775808).toNat = n at h h2
  simp only [IntKind.wrap, IntKind.signed, IntKind.bits, Bool.false_and, Bool.false_eq_true, if_false]
  have h3 : ((n : Int) % 2 ^ 64) = n := Int.emod_eq_of_lt (by omega) (by omega)
  rw [h3]
  omega
theorem drop_head {r : List Int} {i : Nat} (hi : i < r.length) : r.drop i = r.getD i 0 :: r.drop (i + 1) := by
  rw [List.drop_eq_getElem_cons hi, List.getD_eq_getElem?_getD, List.getElem?_eq_getElem hi]; rfl
def fitsR (r : List Int) (n : Int) : Prop := 0 ≤ n ∧ n ≤ (r.length : Nat)
instance (r : List Int) (n : Int) : Decidable (fitsR r n) := by unfold fitsR; infer_instance
def rOut (r : List Int) (n : Int) : List Int := if fitsR r n then r.take n.toNat else []
def rRest (r : List Int) (n : Int) : List Int := if fitsR r n then r.drop n.toNat else []
def rBad (r : List Int) (n : Int) : Bool := !decide (fitsR r n)
theorem rUnd_ok (v : Value) {r : List Int} {n : Int} (h : fitsR r n) : Und v r (cutAt 1 v n.toNat r.length) (rRest r n) := by
  rw [rRest, if_pos h]
  exact Und.cut v (by have := h.2; omega)
theorem rUnd_no (v : Value) {r : List Int} {n : Int} (h : ¬ fitsR r n) : Und v r nil0 (rRest r n) := by
  rw [rRest, if_neg h]
  exact Und.none v r
theorem rOut_32 (r : List Int) : rOut r 32 = rawOut r ∧ rRest r 32 = rawRest r ∧ rBad r 32 = decide (r.length < 32) := by
  have e : (32 : Int).toNat = 32 := rfl
  unfold rOut rRest rBad rawOut rawRest
  rw [e]
  by_cases h : 32 ≤ r.length
  · have hf : fitsR r 32 := ⟨by decide, by omega⟩
    simp only [if_pos hf, if_pos h, decide_eq_true hf]
    exact ⟨trivial, trivial, (decide_eq_false (by omega)).symm⟩
  · have hf : ¬ fitsR r 32 := fun hh => by have := hh.2; omega
    simp only [if_neg hf, if_neg h, decide_eq_false hf]
    exact ⟨trivial, trivial, (decide_eq_true (by omega)).symm⟩
theorem rOut_1 (c : Int) (r : List Int) : rOut (c :: r) 1 = [c] ∧ rRest (c :: r) 1 = r ∧ rBad (c :: r) 1 = false := by
  have hf : fitsR (c :: r) 1 := ⟨by decide, by simp only [List.length_cons]; omega⟩
  refine ⟨by rw [rOut, if_pos hf]; rfl, by rw [rRest, if_pos hf]; rfl, by rw [rBad, decide_eq_true hf]; rfl⟩
theorem rBad_1 {r : List Int} (h : rBad r 1 = true) : r = [] := by
  cases r with
  | nil => rfl
  | cons c t => rw [(rOut_1 c t).2.2] at h; cases h
theorem rBad_cons {r : List Int} (h : ¬ rBad r 1 = true) : ∃ c t, r = c :: t := by
  cases r with
  | nil => exact absurd (by decide) h
  | cons c t => exact ⟨c, t, rfl⟩
end Go.Proofs.Yteedclmcgifmpaa.Rr

namespace Go.Proofs.Yteedclmcgifmpaa.Fw
open Go Go.RowKit Go.Proofs.Yteedclmcgifmpaa
set_option linter.unusedSimpArgs false
set_option linter.unusedVariables false
theorem lk_zip : ∀ {ks : List Nat} {es : List Ent} {h : Nat} {e : Ent}, lk (ks.zip es) h = some e → es[ks.idxOf h]? = some e ∧ h ∈ ks
  | [], _, _, _, hh => by simp [lk] at hh
  | _ :: _, [], _, _, hh => by simp [lk] at hh
  | k :: ks, x :: es, h, e, hh => by
    by_cases e1 : k = h
    · subst e1
      rw [List.zip_cons_cons, lk_cons_same] at hh
      simp [List.idxOf_cons, hh]
    · rw [List.zip_cons_cons, lk_cons_ne e1] at hh
      obtain ⟨h1, h2⟩ := lk_zip (es := es) hh
      have hb : (k == h) = false := by simpa using e1
      refine ⟨?_, List.mem_cons_of_mem _ h2⟩
      rw [List.idxOf_cons, hb]
      simpa using h1
theorem own_nil0 {w : World} (T sz : Nat) : (Ent.own (.slice none 0 0) T sz []).ids = [] ∧ (Ent.own (.slice none 0 0) T sz []).holds w := ⟨rfl, .inl ⟨rfl, rfl⟩⟩
end Go.Proofs.Yteedclmcgifmpaa.Fw

namespace Go.Proofs.Yteedclmcgifmpaa.Fw
open Go Go.RowKit Go.Proofs.Yteedclmcgifmpaa
/-- Nothing was written; what is handed back is nil. -/
theorem Gives.nils {w w' : World} {es : List Ent} {n : Nat} (g : Gives w w' [] []) (he : ∀ (i : Nat) (e : Ent), es[i]? = some e → e.ids = [] ∧ e.holds w') : Gives w w' [] ((List.range n).zip es) := by
  have key : ∀ h e, lk ((List.range n).zip es) h = some e → es[h]? = some e := fun h e hh => by
    obtain ⟨h1, h2⟩ := lk_zip hh
    have h4 := List.getElem_idxOf (List.idxOf_lt_length_of_mem h2)
    rw [List.getElem_range] at h4
    rwa [h4] at h1
  refine ⟨g.tape, g.os, g.output, g.size, g.old, fun h e hh => (he h e (key h e hh)).2, fun h e hh b' hb' => ?_, fun h e h' e' hh hh' hne b' hb' => ?_⟩
  · rw [(he h e (key h e hh)).1] at hb'; cases hb'
  · rw [(he h e (key h e hh)).1] at hb'; cases hb'
theorem Gives.nil1 {w w' : World} {T s : Nat} (g : Gives w w' [] []) : Gives w w' [] [(0, .own (.slice none 0 0) T s [])] :=
  Gives.nils (n := 1) (es := [.own (.slice none 0 0) T s []]) g (fun i e hi => by
    match i, hi with
    | 0, hi => cases hi; exact own_nil0 _ _
    | i + 1, hi => simp at hi)
theorem Gives.nil2 {w w' : World} {T s T' s' : Nat} (g : Gives w w' [] []) : Gives w w' [] [(0, .own (.slice none 0 0) T s []), (1, .own (.slice none 0 0) T' s' [])] :=
  Gives.nils (n := 2) (es := [.own (.slice none 0 0) T s [], .own (.slice none 0 0) T' s' []]) g (fun i e hi => by
    match i, hi with
    | 0, hi => cases hi; exact own_nil0 _ _
    | 1, hi => cases hi; exact own_nil0 _ _
    | i + 2, hi => simp at hi)
end Go.Proofs.Yteedclmcgifmpaa.Fw
namespace Go.Proofs.Yteedclmcgifmpaa.Kb
open Go Fw Sha Ots Mk Ky Go.Proofs.Yteedclmcgifmpaa
set_option linter.unusedSimpArgs false
set_option linter.unusedVariables false
def eErr (l : Int) (cs ps : List (List Int)) : Int := if isSig l cs ps then 0 else 1
def eOut (l : Int) (cs ps : List (List Int)) : List Int := if isSig l cs ps then enc l cs ps else []
def r1 (l : List Int) : List Int := Rr.nRest l
def dcs (l : List Int) : List (List Int) := hashS (r1 l) 36
def dps (l : List Int) : List (List Int) := hashS (restS (r1 l) 36) 4
def whole (l : List Int) : Prop := Rr.nBad l = false ∧ (r1 l).length = 1280
instance (l : List Int) : Decidable (whole l) := by unfold whole; infer_instance
def ok (l : List Int) : Prop := whole l ∧ isSig (Rr.nVal l) (dcs l) (dps l)
instance (l : List Int) : Decidable (ok l) := by unfold ok; infer_instance
def sLeaf (l : List Int) : Int := if ok l then Rr.nVal l else 0
def sCs (l : List Int) : List (List Int) := if ok l then dcs l else []
def sPs (l : List Int) : List (List Int) := if ok l then dps l else []
def sErr (l : List Int) : Int := if ok l then 0 else 2
theorem whole_eq (l : List Int) : (!badS (badS (false || Rr.nBad l) (r1 l) 36) (restS (r1 l) 36) 4 && decide ((restS (restS (r1 l) 36) 4).length = 0)) = decide (whole l) := by
  rw [badS_add, restS_add, whole_iff, Bool.eq_iff_iff, decide_eq_true_eq]
  unfold whole
  simp only [Bool.false_or, Bool.and_eq_true, Bool.not_eq_true', decide_eq_true_eq]
theorem dcs_h32 (l : List Int) : H32 (dcs l) := hashS_h32 _ _
theorem dps_h32 (l : List Int) : H32 (dps l) := hashS_h32 _ _
theorem sCs_h32 (l : List Int) : H32 (sCs l) := by unfold sCs; split; exact dcs_h32 l; exact H32.nil
theorem sPs_h32 (l : List Int) : H32 (sPs l) := by unfold sPs; split; exact dps_h32 l; exact H32.nil
theorem sCs_len (l : List Int) : (sCs l).length ≤ 36 := by unfold sCs; split; exact Nat.le_of_eq (hashS_len _ _); exact Nat.zero_le _
theorem sPs_len (l : List Int) : (sPs l).length ≤ 36 := by unfold sPs; split; rw [dps, hashS_len]; decide; exact Nat.zero_le _
theorem rawRest_nil {r : List Int} (h : r = []) : rawRest r = [] := by rw [h]; rfl
theorem badS_rest {b : Bool} {r : List Int} (hb : b = true → r = []) : ∀ {n : Nat}, badS b r n = true → restS r n = []
  | 0, h => hb h
  | n + 1, h => by
    rw [badS, Bool.or_eq_true] at h
    rw [restS]
    rcases h with h | h
    · exact rawRest_nil (badS_rest hb h)
    · have := of_decide_eq_true h
      unfold rawRest
      rw [if_neg (by omega)]
end Go.Proofs.Yteedclmcgifmpaa.Kb

namespace Go.Proofs.Yteedclmcgifmpaa
open Go Go.RowKit Fw
open Sha
open Ots
open Mk
set_option linter.unusedVariables false
set_option linter.unusedSimpArgs false
set_option maxRecDepth 20000 in
set_option maxHeartbeats 1000000 in
theorem isSig_any (l : Int) (vc vp : Value) (cs ps : List (List Int)) (w : World) (hu : H32 cs) (hu' : H32 ps) (h : Rd w vc 32 (flat cs)) (h' : Rd w vp 32 (flat ps)) : Calls Try.prog 37 #[.agg (List.toArray [.int .i64 l, vc, vp])] w (PostV w (.bool (decide (Ky.isSig l cs ps)))) := by
  refine calls_at (vs := [.agg (List.toArray [.int .i64 l, vc, vp])]) (X := []) (H := []) (F := [(21, .sl vp 32 (flat (ps))), (20, .sl vc 32 (flat (cs)))]) 23 Try.func37 rfl rfl rfl ((Sat.rd0 20 h).more 21 h') ?_
  refine cd_seq ?_
  refine cd_region ?_
  refine st_box (h := 1) rfl rfl rfl rfl (fun b1 => ?_)
  refine st (ev_assign rfl) rfl rfl rfl ?_
  refine op_nil ?_
  refine ax_then ?_
  refine At.regs (L' := [(1, _), (2, _)]) (.cons rfl (.cons rfl (.nil _))) ?_
  refine cd_seq ?_
  refine cd_region ?_
  refine st (ev_fieldAddr (b := _) Try.underlying42 (f := _) rfl ty3 (by decide) rfl) rfl rfl rfl ?_
  refine st (ld_blk1 (h := 1) ty3 rfl rfl rfl rfl) rfl rfl rfl ?_
  refine st (ev_geq rfl rfl) rfl rfl rfl ?_
  refine st (ev_move rfl) rfl rfl rfl ?_
  refine at_split_if (i := 6) rfl (fun hg6 => ?_) (fun hg6 => ?_)
  ·
    refine st (ev_fieldAddr (b := _) Try.underlying42 (f := _) rfl ty3 (by decide) rfl) rfl rfl rfl ?_
    refine st (ld_blk1 (h := 1) ty3 rfl rfl rfl rfl) rfl rfl rfl ?_
    refine st (ev_lss rfl rfl) rfl rfl rfl ?_
    refine st (ev_pick_t rfl rfl) rfl rfl rfl ?_
    refine st (ev_move rfl) rfl rfl rfl ?_
    refine at_split_if (i := 11) rfl (fun hg11 => ?_) (fun hg11 => ?_)
    ·
      refine st (ev_fieldAddr (b := _) Try.underlying42 (f := _) rfl ty26 (by decide) rfl) rfl rfl rfl ?_
      refine st (ld_blk1 (h := 1) ty26 rfl rfl rfl rfl) rfl rfl rfl ?_
      refine st (ev_len_rdh (h := 20) Try.underlying26 rfl rfl (by assumption)) rfl rfl rfl ?_
      refine st (ev_eql rfl rfl) rfl rfl rfl ?_
      refine st (ev_pick_t rfl rfl) rfl rfl rfl ?_
      refine st (ev_move rfl) rfl rfl rfl ?_
      refine at_split_if (i := 17) rfl (fun hg17 => ?_) (fun hg17 => ?_)
      ·
        refine st (ev_fieldAddr (b := _) Try.underlying42 (f := _) rfl ty26 (by decide) rfl) rfl rfl rfl ?_
        refine st (ld_blk1 (h := 1) ty26 rfl rfl rfl rfl) rfl rfl rfl ?_
        refine st (ev_len_rdh (h := 21) Try.underlying26 rfl rfl (by assumption)) rfl rfl rfl ?_
        refine st (ev_eql rfl rfl) rfl rfl rfl ?_
        refine st (ev_pick_t rfl rfl) rfl rfl rfl ?_
        refine st (ev_assign rfl) rfl rfl rfl ?_
        refine op_nil ?_
        refine ax_then ?_
        refine At.regs (L' := [(2, _)]) (.cons rfl (.nil _)) ?_
        refine cd_ret ?_
        refine rt_tmp (.inl rfl) Try.results37 rfl ?_
        exact fun w1 sw => ⟨congrArg (fun b => Ending.returned (Value.bool b)) (by first | exact (decide_eq_false (fun hh => by obtain ⟨a1, a2, a3, a4⟩ := hh; omega)).symm | exact decide_eq_decide.2 ⟨fun h => ⟨by omega, by omega, by omega, by omega⟩, fun h => by obtain ⟨a1, a2, a3, a4⟩ := h; omega⟩), sw.gives (.nil _)⟩
      ·
        refine st_skip rfl rfl rfl ?_
        refine st_skip rfl rfl rfl ?_
        refine st_skip rfl rfl rfl ?_
        refine st_skip rfl rfl rfl ?_
        refine st (ev_pick_f rfl rfl) rfl rfl rfl ?_
        refine st (ev_assign rfl) rfl rfl rfl ?_
        refine op_nil ?_
        refine ax_then ?_
        refine At.regs (L' := [(2, _)]) (.cons rfl (.nil _)) ?_
        refine cd_ret ?_
        refine rt_tmp (.inl rfl) Try.results37 rfl ?_
        exact fun w1 sw => ⟨congrArg (fun b => Ending.returned (Value.bool b)) (by first | exact (decide_eq_false (fun hh => by obtain ⟨a1, a2, a3, a4⟩ := hh; omega)).symm | exact decide_eq_decide.2 ⟨fun h => ⟨by omega, by omega, by omega, by omega⟩, fun h => by obtain ⟨a1, a2, a3, a4⟩ := h; omega⟩), sw.gives (.nil _)⟩
    ·
      refine st_skip rfl rfl rfl ?_
      refine st_skip rfl rfl rfl ?_
      refine st_skip rfl rfl rfl ?_
      refine st_skip rfl rfl rfl ?_
      refine st (ev_pick_f rfl rfl) rfl rfl rfl ?_
      refine st (ev_move rfl) rfl rfl rfl ?_
      refine st_skip rfl rfl rfl ?_
      refine st_skip rfl rfl rfl ?_
      refine st_skip rfl rfl rfl ?_
      refine st_skip rfl rfl rfl ?_
      refine st (ev_pick_f rfl rfl) rfl rfl rfl ?_
      refine st (ev_assign rfl) rfl rfl rfl ?_
      refine op_nil ?_
      refine ax_then ?_
      refine At.regs (L' := [(2, _)]) (.cons rfl (.nil _)) ?_
      refine cd_ret ?_
      refine rt_tmp (.inl rfl) Try.results37 rfl ?_
      exact fun w1 sw => ⟨congrArg (fun b => Ending.returned (Value.bool b)) (by first | exact (decide_eq_false (fun hh => by obtain ⟨a1, a2, a3, a4⟩ := hh; omega)).symm | exact decide_eq_decide.2 ⟨fun h => ⟨by omega, by omega, by omega, by omega⟩, fun h => by obtain ⟨a1, a2, a3, a4⟩ := h; omega⟩), sw.gives (.nil _)⟩
  ·
    refine st_skip rfl rfl rfl ?_
    refine st_skip rfl rfl rfl ?_
    refine st_skip rfl rfl rfl ?_
    refine st (ev_pick_f rfl rfl) rfl rfl rfl ?_
    refine st (ev_move rfl) rfl rfl rfl ?_
    refine st_skip rfl rfl rfl ?_
    refine st_skip rfl rfl rfl ?_
    refine st_skip rfl rfl rfl ?_
    refine st_skip rfl rfl rfl ?_
    refine st (ev_pick_f rfl rfl) rfl rfl rfl ?_
    refine st (ev_move rfl) rfl rfl rfl ?_
    refine st_skip rfl rfl rfl ?_
    refine st_skip rfl rfl rfl ?_
    refine st_skip rfl rfl rfl ?_
    refine st_skip rfl rfl rfl ?_
    refine st (ev_pick_f rfl rfl) rfl rfl rfl ?_
    refine st (ev_assign rfl) rfl rfl rfl ?_
    refine op_nil ?_
    refine ax_then ?_
    refine At.regs (L' := [(2, _)]) (.cons rfl (.nil _)) ?_
    refine cd_ret ?_
    refine rt_tmp (.inl rfl) Try.results37 rfl ?_
    exact fun w1 sw => ⟨congrArg (fun b => Ending.returned (Value.bool b)) (by first | exact (decide_eq_false (fun hh => by obtain ⟨a1, a2, a3, a4⟩ := hh; omega)).symm | exact decide_eq_decide.2 ⟨fun h => ⟨by omega, by omega, by omega, by omega⟩, fun h => by obtain ⟨a1, a2, a3, a4⟩ := h; omega⟩), sw.gives (.nil _)⟩
set_option maxRecDepth 20000 in
set_option maxHeartbeats 1000000 in
theorem risSig_any (l : Int) (vc vp : Value) (cs ps : List (List Int)) (w : World) (hu : H32 cs) (hu' : H32 ps) (h : Rd w vc 32 (flat cs)) (h' : Rd w vp 32 (flat ps)) : Calls Try.prog 34 #[.agg (List.toArray [.int .i64 l, vc, vp])] w (PostV w (.bool (decide (Ky.isSig l cs ps)))) := by
  refine calls_at (vs := [.agg (List.toArray [.int .i64 l, vc, vp])]) (X := []) (H := []) (F := [(21, .sl vp 32 (flat (ps))), (20, .sl vc 32 (flat (cs)))]) 23 Try.func34 rfl rfl rfl ((Sat.rd0 20 h).more 21 h') ?_
  refine cd_seq ?_
  refine cd_region ?_
  refine st_box (h := 1) rfl rfl rfl rfl (fun b1 => ?_)
  refine st (ev_assign rfl) rfl rfl rfl ?_
  refine op_nil ?_
  refine ax_then ?_
  refine At.regs (L' := [(1, _), (2, _)]) (.cons rfl (.cons rfl (.nil _))) ?_
  refine cd_seq ?_
  refine cd_region ?_
  refine st (ev_fieldAddr (b := _) Try.underlying42 (f := _) rfl ty3 (by decide) rfl) rfl rfl rfl ?_
  refine st (ld_blk1 (h := 1) ty3 rfl rfl rfl rfl) rfl rfl rfl ?_
  refine st (ev_geq rfl rfl) rfl rfl rfl ?_
  refine st (ev_move rfl) rfl rfl rfl ?_
  refine at_split_if (i := 6) rfl (fun hg6 => ?_) (fun hg6 => ?_)
  ·
    refine st (ev_fieldAddr (b := _) Try.underlying42 (f := _) rfl ty3 (by decide) rfl) rfl rfl rfl ?_
    refine st (ld_blk1 (h := 1) ty3 rfl rfl rfl rfl) rfl rfl rfl ?_
    refine st (ev_lss rfl rfl) rfl rfl rfl ?_
    refine st (ev_pick_t rfl rfl) rfl rfl rfl ?_
    refine st (ev_move rfl) rfl rfl rfl ?_
    refine at_split_if (i := 11) rfl (fun hg11 => ?_) (fun hg11 => ?_)
    ·
      refine st (ev_fieldAddr (b := _) Try.underlying42 (f := _) rfl ty26 (by decide) rfl) rfl rfl rfl ?_
      refine st (ld_blk1 (h := 1) ty26 rfl rfl rfl rfl) rfl rfl rfl ?_
      refine st (ev_len_rdh (h := 20) Try.underlying26 rfl rfl (by assumption)) rfl rfl rfl ?_
      refine st (ev_eql rfl rfl) rfl rfl rfl ?_
      refine st (ev_pick_t rfl rfl) rfl rfl rfl ?_
      refine st (ev_move rfl) rfl rfl rfl ?_
      refine at_split_if (i := 17) rfl (fun hg17 => ?_) (fun hg17 => ?_)
      ·
        refine st (ev_fieldAddr (b := _) Try.underlying42 (f := _) rfl ty26 (by decide) rfl) rfl rfl rfl ?_
        refine st (ld_blk1 (h := 1) ty26 rfl rfl rfl rfl) rfl rfl rfl ?_
        refine st (ev_len_rdh (h := 21) Try.underlying26 rfl rfl (by assumption)) rfl rfl rfl ?_
        refine st (ev_eql rfl rfl) rfl rfl rfl ?_
        refine st (ev_pick_t rfl rfl) rfl rfl rfl ?_
        refine st (ev_assign rfl) rfl rfl rfl ?_
        refine op_nil ?_
        refine ax_then ?_
        refine At.regs (L' := [(2, _)]) (.cons rfl (.nil _)) ?_
        refine cd_ret ?_
        refine rt_tmp (.inl rfl) Try.results34 rfl ?_
        exact fun w1 sw => ⟨congrArg (fun b => Ending.returned (Value.bool b)) (by first | exact (decide_eq_false (fun hh => by obtain ⟨a1, a2, a3, a4⟩ := hh; omega)).symm | exact decide_eq_decide.2 ⟨fun h => ⟨by omega, by omega, by omega, by omega⟩, fun h => by obtain ⟨a1, a2, a3, a4⟩ := h; omega⟩), sw.gives (.nil _)⟩
      ·
        refine st_skip rfl rfl rfl ?_
        refine st_skip rfl rfl rfl ?_
        refine st_skip rfl rfl rfl ?_
        refine st_skip rfl rfl rfl ?_
        refine st (ev_pick_f rfl rfl) rfl rfl rfl ?_
        refine st (ev_assign rfl) rfl rfl rfl ?_
        refine op_nil ?_
        refine ax_then ?_
        refine At.regs (L' := [(2, _)]) (.cons rfl (.nil _)) ?_
        refine cd_ret ?_
        refine rt_tmp (.inl rfl) Try.results34 rfl ?_
        exact fun w1 sw => ⟨congrArg (fun b => Ending.returned (Value.bool b)) (by first | exact (decide_eq_false (fun hh => by obtain ⟨a1, a2, a3, a4⟩ := hh; omega)).symm | exact decide_eq_decide.2 ⟨fun h => ⟨by omega, by omega, by omega, by omega⟩, fun h => by obtain ⟨a1, a2, a3, a4⟩ := h; omega⟩), sw.gives (.nil _)⟩
    ·
      refine st_skip rfl rfl rfl ?_
      refine st_skip rfl rfl rfl ?_
      refine st_skip rfl rfl rfl ?_
      refine st_skip rfl rfl rfl ?_
      refine st (ev_pick_f rfl rfl) rfl rfl rfl ?_
      refine st (ev_move rfl) rfl rfl rfl ?_
      refine st_skip rfl rfl rfl ?_
      refine st_skip rfl rfl rfl ?_
      refine st_skip rfl rfl rfl ?_
      refine st_skip rfl rfl rfl ?_
      refine st (ev_pick_f rfl rfl) rfl rfl rfl ?_
      refine st (ev_assign rfl) rfl rfl rfl ?_
      refine op_nil ?_
      refine ax_then ?_
      refine At.regs (L' := [(2, _)]) (.cons rfl (.nil _)) ?_
      refine cd_ret ?_
      refine rt_tmp (.inl rfl) Try.results34 rfl ?_
      exact fun w1 sw => ⟨congrArg (fun b => Ending.returned (Value.bool b)) (by first | exact (decide_eq_false (fun hh => by obtain ⟨a1, a2, a3, a4⟩ := hh; omega)).symm | exact decide_eq_decide.2 ⟨fun h => ⟨by omega, by omega, by omega, by omega⟩, fun h => by obtain ⟨a1, a2, a3, a4⟩ := h; omega⟩), sw.gives (.nil _)⟩
  ·
    refine st_skip rfl rfl rfl ?_
    refine st_skip rfl rfl rfl ?_
    refine st_skip rfl rfl rfl ?_
    refine st (ev_pick_f rfl rfl) rfl rfl rfl ?_
    refine st (ev_move rfl) rfl rfl rfl ?_
    refine st_skip rfl rfl rfl ?_
    refine st_skip rfl rfl rfl ?_
    refine st_skip rfl rfl rfl ?_
    refine st_skip rfl rfl rfl ?_
    refine st (ev_pick_f rfl rfl) rfl rfl rfl ?_
    refine st (ev_move rfl) rfl rfl rfl ?_
    refine st_skip rfl rfl rfl ?_
    refine st_skip rfl rfl rfl ?_
    refine st_skip rfl rfl rfl ?_
    refine st_skip rfl rfl rfl ?_
    refine st (ev_pick_f rfl rfl) rfl rfl rfl ?_
    refine st (ev_assign rfl) rfl rfl rfl ?_
    refine op_nil ?_
    refine ax_then ?_
    refine At.regs (L' := [(2, _)]) (.cons rfl (.nil _)) ?_
    refine cd_ret ?_
    refine rt_tmp (.inl rfl) Try.results34 rfl ?_
    exact fun w1 sw => ⟨congrArg (fun b => Ending.returned (Value.bool b)) (by first | exact (decide_eq_false (fun hh => by obtain ⟨a1, a2, a3, a4⟩ := hh; omega)).symm | exact decide_eq_decide.2 ⟨fun h => ⟨by omega, by omega, by omega, by omega⟩, fun h => by obtain ⟨a1, a2, a3, a4⟩ := h; omega⟩), sw.gives (.nil _)⟩
set_option maxRecDepth 20000 in
set_option maxHeartbeats 1000000 in
theorem rsame5_any (l l2 : Int) (vc vp vc2 vp2 : Value) (cs ps cs2 ps2 : List (List Int)) (w : World) (hu : H32 cs) (hu' : H32 ps) (hu2 : H32 cs2) (hu2' : H32 ps2) (n1 : cs.length ≤ 140737488352000) (n2 : ps.length ≤ 140737488352000) (n3 : cs2.length ≤ 140737488352000) (n4 : ps2.length ≤ 140737488352000) (h : Rd w vc 32 (flat cs)) (h' : Rd w vp 32 (flat ps)) (h2 : Rd w vc2 32 (flat cs2)) (h2' : Rd w vp2 32 (flat ps2)) : Calls Try.prog 31 #[.agg (List.toArray [.int .i64 l, vc, vp]), .agg (List.toArray [.int .i64 l2, vc2, vp2])] w (PostV w (.bool (decide (l = l2 ∧ cs = cs2 ∧ ps = ps2)))) := by
  refine calls_at (vs := [.agg (List.toArray [.int .i64 l, vc, vp]), .agg (List.toArray [.int .i64 l2, vc2, vp2])]) (X := []) (H := []) (F := [(23, .sl vp2 32 (flat (ps2))), (22, .sl vc2 32 (flat (cs2))), (21, .sl vp 32 (flat (ps))), (20, .sl vc 32 (flat (cs)))]) 24 Try.func31 rfl rfl rfl ((((Sat.rd0 20 h).more 21 h').more 22 h2).more 23 h2') ?_
  refine cd_seq ?_
  refine cd_region ?_
  refine st_box (h := 2) rfl rfl rfl rfl (fun b2 => ?_)
  refine st_box (h := 3) rfl rfl rfl rfl (fun b3 => ?_)
  refine st (ev_assign rfl) rfl rfl rfl ?_
  refine op_nil ?_
  refine ax_then ?_
  refine At.regs (L' := [(2, _), (3, _), (4, _)]) (.cons rfl (.cons rfl (.cons rfl (.nil _)))) ?_
  refine cd_seq ?_
  refine cd_region ?_
  refine st (ev_fieldAddr (b := _) Try.underlying42 (f := _) rfl ty3 (by decide) rfl) rfl rfl rfl ?_
  refine st (ld_blk1 (h := 2) ty3 rfl rfl rfl rfl) rfl rfl rfl ?_
  refine st (ev_fieldAddr (b := _) Try.underlying42 (f := _) rfl ty3 (by decide) rfl) rfl rfl rfl ?_
  refine st (ld_blk1 (h := 3) ty3 rfl rfl rfl rfl) rfl rfl rfl ?_
  refine st (ev_eql rfl rfl) rfl rfl rfl ?_
  refine st (ev_move rfl) rfl rfl rfl ?_
  refine at_split_if (i := 10) rfl (fun hg10 => ?_) (fun hg10 => ?_)
  ·
    refine st (ev_fieldAddr (b := _) Try.underlying42 (f := _) rfl ty26 (by decide) rfl) rfl rfl rfl ?_
    refine st (ld_blk1 (h := 2) ty26 rfl rfl rfl rfl) rfl rfl rfl ?_
    refine st (ev_fieldAddr (b := _) Try.underlying42 (f := _) rfl ty26 (by decide) rfl) rfl rfl rfl ?_
    refine st (ld_blk1 (h := 3) ty26 rfl rfl rfl rfl) rfl rfl rfl ?_
    refine st_callv has16 rfl (fun w1 sw => hashes_any vc vc2 cs cs2 w1 hu hu2 n1 n3 (sw.sl_rd (h := 20) rfl) (sw.sl_rd (h := 22) rfl)) rfl rfl ?_
    refine st (ev_pick_t rfl rfl) rfl rfl rfl ?_
    refine st (ev_move rfl) rfl rfl rfl ?_
    refine at_split_if (i := 17) rfl (fun hg17 => ?_) (fun hg17 => ?_)
    ·
      refine st (ev_fieldAddr (b := _) Try.underlying42 (f := _) rfl ty26 (by decide) rfl) rfl rfl rfl ?_
      refine st (ld_blk1 (h := 2) ty26 rfl rfl rfl rfl) rfl rfl rfl ?_
      refine st (ev_fieldAddr (b := _) Try.underlying42 (f := _) rfl ty26 (by decide) rfl) rfl rfl rfl ?_
      refine st (ld_blk1 (h := 3) ty26 rfl rfl rfl rfl) rfl rfl rfl ?_
      refine st_callv has16 rfl (fun w1 sw => hashes_any vp vp2 ps ps2 w1 hu' hu2' n2 n4 (sw.sl_rd (h := 21) rfl) (sw.sl_rd (h := 23) rfl)) rfl rfl ?_
      refine st (ev_pick_t rfl rfl) rfl rfl rfl ?_
      refine st (ev_assign rfl) rfl rfl rfl ?_
      refine op_nil ?_
      refine ax_then ?_
      refine At.regs (L' := [(4, _)]) (.cons rfl (.nil _)) ?_
      refine cd_ret ?_
      refine rt_tmp (.inl rfl) Try.results31 rfl ?_
      exact fun w1 sw => ⟨congrArg (fun b => Ending.returned (Value.bool b)) (by first | exact (decide_eq_false (fun hh => by obtain ⟨a1, a2, a3⟩ := hh; first | exact hg10 a1 | exact hg17 a2)).symm | exact decide_eq_decide.2 ⟨fun h => ⟨hg10, hg17, h⟩, fun h => h.2.2⟩), sw.gives (.nil _)⟩
    ·
      refine st_skip rfl rfl rfl ?_
      refine st_skip rfl rfl rfl ?_
      refine st_skip rfl rfl rfl ?_
      refine st_skip rfl rfl rfl ?_
      refine st_skip rfl rfl rfl ?_
      refine st (ev_pick_f rfl rfl) rfl rfl rfl ?_
      refine st (ev_assign rfl) rfl rfl rfl ?_
      refine op_nil ?_
      refine ax_then ?_
      refine At.regs (L' := [(4, _)]) (.cons rfl (.nil _)) ?_
      refine cd_ret ?_
      refine rt_tmp (.inl rfl) Try.results31 rfl ?_
      exact fun w1 sw => ⟨congrArg (fun b => Ending.returned (Value.bool b)) (by first | exact (decide_eq_false (fun hh => by obtain ⟨a1, a2, a3⟩ := hh; first | exact hg10 a1 | exact hg17 a2)).symm | exact decide_eq_decide.2 ⟨fun h => ⟨hg10, hg17, h⟩, fun h => h.2.2⟩), sw.gives (.nil _)⟩
  ·
    refine st_skip rfl rfl rfl ?_
    refine st_skip rfl rfl rfl ?_
    refine st_skip rfl rfl rfl ?_
    refine st_skip rfl rfl rfl ?_
    refine st_skip rfl rfl rfl ?_
    refine st (ev_pick_f rfl rfl) rfl rfl rfl ?_
    refine st (ev_move rfl) rfl rfl rfl ?_
    refine st_skip rfl rfl rfl ?_
    refine st_skip rfl rfl rfl ?_
    refine st_skip rfl rfl rfl ?_
    refine st_skip rfl rfl rfl ?_
    refine st_skip rfl rfl rfl ?_
    refine st (ev_pick_f rfl rfl) rfl rfl rfl ?_
    refine st (ev_assign rfl) rfl rfl rfl ?_
    refine op_nil ?_
    refine ax_then ?_
    refine At.regs (L' := [(4, _)]) (.cons rfl (.nil _)) ?_
    refine cd_ret ?_
    refine rt_tmp (.inl rfl) Try.results31 rfl ?_
    exact fun w1 sw => ⟨congrArg (fun b => Ending.returned (Value.bool b)) (by first | exact (decide_eq_false (fun hh => by obtain ⟨a1, a2, a3⟩ := hh; first | exact hg10 a1 | exact hg17 a2)).symm | exact decide_eq_decide.2 ⟨fun h => ⟨hg10, hg17, h⟩, fun h => h.2.2⟩), sw.gives (.nil _)⟩
end Go.Proofs.Yteedclmcgifmpaa

namespace Go.Proofs.Yteedclmcgifmpaa
open Go Go.RowKit Fw
open Sha
open Ots
open Mk
set_option linter.unusedVariables false
set_option linter.unusedSimpArgs false
set_option maxRecDepth 20000 in
set_option maxHeartbeats 2000000 in
theorem new_any (s : List Int) (u : Int) (w : World) (hl : s.length = 32) : Calls Try.prog 26 #[.agg (ints .u8 (s)).toArray, .int .i64 u] w (Post (ι := Nat × Value) w [] (fun _ => True) (fun x => .pointer (some ⟨x.1, 0, none⟩)) (fun x => [(0, .blk (x.1) (.cells (Ky.cells s x.2 (Ky.clamp u)).toArray 81)), (1, .own (x.2) 39 32 (flat (Ky.leaves s 16)))])) := by
  refine calls_at (vs := [.agg (ints .u8 (s)).toArray, .int .i64 u]) (X := []) (H := []) (F := []) 30 Try.func26 rfl rfl rfl (Sat.start0 w) ?_
  refine cd_seq ?_
  refine cd_region ?_
  refine st_box (h := 2) rfl rfl rfl rfl (fun b2 => ?_)
  refine st (ev_assign rfl) rfl rfl rfl ?_
  refine op_nil ?_
  refine ax_then ?_
  refine At.regs (L' := [(1, _), (2, _), (4, _)]) (.cons rfl (.cons rfl (.cons rfl (.nil _)))) ?_
  refine cd_seq ?_
  refine cd_region ?_
  refine st (ld_blk_all (h := 2) ty39 rfl rfl rfl (by first | omega | (simp only [List.length_append, List.length_cons, List.length_nil, List.length_set, List.length_replicate, List.length_take, List.length_drop, ints_length, wr_length, sha_len, node_len, recov_len, Ky.named_len, Ky.keyPub_len] <;> omega) | rfl)) rfl rfl rfl ?_
  refine st (ev_move rfl) rfl rfl rfl ?_
  refine st (ev_max2 rfl rfl) rfl rfl rfl ?_
  refine st (ev_min2 rfl rfl) rfl rfl rfl ?_
  refine at_eq (i := 10) (v' := .int .i64 (Ky.clamp u)) rfl rfl ?_
  refine st (ev_build_struct ty81 rfl pl81 rfl ((fill_put (i := 0) (off := 0) (n := 32) (vs := ints .u8 s) rfl rfl (by rw [ints_length, hl]) (Nat.le_of_ble_eq_true rfl)).trans ((fill_put (i := 2) (off := 33) (n := 1) (vs := [.int .i64 (Ky.clamp u)]) rfl rfl rfl (by rw [wr_length (by rw [ints_length, hl]; exact Nat.le_of_ble_eq_true rfl)]; exact Nat.le_of_ble_eq_true rfl)).trans fill_nil))) rfl rfl rfl ?_
  refine at_eq (i := 11) (v' := .agg (Ky.cells s (.slice none 0 0) (Ky.clamp u)).toArray) rfl (congrArg (fun x => Value.agg (List.toArray x)) (Ky.key_new hl _)) ?_
  refine st_box (h := 12) rfl rfl rfl rfl (fun b12 => ?_)
  refine st (ev_assign rfl) rfl rfl rfl ?_
  refine op_nil ?_
  refine ax_then ?_
  refine At.regs (L' := [(2, _), (4, _), (5, _)]) (.cons rfl (.cons rfl (.cons rfl (.nil _)))) ?_
  refine cd_seq ?_
  refine cd_seq ?_
  refine cd_region ?_
  refine st (ev_move rfl) rfl rfl rfl ?_
  refine op_nil ?_
  refine ax_then ?_
  refine At.regs (L' := [(2, _), (4, _), (5, _), (13, _)]) (.cons rfl (.cons rfl (.cons rfl (.cons rfl (.nil _))))) ?_
  refine cd_block ?_
  refine at_freeze_blk (h := 2) (H' := [(12, _)]) 2 rfl (.cons rfl (.nil _)) rfl ?_
  refine at_own_nil 20 39 32 ?_
  refine at_heq (i := 20) (v' := .own (.slice none 0 0) 39 32 (flat (Ky.leaves s 0))) rfl rfl ?_
  refine cd_loop (ι := Nat × Value) (fun x => x.1 ≤ 16) (fun x => 16 - x.1)
      (fun x => [(2, .pointer (some ⟨b2, 0, none⟩)), (5, .pointer (some ⟨b12, 0, none⟩)), (13, .int .i64 (x.1 : Int))])
      (fun x => [(12, .blk (b12) (.cells (Ky.cells s x.2 (Ky.clamp u)).toArray 81)), (20, .own (x.2) 39 32 (flat (Ky.leaves s x.1)))])
      (fun x => [(2, .mem b2 0 (ints .u8 s))])
      (0, .slice none 0 0) (by omega) (.cons rfl (.cons rfl (.cons rfl (.nil _)))) (.cons rfl (.cons rfl (.nil _))) (.cons rfl (.nil _)) (fun x hi => ?_)
  have hlu := Ky.leaves_h32 s x.1
  have hln := Ky.leaves_len s x.1
  have hpl : (pub s x.1).length = 32 := sha_len _
  refine cd_seq ?_
  refine cd_region ?_
  refine st (ev_lss rfl rfl) rfl rfl rfl ?_
  refine op_nil ?_
  refine ax_then ?_
  refine At.regs (L' := [(2, _), (5, _), (13, _), (14, _)]) (.cons rfl (.cons rfl (.cons rfl (.cons rfl (.nil _))))) ?_
  refine cd_seq ?_
  refine cd_if rfl (fun hc14 => ?_) (fun hc14 => ?_)
  ·
    refine cd_skip ?_
    refine ax_then ?_
    refine At.regs (L' := [(2, _), (5, _), (13, _), (14, _)]) (.cons rfl (.cons rfl (.cons rfl (.cons rfl (.nil _))))) ?_
    refine cd_seq ?_
    refine cd_block ?_
    refine cd_seq ?_
    refine cd_region ?_
    refine st (ev_move rfl) rfl rfl rfl ?_
    refine st (ev_assign rfl) rfl rfl rfl ?_
    refine op_nil ?_
    refine ax_then ?_
    refine At.regs (L' := [(2, _), (5, _), (6, _), (13, _), (14, _), (15, _)]) (.cons rfl (.cons rfl (.cons rfl (.cons rfl (.cons rfl (.cons rfl (.nil _))))))) ?_
    refine cd_mix hmix ?_
    refine mx (i := 0) rfl (by decide +kernel) (by decide +kernel) (by decide +kernel) rfl (fun w0 => ev_move rfl) rfl rfl (Sub.refl _) ?_
    refine mx (i := 1) rfl (by decide +kernel) (by decide +kernel) (by decide +kernel) rfl (fun w0 => ev_move rfl) rfl rfl (Sub.refl _) ?_
    refine mx (i := 2) rfl (by decide +kernel) (by decide +kernel) (by decide +kernel) rfl (fun w0 => ev_nilCheck rfl) rfl rfl (Sub.refl _) ?_
    refine mx (i := 3) rfl (by decide +kernel) (by decide +kernel) (by decide +kernel) rfl (fun w0 => ev_fieldAddr (b := _) Try.underlying81 (f := _) rfl ty26 (by decide) rfl) rfl rfl (Sub.refl _) ?_
    refine mx (i := 5) rfl (by decide +kernel) (by decide +kernel) (by decide +kernel) rfl (fun w0 => ld_mem_all (h := 2) ty39 rfl rfl rfl (by first | omega | (simp only [List.length_append, List.length_cons, List.length_nil, List.length_set, List.length_replicate, List.length_take, List.length_drop, ints_length, wr_length, sha_len, node_len, recov_len, Ky.named_len, Ky.keyPub_len] <;> omega) | rfl)) rfl rfl (Sub.refl _) ?_
    refine mx (i := 6) rfl (by decide +kernel) (by decide +kernel) (by decide +kernel) rfl (fun w0 => ev_move rfl) rfl rfl (Sub.refl _) ?_
    refine mx_two (i := 4) (j := 7) (by decide +kernel) (Sub.refl _) ?_ ?_
    ·
      refine wo (i := 4) rfl ?_
      refine st (ld_blk1 (h := 12) ty26 rfl rfl rfl (Ky.cells_32 hl _ _)) rfl rfl rfl ?_
      refine op_nil ?_
      refine ax_then ?_
      refine mx_one (i := 7) (by decide +kernel) (Sub.refl _) ?_
      refine wo (i := 7) rfl ?_
      refine st_callv has46 rfl (fun w1 sw => public_any s x.1 w1 hl) rfl rfl ?_
      refine op_nil ?_
      refine ax_then ?_
      refine mx_one (i := 8) (by decide +kernel) (Sub.refl _) ?_
      refine wo (i := 8) rfl ?_
      refine st_bsh1 (h := 24) Try.underlying26 ty39 rfl (by first | assumption | omega) rfl rfl (fun b24 hu24 => ?_)
      refine op_nil ?_
      refine ax_then ?_
      refine mx_one (i := 9) (by decide +kernel) (Sub.refl _) ?_
      refine wo (i := 9) rfl ?_
      refine st_appendh (h := 20) Try.underlying26 Try.underlying26 ty39 rfl rfl rfl rfl (fun w1 sw => sw.own_rd (h := 24) rfl) (by assumption) (by assumption) (by first | omega | (simp only [List.length_append, List.length_cons, List.length_nil, List.length_set, List.length_replicate, List.length_take, List.length_drop, ints_length, wr_length, sha_len, node_len, recov_len, Ky.named_len, Ky.keyPub_len] <;> omega)) (by decide) rfl rfl (fun v25 hu25 => ?_)
      refine at_own_shape (h := 20) rfl (fun hs25 => ?_)
      refine op_nil ?_
      refine ax_then ?_
      refine mx (i := 10) rfl (by decide +kernel) (by decide +kernel) (by decide +kernel) rfl (fun w0 => ev_nilCheck rfl) rfl rfl (Sub.refl _) ?_
      refine mx (i := 11) rfl (by decide +kernel) (by decide +kernel) (by decide +kernel) rfl (fun w0 => ev_fieldAddr (b := _) Try.underlying81 (f := _) rfl ty26 (by decide) rfl) rfl rfl (Sub.refl _) ?_
      refine mx_one (i := 12) (by decide +kernel) (Sub.refl _) ?_
      refine wo (i := 12) rfl ?_
      refine st_store1 12 ty26 rfl rfl rfl hs25.2 (by rw [Ky.cells_len hl]; decide) rfl ?_
      refine at_heq (i := 12) (v' := .blk (b12) (.cells (Ky.cells s v25 (Ky.clamp u)).toArray 81)) rfl (congrArg (fun l : List Value => Ent.blk b12 (.cells l.toArray 81)) (Ky.cells_set32 hl _ _ _)) ?_
      refine op_nil ?_
      refine ax_then ?_
      refine mx_done (by decide +kernel) (Sub.refl _) ?_
      refine ax_block ?_
      refine ax_then ?_
      refine At.regs (L' := [(2, _), (5, _), (6, _), (13, _), (14, _), (15, _), (16, _), (17, _), (18, _), (19, _), (20, _), (21, _), (22, _), (23, _), (24, _), (25, _), (26, _), (27, _)]) (.cons rfl (.cons rfl (.cons rfl (.cons rfl (.cons rfl (.cons rfl (.cons rfl (.cons rfl (.cons rfl (.cons rfl (.cons rfl (.cons rfl (.cons rfl (.cons rfl (.cons rfl (.cons rfl (.cons rfl (.cons rfl (.nil _))))))))))))))))))) ?_
      refine cd_region ?_
      refine st (ev_add64 rfl rfl (by omega) (by omega)) rfl rfl rfl ?_
      refine st (ev_move rfl) rfl rfl rfl ?_
      refine op_nil ?_
      refine ax_heq (i := 20) (v' := .own (v25) 39 32 (flat (Ky.leaves s (x.1 + 1)))) rfl (by rw [Ky.leaves_snoc]) ?_
      exact at_again ((x.1 + 1, v25)) (by show x.1 + 1 ≤ 16; omega) (by omega) (.cons rfl (.cons rfl (.cons rfl (.nil _)))) (.cons rfl (.cons rfl (.nil _))) (.cons rfl (.nil _))
    ·
      refine wo (i := 7) rfl ?_
      refine st_callv has46 rfl (fun w1 sw => public_any s x.1 w1 hl) rfl rfl ?_
      refine op_nil ?_
      refine ax_then ?_
      refine mx_two (i := 4) (j := 8) (by decide +kernel) (Sub.refl _) ?_ ?_
      ·
        refine wo (i := 4) rfl ?_
        refine st (ld_blk1 (h := 12) ty26 rfl rfl rfl (Ky.cells_32 hl _ _)) rfl rfl rfl ?_
        refine op_nil ?_
        refine ax_then ?_
        refine mx_one (i := 8) (by decide +kernel) (Sub.refl _) ?_
        refine wo (i := 8) rfl ?_
        refine st_bsh1 (h := 24) Try.underlying26 ty39 rfl (by first | assumption | omega) rfl rfl (fun b24 hu24 => ?_)
        refine op_nil ?_
        refine ax_then ?_
        refine mx_one (i := 9) (by decide +kernel) (Sub.refl _) ?_
        refine wo (i := 9) rfl ?_
        refine st_appendh (h := 20) Try.underlying26 Try.underlying26 ty39 rfl rfl rfl rfl (fun w1 sw => sw.own_rd (h := 24) rfl) (by assumption) (by assumption) (by first | omega | (simp only [List.length_append, List.length_cons, List.length_nil, List.length_set, List.length_replicate, List.length_take, List.length_drop, ints_length, wr_length, sha_len, node_len, recov_len, Ky.named_len, Ky.keyPub_len] <;> omega)) (by decide) rfl rfl (fun v25 hu25 => ?_)
        refine at_own_shape (h := 20) rfl (fun hs25 => ?_)
        refine op_nil ?_
        refine ax_then ?_
        refine mx (i := 10) rfl (by decide +kernel) (by decide +kernel) (by decide +kernel) rfl (fun w0 => ev_nilCheck rfl) rfl rfl (Sub.refl _) ?_
        refine mx (i := 11) rfl (by decide +kernel) (by decide +kernel) (by decide +kernel) rfl (fun w0 => ev_fieldAddr (b := _) Try.underlying81 (f := _) rfl ty26 (by decide) rfl) rfl rfl (Sub.refl _) ?_
        refine mx_one (i := 12) (by decide +kernel) (Sub.refl _) ?_
        refine wo (i := 12) rfl ?_
        refine st_store1 12 ty26 rfl rfl rfl hs25.2 (by rw [Ky.cells_len hl]; decide) rfl ?_
        refine at_heq (i := 12) (v' := .blk (b12) (.cells (Ky.cells s v25 (Ky.clamp u)).toArray 81)) rfl (congrArg (fun l : List Value => Ent.blk b12 (.cells l.toArray 81)) (Ky.cells_set32 hl _ _ _)) ?_
        refine op_nil ?_
        refine ax_then ?_
        refine mx_done (by decide +kernel) (Sub.refl _) ?_
        refine ax_block ?_
        refine ax_then ?_
        refine At.regs (L' := [(2, _), (5, _), (6, _), (13, _), (14, _), (15, _), (16, _), (17, _), (18, _), (19, _), (20, _), (21, _), (22, _), (23, _), (24, _), (25, _), (26, _), (27, _)]) (.cons rfl (.cons rfl (.cons rfl (.cons rfl (.cons rfl (.cons rfl (.cons rfl (.cons rfl (.cons rfl (.cons rfl (.cons rfl (.cons rfl (.cons rfl (.cons rfl (.cons rfl (.cons rfl (.cons rfl (.cons rfl (.nil _))))))))))))))))))) ?_
        refine cd_region ?_
        refine st (ev_add64 rfl rfl (by omega) (by omega)) rfl rfl rfl ?_
        refine st (ev_move rfl) rfl rfl rfl ?_
        refine op_nil ?_
        refine ax_heq (i := 20) (v' := .own (v25) 39 32 (flat (Ky.leaves s (x.1 + 1)))) rfl (by rw [Ky.leaves_snoc]) ?_
        exact at_again ((x.1 + 1, v25)) (by show x.1 + 1 ≤ 16; omega) (by omega) (.cons rfl (.cons rfl (.cons rfl (.nil _)))) (.cons rfl (.cons rfl (.nil _))) (.cons rfl (.nil _))
      ·
        refine wo (i := 8) rfl ?_
        refine st_bsh1 (h := 24) Try.underlying26 ty39 rfl (by first | assumption | omega) rfl rfl (fun b24 hu24 => ?_)
        refine op_nil ?_
        refine ax_then ?_
        refine mx_one (i := 4) (by decide +kernel) (Sub.refl _) ?_
        refine wo (i := 4) rfl ?_
        refine st (ld_blk1 (h := 12) ty26 rfl rfl rfl (Ky.cells_32 hl _ _)) rfl rfl rfl ?_
        refine op_nil ?_
        refine ax_then ?_
        refine mx_one (i := 9) (by decide +kernel) (Sub.refl _) ?_
        refine wo (i := 9) rfl ?_
        refine st_appendh (h := 20) Try.underlying26 Try.underlying26 ty39 rfl rfl rfl rfl (fun w1 sw => sw.own_rd (h := 24) rfl) (by assumption) (by assumption) (by first | omega | (simp only [List.length_append, List.length_cons, List.length_nil, List.length_set, List.length_replicate, List.length_take, List.length_drop, ints_length, wr_length, sha_len, node_len, recov_len, Ky.named_len, Ky.keyPub_len] <;> omega)) (by decide) rfl rfl (fun v25 hu25 => ?_)
        refine at_own_shape (h := 20) rfl (fun hs25 => ?_)
        refine op_nil ?_
        refine ax_then ?_
        refine mx (i := 10) rfl (by decide +kernel) (by decide +kernel) (by decide +kernel) rfl (fun w0 => ev_nilCheck rfl) rfl rfl (Sub.refl _) ?_
        refine mx (i := 11) rfl (by decide +kernel) (by decide +kernel) (by decide +kernel) rfl (fun w0 => ev_fieldAddr (b := _) Try.underlying81 (f := _) rfl ty26 (by decide) rfl) rfl rfl (Sub.refl _) ?_
        refine mx_one (i := 12) (by decide +kernel) (Sub.refl _) ?_
        refine wo (i := 12) rfl ?_
        refine st_store1 12 ty26 rfl rfl rfl hs25.2 (by rw [Ky.cells_len hl]; decide) rfl ?_
        refine at_heq (i := 12) (v' := .blk (b12) (.cells (Ky.cells s v25 (Ky.clamp u)).toArray 81)) rfl (congrArg (fun l : List Value => Ent.blk b12 (.cells l.toArray 81)) (Ky.cells_set32 hl _ _ _)) ?_
        refine op_nil ?_
        refine ax_then ?_
        refine mx_done (by decide +kernel) (Sub.refl _) ?_
        refine ax_block ?_
        refine ax_then ?_
        refine At.regs (L' := [(2, _), (5, _), (6, _), (13, _), (14, _), (15, _), (16, _), (17, _), (18, _), (19, _), (20, _), (21, _), (22, _), (23, _), (24, _), (25, _), (26, _), (27, _)]) (.cons rfl (.cons rfl (.cons rfl (.cons rfl (.cons rfl (.cons rfl (.cons rfl (.cons rfl (.cons rfl (.cons rfl (.cons rfl (.cons rfl (.cons rfl (.cons rfl (.cons rfl (.cons rfl (.cons rfl (.cons rfl (.nil _))))))))))))))))))) ?_
        refine cd_region ?_
        refine st (ev_add64 rfl rfl (by omega) (by omega)) rfl rfl rfl ?_
        refine st (ev_move rfl) rfl rfl rfl ?_
        refine op_nil ?_
        refine ax_heq (i := 20) (v' := .own (v25) 39 32 (flat (Ky.leaves s (x.1 + 1)))) rfl (by rw [Ky.leaves_snoc]) ?_
        exact at_again ((x.1 + 1, v25)) (by show x.1 + 1 ≤ 16; omega) (by omega) (.cons rfl (.cons rfl (.cons rfl (.nil _)))) (.cons rfl (.cons rfl (.nil _))) (.cons rfl (.nil _))
  ·
    obtain ⟨j, v⟩ := x
    dsimp only at hi hc14 ⊢
    obtain rfl : j = 16 := by omega
    refine cd_exit ?_
    refine ax_then_exit ?_
    refine ax_then_exit ?_
    refine ax_block_hit ?_
    refine ax_then ?_
    refine At.regs (L' := [(5, _)]) (.cons rfl (.nil _)) ?_
    refine cd_seq ?_
    refine cd_region ?_
    refine st (ev_move rfl) rfl rfl rfl ?_
    refine st (ev_assign rfl) rfl rfl rfl ?_
    refine op_nil ?_
    refine ax_then ?_
    refine At.regs (L' := [(4, _)]) (.cons rfl (.nil _)) ?_
    refine cd_ret ?_
    refine rt_tmp (.inl rfl) Try.results26 rfl ?_
    exact fun w1 sw => ⟨(b12, v), trivial, rfl, (sw.gives (N := [(12, _), (20, _)]) (.cons rfl (.cons rfl (.nil _)))).rn2 (by decide) 0 1⟩
set_option maxRecDepth 20000 in
set_option maxHeartbeats 1000000 in
theorem used_any (b : Nat) (v : Value) (s : List Int) (n : Nat) (w : World) (hl : s.length = 32) (h : Lies w b 0 (Ky.cells s v (n : Int))) (h' : Rd w v 32 (flat (Ky.leaves s 16))) : Calls Try.prog 32 #[.pointer (some ⟨b, 0, none⟩)] w (PostV w (.int .i64 (n : Int))) := by
  refine calls_at (vs := [.pointer (some ⟨b, 0, none⟩)]) (X := []) (H := []) (F := [(21, .mem b 0 (Ky.cells s v (n : Int))), (20, .sl (v) 32 (flat (Ky.leaves s 16)))]) 9 Try.func32 rfl rfl rfl ((Sat.rd0 20 h').read 21 h off_nil) ?_
  refine cd_seq ?_
  refine cd_region ?_
  refine st (ev_assign rfl) rfl rfl rfl ?_
  refine op_nil ?_
  refine ax_then ?_
  refine At.regs (L' := [(0, _), (2, _)]) (.cons rfl (.cons rfl (.nil _))) ?_
  refine cd_seq ?_
  refine cd_seq ?_
  refine cd_region ?_
  refine st (ev_move rfl) rfl rfl rfl ?_
  refine st (ev_eql_ptr_nil Try.underlying49 rfl rfl) rfl rfl rfl ?_
  refine op_nil ?_
  refine ax_then ?_
  refine At.regs (L' := [(0, _), (2, _), (4, _)]) (.cons rfl (.cons rfl (.cons rfl (.nil _)))) ?_
  refine cd_false rfl ?_
  refine cd_skip ?_
  refine ax_then ?_
  refine At.regs (L' := [(0, _), (2, _)]) (.cons rfl (.cons rfl (.nil _))) ?_
  refine cd_seq ?_
  refine cd_region ?_
  refine st (ev_move rfl) rfl rfl rfl ?_
  refine st (ev_nilCheck rfl) rfl rfl rfl ?_
  refine st (ev_fieldAddr (b := _) Try.underlying81 (f := _) rfl ty3 (by decide) rfl) rfl rfl rfl ?_
  refine st (ld_mem1 (h := 21) ty3 rfl rfl rfl (Nat.zero_add _).symm (Ky.cells_33 hl _ _)) rfl rfl rfl ?_
  refine st (ev_assign rfl) rfl rfl rfl ?_
  refine op_nil ?_
  refine ax_then ?_
  refine At.regs (L' := [(2, _)]) (.cons rfl (.nil _)) ?_
  refine cd_ret ?_
  refine rt_tmp (.inl rfl) Try.results32 rfl ?_
  exact fun w1 sw => ⟨rfl, sw.gives (.nil _)⟩
set_option maxRecDepth 20000 in
set_option maxHeartbeats 1000000 in
theorem signk_used (b : Nat) (v : Value) (s : List Int) (n : Nat) (q : Value) (w : World) (hn : 16 ≤ n) (hl : s.length = 32) (h : Lies w b 0 (Ky.cells s v (n : Int))) (h' : Rd w v 32 (flat (Ky.leaves s 16))) : Calls Try.prog 29 #[.pointer (some ⟨b, 0, none⟩), q] w (PostV w (.tuple #[.agg (List.toArray [.int .i64 0, .slice none 0 0, .slice none 0 0]), .int .i64 3])) := by
  refine calls_at (vs := [.pointer (some ⟨b, 0, none⟩), q]) (X := []) (H := []) (F := [(21, .mem b 0 (Ky.cells s v (n : Int))), (20, .sl (v) 32 (flat (Ky.leaves s 16)))]) 44 Try.func29 rfl rfl rfl ((Sat.rd0 20 h').read 21 h off_nil) ?_
  refine cd_seq ?_
  refine cd_region ?_
  refine st_alloc (h := 4) ty42 rfl rfl rfl (fun b4 => ?_)
  refine st (ev_assign rfl) rfl rfl rfl ?_
  refine op_nil ?_
  refine ax_then ?_
  refine At.regs (L' := [(0, _), (1, _), (4, _), (5, _)]) (.cons rfl (.cons rfl (.cons rfl (.cons rfl (.nil _))))) ?_
  refine cd_seq ?_
  refine cd_block ?_
  refine cd_seq ?_
  refine cd_region ?_
  refine st (ev_move rfl) rfl rfl rfl ?_
  refine st (ev_eql_ptr_nil Try.underlying49 rfl rfl) rfl rfl rfl ?_
  refine st (ev_assign rfl) rfl rfl rfl ?_
  refine op_nil ?_
  refine ax_then ?_
  refine At.regs (L' := [(0, _), (1, _), (4, _), (5, _), (7, _)]) (.cons rfl (.cons rfl (.cons rfl (.cons rfl (.cons rfl (.nil _)))))) ?_
  refine cd_false rfl ?_
  refine cd_seq ?_
  refine cd_region ?_
  refine st (ev_move rfl) rfl rfl rfl ?_
  refine st (ev_nilCheck rfl) rfl rfl rfl ?_
  refine st (ev_fieldAddr (b := _) Try.underlying81 (f := _) rfl ty3 (by decide) rfl) rfl rfl rfl ?_
  refine st (ld_mem1 (h := 21) ty3 rfl rfl rfl (Nat.zero_add _).symm (Ky.cells_33 hl _ _)) rfl rfl rfl ?_
  refine st (ev_geq rfl rfl) rfl rfl rfl ?_
  refine st (ev_assign rfl) rfl rfl rfl ?_
  refine op_nil ?_
  refine ax_then ?_
  refine At.regs (L' := [(0, _), (1, _), (4, _), (5, _), (11, _)]) (.cons rfl (.cons rfl (.cons rfl (.cons rfl (.cons rfl (.nil _)))))) ?_
  refine cd_if_t rfl (by omega) ?_
  refine cd_seq ?_
  refine cd_region ?_
  refine st (ev_build_struct ty42 rfl pl42 rfl rfl) rfl rfl rfl ?_
  refine st_store_all 4 ty42 rfl rfl rfl rfl (by first | omega | (simp only [List.length_append, List.length_cons, List.length_nil, List.length_set, List.length_replicate, List.length_take, List.length_drop, ints_length, wr_length, sha_len, node_len, recov_len, Ky.named_len, Ky.keyPub_len] <;> omega) | rfl) (by first | (intro u hu; simp at hu; rcases hu with rfl | rfl <;> rfl) | (simp [Value.oneCell'])) (by first | omega | (simp only [List.length_append, List.length_cons, List.length_nil, List.length_set, List.length_replicate, List.length_take, List.length_drop, ints_length, wr_length, sha_len, node_len, recov_len, Ky.named_len, Ky.keyPub_len] <;> omega) | rfl) rfl ?_
  refine st (ev_assign rfl) rfl rfl rfl ?_
  refine op_nil ?_
  refine ax_then ?_
  refine At.regs (L' := [(0, _), (1, _), (4, _), (5, _)]) (.cons rfl (.cons rfl (.cons rfl (.cons rfl (.nil _))))) ?_
  refine cd_ret ?_
  refine ax_block_ret ?_
  refine ax_then_ret ?_
  refine rt_cell_tmp (h0 := 4) (.inl rfl) Try.results29 ty42 rfl rfl rfl (by first | omega | (simp only [List.length_append, List.length_cons, List.length_nil, List.length_set, List.length_replicate, List.length_take, List.length_drop, ints_length, wr_length, sha_len, node_len, recov_len, Ky.named_len, Ky.keyPub_len] <;> omega) | rfl) rfl ?_
  exact fun w1 sw => ⟨rfl, sw.gives (.nil _)⟩
end Go.Proofs.Yteedclmcgifmpaa

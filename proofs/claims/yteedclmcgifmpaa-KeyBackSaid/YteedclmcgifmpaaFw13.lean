/- Structs and rows of hashes among the arguments. -/
import Derived.Test.YteedclmcgifmpaaFw10
import Derived.Test.YteedclmcgifmpaaFw12
namespace Go.Proofs.Yteedclmcgifmpaa.Fw
open Go Go.RowKit Go.WideShapes Go.ChangeShapes
set_option linter.unusedVariables false

section
variable {H : Type} {enc : TypeId × Value → H} {P : Program} {W : World}

/-- A slice value that may be. -/
def OkS (v : Value) : Prop := ∃ a len cap, v = .slice a len cap ∧ len ≤ cap ∧ (a = none → cap = 0) ∧ ∀ x, a = some x → x.spot = none
theorem ok_cell {r : Reach} {base : Nat} {t e : TypeId} {v : Value} (ht : P.underlying t = some (.slice e)) (h : Cell.okWide P W r base t v) : OkS v :=
  ok_slice (r := r) (base := base) (W := W) ht (by simpa only [Value.okWide, ht] using h)
/-- A slice, opened. -/
theorem rd_tr {t e : TypeId} {v : Value} (ht : P.underlying t = some (.slice e)) (he : 0 < P.cellsOf e) (hok : OkS v) (h : Tr enc P W t [v]) :
    ∃ (l : List Value) (n : Nat), Rd W v (P.cellsOf e) l ∧ l.length = n * P.cellsOf e ∧ n * P.bytesOf e ≤ reachBytes ∧ ∀ i, i < n → Tr enc P W e ((l.drop (i * P.cellsOf e)).take (P.cellsOf e)) := by
  obtain ⟨fuel, d, ps, hf, hw⟩ := h
  obtain ⟨a, len, cap, rfl, h1, h2, h3⟩ := hok
  rcases DataW.trod_slice ht hf with ⟨hc, _⟩ | ⟨a, len', cap', elems, rest, n, rfl, hc, hdd, hb, hl, hm, hlen, hel, _⟩
  · simp at hc
    obtain ⟨rfl, rfl, rfl⟩ := hc
    exact ⟨[], 0, ⟨none, 0, 0, rfl, by simp, by omega, fun _ => rfl, fun x hx => by cases hx⟩, by simp, by simp, fun i hi => by omega⟩
  · simp at hc
    obtain ⟨rfl, rfl, rfl⟩ := hc
    obtain ⟨b, off, spot⟩ := a
    obtain rfl : spot = none := h3 _ rfl
    obtain ⟨rfl, _⟩ := Prod.mk.injEq .. ▸ hdd
    have hbytes : len * P.bytesOf e ≤ reachBytes := by
      have h := hw ((elems.length + rest.length) * P.bytesOf e) (by simp [DataW.weights, ht])
      refine Nat.le_trans (Nat.mul_le_mul_right _ ?_) h
      omega
    have one : ∀ i, i < len → ∃ cs x, W.cells? 0 ((⟨b, off, none⟩ : Addr).add (i * P.cellsOf e)) (P.cellsOf e) = some cs ∧ DataW.trod enc P W 0 (fun _ => true) true n e cs = some x ∧ Light P e x.1 := by
      intro i hi
      have h := hel i hi
      have hx : ∃ x, elems[i]? = some x := ⟨elems[i]'(by omega), List.getElem?_eq_getElem (by omega)⟩
      obtain ⟨x, hx⟩ := hx
      rw [hx] at h
      obtain ⟨cs, h4, h5⟩ := Option.bind_eq_some_iff.1 h
      exact ⟨cs, x, h4, h5, fun k hk => hw k (by
        simp only [DataW.weights, ht, List.mem_cons, List.mem_append]
        exact .inr (.inl (weights_all (i := i) (by rw [List.getElem?_map, hx]; rfl) k hk)))⟩
    have all : ∀ m, m ≤ len → ∃ l : List Value, l.length = m * P.cellsOf e ∧ (∀ i, i < l.length → W.cell? ⟨b, off + i, none⟩ = l[i]?) ∧ ∀ i, i < m → Tr enc P W e ((l.drop (i * P.cellsOf e)).take (P.cellsOf e)) := by
      intro m
      induction m with
      | zero => exact fun _ => ⟨[], by simp, fun i hi => by simp at hi, fun i hi => by omega⟩
      | succ m ih =>
        intro hm
        obtain ⟨l, h4, h5, h6⟩ := ih (by omega)
        obtain ⟨cs, x, h7, h8, h8w⟩ := one m (by omega)
        obtain ⟨_, h9, h10⟩ := World.cells?_some h7
        refine ⟨l ++ cs, by rw [List.length_append, h4, h9, Nat.succ_mul], fun i hi => ?_, fun i hi => ?_⟩
        · by_cases hil : i < l.length
          · rw [List.getElem?_append_left hil]; exact h5 i hil
          · rw [List.getElem?_append_right (by omega), ← h10 (i - l.length) (by rw [List.length_append] at hi; omega)]
            have e1 : off + i = off + m * P.cellsOf e + (i - l.length) := by omega
            rw [e1, add_plain, add_plain]
        · by_cases him : i < m
          · have hlt : i * P.cellsOf e + P.cellsOf e ≤ l.length := by rw [h4, ← Nat.succ_mul]; exact Nat.mul_le_mul_right _ him
            have := h6 i him
            rw [List.drop_append_of_le_length (by omega), List.take_append_of_le_length (by rw [List.length_drop]; omega)]
            exact this
          · obtain rfl : i = m := by omega
            rw [List.drop_left' h4, List.take_of_length_le (by omega)]
            exact ⟨n, x.1, x.2, h8, h8w⟩
    obtain ⟨l, h4, h5, h6⟩ := all len (Nat.le_refl _)
    exact ⟨l, len, ⟨_, len, cap, rfl, h4, hl, (fun hn => by cases hn), fun x hx => by cases hx; exact ⟨rfl, h5⟩⟩, h4, hbytes, h6⟩
/-- A struct as an argument, opened. -/
theorem open_struct {r : Reach} {base : Nat} {t : TypeId} {fs : Array Field} {v : Value} {d : DataW H} {ps : List MemPlace} (ht : P.underlying t = some (.struct fs))
    (hval : Value.okWide P W r base t v) (hd : DataW.Trod enc P W 0 (fun _ => true) true t v d ps) (hw : Light P t d) :
    ∃ cs : List Value, v = .agg cs.toArray ∧ cs.length = P.cellsOf t ∧ Row.okWide P W r base t cs.toArray ∧ ∀ (i : Nat) (f : Field), fs[i]? = some f → Tr enc P W f.type ((cs.drop f.offset).take (P.cellsOf f.type)) := by
  simp only [Value.okWide, ht] at hval
  obtain ⟨cs, rfl, h1, h2⟩ := hval
  obtain ⟨fuel, hf⟩ := hd
  obtain ⟨xs, n, rfl, hx, h3, h4, h5⟩ := DataW.trod_struct ht hf
  obtain ⟨rfl, _⟩ := Prod.mk.injEq .. ▸ hx
  refine ⟨cs.toList, by simp, h3, by simpa using h2, fun i f hi => ?_⟩
  have h := h5 i f hi
  have hlt : i < fs.size := (Array.getElem?_eq_some_iff.1 hi).1
  obtain ⟨x, hx⟩ : ∃ x, xs[i]? = some x := ⟨xs[i], List.getElem?_eq_getElem (by omega)⟩
  rw [hx] at h
  refine ⟨n, x.1, x.2, h, fun k hk => hw k ?_⟩
  simp only [DataW.weights, ht]
  exact DataW.weights_mem_each (j := i) (t := f.type) (d := x.1) (by simp [hi]) (by rw [List.getElem?_map, hx]; rfl) k hk
/-- A cell of a struct that is a slice. -/
theorem ok_field {r : Reach} {base : Nat} {t u e : TypeId} {cs : List Value} {ts : List TypeId} {i : Nat} {v : Value} (h : Row.okWide P W r base t cs.toArray) (hts : P.cellTypes P.depth t = some ts) (hi : cs[i]? = some v) (hu : ts[i % ts.length]? = some u) (he : P.underlying u = some (.slice e)) : OkS v := by
  obtain ⟨ts', h1, _, h2⟩ := h
  rw [hts] at h1
  cases h1
  obtain ⟨u', h3, h4⟩ := h2 i v (by simpa using hi)
  rw [hu] at h3
  cases h3
  exact ok_cell he h4
/-- A row of hashes. -/
theorem flat_all {t e : TypeId} (ht : P.underlying t = some (.array 32 e)) (he : P.underlying e = some (.int .u8)) (hc : P.cellsOf e = 1) (hn : P.cellsOf t = 32) : ∀ (n : Nat) (l : List Value), l.length = n * 32 → (∀ i, i < n → Tr enc P W t ((l.drop (i * 32)).take 32)) →
    ∃ hs, l = flat hs ∧ H32 hs ∧ hs.length = n ∧ ∀ h, h ∈ hs → Sha.Byt h
  | 0, l, hl, _ => ⟨[], by rw [List.length_eq_zero_iff.1 (by omega : l.length = 0)]; rfl, .nil, rfl, fun h hh => by cases hh⟩
  | n + 1, l, hl, h => by
    obtain ⟨zs, h1, h2, h3⟩ := tr_ints ht he hc hn (h 0 (by omega))
    obtain ⟨hs, h4, h5, h6, h7⟩ := flat_all ht he hc hn n (l.drop 32) (by rw [List.length_drop]; omega) (fun i hi => by
      have := h (i + 1) (by omega)
      rw [List.drop_drop]
      have e1 : 32 + i * 32 = (i + 1) * 32 := by omega
      rw [e1]
      exact this)
    rw [Nat.zero_mul, List.drop_zero] at h1
    refine ⟨zs :: hs, ?_, .cons h2 h5, by rw [List.length_cons, h6], fun x hx => ?_⟩
    · rw [flat_cons, ← h1, ← h4, List.take_append_drop]
    · rcases List.mem_cons.1 hx with rfl | hx
      · exact wf_byt h3
      · exact h7 x hx
theorem rd_hashes {t e b : TypeId} {v : Value} (ht : P.underlying t = some (.slice e)) (he : P.underlying e = some (.array 32 b)) (hb : P.underlying b = some (.int .u8)) (hc : P.cellsOf b = 1) (hn : P.cellsOf e = 32) (hok : OkS v) (h : Tr enc P W t [v]) :
    ∃ hs, Rd W v 32 (flat hs) ∧ H32 hs ∧ hs.length * P.bytesOf e ≤ reachBytes ∧ ∀ h, h ∈ hs → Sha.Byt h := by
  obtain ⟨l, n, h1, h2, h3, h4⟩ := rd_tr ht (by omega) hok h
  rw [hn] at h1 h2 h4
  obtain ⟨hs, rfl, h5, h6, h7⟩ := flat_all he hb hc hn n l h2 h4
  exact ⟨hs, h1, h5, by rw [h6]; exact h3, h7⟩
theorem tr_of {t : TypeId} {v : Value} {d : DataW H} {ps : List MemPlace} (hd : DataW.Trod enc P W 0 (fun _ => true) true t v d ps) (hw : Light P t d) (hv : v.cells.toList = [v]) : Tr enc P W t [v] := by
  obtain ⟨fuel, hf⟩ := hd
  rw [hv] at hf
  exact ⟨fuel, _, _, hf, hw⟩
theorem two {l : List Value} (h : l.length = 2) : ∃ a b, l = [a, b] := by
  match l, h with
  | [a, b], _ => exact ⟨a, b, rfl⟩
theorem three {l : List Value} (h : l.length = 3) : ∃ a b c, l = [a, b, c] := by
  match l, h with
  | [a, b, c], _ => exact ⟨a, b, c, rfl⟩
/-- A slice of hashes as an argument. -/
theorem open_hashes {r : Reach} {base : Nat} {t e b : TypeId} {v : Value} {d : DataW H} {ps : List MemPlace} (ht : P.underlying t = some (.slice e)) (he : P.underlying e = some (.array 32 b)) (hb : P.underlying b = some (.int .u8)) (hc : P.cellsOf b = 1) (hn : P.cellsOf e = 32)
    (hval : Value.okWide P W r base t v) (hd : DataW.Trod enc P W 0 (fun _ => true) true t v d ps) (hw : Light P t d) :
    ∃ hs, Rd W v 32 (flat hs) ∧ H32 hs ∧ hs.length * P.bytesOf e ≤ reachBytes ∧ ∀ h, h ∈ hs → Sha.Byt h := by
  have hok : OkS v := ok_slice ht hval
  obtain ⟨a, len, cap, rfl, _⟩ := ok_slice ht hval
  exact rd_hashes ht he hb hc hn hok (tr_of hd hw rfl)
end
end Go.Proofs.Yteedclmcgifmpaa.Fw

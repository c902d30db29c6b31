/- Digits, keyed digests: plain. -/
import Derived.Test.YteedclmcgifmpaaSha2
namespace Go.Proofs.Yteedclmcgifmpaa.Sha
open Go Fw

def digits : List Int := [48, 49, 50, 51, 52, 53, 54, 55, 56, 57, 97, 98, 99, 100, 101, 102]
def hexL : List Int → List Int
  | [] => []
  | x :: r => digits.getD (x / 16).toNat 0 :: digits.getD (x % 16).toNat 0 :: hexL r
theorem hexL_append (a b : List Int) : hexL (a ++ b) = hexL a ++ hexL b := by
  induction a with
  | nil => rfl
  | cons x r ih => simp [hexL, ih]
theorem hexL_len (a : List Int) : (hexL a).length = 2 * a.length := by
  induction a with
  | nil => rfl
  | cons x r ih => simp [hexL, ih]; omega
theorem take_snoc {l : List Int} {i : Nat} (h : i < l.length) : l.take (i + 1) = l.take i ++ [l.getD i 0] := by
  rw [List.take_succ_eq_append_getElem h]
  simp [h]
theorem hexL_snoc {l : List Int} {i : Nat} (h : i < l.length) : hexL (l.take (i + 1)) = hexL (l.take i) ++ [digits.getD (l.getD i 0 / 16).toNat 0, digits.getD (l.getD i 0 % 16).toNat 0] := by
  rw [take_snoc h, hexL_append]
  rfl
theorem strOf_append (a b : List Int) : strOf (a ++ b) = strOf a ++ strOf b := by
  apply ByteArray.ext
  simp [strOf]
theorem strOf_size (a : List Int) : (strOf a).size = a.length := by simp [strOf, ByteArray.size]

/-- the keyed digest -/
def fit (key : List Int) : List Int := let k := if 64 < key.length then sha key else key; k ++ List.replicate (64 - k.length) 0
def xorl (k : List Int) (m : Int) : List Int := k.map fun c => ixor .u8 c m
def mac (key p : List Int) : List Int := sha (xorl (fit key) 0x5c ++ sha (xorl (fit key) 0x36 ++ p))
theorem fit_len (key : List Int) : (fit key).length = 64 := by
  unfold fit
  have := sha_len key
  split <;> simp <;> omega
theorem xorl_len (k : List Int) (m : Int) : (xorl k m).length = k.length := by simp [xorl]
theorem mac_len (key p : List Int) : (mac key p).length = 32 := sha_len _

theorem bit15 (x : Int) (h0 : 0 ≤ x) (h1 : x ≤ 255) : iand .u8 x 15 = x % 16 := by
  obtain ⟨n, rfl⟩ := Int.eq_ofNat_of_zero_le h0
  have hn : n < 256 := by omega
  have key : ∀ m : Fin 256, iand .u8 (m.val : Int) 15 = (m.val : Int) % 16 := by decide +kernel
  exact key ⟨n, hn⟩
theorem shr4 (x : Int) : ishr .u8 x 4 = x / 16 := by
  have e : min (4 : Int).toNat IntKind.u8.bits = 4 := rfl
  unfold ishr
  rw [e]
  exact Int.fdiv_eq_ediv_of_nonneg x (by decide)
/-- bytes: numbers from 0 to 255 -/
def Byt (l : List Int) : Prop := ∀ x, x ∈ l → 0 ≤ x ∧ x ≤ 255
theorem Byt.get {l : List Int} (h : Byt l) {i : Nat} : 0 ≤ l.getD i 0 ∧ l.getD i 0 ≤ 255 := by
  rw [List.getD_eq_getElem?_getD]
  cases e : l[i]? with
  | none => simp
  | some x => exact h x (List.mem_of_getElem? e)
theorem u8_byt (x : Int) : 0 ≤ u8 x ∧ u8 x ≤ 255 := by
  simp only [u8, IntKind.wrap, IntKind.bits, IntKind.signed]
  simp
  omega
theorem hashL_byt (s : List Int) : Byt (hashL s) := by
  intro x hx
  simp only [hashL, List.mem_map] at hx
  obtain ⟨i, _, rfl⟩ := hx
  exact u8_byt _
theorem sha_byt (p : List Int) : Byt (sha p) := hashL_byt _
theorem mac_byt (k p : List Int) : Byt (mac k p) := hashL_byt _
theorem digit_at (x : Int) (h0 : 0 ≤ x) (h1 : x < 16) : (ByteArray.mk #[48, 49, 50, 51, 52, 53, 54, 55, 56, 57, 97, 98, 99, 100, 101, 102])[x.toNat]? = some (UInt8.ofNat (digits.getD x.toNat 0).toNat) := by
  obtain ⟨n, rfl⟩ := Int.eq_ofNat_of_zero_le h0
  have key : ∀ m : Fin 16, (ByteArray.mk #[48, 49, 50, 51, 52, 53, 54, 55, 56, 57, 97, 98, 99, 100, 101, 102])[m.val]? = some (UInt8.ofNat (digits.getD m.val 0).toNat) := by decide +kernel
  have := key ⟨n, by omega⟩
  simpa using this
theorem digit_byte (x : Int) : (((UInt8.ofNat (digits.getD x.toNat 0).toNat).toNat : Nat) : Int) = digits.getD x.toNat 0 := by
  by_cases h : x.toNat < 16
  · have key : ∀ m : Fin 16, (((UInt8.ofNat (digits.getD m.val 0).toNat).toNat : Nat) : Int) = digits.getD m.val 0 := by decide +kernel
    exact key ⟨x.toNat, h⟩
  · have : digits.getD x.toNat 0 = 0 := by
      rw [List.getD_eq_getElem?_getD, List.getElem?_eq_none (by simp [digits]; omega)]
      rfl
    rw [this]
    rfl
theorem digit_cut (x : Int) (h0 : 0 ≤ x) (h1 : x < 16) : (ByteArray.mk #[48, 49, 50, 51, 52, 53, 54, 55, 56, 57, 97, 98, 99, 100, 101, 102]).extract x.toNat (x + 1).toNat = strOf [digits.getD x.toNat 0] := by
  obtain ⟨n, rfl⟩ := Int.eq_ofNat_of_zero_le h0
  have key : ∀ m : Fin 16, ((ByteArray.mk #[48, 49, 50, 51, 52, 53, 54, 55, 56, 57, 97, 98, 99, 100, 101, 102]).extract m.val (m.val + 1)).data = (strOf [digits.getD m.val 0]).data := by decide +kernel
  have := key ⟨n, by omega⟩
  apply ByteArray.ext
  simpa using this
theorem copied64 (r : List Int) (h : r.length ≤ 64) : wr (ints .u8 (List.replicate 64 0)) 0 ((ints .u8 r).take (min r.length 64 * 1)) = ints .u8 (r ++ List.replicate (64 - r.length) 0) := by
  rw [Nat.min_eq_left (by omega), Nat.mul_one, List.take_of_length_le (by rw [ints_length]; omega), ints_wr]
  rw [List.take_zero, List.nil_append, Nat.zero_add, List.drop_replicate]
/-- the key, or its digest -/
def kk (key : List Int) : List Int := if 64 < key.length then sha key else key
theorem kk_len (key : List Int) : (kk key).length ≤ 64 := by
  unfold kk
  have := sha_len key
  split <;> omega
theorem xorl_snoc {k : List Int} {m : Int} {i : Nat} (h : i < k.length) : xorl (k.take (i + 1)) m = xorl (k.take i) m ++ [ixor .u8 (k.getD i 0) m] := by
  rw [take_snoc h]
  simp [xorl]
theorem fit_get (key : List Int) (i : Nat) (_h : i < 64) : (fit key).getD i 0 = if i < (kk key).length then (kk key).getD i 0 else 0 := by
  show ((kk key) ++ List.replicate (64 - (kk key).length) 0).getD i 0 = _
  by_cases h1 : i < (kk key).length
  · rw [if_pos h1, getD_append_left h1]
  · rw [if_neg h1, getD_append_right (by omega), getD_replicate]
theorem cut_room (b : List Int) : (b ++ [171] ++ [171]).take ((b.length : Int) + 1).toNat = b ++ [171] := by
  have e : ((b.length : Int) + 1).toNat = (b ++ [171]).length := by simp <;> omega
  rw [e, List.take_left']
  rfl
theorem ext_get {a b : List Int} (hl : a.length = b.length) (h : ∀ i, i < a.length → a.getD i 0 = b.getD i 0) : a = b := by
  apply List.ext_getElem hl
  intro i h1 h2
  have := h i h1
  simpa [List.getD_eq_getElem?_getD, h1, h2] using this

end Go.Proofs.Yteedclmcgifmpaa.Sha

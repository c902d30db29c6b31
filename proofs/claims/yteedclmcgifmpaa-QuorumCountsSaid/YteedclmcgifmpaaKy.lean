/- Chapter 5: keys: plain. -/
import Derived.Test.YteedclmcgifmpaaOtsA
import Derived.Test.YteedclmcgifmpaaEA
namespace Go.Proofs.Yteedclmcgifmpaa.Ky
open Go Fw Sha Ots Mk Go.Proofs.Yteedclmcgifmpaa
set_option linter.unusedSimpArgs false
set_option linter.unusedVariables false
def leaves (s : List Int) (n : Nat) : List (List Int) := (List.range n).map fun (l : Nat) => pub s l
theorem leaves_snoc (s : List Int) (n : Nat) : leaves s (n + 1) = leaves s n ++ [pub s n] := by simp [leaves, List.range_succ]
theorem leaves_len (s : List Int) (n : Nat) : (leaves s n).length = n := by simp [leaves]
theorem leaves_h32 (s : List Int) (n : Nat) : H32 (leaves s n) := fun h hh => by
  simp only [leaves, List.mem_map] at hh
  obtain ⟨c, _, rfl⟩ := hh
  exact sha_len _
theorem leaves_get (s : List Int) {n i : Nat} (hi : i < n) : (leaves s n).getD i [] = pub s i := by
  rw [leaves, List.getD_eq_getElem?_getD, List.getElem?_map, List.getElem?_range hi]
  rfl
def named (r : List Int) : List Int := sha ([4] ++ r)
theorem named_len (r : List Int) : (named r).length = 32 := sha_len _
def keyPub (s : List Int) : List Int := named (root (leaves s 16))
theorem keyPub_len (s : List Int) : (keyPub s).length = 32 := sha_len _
def isSig (leaf : Int) (cs ps : List (List Int)) : Prop := 0 ≤ leaf ∧ leaf < 16 ∧ cs.length = 36 ∧ ps.length = 4
instance (leaf : Int) (cs ps : List (List Int)) : Decidable (isSig leaf cs ps) := by unfold isSig; infer_instance
def verP (p m : List Int) (leaf : Int) (cs ps : List (List Int)) : Prop := isSig leaf cs ps ∧ named (up (recov m cs) leaf ps) = p
instance (p m : List Int) (leaf : Int) (cs ps : List (List Int)) : Decidable (verP p m leaf cs ps) := by unfold verP; infer_instance
def clamp (u : Int) : Int := min (max u 0) 16
theorem clamp_range (u : Int) : 0 ≤ clamp u ∧ clamp u ≤ 16 := by unfold clamp; omega
/-- each leaf's way leads to the key's name -/
theorem way_up (s : List Int) {n : Nat} (hn : n < 16) : (path (leaves s 16) n).length = 4 ∧ named (up (pub s n) n (path (leaves s 16) n)) = keyPub s := by
  have h := up_root 4 (leaves s 16) n (leaves_len s 16) hn
  rw [leaves_get s hn] at h
  exact ⟨h.1, by rw [h.2]; rfl⟩
theorem ver_sign (s : List Int) (m : List Int) {n : Nat} (hn : n < 16) : verP (keyPub s) m n (sign s n m 36) (path (leaves s 16) n) := by
  refine ⟨⟨by omega, by omega, sign_len _ _ _ _, (way_up s hn).1⟩, ?_⟩
  rw [recov_sign]
  exact (way_up s hn).2
/-- the cells of a key: its seed, what it holds, how many are used -/
def cells (s : List Int) (v : Value) (n : Int) : List Value := ints .u8 s ++ [v, .int .i64 n]
theorem cells_len {s : List Int} (hl : s.length = 32) (v : Value) (n : Int) : (cells s v n).length = 34 := by simp [cells, hl, ints_length]
theorem cells_seed {s : List Int} (hl : s.length = 32) (v : Value) (n : Int) : ((cells s v n).drop 0).take 32 = ints .u8 s := by
  rw [List.drop_zero, cells, List.take_left' (by rw [ints_length, hl])]
theorem cells_32 {s : List Int} (hl : s.length = 32) (v : Value) (n : Int) : (cells s v n)[32]? = some v := by
  rw [cells, List.getElem?_append_right (by rw [ints_length, hl]; decide), ints_length, hl]; rfl
theorem cells_33 {s : List Int} (hl : s.length = 32) (v : Value) (n : Int) : (cells s v n)[33]? = some (.int .i64 n) := by
  rw [cells, List.getElem?_append_right (by rw [ints_length, hl]; decide), ints_length, hl]; rfl
theorem cells_set32 {s : List Int} (hl : s.length = 32) (v v' : Value) (n : Int) : (cells s v n).set 32 v' = cells s v' n := by
  rw [cells, List.set_append_right _ _ (by rw [ints_length, hl]; decide), ints_length, hl]; rfl
theorem cells_set33 {s : List Int} (hl : s.length = 32) (v : Value) (n n' : Int) : (cells s v n).set 33 (.int .i64 n') = cells s v n' := by
  rw [cells, List.set_append_right _ _ (by rw [ints_length, hl]; decide), ints_length, hl]; rfl
theorem key_new {s : List Int} (hl : s.length = 32) (n : Int) : wr (wr (ints .u8 (List.replicate 32 0) ++ [.slice none 0 0, .int .i64 0]) 0 (ints .u8 s)) 33 [.int .i64 n] = cells s (.slice none 0 0) n := by
  have h1 : wr (ints .u8 (List.replicate 32 0) ++ [Value.slice none 0 0, .int .i64 0]) 0 (ints .u8 s) = ints .u8 s ++ [.slice none 0 0, .int .i64 0] := by
    rw [wr, List.take_zero, List.nil_append, ints_length, hl, Nat.zero_add, List.drop_left' (by simp [ints_length])]
  rw [h1, wr_one (by simp [hl, ints_length])]
  exact cells_set33 hl _ _ _
/-- the reference's cells of a key -/
def rcells (s : List Int) (v : Value) (p : List Int) (n : Int) : List Value := ints .u8 s ++ ([v] ++ (ints .u8 p ++ [.int .i64 n]))
theorem rcells_len {s p : List Int} (hl : s.length = 32) (hp : p.length = 32) (v : Value) (n : Int) : (rcells s v p n).length = 66 := by simp [rcells, hl, hp, ints_length]
theorem rcells_seed {s p : List Int} (hl : s.length = 32) (v : Value) (n : Int) : ((rcells s v p n).drop 0).take 32 = ints .u8 s := by
  rw [List.drop_zero, rcells, List.take_left' (by rw [ints_length, hl])]
theorem rcells_32 {s p : List Int} (hl : s.length = 32) (v : Value) (n : Int) : (rcells s v p n)[32]? = some v := by
  rw [rcells, List.getElem?_append_right (by rw [ints_length, hl]; decide), ints_length, hl]; rfl
theorem rcells_pub {s p : List Int} (hl : s.length = 32) (hp : p.length = 32) (v : Value) (n : Int) : ((rcells s v p n).drop 33).take 32 = ints .u8 p := by
  rw [rcells, List.drop_append, List.drop_eq_nil_of_le (by rw [ints_length, hl]; decide), ints_length, hl, List.nil_append, show 33 - 32 = 1 from rfl, List.singleton_append, List.drop_succ_cons, List.drop_zero, List.take_left' (by rw [ints_length, hp])]
theorem rcells_65 {s p : List Int} (hl : s.length = 32) (hp : p.length = 32) (v : Value) (n : Int) : (rcells s v p n)[65]? = some (.int .i64 n) := by
  rw [rcells, List.getElem?_append_right (by rw [ints_length, hl]; decide), ints_length, hl, List.getElem?_append_right (by simp), List.getElem?_append_right (by simp [ints_length, hp]), ints_length, hp]; rfl
theorem rcells_set32 {s p : List Int} (hl : s.length = 32) (v v' : Value) (n : Int) : (rcells s v p n).set 32 v' = rcells s v' p n := by
  rw [rcells, List.set_append_right _ _ (by rw [ints_length, hl]; decide), ints_length, hl]; rfl
theorem rcells_set65 {s p : List Int} (hl : s.length = 32) (hp : p.length = 32) (v : Value) (n n' : Int) : (rcells s v p n).set 65 (.int .i64 n') = rcells s v p n' := by
  rw [rcells, List.set_append_right _ _ (by rw [ints_length, hl]; decide), ints_length, hl, List.set_append_right _ _ (by simp), List.set_append_right _ _ (by simp [ints_length, hp]), ints_length, hp]; rfl
theorem rcells_wr {s p q : List Int} (hl : s.length = 32) (hp : p.length = 32) (hq : q.length = 32) (v : Value) (n : Int) : wr (rcells s v p n) 33 (ints .u8 q) = rcells s v q n := by
  have h1 : (ints .u8 s ++ [v]).length = 33 := by simp [hl, ints_length]
  have e : ∀ r, rcells s v r n = (ints .u8 s ++ [v]) ++ (ints .u8 r ++ [.int .i64 n]) := fun r => by simp [rcells]
  rw [e p, e q, wr, List.take_left' h1, ints_length, hq, List.drop_append, List.drop_eq_nil_of_le (by omega), h1, List.nil_append, List.drop_left' (by rw [ints_length, hp])]
  simp
end Go.Proofs.Yteedclmcgifmpaa.Ky

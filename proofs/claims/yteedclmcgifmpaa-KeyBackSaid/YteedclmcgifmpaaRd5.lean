/- Reading bytes, plainly: what chapter 5's Decode needs. -/
import Derived.Test.YteedclmcgifmpaaFw18
import Derived.Test.YteedclmcgifmpaaKy
namespace Go.Proofs.Yteedclmcgifmpaa.Fw
open Go Go.RowKit Go.Proofs.Yteedclmcgifmpaa
theorem Sat.fmap {w0 w : World} {X : List Nat} {H : List (Nat × Ent)} {F : List (Nat × FE)} (sw : Sat w0 X H F w) {h sz sz' : Nat} {v v' : Value} {l l' : List Value} (h' : Nat) (hh : lk F h = some (.sl v sz l)) (hR : ∀ w, Rd w v sz l → Rd w v' sz' l') (hB : ∀ b, b ∈ blkOf v' → b ∈ blkOf v) (hl : l = [] → l' = []) : Sat w0 X H ((h', .sl v' sz' l') :: F) w :=
  sw.read h' (hR w (sw.sl_rd hh)) fun k e hk b hb => (sw.off _ _ _ _ hh hk b hb).elim (fun h => .inl (hl h)) fun h => .inr fun hb' => h (hB b hb')
theorem at_fmap {K : Act → World → Prop} {E : Env} {L : List (Nat × Value)} {H : List (Nat × Ent)} {F : List (Nat × FE)} {h sz sz' : Nat} {v v' : Value} {l l' : List Value} (h' : Nat) (hh : lk F h = some (.sl v sz l)) (hR : ∀ w, Rd w v sz l → Rd w v' sz' l') (hB : ∀ b, b ∈ blkOf v' → b ∈ blkOf v) (hl : l = [] → l' = [])
    (k : At K E L H ((h', .sl v' sz' l') :: F)) : At K E L H F := fun a w fa sw => k a w fa (sw.fmap h' hh hR hB hl)
theorem blkOf_cut (sz : Nat) (v : Value) (lo hi : Nat) : ∀ b, b ∈ blkOf (cutAt sz v lo hi) → b ∈ blkOf v := by
  intro b hb
  cases v with
  | slice a n c =>
    cases a with
    | none => simp only [cutAt] at hb; split at hb <;> simp [blkOf] at hb
    | some x =>
      have e : ∀ y : Addr, (y.add (lo * sz)).block = y.block := fun y => by unfold Addr.add; split <;> rfl
      simp only [cutAt] at hb
      split at hb
      · exact hb
      · simp only [blkOf, Option.map_some, e] at hb ⊢; exact hb
  | _ => simp [cutAt, blkOf] at hb
end Go.Proofs.Yteedclmcgifmpaa.Fw
namespace Go.Proofs.Yteedclmcgifmpaa.Ky
open Go Fw Sha Ots Mk Go.Proofs.Yteedclmcgifmpaa
set_option linter.unusedSimpArgs false
set_option linter.unusedVariables false
def nil0 : Value := .slice none 0 0
theorem rd_nil0 {w : World} : Rd w nil0 1 (ints .u8 []) := ⟨none, 0, 0, rfl, by simp [ints], Nat.le_refl _, fun _ => rfl, fun x hx => by cases hx⟩
/-- 32 bytes, if there are so many -/
def rawOut (r : List Int) : List Int := if 32 ≤ r.length then r.take 32 else []
def rawRest (r : List Int) : List Int := if 32 ≤ r.length then r.drop 32 else []
def rawV (v : Value) (r : List Int) : Value := if 32 ≤ r.length then cutAt 1 v 32 r.length else nil0
def hashOf (r : List Int) : List Int := if 32 ≤ r.length then r.take 32 else List.replicate 32 0
theorem rawOut_len (r : List Int) : (rawOut r).length ≤ 32 := by unfold rawOut; split <;> simp <;> omega
theorem rawRest_len (r : List Int) : (rawRest r).length ≤ r.length := by unfold rawRest; split <;> simp
theorem hashOf_len (r : List Int) : (hashOf r).length = 32 := by unfold hashOf; split <;> simp <;> omega
theorem rawV_rd {w : World} {v : Value} {r : List Int} (h : Rd w v 1 (ints .u8 r)) : Rd w (rawV v r) 1 (ints .u8 (rawRest r)) := by
  unfold rawV rawRest
  split
  · have := h.cuti (lo := 32) (hi := r.length) (by omega) (Nat.le_refl _)
    rwa [List.take_of_length_le (by rw [List.length_drop]; exact Nat.le_refl _)] at this
  · exact rd_nil0
theorem rawV_blk (v : Value) (r : List Int) : ∀ b, b ∈ blkOf (rawV v r) → b ∈ blkOf v := by
  unfold rawV
  split
  · exact blkOf_cut _ _ _ _
  · intro b hb; simp [blkOf, nil0] at hb
theorem raw_nil {r : List Int} (h : ints .u8 r = []) : ints .u8 (rawRest r) = [] := by
  have : r = [] := List.length_eq_zero_iff.1 (by have := congrArg List.length h; rwa [ints_length] at this)
  subst this
  rfl
/-- what is copied over noughts -/
theorem hash_copy (r : List Int) : wr (ints .u8 (List.replicate 32 0)) 0 ((ints .u8 (rawOut r)).take (min (rawOut r).length 32 * 1)) = ints .u8 (hashOf r) := by
  have h := rawOut_len r
  rw [Nat.mul_one, Nat.min_eq_left h, List.take_of_length_le (by rw [ints_length]; exact Nat.le_refl _)]
  by_cases hc : 32 ≤ r.length
  · rw [wr_all (by rw [ints_length, ints_length]; simp [rawOut, hc])]
    simp [rawOut, hashOf, hc]
  · simp [rawOut, hashOf, hc, ints, wr]
/-- after n digests -/
def restS (r : List Int) : Nat → List Int
  | 0 => r
  | n + 1 => rawRest (restS r n)
def badS (b : Bool) (r : List Int) : Nat → Bool
  | 0 => b
  | n + 1 => badS b r n || decide ((restS r n).length < 32)
def valS (v : Value) (r : List Int) : Nat → Value
  | 0 => v
  | n + 1 => rawV (valS v r n) (restS r n)
def hashS (r : List Int) : Nat → List (List Int)
  | 0 => []
  | n + 1 => hashS r n ++ [hashOf (restS r n)]
theorem hashS_h32 (r : List Int) : ∀ n, H32 (hashS r n)
  | 0 => H32.nil
  | n + 1 => (hashS_h32 r n).snoc (hashOf_len _)
theorem hashS_len (r : List Int) : ∀ n, (hashS r n).length = n
  | 0 => rfl
  | n + 1 => by rw [hashS, List.length_append, hashS_len r n]; rfl
theorem restS_le (r : List Int) : ∀ n, (restS r n).length ≤ r.length
  | 0 => Nat.le_refl _
  | n + 1 => Nat.le_trans (rawRest_len _) (restS_le r n)
theorem valS_rd {w : World} {v : Value} {r : List Int} (h : Rd w v 1 (ints .u8 r)) : ∀ n, Rd w (valS v r n) 1 (ints .u8 (restS r n))
  | 0 => h
  | n + 1 => rawV_rd (valS_rd h n)
theorem valS_blk (v : Value) (r : List Int) : ∀ n b, b ∈ blkOf (valS v r n) → b ∈ blkOf v
  | 0, _, h => h
  | n + 1, b, h => valS_blk v r n b (rawV_blk _ _ b h)
theorem restS_nil {r : List Int} (h : ints .u8 r = []) : ∀ n, ints .u8 (restS r n) = []
  | 0 => h
  | n + 1 => raw_nil (restS_nil h n)
theorem restS_add (r : List Int) (m : Nat) : ∀ n, restS (restS r m) n = restS r (m + n)
  | 0 => rfl
  | n + 1 => by rw [restS, restS_add r m n]; rfl
theorem badS_add (b : Bool) (r : List Int) (m : Nat) : ∀ n, badS (badS b r m) (restS r m) n = badS b r (m + n)
  | 0 => rfl
  | n + 1 => by rw [badS, badS_add b r m n, restS_add]; rfl
theorem restS_long {r : List Int} : ∀ {n : Nat}, 32 * n ≤ r.length → restS r n = r.drop (32 * n)
  | 0, _ => by simp [restS]
  | n + 1, h => by
    rw [restS, restS_long (n := n) (by omega), rawRest, if_pos (by rw [List.length_drop]; omega), List.drop_drop, Nat.mul_succ]
theorem badS_long {b : Bool} {r : List Int} : ∀ {n : Nat}, 32 * n ≤ r.length → badS b r n = b
  | 0, _ => rfl
  | n + 1, h => by
    rw [badS, badS_long (n := n) (by omega), restS_long (n := n) (by omega), List.length_drop]
    simp
    omega
theorem badS_short {b : Bool} {r : List Int} : ∀ {n : Nat}, r.length < 32 * n → badS b r n = true
  | 0, h => by omega
  | n + 1, h => by
    rw [badS]
    by_cases hn : r.length < 32 * n
    · rw [badS_short hn]; rfl
    · rw [restS_long (n := n) (by omega), List.length_drop]
      simp
      omega
theorem badS_true (r : List Int) : ∀ n, badS true r n = true
  | 0 => rfl
  | n + 1 => by rw [badS, badS_true r n]; rfl
/-- all is well at 40 digests, and nothing is left, just for so many bytes -/
theorem whole_iff (b : Bool) (r : List Int) : (!badS b r 40 && decide ((restS r 40).length = 0)) = (!b && decide (r.length = 1280)) := by
  cases b with
  | true => rw [badS_true]; simp only [Bool.not_true, Bool.false_and]
  | false =>
    by_cases h : 32 * 40 ≤ r.length
    · rw [badS_long (n := 40) h, restS_long (n := 40) h, List.length_drop]
      simp only [Bool.not_false, Bool.true_and]
      exact decide_eq_decide.2 (by omega)
    · rw [badS_short (n := 40) (by omega)]
      have : ¬ r.length = 1280 := by omega
      simp [this]
theorem hashS_cat (cs : List (List Int)) (hu : H32 cs) (t : List Int) : restS (cs.flatten ++ t) cs.length = t ∧ hashS (cs.flatten ++ t) cs.length = cs := by
  have hfl : ∀ {l : List (List Int)}, H32 l → l.flatten.length = 32 * l.length := fun {l} hl => by
    induction l with
    | nil => rfl
    | cons a r ih => rw [List.flatten_cons, List.length_append, hl.head, ih hl.tail, List.length_cons]; omega
  have key : ∀ n, n ≤ cs.length → restS (cs.flatten ++ t) n = (cs.drop n).flatten ++ t ∧ hashS (cs.flatten ++ t) n = cs.take n := by
    intro n
    induction n with
    | zero => intro _; exact ⟨rfl, rfl⟩
    | succ n ih =>
      intro hn
      obtain ⟨h1, h2⟩ := ih (by omega)
      have e : cs.drop n = cs.getD n [] :: cs.drop (n + 1) := by
        rw [List.drop_eq_getElem_cons (by omega), List.getD_eq_getElem?_getD, List.getElem?_eq_getElem (by omega)]
        rfl
      have hg := hu.get (i := n) (by omega)
      have hlen : 32 ≤ ((cs.drop n).flatten ++ t).length := by rw [e, List.flatten_cons, List.length_append, List.length_append, hg]; omega
      refine ⟨?_, ?_⟩
      · rw [restS, h1, rawRest, if_pos hlen, e, List.flatten_cons, List.append_assoc, List.drop_left' hg]
      · rw [hashS, h2, h1, hashOf, if_pos hlen, e, List.flatten_cons, List.append_assoc, List.take_left' hg, List.take_succ_eq_append_getElem (by omega), List.getD_eq_getElem?_getD, List.getElem?_eq_getElem (by omega)]
        rfl
  have := key cs.length (Nat.le_refl _)
  rw [List.drop_length, List.take_length] at this
  exact this
/-- a signature's bytes -/
def enc (leaf : Int) (cs ps : List (List Int)) : List Int := [leaf] ++ (cs ++ ps).flatten
theorem enc_len {leaf : Int} {cs ps : List (List Int)} (hu : H32 cs) (hu' : H32 ps) : (enc leaf cs ps).length = 1 + 32 * (cs.length + ps.length) := by
  have hfl : ∀ {l : List (List Int)}, H32 l → l.flatten.length = 32 * l.length := fun {l} hl => by
    induction l with
    | nil => rfl
    | cons a r ih => rw [List.flatten_cons, List.length_append, hl.head, ih hl.tail, List.length_cons]; omega
  rw [enc, List.length_append, hfl (hu.append hu'), List.length_append]
  rfl
/-- a number's byte -/
def numN : List Int → Int
  | [] => 0
  | c :: _ => c
def numV (v : Value) (r : List Int) : Value := if r = [] then nil0 else cutAt 1 v 1 r.length
theorem numV_rd {w : World} {v : Value} {r : List Int} (h : Rd w v 1 (ints .u8 r)) : Rd w (numV v r) 1 (ints .u8 r.tail) := by
  unfold numV
  split
  · next e => subst e; exact rd_nil0
  · next e =>
    have hl : 1 ≤ r.length := Nat.pos_of_ne_zero fun h => e (List.length_eq_zero_iff.1 h)
    have := h.cuti (lo := 1) (hi := r.length) hl (Nat.le_refl _)
    rwa [List.take_of_length_le (by rw [List.length_drop]; exact Nat.le_refl _), List.drop_one] at this
theorem numV_blk (v : Value) (r : List Int) : ∀ b, b ∈ blkOf (numV v r) → b ∈ blkOf v := by
  unfold numV
  split
  · intro b hb; simp [blkOf, nil0] at hb
  · exact blkOf_cut _ _ _ _
theorem num_nil {r : List Int} (h : ints .u8 r = []) : ints .u8 r.tail = [] := by
  have : r = [] := List.length_eq_zero_iff.1 (by have := congrArg List.length h; rwa [ints_length] at this)
  subst this
  rfl
theorem and127 : ∀ c : Nat, c < 128 → iand .u8 (c : Int) 127 = (c : Int) := by decide +kernel
theorem shl0 : ∀ c : Nat, c < 128 → ishl .u64 (c : Int) 0 = (c : Int) := by decide +kernel
theorem or0 : ∀ c : Nat, c < 128 → ior .u64 0 (c : Int) = (c : Int) := by decide +kernel
end Go.Proofs.Yteedclmcgifmpaa.Ky

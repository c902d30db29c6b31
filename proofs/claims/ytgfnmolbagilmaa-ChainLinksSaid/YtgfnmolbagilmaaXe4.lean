/- The statement's proof, part 4: what its walks and its plain laws need. -/
import Derived.Test.YtgfnmolbagilmaaRows
import Derived.Tactics
import Derived.Deep.Quiet
import Derived.StillTail
import Derived.Laws.World
import Derived.Laws.Sem
import Derived.Laws.Entries
import Derived.Below
import Derived.Deep.LoopGhost
import Derived.Laws.BytesString
import Derived.Laws.IdiomStrings
import Derived.KernelRfl
import Derived.Carry
import Derived.OpenShut
import Derived.ProofKit
import Derived.ChangeSame
import Derived.HandedShaped
import Derived.SizedLaws
import Derived.Test.YtgfnmolbagilmaaProg
import Derived.Laws.Strings
import Derived.Test.YtgfnmolbagilmaaXe3
namespace Go.Proofs.Ytgfnmolbagilmaa.Rt
open Go Fw Sha Ky Go.Proofs.Ytgfnmolbagilmaa
set_option linter.unusedSimpArgs false
set_option linter.unusedVariables false
theorem rawRest_byt {r : List Int} (h : Byt r) : Byt (rawRest r) := by
  unfold rawRest
  split
  · exact fun c hc => h c (List.mem_of_mem_drop hc)
  · exact fun c hc => by cases hc
theorem nRest_byt {r : List Int} (h : Byt r) : Byt (Rr.nRest r) := by
  intro c hc
  refine h c ?_
  unfold Rr.nRest at hc
  split at hc
  · exact List.mem_of_mem_drop hc
  · cases hc
theorem hashOf_byt {r : List Int} (h : Byt r) : Byt (hashOf r) := by
  unfold hashOf
  split
  · exact fun c hc => h c (List.mem_of_mem_take hc)
  · intro c hc
    have := List.eq_of_mem_replicate hc
    subst this
    exact ⟨by decide, by decide⟩
structure TRel (bad1 : Bool) (r1 : List Int) (n0 n : Int) (bad : Bool) (rc : List Int) (hs : List (List Int)) : Prop where
  h32 : H32 hs
  cnt : (hs.length : Int) + n = n0
  pos : 0 ≤ n
  len : bad = false → 32 * hs.length + rc.length ≤ r1.length
  len2 : 32 * hs.length ≤ r1.length + 32
  short : rc.length ≤ r1.length
  byt : Byt r1 → Byt rc ∧ ∀ y, y ∈ hs → Byt y
  sound : bad = false → bad1 = false ∧ r1 = hs.flatten ++ rc
  full : ∀ hs0 t, bad1 = false → n0 = (hs0.length : Nat) → r1 = hs0.flatten ++ t → H32 hs0 → bad = false ∧ hs = hs0.take hs.length ∧ rc = (hs0.drop hs.length).flatten ++ t
  rest : (bad1 = true → r1 = []) → bad = true → rc = []
theorem TRel.init (bad1 : Bool) (r1 : List Int) {n0 : Int} (h : 0 ≤ n0) : TRel bad1 r1 n0 n0 bad1 r1 [] :=
  ⟨H32.nil, by simp, h, by simp, by simp, Nat.le_refl _, fun hb => ⟨hb, fun y hy => by cases hy⟩, fun hb => ⟨hb, rfl⟩, fun hs0 t hb _ hr _ => ⟨hb, by simp, by simpa using hr⟩, fun h => h⟩
theorem TRel.step {bad1 : Bool} {r1 : List Int} {n0 n : Int} {bad : Bool} {rc : List Int} {hs : List (List Int)} (h : TRel bad1 r1 n0 n bad rc hs) (hn : 0 < n) (hb : bad = false) :
    TRel bad1 r1 n0 (n - 1) (bad || decide (rc.length < 32)) (rawRest rc) (hs ++ [hashOf rc]) := by
  have hl := h.len hb
  refine ⟨h.h32.snoc (hashOf_len _), by rw [List.length_append]; have := h.cnt; simp; omega, by omega, fun hb2 => ?_, by rw [List.length_append]; simp; omega, Nat.le_trans (rawRest_len _) h.short, fun hb2 => ⟨rawRest_byt (h.byt hb2).1, fun y hy => (List.mem_append.1 hy).elim ((h.byt hb2).2 y) (fun hy => List.mem_singleton.1 hy ▸ hashOf_byt (h.byt hb2).1)⟩, fun hb2 => ?_, fun hs0 t h1 h2 h3 h4 => ?_, fun _ hb2 => ?_⟩
  · rw [hb, Bool.false_or, decide_eq_false_iff_not] at hb2
    rw [rawRest, if_pos (by omega), List.length_append, List.length_drop]
    simp
    omega
  · rw [hb, Bool.false_or, decide_eq_false_iff_not] at hb2
    obtain ⟨h1, h2⟩ := h.sound hb
    refine ⟨h1, ?_⟩
    rw [rawRest, hashOf, if_pos (by omega), if_pos (by omega), h2, List.flatten_append]
    simp
  · obtain ⟨_, h5, h6⟩ := h.full hs0 t h1 h2 h3 h4
    have hc := h.cnt
    have hlt : hs.length < hs0.length := by omega
    have e : hs0.drop hs.length = hs0[hs.length] :: hs0.drop (hs.length + 1) := List.drop_eq_getElem_cons hlt
    have hg : hs0[hs.length].length = 32 := h4 _ (List.getElem_mem hlt)
    have e2 : rc = hs0[hs.length] ++ ((hs0.drop (hs.length + 1)).flatten ++ t) := by rw [h6, e, List.flatten_cons, List.append_assoc]
    have hlen : 32 ≤ rc.length := by rw [e2, List.length_append]; omega
    refine ⟨by rw [hb, Bool.false_or]; exact decide_eq_false (by omega), ?_, ?_⟩
    · rw [hashOf, if_pos hlen, List.length_append, List.length_singleton, List.take_succ_eq_append_getElem hlt, ← h5]
      congr 2
      rw [e2, List.take_left' hg]
    · rw [rawRest, if_pos hlen, List.length_append, List.length_singleton]
      conv => lhs; rw [e2]
      rw [List.drop_left' hg]
  · rw [hb, Bool.false_or, decide_eq_true_eq] at hb2
    rw [rawRest, if_neg (by omega)]
structure TEnd (lim bad0 : Bool) (r : List Int) (bad : Bool) (rc : List Int) (hs : List (List Int)) : Prop where
  h32 : H32 hs
  len : 32 * hs.length ≤ r.length + 32
  short : rc.length ≤ r.length
  five : lim = true → hs.length ≤ 5
  byt : Byt r → Byt rc ∧ ∀ y, y ∈ hs → Byt y
  mono : bad = false → bad0 = false
  sound : lim = false → bad = false → bad0 = false ∧ r = Rr.num (hs.length : Nat) ++ (hs.flatten ++ rc)
  full : ∀ hs0 t, bad0 = false → r = Rr.num (hs0.length : Nat) ++ (hs0.flatten ++ t) → H32 hs0 → hs0.length ≤ 4 → hs = hs0 ∧ rc = t ∧ bad = false
  rest : (bad0 = true → r = []) → bad = true → rc = []
theorem or_false' {a b : Bool} (h : (a || b) = false) : a = false ∧ b = false := by cases a <;> cases b <;> simp_all
theorem nRest_bad {bad0 : Bool} {r : List Int} (h0 : bad0 = true → r = []) (h : (bad0 || Rr.nBad r) = true) : Rr.nRest r = [] := by
  cases hb : bad0 with
  | true => rw [h0 hb]; rfl
  | false => rw [hb, Bool.false_or] at h; exact Rr.nRest_no h
theorem tend {lim bad0 : Bool} {r : List Int} {n : Int} {bad : Bool} {rc : List Int} {hs : List (List Int)} (hB : Byt r) (h : TRel (bad0 || Rr.nBad r) (Rr.nRest r) (Rr.nVal r) n bad rc hs) (he : n ≤ 0 ∨ bad = true ∨ (lim = true ∧ hs.length = 5)) (h5 : lim = true → hs.length ≤ 5) : TEnd lim bad0 r bad rc hs := by
  have hl := Rr.nRest_len r
  have hp := h.pos
  have hc := h.cnt
  refine ⟨h.h32, by have := h.len2; omega, by have := h.short; omega, h5, fun hb => h.byt (nRest_byt hb), fun hb => (or_false' (h.sound hb).1).1, fun hm hb => ?_, fun hs0 t h1 h2 h3 h4 => ?_, fun h0 hb => h.rest (nRest_bad h0) hb⟩
  · obtain ⟨h1, h2⟩ := h.sound hb
    obtain ⟨h3, h4⟩ := or_false' h1
    refine ⟨h3, ?_⟩
    have hn : n = 0 := by
      rcases he with he | he | he
      · omega
      · rw [hb] at he; cases he
      · rw [hm] at he; cases he.1
    rw [hn, Int.add_zero] at hc
    rw [hc, ← h2]
    exact Rr.num_of hB h4
  · obtain ⟨e1, e2, e3⟩ := Rr.num_back (n := (hs0.length : Nat)) (by omega) (by omega) (hs0.flatten ++ t)
    rw [← h2] at e1 e2 e3
    obtain ⟨h5, h6, h7⟩ := h.full hs0 t (by rw [h1, e3]; rfl) e1 e2 h3
    have hn : hs.length = hs0.length := by
      rcases he with he | he | he
      · omega
      · rw [h5] at he; cases he
      · omega
    rw [hn, List.take_length] at h6
    rw [hn, List.drop_length] at h7
    exact ⟨h6, h7, h5⟩
theorem krel {lim bad0 : Bool} {r : List Int} {bad : Bool} {rc : List Int} {hs : List (List Int)} (hB : Byt rc) (h : TEnd lim bad0 r bad rc hs) : KRel lim bad0 r ⟨hs, Rr.nVal rc⟩ (bad || Rr.nBad rc) (Rr.nRest rc) := by
  refine ⟨h.h32, h.len, Nat.le_trans (Rr.nRest_len _) h.short, h.five, fun hb => ⟨nRest_byt (h.byt hb).1, (h.byt hb).2⟩, Rr.nVal_rng rc, fun hb => h.mono (or_false' hb).1, fun hm hb => ?_, fun k0 t h1 h2 h3 => ?_, fun h0 hb => nRest_bad (h.rest h0) hb⟩
  · obtain ⟨h1, h2⟩ := or_false' hb
    obtain ⟨h3, h4⟩ := h.sound hm h1
    refine ⟨h3, ?_⟩
    rw [h4, encK]
    simp only [List.append_assoc]
    rw [← Rr.num_of hB h2]
  · rw [encK, List.append_assoc, List.append_assoc] at h2
    obtain ⟨h4, h5, h6⟩ := h.full k0.ks (Rr.num k0.need ++ t) h1 h2 h3.1 h3.2.1
    obtain ⟨e1, e2, e3⟩ := Rr.num_back h3.2.2.1 h3.2.2.2 t
    rw [← h5] at e1 e2 e3
    refine ⟨?_, e2, by rw [h6, e3]; rfl⟩
    rw [h4, e1]
structure RLoop (lim bad2 : Bool) (r2 : List Int) (rs : List KD) (bad : Bool) (rc : List Int) : Prop where
  h32 : ∀ k, k ∈ rs → H32 k.ks
  lens : ∀ k, k ∈ rs → 32 * k.ks.length ≤ r2.length + 32
  five : lim = true → ∀ k, k ∈ rs → k.ks.length ≤ 5
  byt : Byt r2 → Byt rc ∧ ∀ k, k ∈ rs → ∀ y, y ∈ k.ks → Byt y
  short : rc.length ≤ r2.length
  mono : bad = false → bad2 = false
  sound : lim = false → bad = false → bad2 = false ∧ r2 = encRs rs ++ rc
  full : ∀ l0 t, bad2 = false → r2 = encRs l0 ++ t → (∀ k, k ∈ l0 → okK k) → rs.length ≤ l0.length → bad = false ∧ rs = l0.take rs.length ∧ rc = encRs (l0.drop rs.length) ++ t
  rest : (bad2 = true → r2 = []) → bad = true → rc = []
theorem RLoop.init (lim bad2 : Bool) (r2 : List Int) : RLoop lim bad2 r2 [] bad2 r2 :=
  ⟨(fun k hk => by cases hk), (fun k hk => by cases hk), (fun _ k hk => by cases hk), fun hb => ⟨hb, fun k hk => by cases hk⟩, Nat.le_refl _, fun h => h, fun _ h => ⟨h, rfl⟩, fun l0 t h1 h2 _ _ => ⟨h1, by simp, by simpa using h2⟩, fun h => h⟩
theorem RLoop.step {lim bad2 : Bool} {r2 : List Int} {rs : List KD} {bad : Bool} {rc : List Int} {k : KD} {bad' : Bool} {rc' : List Int} (h : RLoop lim bad2 r2 rs bad rc) (g : KRel lim bad rc k bad' rc') : RLoop lim bad2 r2 (rs ++ [k]) bad' rc' := by
  refine ⟨fun y hy => ?_, fun y hy => ?_, fun hm y hy => ?_, fun hb => ⟨(g.byt (h.byt hb).1).1, fun y hy => (List.mem_append.1 hy).elim ((h.byt hb).2 y) (fun hy => List.mem_singleton.1 hy ▸ (g.byt (h.byt hb).1).2)⟩, Nat.le_trans g.short h.short, fun hb => h.mono (g.mono hb), fun hm hb => ?_, fun l0 t h1 h2 h3 h4 => ?_, fun h0 hb => g.rest (h.rest h0) hb⟩
  · rcases List.mem_append.1 hy with hy | hy
    · exact h.h32 y hy
    · rw [List.mem_singleton.1 hy]; exact g.h32
  · rcases List.mem_append.1 hy with hy | hy
    · exact h.lens y hy
    · rw [List.mem_singleton.1 hy]; have := g.len; have := h.short; omega
  · rcases List.mem_append.1 hy with hy | hy
    · exact h.five hm y hy
    · rw [List.mem_singleton.1 hy]; exact g.five hm
  · obtain ⟨h1, h2⟩ := g.sound hm hb
    obtain ⟨h3, h4⟩ := h.sound hm h1
    exact ⟨h3, by rw [h4, h2, encRs_snoc, List.append_assoc]⟩
  · rw [List.length_append, List.length_singleton] at h4
    obtain ⟨h5, h6, h7⟩ := h.full l0 t h1 h2 h3 (by omega)
    have hlt : rs.length < l0.length := by omega
    rw [rs_full h3 hlt] at h7
    obtain ⟨h8, h9, h10⟩ := g.full _ _ h5 h7 (h3 _ (by rw [List.getD_eq_getElem?_getD, List.getElem?_eq_getElem hlt]; exact List.getElem_mem _))
    refine ⟨h10, ?_, ?_⟩
    · rw [List.length_append, List.length_singleton, List.take_succ_eq_append_getElem hlt, ← h6, h8]
      congr 2
      rw [List.getD_eq_getElem?_getD, List.getElem?_eq_getElem hlt]
      rfl
    · rw [List.length_append, List.length_singleton]; exact h9
theorem rrel {lim bad : Bool} {r : List Int} {rs : List KD} {bad' : Bool} {rc : List Int} (hB : Byt r) (hl : rs.length = 4)
    (h : RLoop lim (bad || Rr.nBad r || Rr.nBad (Rr.nRest r)) (Rr.nRest (Rr.nRest r)) rs bad' rc) : RRel lim bad r ⟨Rr.nVal r, Rr.nVal (Rr.nRest r), rs⟩ bad' rc := by
  have hB1 : Byt (Rr.nRest r) := by
    intro c hc
    refine hB c ?_
    unfold Rr.nRest at hc
    split at hc
    · exact List.mem_of_mem_drop hc
    · cases hc
  have hl1 := Rr.nRest_len r
  have hl2 := Rr.nRest_len (Rr.nRest r)
  refine ⟨hl, h.h32, fun k hk => by have := h.lens k hk; omega, h.five, fun hb => (h.byt (nRest_byt (nRest_byt hb))).2, fun hb => (or_false' (or_false' (h.mono hb)).1).1, fun hm hb => ?_, fun x0 t h1 h2 h3 h4 h5 h6 => ?_, fun h0 hb => h.rest (fun hh => nRest_bad (nRest_bad h0) hh) hb⟩
  · obtain ⟨h1, h2⟩ := h.sound hm hb
    obtain ⟨h3, h4⟩ := or_false' h1
    obtain ⟨h5, h6⟩ := or_false' h3
    refine ⟨h5, ?_⟩
    have e1 := Rr.num_of hB h6
    have e2 := Rr.num_of hB1 h4
    rw [encB]
    simp only [List.append_assoc]
    rw [← h2, ← e2, ← e1]
  · rw [encB, List.append_assoc, List.append_assoc] at h2
    obtain ⟨e1, e2, e3⟩ := Rr.num_back (n := x0.ver) h5.1 (by omega) (Rr.num x0.exp ++ (encRs x0.roles ++ t))
    rw [← h2] at e1 e2 e3
    obtain ⟨e4, e5, e6⟩ := Rr.num_back (n := x0.exp) h6.1 (by omega) (encRs x0.roles ++ t)
    rw [← e2] at e4 e5 e6
    obtain ⟨h7, h8, h9⟩ := h.full x0.roles t (by rw [h1, e3, e6]; rfl) e5 h4 (by omega)
    rw [hl, ← h3, List.take_length] at h8
    rw [hl, ← h3, List.drop_length] at h9
    refine ⟨?_, h9, h7⟩
    rw [e1, e4, h8]
theorem dec_of {b : List Int} {x : RT} (h : decOK b x) (hu : ∀ y, decOK b y → y = x) : dec b = (x, 0) := by
  have he : ∃ r, decOK b r := ⟨x, h⟩
  unfold dec
  rw [dif_pos he]
  rw [hu _ (Classical.choose_spec he)]
theorem dec_not {b : List Int} (h : ∀ y, ¬ decOK b y) : dec b = (zeroR, 2) := by
  unfold dec
  rw [dif_neg (fun ⟨r, hr⟩ => h r hr)]
theorem decOK_full {lim : Bool} {b : List Int} {x y : RT} {bad' : Bool} {r' : List Int} (h : RRel lim (false || Rr.nBad b) (Rr.nRest b) x bad' r') (hy : decOK b y) : Rr.nVal b = 1 ∧ Rr.nBad b = false ∧ y = x ∧ r' = [] ∧ bad' = false := by
  obtain ⟨h1, h2, h3, h4⟩ := hy
  rw [encR, ← List.append_nil (Rr.num 1 ++ encB y), List.append_assoc] at h4
  obtain ⟨e1, e2, e3⟩ := Rr.num_back (n := 1) (by decide) (by decide) (encB y ++ [])
  rw [← h4] at e1 e2 e3
  obtain ⟨h5, h6, h7⟩ := h.full y [] (by rw [e3]; rfl) e2 h1 (fun k hk => isK_ok (h2 k hk) (h3.1 k hk)) ⟨by have := h3.2.1; omega, h3.2.2.1⟩ ⟨h3.2.2.2.1, h3.2.2.2.2⟩
  exact ⟨e1, e3, h5.symm, h6, h7⟩
/-- the program's way -/
theorem dec_prog {b : List Int} {x : RT} {bad' : Bool} {r' : List Int} (hB : Byt b) (h : RRel false (false || Rr.nBad b) (Rr.nRest b) x bad' r') (hk : Rr.nVal b = 1) (hw : bad' = false ∧ r'.length = 0) (hi : isRt x) : dec b = (x, 0) := by
  obtain ⟨h1, h2⟩ := h.sound rfl hw.1
  have e := Rr.num_of hB (by simpa using h1 : Rr.nBad b = false)
  refine dec_of ⟨h.len, h.h32, hi, ?_⟩ (fun y hy => (decOK_full h hy).2.2.1)
  rw [hk, h2, List.length_eq_zero_iff.1 hw.2, List.append_nil] at e
  rw [encR]
  exact e
theorem dec_prog_no {b : List Int} {x : RT} {bad' : Bool} {r' : List Int} (h : RRel false (false || Rr.nBad b) (Rr.nRest b) x bad' r') (hn : ¬ (Rr.nVal b = 1 ∧ (bad' = false ∧ r'.length = 0) ∧ isRt x)) : dec b = (zeroR, 2) :=
  dec_not fun y hy => by
    obtain ⟨h1, _, h2, h3, h4⟩ := decOK_full h hy
    exact hn ⟨h1, ⟨h4, by rw [h3]; rfl⟩, by rw [← h2]; exact hy.2.2.1⟩
theorem dec_kind {b : List Int} (hn : Rr.nVal b ≠ 1) : dec b = (zeroR, 2) :=
  dec_not fun y hy => by
    obtain ⟨_, _, _, h4⟩ := hy
    rw [encR, ← List.append_nil (Rr.num 1 ++ encB y), List.append_assoc] at h4
    obtain ⟨e1, _, _⟩ := Rr.num_back (n := 1) (by decide) (by decide) (encB y ++ [])
    rw [← h4] at e1
    exact hn e1
end Go.Proofs.Ytgfnmolbagilmaa.Rt

namespace Go.Proofs.Ytgfnmolbagilmaa.Fw
open Go Go.RowKit Go.Proofs.Ytgfnmolbagilmaa
set_option linter.unusedSimpArgs false
set_option linter.unusedVariables false
theorem lk_range {es : List Ent} {n i : Nat} {e : Ent} (hi : i < n) (h : es[i]? = some e) : lk ((List.range n).zip es) i = some e := by
  have key : ∀ (m s : Nat) (es : List Ent), i < s + m → s ≤ i → es[i - s]? = some e → lk ((List.range' s m).zip es) i = some e := by
    intro m
    induction m with
    | zero => intro s es h1 h2; omega
    | succ m ih =>
      intro s es h1 h2 h3
      cases es with
      | nil => simp at h3
      | cons x es =>
        rw [List.range'_succ, List.zip_cons_cons]
        by_cases e1 : s = i
        · subst e1
          rw [lk_cons_same]
          simpa using h3
        · rw [lk_cons_ne e1]
          refine ih (s + 1) es (by omega) (by omega) ?_
          have : i - s = (i - (s + 1)) + 1 := by omega
          rw [this] at h3
          simpa using h3
  have := key n 0 es (by omega) (Nat.zero_le _) (by simpa using h)
  rwa [← List.range_eq_range'] at this
end Go.Proofs.Ytgfnmolbagilmaa.Fw

namespace Go.Proofs.Ytgfnmolbagilmaa.Fw
open Go Go.RowKit Go.Proofs.Ytgfnmolbagilmaa
set_option linter.unusedSimpArgs false
set_option linter.unusedVariables false
def PostRM {ι : Type} (w : World) (M : List Nat) (Φ : ι → Prop) (v : ι → Value) (N : ι → List (Nat × Ent)) (R : ι → List (Value × Nat × List Value)) (e : Ending) (w' : World) : Prop :=
  ∃ x, Φ x ∧ e = .returned (v x) ∧ Gives w w' M (N x) ∧ (∀ y, y ∈ R x → Rd w' y.1 y.2.1 y.2.2 ∧ ∀ b, b ∈ blkOf y.1 → w.heap.size ≤ b) ∧ ∀ h e, lk (N x) h = some e → ∀ b, b ∈ e.ids → (FE.rows (R x)).off b
section
variable {P : Program} {Q : Exit → Act → World → Prop} {ops : Array Oper} {rest : List Oper} {E : Env} {L : List (Nat × Value)} {H : List (Nat × Ent)} {F : List (Nat × FE)}
variable {ty : TypeId} {pos : String} {af : Array Edge} {gd : Option (Nat × Bool)}
theorem st_callRM_fn {dst f : Nat} {c : Operand} {args : Array Operand} {Ts : Array TypeId} {vs ws vf vc : List Value} {ι : Type} {M : List Nat} {Φ : ι → Prop} {v : ι → Value} {N : ι → List (Nat × Ent)} {R : ι → List (Value × Nat × List Value)} (i : Nat) (hf : Has P f) (hcv : ev L c = some (.func (.func f) vf.toArray vc.toArray)) (ha : evs L args.toList = some vs) (hw : vf ++ vs ++ vc = ws)
    (hc : ∀ w, Sat E.w0 E.X H F w → Calls P f ws.toArray w (PostRM w M Φ v N R)) (hM : ∀ b, b ∈ M → ∃ k e, lk H k = some e ∧ b ∈ e.ids ∧ ∀ x, lk (N x) k ≠ none) (hg : wants ops L gd = some true) (hn : Nat.ble (dst + 1) E.n = true)
    (k : ∀ x, Φ x → (∀ y, y ∈ R x → ∀ b, b ∈ blkOf y.1 → E.w0.heap.size ≤ b) → At (wpList P ops Q rest) E ((dst, v x) :: L) (N x ++ H) ((i, .rows (R x)) :: F)) :
    At (wpList P ops Q (⟨some dst, .call { callee := .value c, args := args, argTypes := Ts }, ty, pos, af, gd⟩ :: rest)) E L H F := by
  refine st_run hg fun a w fa sw => ?_
  unfold Oper.wp
  rw [run_call_fn hf hcv ha hw fa w]
  refine (hc w sw).mono ?_
  rintro e w' ⟨x, hx, rfl, hG, hR, hO⟩
  show wpList P ops Q rest (a.put (some dst) (v x)) w'
  refine k x hx (fun y hy b hb => Nat.le_trans sw.size ((hR y hy).2 b hb)) _ _ (fa.put (Nat.le_of_ble_eq_true hn) _) ((sw.step hG (fun b hb => by
    obtain ⟨k', e', h1, h2, h3⟩ := hM b hb
    exact ⟨k', e', h1, h2, h3 x⟩)).read i (f := .rows (R x)) (fun y hy => (hR y hy).1) (fun h' e hh b hb y hy => ?_))
  rw [lk_append] at hh
  cases hN : lk (N x) h' with
  | some e' =>
    rw [hN] at hh
    cases hh
    exact hO _ _ hN b hb y hy
  | none =>
    rw [hN] at hh
    refine .inr fun hb' => ?_
    have h1 := (hR y hy).2 b hb'
    have h2 := Ent.lt (sw.hold _ _ hh) hb
    omega
theorem rnRM {f : FuncId} {vs : Array Value} {w : World} {ι : Type} {M : List Nat} {Φ : ι → Prop} {v : ι → Value} {e : ι → Ent} {R : ι → List (Value × Nat × List Value)} (i : Nat) (h : Calls P f vs w (PostRM w M Φ v (fun x => [(0, e x)]) R)) :
    Calls P f vs w (PostRM w M Φ v (fun x => [(i, e x)]) R) :=
  h.mono fun _ _ ⟨x, h1, h2, h3, h4, h5⟩ => ⟨x, h1, h2, h3.rn i, h4, fun h e hh b hb => by
    obtain ⟨rfl, rfl⟩ := lk_one hh
    exact h5 0 _ (lk_cons_same _ _ _) b hb⟩
end
section
variable {K : Act → World → Prop} {E : Env} {L : List (Nat × Value)} {H : List (Nat × Ent)} {F : List (Nat × FE)}
/-- An owned slice joins the rows; it is none of what the call was handed to be written. -/
theorem at_rows_own {h T sz i : Nat} {v : Value} {l : List Value} {H' : List (Nat × Ent)} {rs : List (Value × Nat × List Value)} (hh : lk H h = some (.own v T sz l)) (hf : lk F i = some (.rows rs)) (hH : Sub H' H) (hno : lk H' h = none) (hX : ∀ b, b ∈ E.X → ∃ k e, lk H' k = some e ∧ b ∈ e.ids)
    (k : (∀ b, b ∈ blkOf v → E.w0.heap.size ≤ b) → At K E L H' ((i, .rows ((v, sz, l) :: rs)) :: F)) : At K E L H F := fun a w fa sw =>
  k (fun b hb => (sw.fresh _ _ hh b hb).elim id fun hb2 => by
      obtain ⟨k', e, h1, h2⟩ := hX b hb2
      exact absurd hb (sw.apart k' e h _ (hH _ _ h1) hh (by intro e1; subst e1; rw [hno] at h1; cases h1) b h2)) a w fa ((sw.weaken hH (.refl _)).read i (f := .rows _)
    (fun x hx => by
      rcases List.mem_cons.1 hx with rfl | hx
      · exact sw.own_rd hh
      · exact sw.rd _ _ hf x hx)
    (fun h' e hh' b hb x hx => by
      rcases List.mem_cons.1 hx with rfl | hx
      · exact .inr fun hb' => sw.apart h' e h _ (hH _ _ hh') hh (by intro e1; subst e1; rw [hno] at hh'; cases hh') b hb hb'
      · exact sw.off _ _ _ _ hf (hH _ _ hh') b hb x hx))
end
end Go.Proofs.Ytgfnmolbagilmaa.Fw

namespace Go.Proofs.Ytgfnmolbagilmaa.Fw
open Go Go.RowKit Go.Proofs.Ytgfnmolbagilmaa
section
variable {Q : Exit → Act → World → Prop} {E : Env} {L : List (Nat × Value)} {H : List (Nat × Ent)} {F : List (Nat × FE)}
theorem ax_fmap {e : Exit} {h sz sz' : Nat} {v v' : Value} {l l' : List Value} (h' : Nat) (hh : lk F h = some (.sl v sz l)) (hR : ∀ w, Rd w v sz l → Rd w v' sz' l') (hB : ∀ b, b ∈ blkOf v' → b ∈ blkOf v) (hl : l = [] → l' = [])
    (k : AtX Q e E L H ((h', .sl v' sz' l') :: F)) : AtX Q e E L H F := fun a w fa sw => k a w fa (sw.fmap h' hh hR hB hl)
theorem ax_rows {e : Exit} {i : Nat} {rs rs' : List (Value × Nat × List Value)} (hf : lk F i = some (.rows rs)) (hs : ∀ y, y ∈ rs' → y ∈ rs) (k : AtX Q e E L H ((i, .rows rs') :: F)) : AtX Q e E L H F := fun a w fa sw =>
  k a w fa (sw.read i (f := .rows rs') (fun y hy => sw.rd _ _ hf y (hs y hy)) (fun h' e hh b hb y hy => sw.off _ _ _ _ hf hh b hb y (hs y hy)))
theorem at_rowsub {K : Act → World → Prop} {i : Nat} {rs rs' : List (Value × Nat × List Value)} (j : Nat) (hf : lk F i = some (.rows rs)) (hs : ∀ y, y ∈ rs' → y ∈ rs) (k : At K E L H ((j, .rows rs') :: F)) : At K E L H F := fun a w fa sw =>
  k a w fa (sw.read j (f := .rows rs') (fun y hy => sw.rd _ _ hf y (hs y hy)) (fun h' e hh b hb y hy => sw.off _ _ _ _ hf hh b hb y (hs y hy)))
end
end Go.Proofs.Ytgfnmolbagilmaa.Fw
namespace Go.Proofs.Ytgfnmolbagilmaa.Rt
open Go Fw Sha Ky Go.Proofs.Ytgfnmolbagilmaa
set_option linter.unusedSimpArgs false
set_option linter.unusedVariables false
theorem meas_lt {bd : Bool} {rc : List Int} (hb : bd = false) : (rawRest rc).length + (if (bd || decide (rc.length < 32)) = true then 0 else 1) < rc.length + (if bd = true then 0 else 1) := by
  rw [hb, Bool.false_or]
  by_cases h : rc.length < 32
  · rw [rawRest, if_neg (by omega), decide_eq_true h]; simp
  · rw [rawRest, if_pos (by omega), decide_eq_false h, List.length_drop]; simp; omega
abbrev Rol := Value × KD
def rolC (x : Rol) : List Value := [x.1, .int .i64 x.2.need]
def zC (n : Nat) : List Value := (List.replicate n [Value.slice none 0 0, .int .i64 0]).flatten
def rolsC (l : List Rol) : List Value := l.flatMap rolC
def rootC (ver exp : Int) (l : List Rol) : List Value := [.int .i64 ver, .int .i64 exp] ++ (rolsC l ++ zC (4 - l.length))
def rowsR (l : List Rol) : List (Value × Nat × List Value) := l.map fun x => (x.1, 32, flat x.2.ks)
theorem rolsC_len : ∀ (l : List Rol), (rolsC l).length = l.length * 2
  | [] => rfl
  | x :: l => by rw [rolsC, List.flatMap_cons, List.length_append, List.length_cons]; have := rolsC_len l; rw [rolsC] at this; rw [this]; simp [rolC]; omega
theorem zC_len (n : Nat) : (zC n).length = n * 2 := by
  induction n with
  | zero => rfl
  | succ n ih => rw [zC, List.replicate_succ, List.flatten_cons, List.length_append]; rw [zC] at ih; rw [ih]; simp; omega
theorem rootC_len (ver exp : Int) {l : List Rol} (h : l.length ≤ 4) : (rootC ver exp l).length = 10 := by
  rw [rootC, List.length_append, List.length_append, rolsC_len, zC_len]; simp; omega
theorem rootC_set (ver exp : Int) {l : List Rol} (h : l.length < 4) (x : Rol) : wr (rootC ver exp l) (2 + l.length * 2) (rolC x) = rootC ver exp (l ++ [x]) := by
  obtain ⟨m, hm⟩ : ∃ m, 4 - l.length = m + 1 := ⟨3 - l.length, by omega⟩
  have e1 : rootC ver exp l = ([.int .i64 ver, .int .i64 exp] ++ rolsC l) ++ ([Value.slice none 0 0, .int .i64 0] ++ zC m) := by
    rw [rootC, hm, zC, List.replicate_succ, List.flatten_cons, ← zC]; simp
  have e2 : ([Value.int .i64 ver, .int .i64 exp] ++ rolsC l).length = 2 + l.length * 2 := by rw [List.length_append, rolsC_len]; rfl
  have e3 : rootC ver exp (l ++ [x]) = ([.int .i64 ver, .int .i64 exp] ++ rolsC l) ++ (rolC x ++ zC m) := by
    rw [rootC, List.length_append, List.length_singleton, show 4 - (l.length + 1) = m by omega, rolsC, List.flatMap_append]; simp [rolsC]
  rw [e1, e3, wr, List.take_left' e2, List.append_assoc]
  congr 1
  congr 1
  rw [List.drop_append, e2, List.drop_eq_nil_of_le (by rw [e2]; simp), List.nil_append, Nat.add_sub_cancel_left]
  rfl
theorem rolsC_drop : ∀ (l : List Rol) (i : Nat), (rolsC l).drop (i * 2) = rolsC (l.drop i)
  | l, 0 => by simp
  | [], i + 1 => by simp [rolsC]
  | x :: l, i + 1 => by
    rw [rolsC, List.flatMap_cons, show (i + 1) * 2 = 2 + i * 2 by omega, ← List.drop_drop, List.drop_left' (by rfl), List.drop_succ_cons]
    exact rolsC_drop l i
def rol0 : Rol := (.slice none 0 0, ⟨[], 0⟩)
theorem rolsC_get {l : List Rol} {i : Nat} (hi : i < l.length) : ((rolsC l).drop (i * 2)).take 2 = rolC (l.getD i rol0) := by
  rw [rolsC_drop, List.drop_eq_getElem_cons hi, rolsC, List.flatMap_cons, List.take_left' (by rfl), List.getD_eq_getElem?_getD, List.getElem?_eq_getElem hi]
  rfl
theorem rootC_rols (ver exp : Int) {l : List Rol} (h : l.length = 4) : ((rootC ver exp l).drop 2).take 8 = rolsC l := by
  rw [rootC, h, List.drop_left' (by rfl), show zC (4 - 4) = [] from rfl, List.append_nil, List.take_of_length_le (by rw [rolsC_len, h]; decide)]
theorem rowsR_mem {l : List Rol} {i : Nat} (hi : i < l.length) : ((l.getD i rol0).1, 32, flat (l.getD i rol0).2.ks) ∈ rowsR l := by
  refine List.mem_map.2 ⟨l[i], List.getElem_mem hi, ?_⟩
  rw [List.getD_eq_getElem?_getD, List.getElem?_eq_getElem hi]
  rfl
theorem rowsR_snoc (l : List Rol) (x : Rol) : ∀ y, y ∈ rowsR (l ++ [x]) ↔ y = (x.1, 32, flat x.2.ks) ∨ y ∈ rowsR l := fun y => by
  simp only [rowsR, List.map_append, List.mem_append, List.map_cons, List.map_nil, List.mem_singleton]
  exact or_comm
theorem rolsC_one {l : List Rol} (h : ∀ x, x ∈ l → x.1.oneCell' = true) : ∀ u, u ∈ rolsC l → u.oneCell' = true := fun u hu => by
  obtain ⟨x, hx, hu⟩ := List.mem_flatMap.1 hu
  simp only [rolC, List.mem_cons, List.not_mem_nil, or_false] at hu
  rcases hu with rfl | rfl
  · exact h x hx
  · rfl
theorem zC_one (n : Nat) : ∀ u, u ∈ zC n → u.oneCell' = true := fun u hu => by
  obtain ⟨a, ha, hu⟩ := List.mem_flatten.1 hu
  rw [(List.mem_replicate.1 ha).2] at hu
  simp only [List.mem_cons, List.not_mem_nil, or_false] at hu
  rcases hu with rfl | rfl <;> rfl
theorem rootC_one (ver exp : Int) {l : List Rol} (h : ∀ x, x ∈ l → x.1.oneCell' = true) : ∀ u, u ∈ rootC ver exp l → u.oneCell' = true := fun u hu => by
  rcases List.mem_append.1 hu with hu | hu
  · simp only [List.mem_cons, List.not_mem_nil, or_false] at hu
    rcases hu with rfl | rfl <;> rfl
  · rcases List.mem_append.1 hu with hu | hu
    · exact rolsC_one h u hu
    · exact zC_one _ u hu
def kds (l : List Rol) : List KD := l.map (·.2)
theorem kds_snoc (l : List Rol) (x : Rol) : kds (l ++ [x]) = kds l ++ [x.2] := by simp [kds]
theorem kds_len (l : List Rol) : (kds l).length = l.length := by simp [kds]
theorem kds_get {l : List Rol} {i : Nat} (hi : i < l.length) : (l.getD i rol0).2 ∈ kds l := by
  refine List.mem_map.2 ⟨l[i], List.getElem_mem hi, ?_⟩
  rw [List.getD_eq_getElem?_getD, List.getElem?_eq_getElem hi]; rfl
instance (r : RT) : Decidable (isRt r) := by unfold isRt; infer_instance
def zeros : List Rol := List.replicate 4 rol0
theorem zeros_rd {w : World} {n : Nat} : ∀ y, y ∈ rowsR zeros → Rd w y.1 y.2.1 y.2.2 ∧ ∀ b, b ∈ blkOf y.1 → n ≤ b := fun y hy => by
  obtain ⟨x, hx, rfl⟩ := List.mem_map.1 hy
  rw [(List.mem_replicate.1 hx).2]
  exact ⟨⟨none, 0, 0, rfl, rfl, Nat.le_refl _, fun _ => rfl, fun x hx => by cases hx⟩, fun b hb => by simp [rol0, blkOf] at hb⟩
theorem zeros_one : ∀ x, x ∈ zeros → x.1.oneCell' = true := fun x hx => by rw [(List.mem_replicate.1 hx).2]; rfl
end Go.Proofs.Ytgfnmolbagilmaa.Rt

namespace Go.Proofs.Ytgfnmolbagilmaa.Rt
open Go Fw Sha Ky Go.Proofs.Ytgfnmolbagilmaa
set_option linter.unusedSimpArgs false
set_option linter.unusedVariables false
theorem rootC_get (ver exp : Int) {l : List Rol} {i : Nat} (hi : i < l.length) : ((rootC ver exp l).drop (2 + i * 2)).take 2 = rolC (l.getD i rol0) := by
  rw [rootC, ← List.drop_drop, List.drop_left' (by rfl), List.drop_append_of_le_length (by rw [rolsC_len]; omega), List.take_append_of_le_length (by rw [List.length_drop, rolsC_len]; omega), rolsC_get hi]
theorem encK_byt {k : KD} (h : ∀ x, x ∈ k.ks → Byt x) : Byt (encK k) := fun c hc => by
  rcases List.mem_append.1 hc with hc | hc
  · exact Rr.num_byt _ c hc
  · rcases List.mem_append.1 hc with hc | hc
    · obtain ⟨x, hx, hc⟩ := List.mem_flatten.1 hc
      exact h x hx c hc
    · exact Rr.num_byt _ c hc
theorem encR_byt {x : RT} (h : ∀ k, k ∈ x.roles → ∀ y, y ∈ k.ks → Byt y) : Byt (encR x) := fun c hc => by
  rcases List.mem_append.1 hc with hc | hc
  · exact Rr.num_byt _ c hc
  · rcases List.mem_append.1 hc with hc | hc
    · exact Rr.num_byt _ c hc
    · rcases List.mem_append.1 hc with hc | hc
      · exact Rr.num_byt _ c hc
      · obtain ⟨k, hk, hc⟩ := List.mem_flatMap.1 hc
        exact encK_byt (h k hk) c hc
theorem encRs_len {l : List KD} (hu : ∀ k, k ∈ l → H32 k.ks) (m : Nat) (hm : ∀ k, k ∈ l → k.ks.length ≤ m) : (encRs l).length ≤ l.length * (18 + 32 * m) := by
  induction l with
  | nil => simp [encRs]
  | cons k l ih =>
    have h1 := encK_len (hu k (by simp))
    have h2 := hm k (by simp)
    have h3 := ih (fun k hk => hu k (by simp [hk])) (fun k hk => hm k (by simp [hk]))
    rw [encRs_cons, List.length_append, List.length_cons, Nat.succ_mul]
    omega
end Go.Proofs.Ytgfnmolbagilmaa.Rt

namespace Go.Proofs.Ytgfnmolbagilmaa.Qm
open Go Fw Sha Ots Mk Go.Proofs.Ytgfnmolbagilmaa
set_option linter.unusedSimpArgs false
set_option linter.unusedVariables false
structure Mark where
  key : List Int
  leaf : Int
  vc : Value
  vp : Value
  cs : List (List Int)
  ps : List (List Int)
def mcells (x : Mark) : List Value := ints .u8 x.key ++ [.int .i64 x.leaf, x.vc, x.vp]
def mflat (ms : List Mark) : List Value := ms.flatMap mcells
def MOk (x : Mark) : Prop := x.key.length = 32 ∧ H32 x.cs ∧ H32 x.ps ∧ x.cs.length ≤ 140737488352000 ∧ x.ps.length ≤ 140737488352000
def AOk (ms : List Mark) : Prop := ∀ x, x ∈ ms → MOk x
def MRd (w : World) (x : Mark) : Prop := Rd w x.vc 32 (flat x.cs) ∧ Rd w x.vp 32 (flat x.ps)
def Keeps (w w1 : World) : Prop := ∀ b, b < w.heap.size → w1.heap[b]? = w.heap[b]?
theorem Keeps.rd {w w1 : World} (k : Keeps w w1) {v : Value} {sz : Nat} {l : List Value} (h : Rd w v sz l) : Rd w1 v sz l := h.keep fun b hb _ _ => k b hb
theorem Keeps.lies {w w1 : World} (k : Keeps w w1) {b off : Nat} {l : List Value} (h : Lies w b off l) : Lies w1 b off l := h.keep fun hb _ => k b hb
theorem Keeps.mrd {w w1 : World} (k : Keeps w w1) {x : Mark} (h : MRd w x) : MRd w1 x := ⟨k.rd h.1, k.rd h.2⟩
theorem Keeps.of {w0 w1 : World} {H : List (Nat × Ent)} {F : List (Nat × FE)} (sw : Sat w0 [] H F w1) : Keeps w0 w1 := fun b hb => sw.old b hb (by simp)
theorem mcells_len {x : Mark} (h : MOk x) : (mcells x).length = 35 := by simp [mcells, ints_length, h.1]
theorem mflat_len : ∀ {ms : List Mark}, AOk ms → (mflat ms).length = ms.length * 35
  | [], _ => rfl
  | x :: ms, h => by
    have h1 := mcells_len (h x (by simp))
    have h2 := mflat_len (ms := ms) fun y hy => h y (by simp [hy])
    rw [mflat, List.flatMap_cons, List.length_append, h1, List.length_cons]
    have : (List.flatMap mcells ms).length = ms.length * 35 := h2
    omega
theorem mflat_drop : ∀ {ms : List Mark} (i : Nat), AOk ms → (mflat ms).drop (i * 35) = mflat (ms.drop i)
  | ms, 0, _ => by simp
  | [], i + 1, _ => by simp [mflat]
  | x :: ms, i + 1, h => by
    have h1 := mcells_len (h x (by simp))
    have h2 := mflat_drop (ms := ms) i fun y hy => h y (by simp [hy])
    rw [mflat, List.flatMap_cons, List.drop_append, List.drop_eq_nil_of_le (by omega), h1, List.nil_append, show (i + 1) * 35 - 35 = i * 35 by omega]
    exact h2
theorem mflat_get {ms : List Mark} {i : Nat} (h : AOk ms) (hi : i < ms.length) : ((mflat ms).drop (i * 35)).take 35 = mcells ms[i] := by
  have h1 := mcells_len (h ms[i] (List.getElem_mem hi))
  rw [mflat_drop i h, List.drop_eq_getElem_cons hi, mflat, List.flatMap_cons, List.take_left' h1]
theorem mflat_take {ms : List Mark} (n : Nat) (h : AOk ms) : (mflat ms).take (n * 35) = mflat (ms.take n) := by
  induction ms generalizing n with
  | nil => simp [mflat]
  | cons x ms ih =>
    cases n with
    | zero => simp [mflat]
    | succ n =>
      have h1 := mcells_len (h x (by simp))
      have h2 := ih n fun y hy => h y (by simp [hy])
      rw [mflat, List.flatMap_cons, List.take_append, h1, List.take_of_length_le (by omega), show (n + 1) * 35 - 35 = n * 35 by omega, List.take_succ_cons, mflat, List.flatMap_cons]
      congr 1
theorem AOk.take {ms : List Mark} (h : AOk ms) (n : Nat) : AOk (ms.take n) := fun x hx => h x (List.mem_of_mem_take hx)
theorem mkey {x : Mark} (h : MOk x) : ((mcells x).drop 0).take 32 = ints .u8 x.key := by
  rw [List.drop_zero, mcells, List.take_left' (by rw [ints_length, h.1])]
theorem msig {x : Mark} (h : MOk x) : ((mcells x).drop 32).take 3 = [.int .i64 x.leaf, x.vc, x.vp] := by
  rw [mcells, List.drop_left' (by rw [ints_length, h.1])]; rfl
def hits (h body : List Int) (x : Mark) : Prop := x.key = h ∧ Ky.verP h body x.leaf x.cs x.ps
instance (h body : List Int) (x : Mark) : Decidable (hits h body x) := by unfold hits; infer_instance
def some4 (body : List Int) (ms : List Mark) (h : List Int) : Prop := ∃ x, x ∈ ms.take 4 ∧ hits h body x
instance (body : List Int) (ms : List Mark) (h : List Int) : Decidable (some4 body ms h) := by unfold some4; infer_instance
/-- those keys that signed -/
def who (body : List Int) (ms : List Mark) : List (List Int) → List (List Int)
  | ks => ks.foldl (fun l h => if h ∉ l ∧ some4 body ms h then l ++ [h] else l) []
theorem who_snoc (body : List Int) (ms : List Mark) (ks : List (List Int)) (h : List Int) : who body ms (ks ++ [h]) = if h ∉ who body ms ks ∧ some4 body ms h then who body ms ks ++ [h] else who body ms ks := by
  rw [who, List.foldl_append]; rfl
theorem who_h32 (body : List Int) (ms : List Mark) {ks : List (List Int)} (hu : H32 ks) : H32 (who body ms ks) ∧ (who body ms ks).length ≤ ks.length := by
  have key : ∀ n, n ≤ ks.length → H32 (who body ms (ks.take n)) ∧ (who body ms (ks.take n)).length ≤ n := by
    intro n
    induction n with
    | zero => intro _; exact ⟨by rw [List.take_zero]; exact H32.nil, by rw [List.take_zero]; exact Nat.le_refl _⟩
    | succ n ih =>
      intro hn
      obtain ⟨h1, h2⟩ := ih (by omega)
      rw [List.take_succ_eq_append_getElem (by omega), who_snoc]
      split
      · exact ⟨h1.snoc (hu _ (List.getElem_mem _)), by rw [List.length_append]; simp; omega⟩
      · exact ⟨h1, by omega⟩
  have := key ks.length (Nat.le_refl _)
  rwa [List.take_length] at this
/-- the first that p holds of, or -1 -/
def firstP {α : Type} (p : α → Bool) (l : List α) : Int := match l.findIdx? p with | some i => i | none => -1
theorem firstP_ge {α : Type} (p : α → Bool) (l : List α) : decide (0 ≤ firstP p l) = l.any p := by
  cases h : l.findIdx? p with
  | none =>
    rw [firstP, h]
    have := List.findIdx?_eq_none_iff.1 h
    have h2 : l.any p = false := by rw [List.any_eq_false]; intro x hx; rw [this x hx]; simp
    rw [h2]; rfl
  | some i =>
    rw [firstP, h]
    have := List.findIdx?_eq_some_iff_getElem.1 h
    obtain ⟨hi, hp, _⟩ := this
    have h2 : l.any p = true := List.any_eq_true.2 ⟨l[i], List.getElem_mem hi, hp⟩
    rw [h2]
    exact decide_eq_true (Int.natCast_nonneg i)
theorem firstP_hit {α : Type} {p : α → Bool} {l : List α} {i : Nat} (hi : i < l.length) (h1 : ∀ j, (hj : j < i) → p (l[j]'(by omega)) = false) (h2 : p l[i] = true) : firstP p l = i := by
  have : l.findIdx? p = some i := List.findIdx?_eq_some_iff_getElem.2 ⟨hi, h2, fun j hj => by rw [h1 j hj]; simp⟩
  rw [firstP, this]
theorem firstP_miss {α : Type} {p : α → Bool} {l : List α} (h1 : ∀ j, (hj : j < l.length) → p l[j] = false) : firstP p l = -1 := by
  have : l.findIdx? p = none := List.findIdx?_eq_none_iff.2 fun x hx => by
    obtain ⟨j, hj, rfl⟩ := List.getElem_of_mem hx
    exact h1 j hj
  rw [firstP, this]
end Go.Proofs.Ytgfnmolbagilmaa.Qm

namespace Go.Proofs.Ytgfnmolbagilmaa.Qm
open Go Fw Sha Ots Mk Go.Proofs.Ytgfnmolbagilmaa
set_option linter.unusedSimpArgs false
set_option linter.unusedVariables false
theorem eqK_not {ks : List (List Int)} {need : Int} {i j : Nat} (hj : j < i) (hi : i < ks.length) (h : ks.getD i [] = ks.getD j []) : ¬ isK ks need := fun hh => by
  have h1 : outK ks need (i + 1) := ⟨hh.2, fun a ha => hh.1 a (by omega)⟩
  exact ((innK_all hi).2 h1).2 j hj h
end Go.Proofs.Ytgfnmolbagilmaa.Qm

namespace Go.Proofs.Ytgfnmolbagilmaa
open Go Go.RowKit Fw
open Sha
open Mk
set_option linter.unusedVariables false
set_option linter.unusedSimpArgs false
theorem half_of {n j : Nat} (h1 : 2 ^ j < n) (h2 : ¬ 2 * 2 ^ j < n) : half n = 2 ^ j := by
  rw [half, (Nat.log2_eq_iff (k := j) (by have := Nat.pow_pos (n := j) (show 0 < 2 by decide); omega)).2 ⟨by omega, by rw [Nat.pow_succ]; omega⟩]
theorem droph {w : World} {v : Value} {hs : List (List Int)} {i : Nat} (h : Rd w v 32 (flat hs)) (hu : H32 hs) (hi : i ≤ hs.length) : Rd w (cutAt 32 v i hs.length) 32 (flat (hs.drop i)) := by
  have := h.cuth (lo := i) (hi := hs.length) hu hi (Nat.le_refl _)
  rwa [List.take_of_length_le (by rw [List.length_drop]; exact Nat.le_refl _)] at this
theorem up_take (leaf : List Int) (i : Int) {p : List (List Int)} {k : Nat} (hk : k < p.length) : up leaf i (p.take (k + 1)) = if i / 2 ^ k % 2 = 0 then node (up leaf i (p.take k)) (p.getD k []) else node (p.getD k []) (up leaf i (p.take k)) := by
  have e : p.take (k + 1) = p.take k ++ [p.getD k []] := by
    rw [List.take_succ_eq_append_getElem hk, List.getD_eq_getElem?_getD, List.getElem?_eq_getElem hk]
    rfl
  rw [e, up_snoc, List.length_take, Nat.min_eq_left (by omega)]
theorem div_step (i : Int) (k : Nat) : i / 2 ^ k / 2 = i / 2 ^ (k + 1) := by
  rw [Int.pow_succ]
  exact Int.ediv_ediv_of_nonneg (Int.le_of_lt (Int.pow_pos (by decide)))
theorem div_range {i : Int} (h : 0 ≤ i) (k : Nat) : 0 ≤ i / 2 ^ k ∧ i / 2 ^ k ≤ i :=
  ⟨Int.ediv_nonneg h (Int.le_of_lt (Int.pow_pos (by decide))), Int.ediv_le_self _ h⟩
theorem root_small {cs : List (List Int)} (h : cs.length = 1) : root cs = cs.getD 0 [] := by
  match cs, h with
  | [a], _ => exact root_one a
set_option maxRecDepth 20000 in
set_option maxHeartbeats 1000000 in
theorem rhalf_any (n : Nat) (w : World) (h2 : 2 ≤ n) (hn : n ≤ 1000000000000) : Calls Try.prog 99 #[.int .i64 (n : Int)] w (PostV w (.int .i64 (half n : Int))) := by
  refine calls_at (vs := [.int .i64 (n : Int)]) (X := []) (H := []) (F := []) 11 Try.func99 rfl rfl rfl (Sat.start0 w) ?_
  refine cd_seq ?_
  refine cd_region ?_
  refine st (ev_assign rfl) rfl rfl rfl ?_
  refine op_nil ?_
  refine ax_then ?_
  refine At.regs (L' := [(0, _), (2, _)]) (.cons rfl (.cons rfl (.nil _))) ?_
  refine cd_seq ?_
  refine cd_region ?_
  refine st (ev_assign rfl) rfl rfl rfl ?_
  refine op_nil ?_
  refine ax_then ?_
  refine At.regs (L' := [(0, _), (2, _), (3, _)]) (.cons rfl (.cons rfl (.cons rfl (.nil _)))) ?_
  refine cd_seq ?_
  refine cd_block ?_
  refine cd_loop (ι := Nat) (fun j => 2 ^ j < n) (fun j => n - 2 ^ j)
      (fun j => [(0, .int .i64 (n : Int)), (3, .int .i64 ((2 ^ j : Nat) : Int))])
      (fun j => [])
      (fun j => [])
      0 (by omega) (.cons rfl (.cons rfl (.nil _))) (.nil _) (.nil _) (fun j hi => ?_)
  have hp : 0 < 2 ^ j := Nat.pow_pos (by decide)
  refine cd_seq ?_
  refine cd_seq ?_
  refine cd_region ?_
  refine st (ev_move rfl) rfl rfl rfl ?_
  refine st (ev_mul64 rfl rfl (by omega) (by omega)) rfl rfl rfl ?_
  refine st (ev_move rfl) rfl rfl rfl ?_
  refine st (ev_lss rfl rfl) rfl rfl rfl ?_
  refine op_nil ?_
  refine ax_then ?_
  refine At.regs (L' := [(0, _), (3, _), (4, _), (5, _), (6, _), (7, _)]) (.cons rfl (.cons rfl (.cons rfl (.cons rfl (.cons rfl (.cons rfl (.nil _))))))) ?_
  refine cd_if rfl (fun hc7 => ?_) (fun hc7 => ?_)
  ·
    refine cd_skip ?_
    refine ax_then ?_
    refine At.regs (L' := [(0, _), (3, _), (4, _), (5, _), (6, _), (7, _)]) (.cons rfl (.cons rfl (.cons rfl (.cons rfl (.cons rfl (.cons rfl (.nil _))))))) ?_
    refine cd_block ?_
    refine cd_region ?_
    refine st (ev_move rfl) rfl rfl rfl ?_
    refine st (ev_mul64 rfl rfl (by omega) (by omega)) rfl rfl rfl ?_
    refine st (ev_assign rfl) rfl rfl rfl ?_
    refine op_nil ?_
    refine ax_block ?_
    refine ax_eq (i := 3) (v' := .int .i64 ((2 ^ (j + 1) : Nat) : Int)) rfl (by congr 1; rw [Nat.pow_succ]; omega) ?_
    exact at_again (j + 1) (by rw [Nat.pow_succ]; omega) (by rw [Nat.pow_succ]; omega) (.cons rfl (.cons rfl (.nil _))) (.nil _) (.nil _)
  ·
    refine at_eq (i := 3) (v' := .int .i64 (half n : Int)) rfl (by rw [half_of hi (by omega)]) ?_
    refine cd_exit ?_
    refine ax_then_exit ?_
    refine ax_then_exit ?_
    refine ax_block_hit ?_
    refine ax_then ?_
    refine At.regs (L' := [(3, _)]) (.cons rfl (.nil _)) ?_
    refine cd_seq ?_
    refine cd_region ?_
    refine st (ev_move rfl) rfl rfl rfl ?_
    refine st (ev_assign rfl) rfl rfl rfl ?_
    refine op_nil ?_
    refine ax_then ?_
    refine At.regs (L' := [(2, _)]) (.cons rfl (.nil _)) ?_
    refine cd_ret ?_
    refine rt_tmp (.inl rfl) Try.results99 rfl ?_
    exact fun w1 sw => ⟨rfl, sw.gives (.nil _)⟩
set_option maxRecDepth 20000 in
set_option maxHeartbeats 1000000 in
theorem node_any (a b : List Int) (w : World) (ha : a.length = 32) (hb : b.length = 32) : Calls Try.prog 109 #[.agg (ints .u8 (a)).toArray, .agg (ints .u8 (b)).toArray] w (PostV w (.agg (ints .u8 (node a b)).toArray)) := by
  refine calls_at (vs := [.agg (ints .u8 (a)).toArray, .agg (ints .u8 (b)).toArray]) (X := []) (H := []) (F := []) 11 Try.func109 rfl rfl rfl (Sat.start0 w) ?_
  refine cd_seq ?_
  refine cd_region ?_
  refine st_box (h := 2) rfl rfl rfl rfl (fun b2 => ?_)
  refine st_box (h := 3) rfl rfl rfl rfl (fun b3 => ?_)
  refine st_alloc (h := 4) ty55 rfl rfl rfl (fun b4 => ?_)
  refine op_nil ?_
  refine ax_then ?_
  refine At.regs (L' := [(2, _), (3, _), (4, _)]) (.cons rfl (.cons rfl (.cons rfl (.nil _)))) ?_
  refine cd_seq ?_
  refine cd_mix hmix ?_
  refine mx (i := 1) rfl (by decide +kernel) (by decide +kernel) (by decide +kernel) rfl (fun w0 => ev_slice_arr_all Try.underlying55 ty5 rfl) rfl rfl (Sub.refl _) ?_
  refine mx (i := 3) rfl (by decide +kernel) (by decide +kernel) (by decide +kernel) rfl (fun w0 => ev_slice_arr_all Try.underlying55 ty5 rfl) rfl rfl (Sub.refl _) ?_
  refine mx_one (i := 0) (by decide +kernel) (Sub.refl _) ?_
  refine wo (i := 0) rfl ?_
  refine st_bsi (h := 5) (xs := [_]) Try.underlying28 ty5 (by decide) rfl rfl (by decide) rfl rfl (fun b5 => ?_)
  refine op_nil ?_
  refine ax_then ?_
  refine mx_one (i := 2) (by decide +kernel) (Sub.refl _) ?_
  refine wo (i := 2) rfl ?_
  refine st_appendi (h := 5) Try.underlying28 Try.underlying28 ty5 rfl rfl rfl rfl (fun w1 sw => rd_blk_all sw (h := 2) rfl (by first | omega | (simp only [List.length_append, List.length_cons, List.length_nil, List.length_set, List.length_replicate, List.length_take, List.length_drop, ints_length, wr_length, node_len] <;> omega) | rfl)) (by first | omega | (simp only [List.length_append, List.length_cons, List.length_nil, List.length_set, List.length_replicate, List.length_take, List.length_drop, ints_length, wr_length, node_len] <;> omega)) (by decide) rfl rfl (fun v7 => ?_)
  refine op_nil ?_
  refine ax_then ?_
  refine mx_one (i := 4) (by decide +kernel) (Sub.refl _) ?_
  refine wo (i := 4) rfl ?_
  refine st_appendi (h := 5) Try.underlying28 Try.underlying28 ty5 rfl rfl rfl rfl (fun w1 sw => rd_blk_all sw (h := 3) rfl (by first | omega | (simp only [List.length_append, List.length_cons, List.length_nil, List.length_set, List.length_replicate, List.length_take, List.length_drop, ints_length, wr_length, node_len] <;> omega) | rfl)) (by first | omega | (simp only [List.length_append, List.length_cons, List.length_nil, List.length_set, List.length_replicate, List.length_take, List.length_drop, ints_length, wr_length, node_len] <;> omega)) (by decide) rfl rfl (fun v9 => ?_)
  refine op_nil ?_
  refine ax_then ?_
  refine mx_one (i := 5) (by decide +kernel) (Sub.refl _) ?_
  refine wo (i := 5) rfl ?_
  refine st_callv has107 rfl (fun w1 sw => sum_any v9 ([3] ++ a ++ b) w1 (by simp only [List.length_append, List.length_cons, List.length_nil]; omega) (sw.own_rd (h := 5) rfl)) rfl rfl ?_
  refine at_eq (i := 10) (v' := .agg (ints .u8 (node a b)).toArray) rfl rfl ?_
  refine op_nil ?_
  refine ax_then ?_
  refine mx_one (i := 6) (by decide +kernel) (Sub.refl _) ?_
  refine wo (i := 6) rfl ?_
  refine st_store_all 4 ty55 rfl rfl rfl rfl (by first | omega | (simp only [List.length_append, List.length_cons, List.length_nil, List.length_set, List.length_replicate, List.length_take, List.length_drop, ints_length, wr_length, node_len] <;> omega) | rfl) (ints_one _ _) (by first | omega | (simp only [List.length_append, List.length_cons, List.length_nil, List.length_set, List.length_replicate, List.length_take, List.length_drop, ints_length, wr_length, node_len] <;> omega) | rfl) rfl ?_
  refine op_nil ?_
  refine ax_then ?_
  refine mx_done (by decide +kernel) (Sub.refl _) ?_
  refine ax_then ?_
  refine At.regs (L' := [(4, _)]) (.cons rfl (.nil _)) ?_
  refine cd_ret ?_
  refine rt_cell (h0 := 4) (.inl rfl) Try.results109 ty55 rfl rfl rfl (by first | omega | (simp only [List.length_append, List.length_cons, List.length_nil, List.length_set, List.length_replicate, List.length_take, List.length_drop, ints_length, wr_length, node_len] <;> omega) | rfl) ?_
  exact fun w1 sw => ⟨rfl, sw.gives (.nil _)⟩
set_option maxRecDepth 20000 in
set_option maxHeartbeats 1000000 in
theorem rnode_any (a b : List Int) (w : World) (ha : a.length = 32) (hb : b.length = 32) : Calls Try.prog 100 #[.agg (ints .u8 (a)).toArray, .agg (ints .u8 (b)).toArray] w (PostV w (.agg (ints .u8 (node a b)).toArray)) := by
  refine calls_at (vs := [.agg (ints .u8 (a)).toArray, .agg (ints .u8 (b)).toArray]) (X := []) (H := []) (F := []) 13 Try.func100 rfl rfl rfl (Sat.start0 w) ?_
  refine cd_seq ?_
  refine cd_region ?_
  refine st_box (h := 2) rfl rfl rfl rfl (fun b2 => ?_)
  refine st_box (h := 3) rfl rfl rfl rfl (fun b3 => ?_)
  refine st_alloc (h := 4) ty55 rfl rfl rfl (fun b4 => ?_)
  refine op_nil ?_
  refine ax_then ?_
  refine At.regs (L' := [(2, _), (3, _), (4, _)]) (.cons rfl (.cons rfl (.cons rfl (.nil _)))) ?_
  refine cd_seq ?_
  refine cd_region ?_
  refine st_bsi (h := 6) (xs := [_]) Try.underlying28 ty5 (by decide) rfl rfl (by decide) rfl rfl (fun b6 => ?_)
  refine st (ev_slice_arr_all Try.underlying55 ty5 rfl) rfl rfl rfl ?_
  refine st_appendi (h := 6) Try.underlying28 Try.underlying28 ty5 rfl rfl rfl rfl (fun w1 sw => rd_blk_all sw (h := 2) rfl (by first | omega | (simp only [List.length_append, List.length_cons, List.length_nil, List.length_set, List.length_replicate, List.length_take, List.length_drop, ints_length, wr_length, node_len] <;> omega) | rfl)) (by first | omega | (simp only [List.length_append, List.length_cons, List.length_nil, List.length_set, List.length_replicate, List.length_take, List.length_drop, ints_length, wr_length, node_len] <;> omega)) (by decide) rfl rfl (fun v8 => ?_)
  refine st (ev_assign rfl) rfl rfl rfl ?_
  refine op_nil ?_
  refine ax_then ?_
  refine At.regs (L' := [(3, _), (4, _), (5, _)]) (.cons rfl (.cons rfl (.cons rfl (.nil _)))) ?_
  refine cd_seq ?_
  refine cd_region ?_
  refine st (ev_move rfl) rfl rfl rfl ?_
  refine st (ev_slice_arr_all Try.underlying55 ty5 rfl) rfl rfl rfl ?_
  refine st_appendi (h := 6) Try.underlying28 Try.underlying28 ty5 rfl rfl rfl rfl (fun w1 sw => rd_blk_all sw (h := 3) rfl (by first | omega | (simp only [List.length_append, List.length_cons, List.length_nil, List.length_set, List.length_replicate, List.length_take, List.length_drop, ints_length, wr_length, node_len] <;> omega) | rfl)) (by first | omega | (simp only [List.length_append, List.length_cons, List.length_nil, List.length_set, List.length_replicate, List.length_take, List.length_drop, ints_length, wr_length, node_len] <;> omega)) (by decide) rfl rfl (fun v11 => ?_)
  refine st_callv has98 rfl (fun w1 sw => rsum_any v11 ([3] ++ a ++ b) w1 (by simp only [List.length_append, List.length_cons, List.length_nil]; omega) (sw.own_rd (h := 6) rfl)) rfl rfl ?_
  refine at_eq (i := 12) (v' := .agg (ints .u8 (node a b)).toArray) rfl rfl ?_
  refine st_store_all 4 ty55 rfl rfl rfl rfl (by first | omega | (simp only [List.length_append, List.length_cons, List.length_nil, List.length_set, List.length_replicate, List.length_take, List.length_drop, ints_length, wr_length, node_len] <;> omega) | rfl) (ints_one _ _) (by first | omega | (simp only [List.length_append, List.length_cons, List.length_nil, List.length_set, List.length_replicate, List.length_take, List.length_drop, ints_length, wr_length, node_len] <;> omega) | rfl) rfl ?_
  refine op_nil ?_
  refine ax_then ?_
  refine At.regs (L' := [(4, _)]) (.cons rfl (.nil _)) ?_
  refine cd_ret ?_
  refine rt_cell (h0 := 4) (.inl rfl) Try.results100 ty55 rfl rfl rfl (by first | omega | (simp only [List.length_append, List.length_cons, List.length_nil, List.length_set, List.length_replicate, List.length_take, List.length_drop, ints_length, wr_length, node_len] <;> omega) | rfl) ?_
  exact fun w1 sw => ⟨rfl, sw.gives (.nil _)⟩
set_option maxRecDepth 20000 in
set_option maxHeartbeats 2000000 in
theorem rroot_step (N : Nat) (ih : ∀ (p : Value) (cs : List (List Int)) (w : World), cs.length < N → H32 cs → cs.length ≤ 256 → Rd w p 32 (flat cs) → Calls Try.prog 69 #[p] w (PostV w (.agg (ints .u8 (root cs)).toArray))) (p : Value) (cs : List (List Int)) (w : World) (hN : cs.length = N) (hu : H32 cs) (hcl : cs.length ≤ 256) (h : Rd w p 32 (flat cs)) : Calls Try.prog 69 #[p] w (PostV w (.agg (ints .u8 (root cs)).toArray)) := by
  refine calls_at (vs := [p]) (X := []) (H := []) (F := [(0, .sl p 32 (flat (cs)))]) 26 Try.func69 rfl rfl rfl (Sat.rd0 0 h) ?_
  refine cd_seq ?_
  refine cd_region ?_
  refine st_alloc (h := 2) ty55 rfl rfl rfl (fun b2 => ?_)
  refine op_nil ?_
  refine ax_then ?_
  refine At.regs (L' := [(0, _), (2, _)]) (.cons rfl (.cons rfl (.nil _))) ?_
  refine cd_seq ?_
  refine cd_seq ?_
  refine cd_region ?_
  refine st (ev_move rfl) rfl rfl rfl ?_
  refine st (ev_len_rdh (h := 0) Try.underlying22 rfl rfl (by assumption)) rfl rfl rfl ?_
  refine op_nil ?_
  refine ax_then ?_
  refine At.regs (L' := [(0, _), (2, _), (5, _)]) (.cons rfl (.cons rfl (.cons rfl (.nil _)))) ?_
  refine cd_block ?_
  refine cd_seq ?_
  refine cd_region ?_
  refine st (ev_eql rfl rfl) rfl rfl rfl ?_
  refine st (ev_assign rfl) rfl rfl rfl ?_
  refine op_nil ?_
  refine ax_then ?_
  refine At.regs (L' := [(0, _), (2, _), (5, _), (6, _)]) (.cons rfl (.cons rfl (.cons rfl (.cons rfl (.nil _))))) ?_
  refine cd_if rfl (fun hc6 => ?_) (fun hc6 => ?_)
  ·
    have hc0 : cs = [] := List.length_eq_zero_iff.1 (by omega)
    refine cd_seq ?_
    refine cd_region ?_
    refine st (ev_build_array ty55 rfl ty5 rfl rfl) rfl rfl rfl ?_
    refine st_store_all 2 ty55 rfl rfl rfl rfl (by first | omega | (simp only [List.length_append, List.length_cons, List.length_nil, List.length_set, List.length_replicate, List.length_take, List.length_drop, ints_length, wr_length, node_len] <;> omega) | rfl) (ints_one _ _) (by first | omega | (simp only [List.length_append, List.length_cons, List.length_nil, List.length_set, List.length_replicate, List.length_take, List.length_drop, ints_length, wr_length, node_len] <;> omega) | rfl) rfl ?_
    refine op_nil ?_
    refine ax_then ?_
    refine At.regs (L' := [(0, _), (2, _)]) (.cons rfl (.cons rfl (.nil _))) ?_
    refine cd_ret ?_
    refine ax_block_ret ?_
    refine ax_then_ret ?_
    refine rt_cell (h0 := 2) (.inl rfl) Try.results69 ty55 rfl rfl rfl (by first | omega | (simp only [List.length_append, List.length_cons, List.length_nil, List.length_set, List.length_replicate, List.length_take, List.length_drop, ints_length, wr_length, node_len] <;> omega) | rfl) ?_
    exact fun w1 sw => ⟨by rw [hc0, root_nil], sw.gives (.nil _)⟩
  ·
    refine cd_seq ?_
    refine cd_region ?_
    refine st (ev_eql rfl rfl) rfl rfl rfl ?_
    refine st (ev_assign rfl) rfl rfl rfl ?_
    refine op_nil ?_
    refine ax_then ?_
    refine At.regs (L' := [(0, _), (2, _), (9, _)]) (.cons rfl (.cons rfl (.cons rfl (.nil _)))) ?_
    refine cd_if rfl (fun hc9 => ?_) (fun hc9 => ?_)
    ·
      have hg : (cs.getD (Int.toNat 0) []).length = 32 := hu.get (by show 0 < _; omega)
      have hr1 := root_small (cs := cs) (by omega)
      refine cd_seq ?_
      refine cd_region ?_
      refine st (ev_move rfl) rfl rfl rfl ?_
      refine st (ev_indexAddr_rdh (h := 0) Try.underlying22 ty55 rfl rfl rfl (by assumption) (by omega) (by omega)) rfl rfl rfl ?_
      refine st (ld_rdh (h := 0) ty55 rfl rfl rfl (by assumption) (by omega)) rfl rfl rfl ?_
      refine st_store_all 2 ty55 rfl rfl rfl rfl (by first | omega | (simp only [List.length_append, List.length_cons, List.length_nil, List.length_set, List.length_replicate, List.length_take, List.length_drop, ints_length, wr_length, node_len] <;> omega) | rfl) (ints_one _ _) (by first | omega | (simp only [List.length_append, List.length_cons, List.length_nil, List.length_set, List.length_replicate, List.length_take, List.length_drop, ints_length, wr_length, node_len] <;> omega) | rfl) rfl ?_
      refine op_nil ?_
      refine ax_then ?_
      refine At.regs (L' := [(0, _), (2, _)]) (.cons rfl (.cons rfl (.nil _))) ?_
      refine cd_ret ?_
      refine ax_block_ret ?_
      refine ax_then_ret ?_
      refine rt_cell (h0 := 2) (.inl rfl) Try.results69 ty55 rfl rfl rfl (by first | omega | (simp only [List.length_append, List.length_cons, List.length_nil, List.length_set, List.length_replicate, List.length_take, List.length_drop, ints_length, wr_length, node_len] <;> omega) | rfl) ?_
      exact fun w1 sw => ⟨by rw [hr1]; rfl, sw.gives (.nil _)⟩
    ·
      have hge : 2 ≤ cs.length := by omega
      have hlt := half_lt hge
      have hps := half_pos cs.length
      refine cd_skip ?_
      refine ax_block ?_
      refine ax_then ?_
      refine At.regs (L' := [(0, _), (2, _)]) (.cons rfl (.cons rfl (.nil _))) ?_
      refine cd_seq ?_
      refine cd_region ?_
      refine st (ev_move rfl) rfl rfl rfl ?_
      refine st (ev_len_rdh (h := 0) Try.underlying22 rfl rfl (by assumption)) rfl rfl rfl ?_
      refine at_eq (i := 15) (v' := .int .i64 (cs.length : Int)) rfl rfl ?_
      refine st_callv has99 rfl (fun w1 sw => rhalf_any cs.length w1 hge (by omega)) rfl rfl ?_
      refine st (ev_assign rfl) rfl rfl rfl ?_
      refine op_nil ?_
      refine ax_then ?_
      refine At.regs (L' := [(0, _), (2, _), (3, _)]) (.cons rfl (.cons rfl (.cons rfl (.nil _)))) ?_
      refine cd_seq ?_
      refine cd_open_tail 9 hmix (by decide +kernel) ?_
      refine qt (ev_move rfl) rfl rfl rfl ?_
      refine qt (ev_move rfl) rfl rfl rfl ?_
      refine qt (ev_sliceh_hi Try.underlying22 ty55 rfl rfl (fun w1 sw => sw.sl_rd (h := 0) rfl) (by assumption) (by omega) (by first | omega | (simp only [List.length_append, List.length_cons, List.length_nil, List.length_set, List.length_replicate, List.length_take, List.length_drop, ints_length, wr_length, node_len] <;> omega))) rfl rfl rfl ?_
      refine qt_eq (i := 19) (v' := cutAt 32 p 0 (half cs.length)) rfl (by rw [Int.toNat_natCast]) ?_
      refine qt_callv has69 rfl (fun w1 sw => ih (cutAt 32 p 0 (half cs.length)) (cs.take (half cs.length)) w1 (by rw [List.length_take]; omega) (hu.take _) (by rw [List.length_take]; omega) (takeh (sw.sl_rd (h := 0) rfl) hu (by omega))) rfl rfl ?_
      refine qt (ev_move rfl) rfl rfl rfl ?_
      refine qt (ev_move rfl) rfl rfl rfl ?_
      refine qt (ev_sliceh_lo Try.underlying22 ty55 rfl rfl (fun w1 sw => sw.sl_rd (h := 0) rfl) (by assumption) (by omega) (by first | omega | (simp only [List.length_append, List.length_cons, List.length_nil, List.length_set, List.length_replicate, List.length_take, List.length_drop, ints_length, wr_length, node_len] <;> omega))) rfl rfl rfl ?_
      refine qt_eq (i := 23) (v' := cutAt 32 p (half cs.length) cs.length) rfl (by rw [Int.toNat_natCast]) ?_
      refine qt_callv has69 rfl (fun w1 sw => ih (cutAt 32 p (half cs.length) cs.length) (cs.drop (half cs.length)) w1 (by rw [List.length_drop]; omega) (hu.drop _) (by rw [List.length_drop]; omega) (droph (sw.sl_rd (h := 0) rfl) hu (by omega))) rfl rfl ?_
      refine qt_callv has100 rfl (fun w1 sw => rnode_any (root (cs.take (half cs.length))) (root (cs.drop (half cs.length))) w1 (root_len (hu.take _)) (root_len (hu.drop _))) rfl rfl ?_
      refine qt_end ?_
      refine st_store_all 2 ty55 rfl rfl rfl rfl (by first | omega | (simp only [List.length_append, List.length_cons, List.length_nil, List.length_set, List.length_replicate, List.length_take, List.length_drop, ints_length, wr_length, node_len] <;> omega) | rfl) (ints_one _ _) (by first | omega | (simp only [List.length_append, List.length_cons, List.length_nil, List.length_set, List.length_replicate, List.length_take, List.length_drop, ints_length, wr_length, node_len] <;> omega) | rfl) rfl ?_
      refine op_nil ?_
      refine ax_then ?_
      refine At.regs (L' := [(2, _)]) (.cons rfl (.nil _)) ?_
      refine cd_ret ?_
      refine rt_cell (h0 := 2) (.inl rfl) Try.results69 ty55 rfl rfl rfl (by first | omega | (simp only [List.length_append, List.length_cons, List.length_nil, List.length_set, List.length_replicate, List.length_take, List.length_drop, ints_length, wr_length, node_len] <;> omega) | rfl) ?_
      exact fun w1 sw => ⟨by rw [root_two hge], sw.gives (.nil _)⟩
theorem rroot_all : ∀ (N : Nat) (p : Value) (cs : List (List Int)) (w : World), cs.length < N → H32 cs → cs.length ≤ 256 → Rd w p 32 (flat cs) → Calls Try.prog 69 #[p] w (PostV w (.agg (ints .u8 (root cs)).toArray))
  | 0, _, _, _, hN, _, _, _ => absurd hN (Nat.not_lt_zero _)
  | N + 1, p, cs, w, hN, hu, hcl, h => rroot_step cs.length (fun p' cs' w' h1 => rroot_all N p' cs' w' (by omega)) p cs w rfl hu hcl h
theorem rroot_any (p : Value) (cs : List (List Int)) (w : World) (hu : H32 cs) (hcl : cs.length ≤ 256) (h : Rd w p 32 (flat cs)) : Calls Try.prog 69 #[p] w (PostV w (.agg (ints .u8 (root cs)).toArray)) := rroot_all (cs.length + 1) p cs w (by omega) hu hcl h
end Go.Proofs.Ytgfnmolbagilmaa

namespace Go.Proofs.Ytgfnmolbagilmaa
open Go Go.RowKit Fw
open Sha
open Mk
set_option linter.unusedVariables false
set_option linter.unusedSimpArgs false
set_option maxRecDepth 20000 in
set_option maxHeartbeats 4000000 in
theorem rpath_step (N : Nat) (ih : ∀ (p : Value) (cs : List (List Int)) (i : Int) (w : World), cs.length < N → H32 cs → cs.length ≤ 256 → (-9223372036854775808 ≤ i ∧ i ≤ 9223372036854775807) → Rd w p 32 (flat cs) → Calls Try.prog 74 #[p, .int .i64 i] w (Post (ι := Value) w [] (fun _ => True) (fun v => v) (fun v => [(0, .own (v) 55 32 (flat (path cs i)))]))) (p : Value) (cs : List (List Int)) (i : Int) (w : World) (hN : cs.length = N) (hu : H32 cs) (hcl : cs.length ≤ 256) (hi : -9223372036854775808 ≤ i ∧ i ≤ 9223372036854775807) (h : Rd w p 32 (flat cs)) : Calls Try.prog 74 #[p, .int .i64 i] w (Post (ι := Value) w [] (fun _ => True) (fun v => v) (fun v => [(0, .own (v) 55 32 (flat (path cs i)))])) := by
  refine calls_at (vs := [p, .int .i64 i]) (X := []) (H := []) (F := [(0, .sl p 32 (flat (cs)))]) 49 Try.func74 rfl rfl rfl (Sat.rd0 0 h) ?_
  refine cd_seq ?_
  refine cd_region ?_
  refine st (ev_assign rfl) rfl rfl rfl ?_
  refine at_own_nil 4 55 32 ?_
  refine at_heq (i := 4) (v' := .own (.slice none 0 0) 55 32 (flat [])) rfl rfl ?_
  have hu4 := H32.nil
  refine op_nil ?_
  refine ax_then ?_
  refine At.regs (L' := [(0, _), (1, _), (4, _)]) (.cons rfl (.cons rfl (.cons rfl (.nil _)))) ?_
  refine cd_seq ?_
  refine cd_seq ?_
  refine cd_region ?_
  refine st (ev_move rfl) rfl rfl rfl ?_
  refine st (ev_lss rfl rfl) rfl rfl rfl ?_
  refine st (ev_move rfl) rfl rfl rfl ?_
  refine at_split_if (i := 8) rfl (fun hg8 => ?_) (fun hg8 => ?_)
  ·
    have hno : path cs i = [] := path_no (by omega)
    refine st_skip rfl rfl rfl ?_
    refine st_skip rfl rfl rfl ?_
    refine st_skip rfl rfl rfl ?_
    refine st_skip rfl rfl rfl ?_
    refine st (ev_pick_t rfl rfl) rfl rfl rfl ?_
    refine st (ev_move rfl) rfl rfl rfl ?_
    refine st_skip rfl rfl rfl ?_
    refine st_skip rfl rfl rfl ?_
    refine st_skip rfl rfl rfl ?_
    refine st (ev_pick_t rfl rfl) rfl rfl rfl ?_
    refine op_nil ?_
    refine ax_then ?_
    refine At.regs (L' := [(0, _), (1, _), (4, _), (18, _)]) (.cons rfl (.cons rfl (.cons rfl (.cons rfl (.nil _))))) ?_
    refine cd_true rfl ?_
    refine cd_seq ?_
    refine cd_region ?_
    refine st (ev_assign rfl) rfl rfl rfl ?_
    refine at_own_nil 4 55 32 ?_
    refine at_heq (i := 4) (v' := .own (.slice none 0 0) 55 32 (flat [])) rfl rfl ?_
    have hu4 := H32.nil
    refine op_nil ?_
    refine ax_then ?_
    refine At.regs (L' := [(0, _), (1, _), (4, _)]) (.cons rfl (.cons rfl (.cons rfl (.nil _)))) ?_
    refine cd_ret ?_
    refine ax_then_ret ?_
    refine rt_tmp (.inl rfl) Try.results74 rfl ?_
    exact fun w1 sw => ⟨_, trivial, rfl, by rw [hno]; exact (sw.gives (N := [(4, _)]) (.cons rfl (.nil _))).rn 0⟩
  ·
    refine st (ev_move rfl) rfl rfl rfl ?_
    refine st (ev_move rfl) rfl rfl rfl ?_
    refine st (ev_len_rdh (h := 0) Try.underlying22 rfl rfl (by assumption)) rfl rfl rfl ?_
    refine st (ev_geq rfl rfl) rfl rfl rfl ?_
    refine st (ev_pick_f rfl rfl) rfl rfl rfl ?_
    refine st (ev_move rfl) rfl rfl rfl ?_
    refine at_split_if (i := 14) rfl (fun hg14 => ?_) (fun hg14 => ?_)
    ·
      have hno : path cs i = [] := path_no (by omega)
      refine st_skip rfl rfl rfl ?_
      refine st_skip rfl rfl rfl ?_
      refine st_skip rfl rfl rfl ?_
      refine st (ev_pick_t rfl rfl) rfl rfl rfl ?_
      refine op_nil ?_
      refine ax_then ?_
      refine At.regs (L' := [(0, _), (1, _), (4, _), (18, _)]) (.cons rfl (.cons rfl (.cons rfl (.cons rfl (.nil _))))) ?_
      refine cd_true rfl ?_
      refine cd_seq ?_
      refine cd_region ?_
      refine st (ev_assign rfl) rfl rfl rfl ?_
      refine at_own_nil 4 55 32 ?_
      refine at_heq (i := 4) (v' := .own (.slice none 0 0) 55 32 (flat [])) rfl rfl ?_
      have hu4 := H32.nil
      refine op_nil ?_
      refine ax_then ?_
      refine At.regs (L' := [(0, _), (1, _), (4, _)]) (.cons rfl (.cons rfl (.cons rfl (.nil _)))) ?_
      refine cd_ret ?_
      refine ax_then_ret ?_
      refine rt_tmp (.inl rfl) Try.results74 rfl ?_
      exact fun w1 sw => ⟨_, trivial, rfl, by rw [hno]; exact (sw.gives (N := [(4, _)]) (.cons rfl (.nil _))).rn 0⟩
    ·
      refine st (ev_move rfl) rfl rfl rfl ?_
      refine st (ev_len_rdh (h := 0) Try.underlying22 rfl rfl (by assumption)) rfl rfl rfl ?_
      refine st (ev_lss rfl rfl) rfl rfl rfl ?_
      refine st (ev_pick_f rfl rfl) rfl rfl rfl ?_
      refine op_nil ?_
      refine ax_then ?_
      refine At.regs (L' := [(0, _), (1, _), (4, _), (18, _)]) (.cons rfl (.cons rfl (.cons rfl (.cons rfl (.nil _))))) ?_
      refine cd_if rfl (fun hc18 => ?_) (fun hc18 => ?_)
      ·
        have hno : path cs i = [] := path_no (by omega)
        refine cd_seq ?_
        refine cd_region ?_
        refine st (ev_assign rfl) rfl rfl rfl ?_
        refine at_own_nil 4 55 32 ?_
        refine at_heq (i := 4) (v' := .own (.slice none 0 0) 55 32 (flat [])) rfl rfl ?_
        have hu4 := H32.nil
        refine op_nil ?_
        refine ax_then ?_
        refine At.regs (L' := [(0, _), (1, _), (4, _)]) (.cons rfl (.cons rfl (.cons rfl (.nil _)))) ?_
        refine cd_ret ?_
        refine ax_then_ret ?_
        refine rt_tmp (.inl rfl) Try.results74 rfl ?_
        exact fun w1 sw => ⟨_, trivial, rfl, by rw [hno]; exact (sw.gives (N := [(4, _)]) (.cons rfl (.nil _))).rn 0⟩
      ·
        have hge : 2 ≤ cs.length := by omega
        have hlt := half_lt hge
        have hps := half_pos cs.length
        refine cd_skip ?_
        refine ax_then ?_
        refine At.regs (L' := [(0, _), (1, _), (4, _)]) (.cons rfl (.cons rfl (.cons rfl (.nil _)))) ?_
        refine cd_seq ?_
        refine cd_region ?_
        refine st (ev_move rfl) rfl rfl rfl ?_
        refine st (ev_len_rdh (h := 0) Try.underlying22 rfl rfl (by assumption)) rfl rfl rfl ?_
        refine at_eq (i := 20) (v' := .int .i64 (cs.length : Int)) rfl rfl ?_
        refine st_callv has99 rfl (fun w1 sw => rhalf_any cs.length w1 hge (by omega)) rfl rfl ?_
        refine st (ev_assign rfl) rfl rfl rfl ?_
        refine op_nil ?_
        refine ax_then ?_
        refine At.regs (L' := [(0, _), (1, _), (4, _), (5, _)]) (.cons rfl (.cons rfl (.cons rfl (.cons rfl (.nil _))))) ?_
        refine cd_seq ?_
        refine cd_seq ?_
        refine cd_region ?_
        refine st (ev_move rfl) rfl rfl rfl ?_
        refine st (ev_move rfl) rfl rfl rfl ?_
        refine st (ev_lss rfl rfl) rfl rfl rfl ?_
        refine op_nil ?_
        refine ax_then ?_
        refine At.regs (L' := [(0, _), (1, _), (4, _), (5, _), (24, _)]) (.cons rfl (.cons rfl (.cons rfl (.cons rfl (.cons rfl (.nil _)))))) ?_
        refine cd_if rfl (fun hc24 => ?_) (fun hc24 => ?_)
        ·
          have hyes := path_lo (by omega) hge hc24
          have hrl := root_len (hu.drop (half cs.length))
          refine cd_seq ?_
          refine cd_mix hmix ?_
          refine mx (i := 0) rfl (by decide +kernel) (by decide +kernel) (by decide +kernel) rfl (fun w0 => ev_move rfl) rfl rfl (Sub.refl _) ?_
          refine mx (i := 1) rfl (by decide +kernel) (by decide +kernel) (by decide +kernel) rfl (fun w0 => ev_move rfl) rfl rfl (Sub.refl _) ?_
          refine mx (i := 2) rfl (by decide +kernel) (by decide +kernel) (by decide +kernel) rfl (fun w0 => ev_sliceh_hi Try.underlying22 ty55 rfl rfl (fun w1 sw => sw.sl_rd (h := 0) rfl) (by assumption) (by omega) (by first | omega | (simp only [List.length_append, List.length_cons, List.length_nil, List.length_set, List.length_replicate, List.length_take, List.length_drop, ints_length, wr_length, node_len] <;> omega))) rfl rfl (Sub.refl _) ?_
          refine at_eq (i := 27) (v' := cutAt 32 p 0 (half cs.length)) rfl (by rw [Int.toNat_natCast]) ?_
          refine mx (i := 3) rfl (by decide +kernel) (by decide +kernel) (by decide +kernel) rfl (fun w0 => ev_move rfl) rfl rfl (Sub.refl _) ?_
          refine mx (i := 5) rfl (by decide +kernel) (by decide +kernel) (by decide +kernel) rfl (fun w0 => ev_move rfl) rfl rfl (Sub.refl _) ?_
          refine mx (i := 6) rfl (by decide +kernel) (by decide +kernel) (by decide +kernel) rfl (fun w0 => ev_move rfl) rfl rfl (Sub.refl _) ?_
          refine mx (i := 7) rfl (by decide +kernel) (by decide +kernel) (by decide +kernel) rfl (fun w0 => ev_sliceh_lo Try.underlying22 ty55 rfl rfl (fun w1 sw => sw.sl_rd (h := 0) rfl) (by assumption) (by omega) (by first | omega | (simp only [List.length_append, List.length_cons, List.length_nil, List.length_set, List.length_replicate, List.length_take, List.length_drop, ints_length, wr_length, node_len] <;> omega))) rfl rfl (Sub.refl _) ?_
          refine at_eq (i := 32) (v' := cutAt 32 p (half cs.length) cs.length) rfl (by rw [Int.toNat_natCast]) ?_
          refine mx_one (i := 4) (by decide +kernel) (Sub.refl _) ?_
          refine wo (i := 4) rfl ?_
          refine st_call has74 rfl (fun w1 sw => rn 29 (ih (cutAt 32 p 0 (half cs.length)) (cs.take (half cs.length)) (i) w1 (by rw [List.length_take]; omega) (hu.take _) (by rw [List.length_take]; omega) (by omega) (takeh (sw.sl_rd (h := 0) rfl) hu (by omega)))) nil_all rfl rfl (fun v29 _ => ?_)
          have hu29 := path_h32 _ (cs.take (half cs.length)) (i) (Nat.le_refl _) (hu.take _)
          have hpm := path_max _ (cs.take (half cs.length)) (i) (Nat.le_refl _)
          have hlt2 : ((cs.take (half cs.length))).length ≤ 256 := (by rw [List.length_take]; omega)
          refine op_nil ?_
          refine ax_then ?_
          refine mx_one (i := 8) (by decide +kernel) (Sub.refl _) ?_
          refine wo (i := 8) rfl ?_
          refine st_callv has69 rfl (fun w1 sw => rroot_any (cutAt 32 p (half cs.length) cs.length) (cs.drop (half cs.length)) w1 (hu.drop _) (by rw [List.length_drop]; omega) (droph (sw.sl_rd (h := 0) rfl) hu (by omega))) rfl rfl ?_
          refine op_nil ?_
          refine ax_then ?_
          refine mx_one (i := 9) (by decide +kernel) (Sub.refl _) ?_
          refine wo (i := 9) rfl ?_
          refine st_bsh1 (h := 34) Try.underlying22 ty55 rfl (by first | assumption | omega) rfl rfl (fun b34 hu34 => ?_)
          refine op_nil ?_
          refine ax_then ?_
          refine mx_one (i := 10) (by decide +kernel) (Sub.refl _) ?_
          refine wo (i := 10) rfl ?_
          refine st_appendh (h := 29) Try.underlying22 Try.underlying22 ty55 rfl rfl rfl rfl (fun w1 sw => sw.own_rd (h := 34) rfl) (by assumption) (by assumption) (by first | omega | (simp only [List.length_append, List.length_cons, List.length_nil, List.length_set, List.length_replicate, List.length_take, List.length_drop, ints_length, wr_length, node_len] <;> omega)) (by decide) rfl rfl (fun v35 hu35 => ?_)
          refine op_nil ?_
          refine ax_then ?_
          refine mx (i := 11) rfl (by decide +kernel) (by decide +kernel) (by decide +kernel) rfl (fun w0 => ev_assign rfl) rfl rfl (Sub.refl _) ?_
          refine mx_done (by decide +kernel) (Sub.refl _) ?_
          refine ax_then ?_
          refine At.regs (L' := [(0, _), (1, _), (4, _), (5, _)]) (.cons rfl (.cons rfl (.cons rfl (.cons rfl (.nil _))))) ?_
          refine cd_ret ?_
          refine ax_then_ret ?_
          refine rt_tmp (.inl rfl) Try.results74 rfl ?_
          first | exact fun w1 sw => ⟨_, trivial, rfl, by rw [hyes]; exact (sw.gives (N := [(29, _)]) (.cons rfl (.nil _))).rn 0⟩ | exact fun w1 sw => ⟨_, trivial, rfl, by rw [hyes]; exact (sw.gives (N := [(42, _)]) (.cons rfl (.nil _))).rn 0⟩
        ·
          have hyes := path_hi (by omega) hge hc24
          have hrl := root_len (hu.take (half cs.length))
          refine cd_skip ?_
          refine ax_then ?_
          refine At.regs (L' := [(0, _), (1, _), (4, _), (5, _)]) (.cons rfl (.cons rfl (.cons rfl (.cons rfl (.nil _))))) ?_
          refine cd_seq ?_
          refine cd_mix hmix ?_
          refine mx (i := 0) rfl (by decide +kernel) (by decide +kernel) (by decide +kernel) rfl (fun w0 => ev_move rfl) rfl rfl (Sub.refl _) ?_
          refine mx (i := 1) rfl (by decide +kernel) (by decide +kernel) (by decide +kernel) rfl (fun w0 => ev_move rfl) rfl rfl (Sub.refl _) ?_
          refine mx (i := 2) rfl (by decide +kernel) (by decide +kernel) (by decide +kernel) rfl (fun w0 => ev_sliceh_lo Try.underlying22 ty55 rfl rfl (fun w1 sw => sw.sl_rd (h := 0) rfl) (by assumption) (by omega) (by first | omega | (simp only [List.length_append, List.length_cons, List.length_nil, List.length_set, List.length_replicate, List.length_take, List.length_drop, ints_length, wr_length, node_len] <;> omega))) rfl rfl (Sub.refl _) ?_
          refine at_eq (i := 38) (v' := cutAt 32 p (half cs.length) cs.length) rfl (by rw [Int.toNat_natCast]) ?_
          refine mx (i := 3) rfl (by decide +kernel) (by decide +kernel) (by decide +kernel) rfl (fun w0 => ev_move rfl) rfl rfl (Sub.refl _) ?_
          refine mx (i := 4) rfl (by decide +kernel) (by decide +kernel) (by decide +kernel) rfl (fun w0 => ev_move rfl) rfl rfl (Sub.refl _) ?_
          refine mx (i := 5) rfl (by decide +kernel) (by decide +kernel) (by decide +kernel) rfl (fun w0 => ev_sub64 rfl rfl (by omega) (by omega)) rfl rfl (Sub.refl _) ?_
          refine mx (i := 7) rfl (by decide +kernel) (by decide +kernel) (by decide +kernel) rfl (fun w0 => ev_move rfl) rfl rfl (Sub.refl _) ?_
          refine mx (i := 8) rfl (by decide +kernel) (by decide +kernel) (by decide +kernel) rfl (fun w0 => ev_move rfl) rfl rfl (Sub.refl _) ?_
          refine mx (i := 9) rfl (by decide +kernel) (by decide +kernel) (by decide +kernel) rfl (fun w0 => ev_sliceh_hi Try.underlying22 ty55 rfl rfl (fun w1 sw => sw.sl_rd (h := 0) rfl) (by assumption) (by omega) (by first | omega | (simp only [List.length_append, List.length_cons, List.length_nil, List.length_set, List.length_replicate, List.length_take, List.length_drop, ints_length, wr_length, node_len] <;> omega))) rfl rfl (Sub.refl _) ?_
          refine at_eq (i := 45) (v' := cutAt 32 p 0 (half cs.length)) rfl (by rw [Int.toNat_natCast]) ?_
          refine mx_one (i := 6) (by decide +kernel) (Sub.refl _) ?_
          refine wo (i := 6) rfl ?_
          refine st_call has74 rfl (fun w1 sw => rn 42 (ih (cutAt 32 p (half cs.length) cs.length) (cs.drop (half cs.length)) (i - (half cs.length : Int)) w1 (by rw [List.length_drop]; omega) (hu.drop _) (by rw [List.length_drop]; omega) (by omega) (droph (sw.sl_rd (h := 0) rfl) hu (by omega)))) nil_all rfl rfl (fun v42 _ => ?_)
          have hu42 := path_h32 _ (cs.drop (half cs.length)) (i - (half cs.length : Int)) (Nat.le_refl _) (hu.drop _)
          have hpm := path_max _ (cs.drop (half cs.length)) (i - (half cs.length : Int)) (Nat.le_refl _)
          have hlt2 : ((cs.drop (half cs.length))).length ≤ 256 := (by rw [List.length_drop]; omega)
          refine op_nil ?_
          refine ax_then ?_
          refine mx_one (i := 10) (by decide +kernel) (Sub.refl _) ?_
          refine wo (i := 10) rfl ?_
          refine st_callv has69 rfl (fun w1 sw => rroot_any (cutAt 32 p 0 (half cs.length)) (cs.take (half cs.length)) w1 (hu.take _) (by rw [List.length_take]; omega) (takeh (sw.sl_rd (h := 0) rfl) hu (by omega))) rfl rfl ?_
          refine op_nil ?_
          refine ax_then ?_
          refine mx_one (i := 11) (by decide +kernel) (Sub.refl _) ?_
          refine wo (i := 11) rfl ?_
          refine st_bsh1 (h := 47) Try.underlying22 ty55 rfl (by first | assumption | omega) rfl rfl (fun b47 hu47 => ?_)
          refine op_nil ?_
          refine ax_then ?_
          refine mx_one (i := 12) (by decide +kernel) (Sub.refl _) ?_
          refine wo (i := 12) rfl ?_
          refine st_appendh (h := 42) Try.underlying22 Try.underlying22 ty55 rfl rfl rfl rfl (fun w1 sw => sw.own_rd (h := 47) rfl) (by assumption) (by assumption) (by first | omega | (simp only [List.length_append, List.length_cons, List.length_nil, List.length_set, List.length_replicate, List.length_take, List.length_drop, ints_length, wr_length, node_len] <;> omega)) (by decide) rfl rfl (fun v48 hu48 => ?_)
          refine op_nil ?_
          refine ax_then ?_
          refine mx (i := 13) rfl (by decide +kernel) (by decide +kernel) (by decide +kernel) rfl (fun w0 => ev_assign rfl) rfl rfl (Sub.refl _) ?_
          refine mx_done (by decide +kernel) (Sub.refl _) ?_
          refine ax_then ?_
          refine At.regs (L' := [(4, _)]) (.cons rfl (.nil _)) ?_
          refine cd_ret ?_
          refine rt_tmp (.inl rfl) Try.results74 rfl ?_
          first | exact fun w1 sw => ⟨_, trivial, rfl, by rw [hyes]; exact (sw.gives (N := [(29, _)]) (.cons rfl (.nil _))).rn 0⟩ | exact fun w1 sw => ⟨_, trivial, rfl, by rw [hyes]; exact (sw.gives (N := [(42, _)]) (.cons rfl (.nil _))).rn 0⟩
theorem rpath_all : ∀ (N : Nat) (p : Value) (cs : List (List Int)) (i : Int) (w : World), cs.length < N → H32 cs → cs.length ≤ 256 → (-9223372036854775808 ≤ i ∧ i ≤ 9223372036854775807) → Rd w p 32 (flat cs) → Calls Try.prog 74 #[p, .int .i64 i] w (Post (ι := Value) w [] (fun _ => True) (fun v => v) (fun v => [(0, .own (v) 55 32 (flat (path cs i)))]))
  | 0, _, _, _, _, hN, _, _, _, _ => absurd hN (Nat.not_lt_zero _)
  | N + 1, p, cs, i, w, hN, hu, hcl, hi, h => rpath_step cs.length (fun p' cs' i' w' h1 => rpath_all N p' cs' i' w' (by omega)) p cs i w rfl hu hcl hi h
theorem rpath_any (p : Value) (cs : List (List Int)) (i : Int) (w : World) (hu : H32 cs) (hcl : cs.length ≤ 256) (hi : -9223372036854775808 ≤ i ∧ i ≤ 9223372036854775807) (h : Rd w p 32 (flat cs)) : Calls Try.prog 74 #[p, .int .i64 i] w (Post (ι := Value) w [] (fun _ => True) (fun v => v) (fun v => [(0, .own (v) 55 32 (flat (path cs i)))])) := rpath_all (cs.length + 1) p cs i w (by omega) hu hcl hi h
set_option maxRecDepth 20000 in
set_option maxHeartbeats 2000000 in
theorem up_any (leaf : List Int) (i : Int) (q : Value) (p : List (List Int)) (w : World) (hl : leaf.length = 32) (h0 : 0 ≤ i) (h1 : i ≤ 9223372036854775807) (hu : H32 p) (hpl : p.length ≤ 140737488352000) (h : Rd w q 32 (flat p)) : Calls Try.prog 118 #[.agg (ints .u8 (leaf)).toArray, .int .i64 i, q] w (PostV w (.agg (ints .u8 (up leaf i p)).toArray)) := by
  refine calls_at (vs := [.agg (ints .u8 (leaf)).toArray, .int .i64 i, q]) (X := []) (H := []) (F := [(2, .sl q 32 (flat (p)))]) 28 Try.func118 rfl rfl rfl (Sat.rd0 2 h) ?_
  refine cd_seq ?_
  refine cd_region ?_
  refine st_box (h := 3) rfl rfl rfl rfl (fun b3 => ?_)
  refine st_alloc (h := 6) ty55 rfl rfl rfl (fun b6 => ?_)
  refine op_nil ?_
  refine ax_then ?_
  refine At.regs (L' := [(1, _), (2, _), (3, _), (6, _)]) (.cons rfl (.cons rfl (.cons rfl (.cons rfl (.nil _))))) ?_
  refine cd_seq ?_
  refine cd_seq ?_
  refine cd_region ?_
  refine st (ev_move rfl) rfl rfl rfl ?_
  refine st (ev_len_rdh (h := 2) Try.underlying22 rfl rfl (by assumption)) rfl rfl rfl ?_
  refine st (ev_move rfl) rfl rfl rfl ?_
  refine op_nil ?_
  refine ax_then ?_
  refine At.regs (L' := [(1, _), (3, _), (6, _), (9, _), (10, _), (11, _)]) (.cons rfl (.cons rfl (.cons rfl (.cons rfl (.cons rfl (.cons rfl (.nil _))))))) ?_
  refine cd_block ?_
  refine at_eq (i := 1) (v' := .int .i64 (i / 2 ^ 0)) rfl (by rw [Int.pow_zero, Int.ediv_one]) ?_
  refine cd_loop (ι := Nat) (fun k => k ≤ p.length) (fun k => p.length - k)
      (fun k => [(1, .int .i64 (i / 2 ^ k)), (3, .pointer (some ⟨b3, 0, none⟩)), (6, .pointer (some ⟨b6, 0, none⟩)), (9, q), (10, .int .i64 (p.length : Nat)), (11, .int .i64 (k : Int))])
      (fun k => [(3, .blk b3 (.cells (ints .u8 (up leaf i (p.take (k)))).toArray 55)), (6, .blk b6 (.cells (ints .u8 (List.replicate 32 0)).toArray 55))])
      (fun k => [(2, .sl q 32 (flat (p)))])
      0 (by omega) (.cons rfl (.cons rfl (.cons rfl (.cons rfl (.cons rfl (.cons rfl (.nil _))))))) (.cons rfl (.cons rfl (.nil _))) (.cons rfl (.nil _)) (fun k hi => ?_)
  have hul := up_len hl i (p.take k)
  have hdr := div_range h0 k
  have hg : k < p.length → (p.getD k []).length = 32 := fun hk => hu.get hk
  have e0 : (k : Int).toNat = k := by omega
  refine cd_seq ?_
  refine cd_region ?_
  refine st (ev_lss rfl rfl) rfl rfl rfl ?_
  refine op_nil ?_
  refine ax_then ?_
  refine At.regs (L' := [(1, _), (3, _), (6, _), (9, _), (10, _), (11, _), (12, _)]) (.cons rfl (.cons rfl (.cons rfl (.cons rfl (.cons rfl (.cons rfl (.cons rfl (.nil _)))))))) ?_
  refine cd_seq ?_
  refine cd_if rfl (fun hc12 => ?_) (fun hc12 => ?_)
  ·
    have hg2 := hg (by omega)
    refine cd_skip ?_
    refine ax_then ?_
    refine At.regs (L' := [(1, _), (3, _), (6, _), (9, _), (10, _), (11, _), (12, _)]) (.cons rfl (.cons rfl (.cons rfl (.cons rfl (.cons rfl (.cons rfl (.cons rfl (.nil _)))))))) ?_
    refine cd_seq ?_
    refine cd_block ?_
    refine cd_seq ?_
    refine cd_region ?_
    refine st (ev_indexAddr_rdh (h := 2) Try.underlying22 ty55 rfl rfl rfl (by assumption) (by omega) (by omega)) rfl rfl rfl ?_
    refine st (ld_rdh (h := 2) ty55 rfl rfl rfl (by assumption) (by omega)) rfl rfl rfl ?_
    refine at_eq (i := 14) (v' := .agg (ints .u8 (p.getD k [])).toArray) rfl (by rw [e0]) ?_
    refine st_alloc (h := 8) ty55 rfl rfl rfl (fun b8 => ?_)
    refine st_store_all 8 ty55 rfl rfl rfl rfl (by first | omega | (simp only [List.length_append, List.length_cons, List.length_nil, List.length_set, List.length_replicate, List.length_take, List.length_drop, ints_length, wr_length, node_len] <;> omega) | rfl) (ints_one _ _) (by first | omega | (simp only [List.length_append, List.length_cons, List.length_nil, List.length_set, List.length_replicate, List.length_take, List.length_drop, ints_length, wr_length, node_len] <;> omega) | rfl) rfl ?_
    refine op_nil ?_
    refine ax_then ?_
    refine At.regs (L' := [(1, _), (3, _), (6, _), (8, _), (9, _), (10, _), (11, _), (12, _), (13, _), (14, _)]) (.cons rfl (.cons rfl (.cons rfl (.cons rfl (.cons rfl (.cons rfl (.cons rfl (.cons rfl (.cons rfl (.cons rfl (.nil _))))))))))) ?_
    refine cd_seq ?_
    refine cd_seq ?_
    refine cd_region ?_
    refine st (ev_move rfl) rfl rfl rfl ?_
    refine st (ev_and rfl rfl) rfl rfl rfl ?_
    refine at_eq (i := 16) (v' := .int .i64 (i / 2 ^ k % 2)) rfl (by rw [iand1 hdr.1 (by omega)]) ?_
    refine st (ev_eql rfl rfl) rfl rfl rfl ?_
    refine op_nil ?_
    refine ax_then ?_
    refine At.regs (L' := [(1, _), (3, _), (6, _), (8, _), (9, _), (10, _), (11, _), (12, _), (13, _), (14, _), (15, _), (16, _), (17, _)]) (.cons rfl (.cons rfl (.cons rfl (.cons rfl (.cons rfl (.cons rfl (.cons rfl (.cons rfl (.cons rfl (.cons rfl (.cons rfl (.cons rfl (.cons rfl (.nil _)))))))))))))) ?_
    refine cd_if rfl (fun hc17 => ?_) (fun hc17 => ?_)
    ·
      refine cd_region ?_
      refine st (ld_blk_all (h := 3) ty55 rfl rfl rfl (by first | omega | (simp only [List.length_append, List.length_cons, List.length_nil, List.length_set, List.length_replicate, List.length_take, List.length_drop, ints_length, wr_length, node_len] <;> omega) | rfl)) rfl rfl rfl ?_
      refine st (ld_blk_all (h := 8) ty55 rfl rfl rfl (by first | omega | (simp only [List.length_append, List.length_cons, List.length_nil, List.length_set, List.length_replicate, List.length_take, List.length_drop, ints_length, wr_length, node_len] <;> omega) | rfl)) rfl rfl rfl ?_
      refine st_callv has109 rfl (fun w1 sw => node_any (up leaf i (p.take (k))) (p.getD k []) w1 hul hg2) rfl rfl ?_
      refine st_store_all 3 ty55 rfl rfl rfl rfl (by first | omega | (simp only [List.length_append, List.length_cons, List.length_nil, List.length_set, List.length_replicate, List.length_take, List.length_drop, ints_length, wr_length, node_len] <;> omega) | rfl) (ints_one _ _) (by first | omega | (simp only [List.length_append, List.length_cons, List.length_nil, List.length_set, List.length_replicate, List.length_take, List.length_drop, ints_length, wr_length, node_len] <;> omega) | rfl) rfl ?_
      refine op_nil ?_
      refine ax_then ?_
      refine At.regs (L' := [(1, _), (3, _), (6, _), (8, _), (9, _), (10, _), (11, _), (12, _), (13, _), (14, _), (15, _), (16, _), (17, _), (18, _), (19, _), (20, _)]) (.cons rfl (.cons rfl (.cons rfl (.cons rfl (.cons rfl (.cons rfl (.cons rfl (.cons rfl (.cons rfl (.cons rfl (.cons rfl (.cons rfl (.cons rfl (.cons rfl (.cons rfl (.cons rfl (.nil _))))))))))))))))) ?_
      refine cd_region ?_
      refine st (ev_move rfl) rfl rfl rfl ?_
      refine st (ev_shr rfl rfl (by omega)) rfl rfl rfl ?_
      refine at_eq (i := 25) (v' := .int .i64 (i / 2 ^ (k + 1))) rfl (by rw [ishr1 hdr.1, div_step]) ?_
      refine st (ev_assign rfl) rfl rfl rfl ?_
      refine op_nil ?_
      refine ax_block ?_
      refine ax_then ?_
      refine At.regs (L' := [(1, _), (3, _), (6, _), (8, _), (9, _), (10, _), (11, _), (12, _), (13, _), (14, _), (15, _), (16, _), (17, _), (18, _), (19, _), (20, _), (24, _), (25, _)]) (.cons rfl (.cons rfl (.cons rfl (.cons rfl (.cons rfl (.cons rfl (.cons rfl (.cons rfl (.cons rfl (.cons rfl (.cons rfl (.cons rfl (.cons rfl (.cons rfl (.cons rfl (.cons rfl (.cons rfl (.cons rfl (.nil _))))))))))))))))))) ?_
      refine cd_region ?_
      refine st (ev_add64 rfl rfl (by omega) (by omega)) rfl rfl rfl ?_
      refine st (ev_move rfl) rfl rfl rfl ?_
      refine op_nil ?_
      refine ax_heq (i := 3) (v' := .blk b3 (.cells (ints .u8 (up leaf i (p.take (k + 1)))).toArray 55)) rfl (by rw [up_take leaf i (by omega)]; first | rw [if_pos hc17] | rw [if_neg hc17]) ?_
      exact at_again (k + 1) (by omega) (by omega) (.cons rfl (.cons rfl (.cons rfl (.cons rfl (.cons rfl (.cons rfl (.nil _))))))) (.cons rfl (.cons rfl (.nil _))) (.cons rfl (.nil _))
    ·
      refine cd_region ?_
      refine st (ld_blk_all (h := 8) ty55 rfl rfl rfl (by first | omega | (simp only [List.length_append, List.length_cons, List.length_nil, List.length_set, List.length_replicate, List.length_take, List.length_drop, ints_length, wr_length, node_len] <;> omega) | rfl)) rfl rfl rfl ?_
      refine st (ld_blk_all (h := 3) ty55 rfl rfl rfl (by first | omega | (simp only [List.length_append, List.length_cons, List.length_nil, List.length_set, List.length_replicate, List.length_take, List.length_drop, ints_length, wr_length, node_len] <;> omega) | rfl)) rfl rfl rfl ?_
      refine st_callv has109 rfl (fun w1 sw => node_any (p.getD k []) (up leaf i (p.take (k))) w1 hg2 hul) rfl rfl ?_
      refine st_store_all 3 ty55 rfl rfl rfl rfl (by first | omega | (simp only [List.length_append, List.length_cons, List.length_nil, List.length_set, List.length_replicate, List.length_take, List.length_drop, ints_length, wr_length, node_len] <;> omega) | rfl) (ints_one _ _) (by first | omega | (simp only [List.length_append, List.length_cons, List.length_nil, List.length_set, List.length_replicate, List.length_take, List.length_drop, ints_length, wr_length, node_len] <;> omega) | rfl) rfl ?_
      refine op_nil ?_
      refine ax_then ?_
      refine At.regs (L' := [(1, _), (3, _), (6, _), (8, _), (9, _), (10, _), (11, _), (12, _), (13, _), (14, _), (15, _), (16, _), (17, _), (21, _), (22, _), (23, _)]) (.cons rfl (.cons rfl (.cons rfl (.cons rfl (.cons rfl (.cons rfl (.cons rfl (.cons rfl (.cons rfl (.cons rfl (.cons rfl (.cons rfl (.cons rfl (.cons rfl (.cons rfl (.cons rfl (.nil _))))))))))))))))) ?_
      refine cd_region ?_
      refine st (ev_move rfl) rfl rfl rfl ?_
      refine st (ev_shr rfl rfl (by omega)) rfl rfl rfl ?_
      refine at_eq (i := 25) (v' := .int .i64 (i / 2 ^ (k + 1))) rfl (by rw [ishr1 hdr.1, div_step]) ?_
      refine st (ev_assign rfl) rfl rfl rfl ?_
      refine op_nil ?_
      refine ax_block ?_
      refine ax_then ?_
      refine At.regs (L' := [(1, _), (3, _), (6, _), (8, _), (9, _), (10, _), (11, _), (12, _), (13, _), (14, _), (15, _), (16, _), (17, _), (21, _), (22, _), (23, _), (24, _), (25, _)]) (.cons rfl (.cons rfl (.cons rfl (.cons rfl (.cons rfl (.cons rfl (.cons rfl (.cons rfl (.cons rfl (.cons rfl (.cons rfl (.cons rfl (.cons rfl (.cons rfl (.cons rfl (.cons rfl (.cons rfl (.cons rfl (.nil _))))))))))))))))))) ?_
      refine cd_region ?_
      refine st (ev_add64 rfl rfl (by omega) (by omega)) rfl rfl rfl ?_
      refine st (ev_move rfl) rfl rfl rfl ?_
      refine op_nil ?_
      refine ax_heq (i := 3) (v' := .blk b3 (.cells (ints .u8 (up leaf i (p.take (k + 1)))).toArray 55)) rfl (by rw [up_take leaf i (by omega)]; first | rw [if_pos hc17] | rw [if_neg hc17]) ?_
      exact at_again (k + 1) (by omega) (by omega) (.cons rfl (.cons rfl (.cons rfl (.cons rfl (.cons rfl (.cons rfl (.nil _))))))) (.cons rfl (.cons rfl (.nil _))) (.cons rfl (.nil _))
  ·
    obtain rfl : k = p.length := by omega
    refine at_heq (i := 3) (v' := .blk b3 (.cells (ints .u8 (up leaf i p)).toArray 55)) rfl (by rw [List.take_length]) ?_
    have hul2 := up_len hl i p
    refine cd_exit ?_
    refine ax_then_exit ?_
    refine ax_then_exit ?_
    refine ax_block_hit ?_
    refine ax_then ?_
    refine At.regs (L' := [(3, _), (6, _)]) (.cons rfl (.cons rfl (.nil _))) ?_
    refine cd_seq ?_
    refine cd_region ?_
    refine st (ld_blk_all (h := 3) ty55 rfl rfl rfl (by first | omega | (simp only [List.length_append, List.length_cons, List.length_nil, List.length_set, List.length_replicate, List.length_take, List.length_drop, ints_length, wr_length, node_len] <;> omega) | rfl)) rfl rfl rfl ?_
    refine st_store_all 6 ty55 rfl rfl rfl rfl (by first | omega | (simp only [List.length_append, List.length_cons, List.length_nil, List.length_set, List.length_replicate, List.length_take, List.length_drop, ints_length, wr_length, node_len] <;> omega) | rfl) (ints_one _ _) (by first | omega | (simp only [List.length_append, List.length_cons, List.length_nil, List.length_set, List.length_replicate, List.length_take, List.length_drop, ints_length, wr_length, node_len] <;> omega) | rfl) rfl ?_
    refine op_nil ?_
    refine ax_then ?_
    refine At.regs (L' := [(6, _)]) (.cons rfl (.nil _)) ?_
    refine cd_ret ?_
    refine rt_cell (h0 := 6) (.inl rfl) Try.results118 ty55 rfl rfl rfl (by first | omega | (simp only [List.length_append, List.length_cons, List.length_nil, List.length_set, List.length_replicate, List.length_take, List.length_drop, ints_length, wr_length, node_len] <;> omega) | rfl) ?_
    exact fun w1 sw => ⟨rfl, sw.gives (.nil _)⟩
end Go.Proofs.Ytgfnmolbagilmaa

namespace Go.Proofs.Ytgfnmolbagilmaa
open Go Go.RowKit Fw
open Sha
open Ots
open Mk
set_option linter.unusedVariables false
set_option linter.unusedSimpArgs false
set_option maxRecDepth 20000 in
set_option maxHeartbeats 1000000 in
theorem named_any (r : List Int) (w : World) (hr : r.length = 32) : Calls Try.prog 76 #[.agg (ints .u8 (r)).toArray] w (PostV w (.agg (ints .u8 (Ky.named r)).toArray)) := by
  refine calls_at (vs := [.agg (ints .u8 (r)).toArray]) (X := []) (H := []) (F := []) 7 Try.func76 rfl rfl rfl (Sat.start0 w) ?_
  refine cd_seq ?_
  refine cd_region ?_
  refine st_box (h := 1) rfl rfl rfl rfl (fun b1 => ?_)
  refine st_alloc (h := 2) ty55 rfl rfl rfl (fun b2 => ?_)
  refine op_nil ?_
  refine ax_then ?_
  refine At.regs (L' := [(1, _), (2, _)]) (.cons rfl (.cons rfl (.nil _))) ?_
  refine cd_seq ?_
  refine cd_region ?_
  refine st_bsi (h := 3) (xs := [_]) Try.underlying28 ty5 (by decide) rfl rfl (by decide) rfl rfl (fun b3 => ?_)
  refine st (ev_slice_arr_all Try.underlying55 ty5 rfl) rfl rfl rfl ?_
  refine st_appendi (h := 3) Try.underlying28 Try.underlying28 ty5 rfl rfl rfl rfl (fun w1 sw => rd_blk_all sw (h := 1) rfl (by first | omega | (simp only [List.length_append, List.length_cons, List.length_nil, List.length_set, List.length_replicate, List.length_take, List.length_drop, ints_length, wr_length, sha_len, node_len, recov_len, Ky.named_len, Ky.keyPub_len] <;> omega) | rfl)) (by first | omega | (simp only [List.length_append, List.length_cons, List.length_nil, List.length_set, List.length_replicate, List.length_take, List.length_drop, ints_length, wr_length, sha_len, node_len, recov_len, Ky.named_len, Ky.keyPub_len] <;> omega)) (by decide) rfl rfl (fun v5 => ?_)
  refine st_callv has107 rfl (fun w1 sw => sum_any v5 ([4] ++ r) w1 (by simp only [List.length_append, List.length_cons, List.length_nil]; omega) (sw.own_rd (h := 3) rfl)) rfl rfl ?_
  refine at_eq (i := 6) (v' := .agg (ints .u8 (Ky.named r)).toArray) rfl rfl ?_
  refine st_store_all 2 ty55 rfl rfl rfl rfl (by first | omega | (simp only [List.length_append, List.length_cons, List.length_nil, List.length_set, List.length_replicate, List.length_take, List.length_drop, ints_length, wr_length, sha_len, node_len, recov_len, Ky.named_len, Ky.keyPub_len] <;> omega) | rfl) (ints_one _ _) (by first | omega | (simp only [List.length_append, List.length_cons, List.length_nil, List.length_set, List.length_replicate, List.length_take, List.length_drop, ints_length, wr_length, sha_len, node_len, recov_len, Ky.named_len, Ky.keyPub_len] <;> omega) | rfl) rfl ?_
  refine op_nil ?_
  refine ax_then ?_
  refine At.regs (L' := [(2, _)]) (.cons rfl (.nil _)) ?_
  refine cd_ret ?_
  refine rt_cell (h0 := 2) (.inl rfl) Try.results76 ty55 rfl rfl rfl (by first | omega | (simp only [List.length_append, List.length_cons, List.length_nil, List.length_set, List.length_replicate, List.length_take, List.length_drop, ints_length, wr_length, sha_len, node_len, recov_len, Ky.named_len, Ky.keyPub_len] <;> omega) | rfl) ?_
  exact fun w1 sw => ⟨rfl, sw.gives (.nil _)⟩
set_option maxRecDepth 20000 in
set_option maxHeartbeats 1000000 in
theorem rnamed_any (r : List Int) (w : World) (hr : r.length = 32) : Calls Try.prog 68 #[.agg (ints .u8 (r)).toArray] w (PostV w (.agg (ints .u8 (Ky.named r)).toArray)) := by
  refine calls_at (vs := [.agg (ints .u8 (r)).toArray]) (X := []) (H := []) (F := []) 7 Try.func68 rfl rfl rfl (Sat.start0 w) ?_
  refine cd_seq ?_
  refine cd_region ?_
  refine st_box (h := 1) rfl rfl rfl rfl (fun b1 => ?_)
  refine st_alloc (h := 2) ty55 rfl rfl rfl (fun b2 => ?_)
  refine op_nil ?_
  refine ax_then ?_
  refine At.regs (L' := [(1, _), (2, _)]) (.cons rfl (.cons rfl (.nil _))) ?_
  refine cd_seq ?_
  refine cd_region ?_
  refine st_bsi (h := 3) (xs := [_]) Try.underlying28 ty5 (by decide) rfl rfl (by decide) rfl rfl (fun b3 => ?_)
  refine st (ev_slice_arr_all Try.underlying55 ty5 rfl) rfl rfl rfl ?_
  refine st_appendi (h := 3) Try.underlying28 Try.underlying28 ty5 rfl rfl rfl rfl (fun w1 sw => rd_blk_all sw (h := 1) rfl (by first | omega | (simp only [List.length_append, List.length_cons, List.length_nil, List.length_set, List.length_replicate, List.length_take, List.length_drop, ints_length, wr_length, sha_len, node_len, recov_len, Ky.named_len, Ky.keyPub_len] <;> omega) | rfl)) (by first | omega | (simp only [List.length_append, List.length_cons, List.length_nil, List.length_set, List.length_replicate, List.length_take, List.length_drop, ints_length, wr_length, sha_len, node_len, recov_len, Ky.named_len, Ky.keyPub_len] <;> omega)) (by decide) rfl rfl (fun v5 => ?_)
  refine st_callv has98 rfl (fun w1 sw => rsum_any v5 ([4] ++ r) w1 (by simp only [List.length_append, List.length_cons, List.length_nil]; omega) (sw.own_rd (h := 3) rfl)) rfl rfl ?_
  refine at_eq (i := 6) (v' := .agg (ints .u8 (Ky.named r)).toArray) rfl rfl ?_
  refine st_store_all 2 ty55 rfl rfl rfl rfl (by first | omega | (simp only [List.length_append, List.length_cons, List.length_nil, List.length_set, List.length_replicate, List.length_take, List.length_drop, ints_length, wr_length, sha_len, node_len, recov_len, Ky.named_len, Ky.keyPub_len] <;> omega) | rfl) (ints_one _ _) (by first | omega | (simp only [List.length_append, List.length_cons, List.length_nil, List.length_set, List.length_replicate, List.length_take, List.length_drop, ints_length, wr_length, sha_len, node_len, recov_len, Ky.named_len, Ky.keyPub_len] <;> omega) | rfl) rfl ?_
  refine op_nil ?_
  refine ax_then ?_
  refine At.regs (L' := [(2, _)]) (.cons rfl (.nil _)) ?_
  refine cd_ret ?_
  refine rt_cell (h0 := 2) (.inl rfl) Try.results68 ty55 rfl rfl rfl (by first | omega | (simp only [List.length_append, List.length_cons, List.length_nil, List.length_set, List.length_replicate, List.length_take, List.length_drop, ints_length, wr_length, sha_len, node_len, recov_len, Ky.named_len, Ky.keyPub_len] <;> omega) | rfl) ?_
  exact fun w1 sw => ⟨rfl, sw.gives (.nil _)⟩
set_option maxRecDepth 20000 in
set_option maxHeartbeats 1000000 in
theorem isSig_any (l : Int) (vc vp : Value) (cs ps : List (List Int)) (w : World) (hu : H32 cs) (hu' : H32 ps) (h : Rd w vc 32 (flat cs)) (h' : Rd w vp 32 (flat ps)) : Calls Try.prog 117 #[.agg (List.toArray [.int .i64 l, vc, vp])] w (PostV w (.bool (decide (Ky.isSig l cs ps)))) := by
  refine calls_at (vs := [.agg (List.toArray [.int .i64 l, vc, vp])]) (X := []) (H := []) (F := [(21, .sl vp 32 (flat (ps))), (20, .sl vc 32 (flat (cs)))]) 23 Try.func117 rfl rfl rfl ((Sat.rd0 20 h).more 21 h') ?_
  refine cd_seq ?_
  refine cd_region ?_
  refine st_box (h := 1) rfl rfl rfl rfl (fun b1 => ?_)
  refine st (ev_assign rfl) rfl rfl rfl ?_
  refine op_nil ?_
  refine ax_then ?_
  refine At.regs (L' := [(1, _), (2, _)]) (.cons rfl (.cons rfl (.nil _))) ?_
  refine cd_seq ?_
  refine cd_region ?_
  refine st (ev_fieldAddr (b := _) Try.underlying80 (f := _) rfl ty3 (by decide) rfl) rfl rfl rfl ?_
  refine st (ld_blk1 (h := 1) ty3 rfl rfl rfl rfl) rfl rfl rfl ?_
  refine st (ev_geq rfl rfl) rfl rfl rfl ?_
  refine st (ev_move rfl) rfl rfl rfl ?_
  refine at_split_if (i := 6) rfl (fun hg6 => ?_) (fun hg6 => ?_)
  ·
    refine st (ev_fieldAddr (b := _) Try.underlying80 (f := _) rfl ty3 (by decide) rfl) rfl rfl rfl ?_
    refine st (ld_blk1 (h := 1) ty3 rfl rfl rfl rfl) rfl rfl rfl ?_
    refine st (ev_lss rfl rfl) rfl rfl rfl ?_
    refine st (ev_pick_t rfl rfl) rfl rfl rfl ?_
    refine st (ev_move rfl) rfl rfl rfl ?_
    refine at_split_if (i := 11) rfl (fun hg11 => ?_) (fun hg11 => ?_)
    ·
      refine st (ev_fieldAddr (b := _) Try.underlying80 (f := _) rfl ty22 (by decide) rfl) rfl rfl rfl ?_
      refine st (ld_blk1 (h := 1) ty22 rfl rfl rfl rfl) rfl rfl rfl ?_
      refine st (ev_len_rdh (h := 20) Try.underlying22 rfl rfl (by assumption)) rfl rfl rfl ?_
      refine st (ev_eql rfl rfl) rfl rfl rfl ?_
      refine st (ev_pick_t rfl rfl) rfl rfl rfl ?_
      refine st (ev_move rfl) rfl rfl rfl ?_
      refine at_split_if (i := 17) rfl (fun hg17 => ?_) (fun hg17 => ?_)
      ·
        refine st (ev_fieldAddr (b := _) Try.underlying80 (f := _) rfl ty22 (by decide) rfl) rfl rfl rfl ?_
        refine st (ld_blk1 (h := 1) ty22 rfl rfl rfl rfl) rfl rfl rfl ?_
        refine st (ev_len_rdh (h := 21) Try.underlying22 rfl rfl (by assumption)) rfl rfl rfl ?_
        refine st (ev_eql rfl rfl) rfl rfl rfl ?_
        refine st (ev_pick_t rfl rfl) rfl rfl rfl ?_
        refine st (ev_assign rfl) rfl rfl rfl ?_
        refine op_nil ?_
        refine ax_then ?_
        refine At.regs (L' := [(2, _)]) (.cons rfl (.nil _)) ?_
        refine cd_ret ?_
        refine rt_tmp (.inl rfl) Try.results117 rfl ?_
        exact fun w1 sw => ⟨congrArg (fun b => Ending.returned (Value.bool b)) (by first | exact (decide_eq_false (fun hh => by obtain ⟨a1, a2, a3, a4⟩ := hh; omega)).symm | exact decide_eq_decide.2 ⟨fun h => ⟨by omega, by omega, by omega, by omega⟩, fun h => by obtain ⟨a1, a2, a3, a4⟩ := h; omega⟩), sw.gives (.nil _)⟩
      ·
        refine st_skip rfl rfl rfl ?_
        refine st_skip rfl rfl rfl ?_
        refine st_skip rfl rfl rfl ?_
        refine st_skip rfl rfl rfl ?_
        refine st (ev_pick_f rfl rfl) rfl rfl rfl ?_
        refine st (ev_assign rfl) rfl rfl rfl ?_
        refine op_nil ?_
        refine ax_then ?_
        refine At.regs (L' := [(2, _)]) (.cons rfl (.nil _)) ?_
        refine cd_ret ?_
        refine rt_tmp (.inl rfl) Try.results117 rfl ?_
        exact fun w1 sw => ⟨congrArg (fun b => Ending.returned (Value.bool b)) (by first | exact (decide_eq_false (fun hh => by obtain ⟨a1, a2, a3, a4⟩ := hh; omega)).symm | exact decide_eq_decide.2 ⟨fun h => ⟨by omega, by omega, by omega, by omega⟩, fun h => by obtain ⟨a1, a2, a3, a4⟩ := h; omega⟩), sw.gives (.nil _)⟩
    ·
      refine st_skip rfl rfl rfl ?_
      refine st_skip rfl rfl rfl ?_
      refine st_skip rfl rfl rfl ?_
      refine st_skip rfl rfl rfl ?_
      refine st (ev_pick_f rfl rfl) rfl rfl rfl ?_
      refine st (ev_move rfl) rfl rfl rfl ?_
      refine st_skip rfl rfl rfl ?_
      refine st_skip rfl rfl rfl ?_
      refine st_skip rfl rfl rfl ?_
      refine st_skip rfl rfl rfl ?_
      refine st (ev_pick_f rfl rfl) rfl rfl rfl ?_
      refine st (ev_assign rfl) rfl rfl rfl ?_
      refine op_nil ?_
      refine ax_then ?_
      refine At.regs (L' := [(2, _)]) (.cons rfl (.nil _)) ?_
      refine cd_ret ?_
      refine rt_tmp (.inl rfl) Try.results117 rfl ?_
      exact fun w1 sw => ⟨congrArg (fun b => Ending.returned (Value.bool b)) (by first | exact (decide_eq_false (fun hh => by obtain ⟨a1, a2, a3, a4⟩ := hh; omega)).symm | exact decide_eq_decide.2 ⟨fun h => ⟨by omega, by omega, by omega, by omega⟩, fun h => by obtain ⟨a1, a2, a3, a4⟩ := h; omega⟩), sw.gives (.nil _)⟩
  ·
    refine st_skip rfl rfl rfl ?_
    refine st_skip rfl rfl rfl ?_
    refine st_skip rfl rfl rfl ?_
    refine st (ev_pick_f rfl rfl) rfl rfl rfl ?_
    refine st (ev_move rfl) rfl rfl rfl ?_
    refine st_skip rfl rfl rfl ?_
    refine st_skip rfl rfl rfl ?_
    refine st_skip rfl rfl rfl ?_
    refine st_skip rfl rfl rfl ?_
    refine st (ev_pick_f rfl rfl) rfl rfl rfl ?_
    refine st (ev_move rfl) rfl rfl rfl ?_
    refine st_skip rfl rfl rfl ?_
    refine st_skip rfl rfl rfl ?_
    refine st_skip rfl rfl rfl ?_
    refine st_skip rfl rfl rfl ?_
    refine st (ev_pick_f rfl rfl) rfl rfl rfl ?_
    refine st (ev_assign rfl) rfl rfl rfl ?_
    refine op_nil ?_
    refine ax_then ?_
    refine At.regs (L' := [(2, _)]) (.cons rfl (.nil _)) ?_
    refine cd_ret ?_
    refine rt_tmp (.inl rfl) Try.results117 rfl ?_
    exact fun w1 sw => ⟨congrArg (fun b => Ending.returned (Value.bool b)) (by first | exact (decide_eq_false (fun hh => by obtain ⟨a1, a2, a3, a4⟩ := hh; omega)).symm | exact decide_eq_decide.2 ⟨fun h => ⟨by omega, by omega, by omega, by omega⟩, fun h => by obtain ⟨a1, a2, a3, a4⟩ := h; omega⟩), sw.gives (.nil _)⟩
set_option maxRecDepth 20000 in
set_option maxHeartbeats 2000000 in
theorem verify_any (p : List Int) (q : Value) (m : List Int) (l : Int) (vc vp : Value) (cs ps : List (List Int)) (w : World) (hp : p.length = 32) (hm : m.length ≤ 140737488352000) (hu : H32 cs) (hu' : H32 ps) (n1 : cs.length ≤ 140737488352000) (n2 : ps.length ≤ 140737488352000) (h0 : Rd w q 1 (ints .u8 m)) (h : Rd w vc 32 (flat cs)) (h' : Rd w vp 32 (flat ps)) : Calls Try.prog 91 #[.agg (ints .u8 (p)).toArray, q, .agg (List.toArray [.int .i64 l, vc, vp])] w (PostV w (.bool (decide (Ky.verP p m l cs ps)))) := by
  refine calls_at (vs := [.agg (ints .u8 (p)).toArray, q, .agg (List.toArray [.int .i64 l, vc, vp])]) (X := []) (H := []) (F := [(21, .sl vp 32 (flat (ps))), (20, .sl vc 32 (flat (cs))), (1, .sl q 1 (ints .u8 (m)))]) 32 Try.func91 rfl rfl rfl (((Sat.rd0 1 h0).more 20 h).more 21 h') ?_
  refine cd_seq ?_
  refine cd_region ?_
  refine st_box (h := 3) rfl rfl rfl rfl (fun b3 => ?_)
  refine st_box (h := 5) rfl rfl rfl rfl (fun b5 => ?_)
  refine st (ev_assign rfl) rfl rfl rfl ?_
  refine op_nil ?_
  refine ax_then ?_
  refine At.regs (L' := [(1, _), (3, _), (5, _), (6, _)]) (.cons rfl (.cons rfl (.cons rfl (.cons rfl (.nil _))))) ?_
  refine cd_seq ?_
  refine cd_region ?_
  refine st (ev_move rfl) rfl rfl rfl ?_
  refine st (ev_fieldAddr (b := _) Try.underlying80 (f := _) rfl ty22 (by decide) rfl) rfl rfl rfl ?_
  refine st (ld_blk1 (h := 5) ty22 rfl rfl rfl rfl) rfl rfl rfl ?_
  refine st_callv has116 rfl (fun w1 sw => recover_any q vc m cs w1 hm hu n1 (sw.sl_rd (h := 1) rfl) (sw.sl_rd (h := 20) rfl)) rfl rfl ?_
  have hrl := recov_len m cs
  refine st (ev_move rfl) rfl rfl rfl ?_
  refine st (ev_extract rfl rfl) rfl rfl rfl ?_
  refine st (ev_extract rfl rfl) rfl rfl rfl ?_
  refine st_alloc (h := 7) ty55 rfl rfl rfl (fun b7 => ?_)
  refine st_store_all 7 ty55 rfl rfl rfl rfl (by first | omega | (simp only [List.length_append, List.length_cons, List.length_nil, List.length_set, List.length_replicate, List.length_take, List.length_drop, ints_length, wr_length, sha_len, node_len, recov_len, Ky.named_len, Ky.keyPub_len] <;> omega) | rfl) (ints_one _ _) (by first | omega | (simp only [List.length_append, List.length_cons, List.length_nil, List.length_set, List.length_replicate, List.length_take, List.length_drop, ints_length, wr_length, sha_len, node_len, recov_len, Ky.named_len, Ky.keyPub_len] <;> omega) | rfl) rfl ?_
  refine st (ev_assign rfl) rfl rfl rfl ?_
  refine op_nil ?_
  refine ax_then ?_
  refine At.regs (L' := [(3, _), (5, _), (6, _), (7, _), (8, _)]) (.cons rfl (.cons rfl (.cons rfl (.cons rfl (.cons rfl (.nil _)))))) ?_
  refine cd_seq ?_
  refine cd_open hmix (by decide +kernel) ?_
  refine qt (ev_move rfl) rfl rfl rfl ?_
  refine qt (ev_move rfl) rfl rfl rfl ?_
  refine qt_split_if (i := 17) rfl (fun hg17 => ?_) (fun hg17 => ?_)
  ·
    refine qt (ld_blk_all (h := 5) ty80 rfl rfl rfl (by first | omega | (simp only [List.length_append, List.length_cons, List.length_nil, List.length_set, List.length_replicate, List.length_take, List.length_drop, ints_length, wr_length, sha_len, node_len, recov_len, Ky.named_len, Ky.keyPub_len] <;> omega) | rfl)) rfl rfl rfl ?_
    refine qt_callv has117 rfl (fun w1 sw => isSig_any l vc vp cs ps w1 hu hu' (sw.sl_rd (h := 20) rfl) (sw.sl_rd (h := 21) rfl)) rfl rfl ?_
    refine qt (ev_pick_t rfl rfl) rfl rfl rfl ?_
    refine qt (ev_move rfl) rfl rfl rfl ?_
    refine qt_split_if (i := 21) rfl (fun hg21 => ?_) (fun hg21 => ?_)
    ·
      have his := hg21
      refine qt (ld_blk_all (h := 7) ty55 rfl rfl rfl (by first | omega | (simp only [List.length_append, List.length_cons, List.length_nil, List.length_set, List.length_replicate, List.length_take, List.length_drop, ints_length, wr_length, sha_len, node_len, recov_len, Ky.named_len, Ky.keyPub_len] <;> omega) | rfl)) rfl rfl rfl ?_
      refine qt (ev_fieldAddr (b := _) Try.underlying80 (f := _) rfl ty3 (by decide) rfl) rfl rfl rfl ?_
      refine qt (ld_blk1 (h := 5) ty3 rfl rfl rfl rfl) rfl rfl rfl ?_
      refine qt (ev_fieldAddr (b := _) Try.underlying80 (f := _) rfl ty22 (by decide) rfl) rfl rfl rfl ?_
      refine qt (ld_blk1 (h := 5) ty22 rfl rfl rfl rfl) rfl rfl rfl ?_
      refine qt_callv has118 rfl (fun w1 sw => up_any (recov m cs) l vp ps w1 (recov_len _ _) his.1 (by have := his.2.1; omega) hu' n2 (sw.sl_rd (h := 21) rfl)) rfl rfl ?_
      refine qt_callv has76 rfl (fun w1 sw => named_any (up (recov m cs) l ps) w1 (up_len (recov_len _ _) _ _)) rfl rfl ?_
      refine qt (ld_blk_all (h := 3) ty55 rfl rfl rfl (by first | omega | (simp only [List.length_append, List.length_cons, List.length_nil, List.length_set, List.length_replicate, List.length_take, List.length_drop, ints_length, wr_length, sha_len, node_len, recov_len, Ky.named_len, Ky.keyPub_len] <;> omega) | rfl)) rfl rfl rfl ?_
      refine qt (ev_eql_arr Try.underlying55 ty5 eqg55 rfl rfl (by first | omega | (simp only [List.length_append, List.length_cons, List.length_nil, List.length_set, List.length_replicate, List.length_take, List.length_drop, ints_length, wr_length, sha_len, node_len, recov_len, Ky.named_len, Ky.keyPub_len] <;> omega) | rfl) (by first | omega | (simp only [List.length_append, List.length_cons, List.length_nil, List.length_set, List.length_replicate, List.length_take, List.length_drop, ints_length, wr_length, sha_len, node_len, recov_len, Ky.named_len, Ky.keyPub_len] <;> omega) | rfl)) rfl rfl rfl ?_
      refine qt (ev_pick_t rfl rfl) rfl rfl rfl ?_
      refine qt (ev_assign rfl) rfl rfl rfl ?_
      refine qt_end ?_
      refine op_nil ?_
      refine ax_then ?_
      refine At.regs (L' := [(6, _)]) (.cons rfl (.nil _)) ?_
      refine cd_ret ?_
      refine rt_tmp (.inl rfl) Try.results91 rfl ?_
      exact fun w1 sw => ⟨congrArg (fun b => Ending.returned (Value.bool b)) (by first | exact (decide_eq_false (fun hh => hnot hh.1)).symm | exact decide_eq_decide.2 ⟨fun h => ⟨his, h⟩, fun h => h.2⟩), sw.gives (.nil _)⟩
    ·
      have hnot := hg21
      refine qt_skip rfl rfl rfl ?_
      refine qt_skip rfl rfl rfl ?_
      refine qt_skip rfl rfl rfl ?_
      refine qt_skip rfl rfl rfl ?_
      refine qt_skip rfl rfl rfl ?_
      refine qt_skip rfl rfl rfl ?_
      refine qt_skip rfl rfl rfl ?_
      refine qt_skip rfl rfl rfl ?_
      refine qt_skip rfl rfl rfl ?_
      refine qt (ev_pick_f rfl rfl) rfl rfl rfl ?_
      refine qt (ev_assign rfl) rfl rfl rfl ?_
      refine qt_end ?_
      refine op_nil ?_
      refine ax_then ?_
      refine At.regs (L' := [(6, _)]) (.cons rfl (.nil _)) ?_
      refine cd_ret ?_
      refine rt_tmp (.inl rfl) Try.results91 rfl ?_
      exact fun w1 sw => ⟨congrArg (fun b => Ending.returned (Value.bool b)) (by first | exact (decide_eq_false (fun hh => hnot hh.1)).symm | exact decide_eq_decide.2 ⟨fun h => ⟨his, h⟩, fun h => h.2⟩), sw.gives (.nil _)⟩
  ·
    have hnot : ¬ Ky.isSig l cs ps := fun hh => hg17 hh.2.2.1
    refine qt_skip rfl rfl rfl ?_
    refine qt_skip rfl rfl rfl ?_
    refine qt (ev_pick_f rfl rfl) rfl rfl rfl ?_
    refine qt (ev_move rfl) rfl rfl rfl ?_
    refine qt_skip rfl rfl rfl ?_
    refine qt_skip rfl rfl rfl ?_
    refine qt_skip rfl rfl rfl ?_
    refine qt_skip rfl rfl rfl ?_
    refine qt_skip rfl rfl rfl ?_
    refine qt_skip rfl rfl rfl ?_
    refine qt_skip rfl rfl rfl ?_
    refine qt_skip rfl rfl rfl ?_
    refine qt_skip rfl rfl rfl ?_
    refine qt (ev_pick_f rfl rfl) rfl rfl rfl ?_
    refine qt (ev_assign rfl) rfl rfl rfl ?_
    refine qt_end ?_
    refine op_nil ?_
    refine ax_then ?_
    refine At.regs (L' := [(6, _)]) (.cons rfl (.nil _)) ?_
    refine cd_ret ?_
    refine rt_tmp (.inl rfl) Try.results91 rfl ?_
    exact fun w1 sw => ⟨congrArg (fun b => Ending.returned (Value.bool b)) (by first | exact (decide_eq_false (fun hh => hnot hh.1)).symm | exact decide_eq_decide.2 ⟨fun h => ⟨his, h⟩, fun h => h.2⟩), sw.gives (.nil _)⟩
end Go.Proofs.Ytgfnmolbagilmaa

namespace Go.Proofs.Ytgfnmolbagilmaa
open Go Go.RowKit Fw
open Sha
open Ots
open Mk
set_option linter.unusedVariables false
set_option linter.unusedSimpArgs false
set_option maxRecDepth 20000 in
set_option maxHeartbeats 2000000 in
theorem whoC_any (x : Qm.Mark) (b8 b2 : Nat) (h body : List Int) (pb mv : Value) (w : World) (hl : h.length = 32) (h8 : Lies w b8 0 (ints .u8 h)) (h2 : Lies w b2 0 [pb, mv]) (hbody : Rd w pb 1 (ints .u8 body)) (hbl : body.length ≤ 140737488352000) (hx : Qm.MOk x) (hr : Qm.MRd w x) : Calls Try.prog 90 #[(.agg (Qm.mcells x).toArray), .pointer (some ⟨b8, 0, none⟩), .pointer (some ⟨b2, 0, none⟩)] w (PostV w (.bool (decide (Qm.hits h body x)))) := by
  have hml := Qm.mcells_len hx
  have hkl := hx.1
  refine calls_at (vs := [(.agg (Qm.mcells x).toArray), .pointer (some ⟨b8, 0, none⟩), .pointer (some ⟨b2, 0, none⟩)]) (X := []) (H := []) (F := [(24, .mem b2 0 [pb, mv]), (23, .mem b8 0 (ints .u8 h)), (22, .sl (pb) 1 (ints .u8 (body))), (21, .sl (x.vp) 32 (flat (x.ps))), (20, .sl (x.vc) 32 (flat (x.cs)))]) 17 Try.func90 rfl rfl rfl (((((Sat.rd0 20 hr.1).more 21 hr.2).more 22 hbody).read (f := .mem b8 0 (ints .u8 h)) 23 h8 off_nil).read (f := .mem b2 0 [pb, mv]) 24 h2 off_nil) ?_
  refine cd_seq ?_
  refine cd_region ?_
  refine st_box (h := 3) rfl rfl rfl rfl (fun b3 => ?_)
  refine st (ev_assign rfl) rfl rfl rfl ?_
  refine op_nil ?_
  refine ax_then ?_
  refine At.regs (L' := [(1, _), (2, _), (3, _), (4, _)]) (.cons rfl (.cons rfl (.cons rfl (.cons rfl (.nil _))))) ?_
  refine cd_seq ?_
  refine cd_region ?_
  refine st (ev_fieldAddr (b := _) Try.underlying82 (f := _) rfl ty55 (by decide) rfl) rfl rfl rfl ?_
  refine st (ld_blk (h := 3) ty55 rfl rfl rfl (by rw [hml]; show 0 + 32 ≤ 35; decide)) rfl rfl rfl ?_
  refine at_eq (i := 6) (v' := .agg (ints .u8 (x.key)).toArray) rfl (congrArg (fun x => Value.agg (List.toArray x)) (Qm.mkey hx)) ?_
  refine st (ld_mem_all (h := 23) ty55 rfl rfl rfl (by first | omega | (simp only [List.length_append, List.length_cons, List.length_nil, List.length_set, List.length_replicate, List.length_take, List.length_drop, ints_length, wr_length, sha_len, node_len, recov_len, Ky.named_len, Ky.keyPub_len] <;> omega) | rfl)) rfl rfl rfl ?_
  refine st (ev_eql_arr Try.underlying55 ty5 eqg55 rfl rfl (by first | omega | (simp only [List.length_append, List.length_cons, List.length_nil, List.length_set, List.length_replicate, List.length_take, List.length_drop, ints_length, wr_length, sha_len, node_len, recov_len, Ky.named_len, Ky.keyPub_len] <;> omega) | rfl) (by first | omega | (simp only [List.length_append, List.length_cons, List.length_nil, List.length_set, List.length_replicate, List.length_take, List.length_drop, ints_length, wr_length, sha_len, node_len, recov_len, Ky.named_len, Ky.keyPub_len] <;> omega) | rfl)) rfl rfl rfl ?_
  refine st (ev_move rfl) rfl rfl rfl ?_
  refine at_split_if (i := 9) rfl (fun hg9 => ?_) (fun hg9 => ?_)
  ·
    refine st (ld_mem_all (h := 23) ty55 rfl rfl rfl (by first | omega | (simp only [List.length_append, List.length_cons, List.length_nil, List.length_set, List.length_replicate, List.length_take, List.length_drop, ints_length, wr_length, sha_len, node_len, recov_len, Ky.named_len, Ky.keyPub_len] <;> omega) | rfl)) rfl rfl rfl ?_
    refine st (ev_fieldAddr (b := _) Try.underlying31 (f := _) rfl ty28 (by decide) rfl) rfl rfl rfl ?_
    refine st (ld_mem1 (h := 24) ty28 rfl rfl rfl (Nat.zero_add _).symm rfl) rfl rfl rfl ?_
    refine st (ev_fieldAddr (b := _) Try.underlying82 (f := _) rfl ty80 (by decide) rfl) rfl rfl rfl ?_
    refine st (ld_blk (h := 3) ty80 rfl rfl rfl (by rw [hml]; show 32 + 3 ≤ 35; decide)) rfl rfl rfl ?_
    refine at_eq (i := 14) (v' := .agg (List.toArray [.int .i64 x.leaf, x.vc, x.vp])) rfl (congrArg (fun x => Value.agg (List.toArray x)) (Qm.msig hx)) ?_
    refine st_callv has91 rfl (fun w1 sw => verify_any h pb body x.leaf x.vc x.vp x.cs x.ps w1 hl hbl hx.2.1 hx.2.2.1 hx.2.2.2.1 hx.2.2.2.2 (sw.sl_rd (h := 22) rfl) (sw.sl_rd (h := 20) rfl) (sw.sl_rd (h := 21) rfl)) rfl rfl ?_
    refine st (ev_pick_t rfl rfl) rfl rfl rfl ?_
    refine st (ev_assign rfl) rfl rfl rfl ?_
    refine op_nil ?_
    refine ax_then ?_
    refine At.regs (L' := [(4, _)]) (.cons rfl (.nil _)) ?_
    refine cd_ret ?_
    refine rt_tmp (.inl rfl) Try.results90 rfl ?_
    exact fun w1 sw => ⟨congrArg (fun b => Ending.returned (Value.bool b)) (by first | exact (decide_eq_false (fun hh => hg9 hh.1)).symm | exact decide_eq_decide.2 ⟨fun hh => ⟨hg9, hh⟩, fun hh => hh.2⟩), sw.gives (.nil _)⟩
  ·
    refine st_skip rfl rfl rfl ?_
    refine st_skip rfl rfl rfl ?_
    refine st_skip rfl rfl rfl ?_
    refine st_skip rfl rfl rfl ?_
    refine st_skip rfl rfl rfl ?_
    refine st_skip rfl rfl rfl ?_
    refine st (ev_pick_f rfl rfl) rfl rfl rfl ?_
    refine st (ev_assign rfl) rfl rfl rfl ?_
    refine op_nil ?_
    refine ax_then ?_
    refine At.regs (L' := [(4, _)]) (.cons rfl (.nil _)) ?_
    refine cd_ret ?_
    refine rt_tmp (.inl rfl) Try.results90 rfl ?_
    exact fun w1 sw => ⟨congrArg (fun b => Ending.returned (Value.bool b)) (by first | exact (decide_eq_false (fun hh => hg9 hh.1)).symm | exact decide_eq_decide.2 ⟨fun hh => ⟨hg9, hh⟩, fun hh => hh.2⟩), sw.gives (.nil _)⟩
set_option maxRecDepth 20000 in
set_option maxHeartbeats 2000000 in
theorem indexF_any (v : Value) (ms : List Qm.Mark) (w : World) (k : Nat) (hk : Has Try.prog k) (vf vc : List Value) (p : Qm.Mark → Bool) (hc : ∀ (w1 : World) (x : Qm.Mark), Qm.Keeps w w1 → x ∈ ms → Calls Try.prog k (vf ++ [Value.agg (Qm.mcells x).toArray] ++ vc).toArray w1 (PostV w1 (.bool (p x)))) (ha : Qm.AOk ms) (hl : ms.length ≤ 2000000000000) (h : Rd w v 35 (Qm.mflat ms)) : Calls Try.prog 119 #[v, .func (.func k) vf.toArray vc.toArray] w (PostV w (.int .i64 (Qm.firstP p ms))) := by
  refine calls_at (vs := [v, .func (.func k) vf.toArray vc.toArray]) (X := []) (H := []) (F := [(0, .sl (v) 35 (Qm.mflat (ms)))]) 19 Try.func119 rfl rfl rfl (Sat.rd0 0 h) ?_
  refine cd_seq ?_
  refine cd_region ?_
  refine st (ev_assign rfl) rfl rfl rfl ?_
  refine op_nil ?_
  refine ax_then ?_
  refine At.regs (L' := [(0, _), (1, _), (4, _)]) (.cons rfl (.cons rfl (.cons rfl (.nil _)))) ?_
  refine cd_seq ?_
  refine cd_seq ?_
  refine cd_region ?_
  refine st (ev_move rfl) rfl rfl rfl ?_
  refine st (ev_len_rd (h := 0) (n := ms.length) Try.underlying29 rfl rfl (Qm.mflat_len ha) (by decide)) rfl rfl rfl ?_
  refine st (ev_move rfl) rfl rfl rfl ?_
  refine op_nil ?_
  refine ax_then ?_
  refine At.regs (L' := [(0, _), (1, _), (4, _), (7, _), (8, _)]) (.cons rfl (.cons rfl (.cons rfl (.cons rfl (.cons rfl (.nil _)))))) ?_
  refine cd_block ?_
  refine cd_loop (ι := Nat) (fun i => i ≤ ms.length ∧ ∀ j, (hj : j < i) → (hm : j < ms.length) → p ms[j] = false) (fun i => ms.length - i)
      (fun i => [(0, v), (1, .func (.func k) vf.toArray vc.toArray), (7, .int .i64 (ms.length : Nat)), (8, .int .i64 (i : Int))])
      (fun i => [])
      (fun i => [(0, .sl (v) 35 (Qm.mflat (ms)))])
      0 (⟨by omega, fun j hj => by omega⟩) (.cons rfl (.cons rfl (.cons rfl (.cons rfl (.nil _))))) (.nil _) (.cons rfl (.nil _)) (fun i hi => ?_)
  have hi1 := hi.1
  have hfl := Qm.mflat_len ha
  refine cd_seq ?_
  refine cd_region ?_
  refine st (ev_lss rfl rfl) rfl rfl rfl ?_
  refine op_nil ?_
  refine ax_then ?_
  refine At.regs (L' := [(0, _), (1, _), (7, _), (8, _), (9, _)]) (.cons rfl (.cons rfl (.cons rfl (.cons rfl (.cons rfl (.nil _)))))) ?_
  refine cd_seq ?_
  refine cd_if rfl (fun hc9 => ?_) (fun hc9 => ?_)
  ·
    have hlt : i < ms.length := by omega
    refine cd_skip ?_
    refine ax_then ?_
    refine At.regs (L' := [(0, _), (1, _), (7, _), (8, _), (9, _)]) (.cons rfl (.cons rfl (.cons rfl (.cons rfl (.cons rfl (.nil _)))))) ?_
    refine cd_seq ?_
    refine cd_block ?_
    refine cd_seq ?_
    refine cd_region ?_
    refine st (ev_move rfl) rfl rfl rfl ?_
    refine st (ev_assign rfl) rfl rfl rfl ?_
    refine op_nil ?_
    refine ax_then ?_
    refine At.regs (L' := [(0, _), (1, _), (5, _), (7, _), (8, _), (9, _), (10, _)]) (.cons rfl (.cons rfl (.cons rfl (.cons rfl (.cons rfl (.cons rfl (.cons rfl (.nil _)))))))) ?_
    refine cd_seq ?_
    refine cd_region ?_
    refine st (ev_move rfl) rfl rfl rfl ?_
    refine st (ev_move rfl) rfl rfl rfl ?_
    refine st (ev_move rfl) rfl rfl rfl ?_
    refine st (ev_indexAddr_rd (h := 0) (n := ms.length) Try.underlying29 ty82 rfl rfl rfl (Qm.mflat_len ha) (by decide) (by omega) (by omega)) rfl rfl rfl ?_
    refine st (ld_rd (h := 0) ty82 rfl rfl rfl (by decide) (by rw [hfl, Int.toNat_natCast]; omega)) rfl rfl rfl ?_
    refine at_eq (i := 15) (v' := .agg (Qm.mcells ms[i]).toArray) rfl (congrArg (fun x => Value.agg (List.toArray x)) (by rw [Int.toNat_natCast]; exact Qm.mflat_get ha hlt)) ?_
    refine st_callv_fn hk rfl rfl rfl (fun w1 sw => hc w1 ms[i] (Qm.Keeps.of sw) (List.getElem_mem hlt)) rfl rfl ?_
    refine op_nil ?_
    refine ax_then ?_
    refine At.regs (L' := [(0, _), (1, _), (5, _), (7, _), (8, _), (9, _), (10, _), (11, _), (12, _), (13, _), (14, _), (15, _), (16, _)]) (.cons rfl (.cons rfl (.cons rfl (.cons rfl (.cons rfl (.cons rfl (.cons rfl (.cons rfl (.cons rfl (.cons rfl (.cons rfl (.cons rfl (.cons rfl (.nil _)))))))))))))) ?_
    refine cd_cond rfl (fun hc16 => ?_) (fun hc16 => ?_)
    ·
      refine cd_seq ?_
      refine cd_region ?_
      refine st (ev_move rfl) rfl rfl rfl ?_
      refine st (ev_assign rfl) rfl rfl rfl ?_
      refine op_nil ?_
      refine ax_then ?_
      refine At.regs (L' := [(0, _), (1, _), (4, _), (5, _), (7, _), (8, _), (9, _), (10, _), (11, _), (12, _), (13, _), (14, _), (15, _), (16, _), (17, _)]) (.cons rfl (.cons rfl (.cons rfl (.cons rfl (.cons rfl (.cons rfl (.cons rfl (.cons rfl (.cons rfl (.cons rfl (.cons rfl (.cons rfl (.cons rfl (.cons rfl (.cons rfl (.nil _)))))))))))))))) ?_
      refine cd_ret ?_
      refine ax_block_ret ?_
      refine ax_then_ret ?_
      refine ax_then_ret ?_
      refine ax_block_ret ?_
      refine ax_then_ret ?_
      refine rt_tmp (.inl rfl) Try.results119 rfl ?_
      exact fun w1 sw => ⟨by rw [Qm.firstP_hit hlt (fun j hj => hi.2 j hj (by omega)) hc16], sw.gives (.nil _)⟩
    ·
      refine cd_skip ?_
      refine ax_block ?_
      refine ax_then ?_
      refine At.regs (L' := [(0, _), (1, _), (5, _), (7, _), (8, _), (9, _), (10, _), (11, _), (12, _), (13, _), (14, _), (15, _), (16, _)]) (.cons rfl (.cons rfl (.cons rfl (.cons rfl (.cons rfl (.cons rfl (.cons rfl (.cons rfl (.cons rfl (.cons rfl (.cons rfl (.cons rfl (.cons rfl (.nil _)))))))))))))) ?_
      refine cd_region ?_
      refine st (ev_add64 rfl rfl (by omega) (by omega)) rfl rfl rfl ?_
      refine st (ev_move rfl) rfl rfl rfl ?_
      refine op_nil ?_
      exact at_again (i + 1) (⟨by omega, fun j hj hm => (Nat.lt_succ_iff_lt_or_eq.1 hj).elim (fun h => hi.2 j h hm) (fun e => by subst e; exact hc16)⟩) (by omega) (.cons rfl (.cons rfl (.cons rfl (.cons rfl (.nil _))))) (.nil _) (.cons rfl (.nil _))
  ·
    obtain rfl : i = ms.length := by omega
    refine cd_exit ?_
    refine ax_then_exit ?_
    refine ax_then_exit ?_
    refine ax_block_hit ?_
    refine ax_then ?_
    refine At.regs (L' := []) (.nil _) ?_
    refine cd_seq ?_
    refine cd_region ?_
    refine st (ev_assign rfl) rfl rfl rfl ?_
    refine op_nil ?_
    refine ax_then ?_
    refine At.regs (L' := [(4, _)]) (.cons rfl (.nil _)) ?_
    refine cd_ret ?_
    refine rt_tmp (.inl rfl) Try.results119 rfl ?_
    exact fun w1 sw => ⟨by rw [Qm.firstP_miss (fun j hj => hi.2 j hj hj)], sw.gives (.nil _)⟩
set_option maxRecDepth 20000 in
set_option maxHeartbeats 1000000 in
theorem containsF_any (v : Value) (ms : List Qm.Mark) (w : World) (k : Nat) (hk : Has Try.prog k) (vf vc : List Value) (p : Qm.Mark → Bool) (hc : ∀ (w1 : World) (x : Qm.Mark), Qm.Keeps w w1 → x ∈ ms → Calls Try.prog k (vf ++ [Value.agg (Qm.mcells x).toArray] ++ vc).toArray w1 (PostV w1 (.bool (p x)))) (ha : Qm.AOk ms) (hl : ms.length ≤ 2000000000000) (h : Rd w v 35 (Qm.mflat ms)) : Calls Try.prog 92 #[v, .func (.func k) vf.toArray vc.toArray] w (PostV w (.bool (ms.any p))) := by
  refine calls_at (vs := [v, .func (.func k) vf.toArray vc.toArray]) (X := []) (H := []) (F := [(0, .sl (v) 35 (Qm.mflat (ms)))]) 9 Try.func92 rfl rfl rfl (Sat.rd0 0 h) ?_
  refine cd_seq ?_
  refine cd_region ?_
  refine st (ev_assign rfl) rfl rfl rfl ?_
  refine op_nil ?_
  refine ax_then ?_
  refine At.regs (L' := [(0, _), (1, _), (4, _)]) (.cons rfl (.cons rfl (.cons rfl (.nil _)))) ?_
  refine cd_seq ?_
  refine cd_region ?_
  refine st (ev_move rfl) rfl rfl rfl ?_
  refine st (ev_move rfl) rfl rfl rfl ?_
  refine st_callv has119 rfl (fun w1 sw => indexF_any v ms w1 k hk vf vc p (fun w2 x hk2 hx => hc w2 x (fun b hb => (hk2 b (Nat.lt_of_lt_of_le hb sw.size)).trans (sw.old b hb (by simp))) hx) ha hl (sw.sl_rd (h := 0) rfl)) rfl rfl ?_
  refine st (ev_geq rfl rfl) rfl rfl rfl ?_
  refine st (ev_assign rfl) rfl rfl rfl ?_
  refine op_nil ?_
  refine ax_then ?_
  refine At.regs (L' := [(4, _)]) (.cons rfl (.nil _)) ?_
  refine cd_ret ?_
  refine rt_tmp (.inl rfl) Try.results92 rfl ?_
  exact fun w1 sw => ⟨congrArg (fun b => Ending.returned (Value.bool b)) (Qm.firstP_ge p ms), sw.gives (.nil _)⟩
theorem rd_cutm {w : World} {v : Value} {ms : List Qm.Mark} (ha : Qm.AOk ms) (h : Rd w v 35 (Qm.mflat ms)) {n : Nat} (hn : n ≤ ms.length) : Rd w (cutAt 35 v 0 n) 35 (Qm.mflat (ms.take n)) := by
  have := rd_cut (n := ms.length) (lo := 0) (hi := n) h (by decide) (Qm.mflat_len ha) (Nat.zero_le _) hn
  rw [Nat.zero_mul, List.drop_zero, Nat.sub_zero, Qm.mflat_take n ha] at this
  exact this
theorem idx_mem {hs : List (List Int)} {h : List Int} : (0 ≤ idx hs h) ↔ h ∈ hs := by
  constructor
  · intro h0
    apply Classical.byContradiction
    intro hn
    exact (idx_neg.2 fun j hj e => hn (by rw [e, List.getD_eq_getElem?_getD, List.getElem?_eq_getElem hj]; exact List.getElem_mem hj)) h0
  · intro hm
    apply Classical.byContradiction
    intro hn
    obtain ⟨j, hj, e⟩ := List.getElem_of_mem hm
    exact idx_neg.1 hn j hj (by rw [List.getD_eq_getElem?_getD, List.getElem?_eq_getElem hj]; exact e.symm)
theorem any4 (body : List Int) (ms : List Qm.Mark) (h : List Int) : (ms.take 4).any (fun x => decide (Qm.hits h body x)) = decide (Qm.some4 body ms h) := by
  rw [Bool.eq_iff_iff, List.any_eq_true, decide_eq_true_eq]
  exact ⟨fun ⟨x, hx, hh⟩ => ⟨x, hx, of_decide_eq_true hh⟩, fun ⟨x, hx, hh⟩ => ⟨x, hx, decide_eq_true hh⟩⟩
theorem take_min (ms : List Qm.Mark) : ms.take (min ms.length 4) = ms.take 4 := by
  rcases Nat.le_total ms.length 4 with h | h
  · rw [Nat.min_eq_left h, List.take_length, List.take_of_length_le h]
  · rw [Nat.min_eq_right h]
set_option maxRecDepth 20000 in
set_option maxHeartbeats 4000000 in
theorem who_any (pb mv kv : Value) (need : Int) (body : List Int) (ms : List Qm.Mark) (ks : List (List Int)) (w : World) (hbody : Rd w pb 1 (ints .u8 body)) (hbl : body.length ≤ 140737488352000) (ha : Qm.AOk ms) (hml : ms.length ≤ 2000000000000) (hm : Rd w mv 35 (Qm.mflat ms)) (hmr : ∀ x, x ∈ ms → Qm.MRd w x) (hu : H32 ks) (hkl : ks.length ≤ 2000000000000) (hk : Rd w kv 32 (flat ks)) : Calls Try.prog 59 #[.agg (List.toArray [pb, mv]), .agg (List.toArray [kv, .int .i64 need])] w (Post (ι := Value) w [] (fun _ => True) (fun v => v) (fun v => [(0, .own (v) 55 32 (flat (Qm.who body ms ks)))])) := by
  refine calls_at (vs := [.agg (List.toArray [pb, mv]), .agg (List.toArray [kv, .int .i64 need])]) (X := []) (H := []) (F := [(22, .sl (pb) 1 (ints .u8 (body))), (21, .sl (mv) 35 (Qm.mflat (ms))), (20, .sl (kv) 32 (flat (ks)))]) 40 Try.func59 rfl rfl rfl (((Sat.rd0 20 hk).more 21 hm).more 22 hbody) ?_
  refine cd_seq ?_
  refine cd_region ?_
  refine st_box (h := 2) rfl rfl rfl rfl (fun b2 => ?_)
  refine st_box (h := 3) rfl rfl rfl rfl (fun b3 => ?_)
  refine st (ev_assign rfl) rfl rfl rfl ?_
  refine at_own_nil 4 55 32 ?_
  refine at_heq (i := 4) (v' := .own (.slice none 0 0) 55 32 (flat [])) rfl rfl ?_
  have hu4 := H32.nil
  refine op_nil ?_
  refine ax_then ?_
  refine At.regs (L' := [(2, _), (3, _), (4, _)]) (.cons rfl (.cons rfl (.cons rfl (.nil _)))) ?_
  refine cd_seq ?_
  refine cd_region ?_
  refine st (ev_fieldAddr (b := _) Try.underlying31 (f := _) rfl ty29 (by decide) rfl) rfl rfl rfl ?_
  refine st (ld_blk1 (h := 2) ty29 rfl rfl rfl rfl) rfl rfl rfl ?_
  refine st (ev_fieldAddr (b := _) Try.underlying31 (f := _) rfl ty29 (by decide) rfl) rfl rfl rfl ?_
  refine st (ld_blk1 (h := 2) ty29 rfl rfl rfl rfl) rfl rfl rfl ?_
  refine st (ev_len_rd (h := 21) (n := ms.length) Try.underlying29 rfl rfl (Qm.mflat_len ha) (by decide)) rfl rfl rfl ?_
  refine st (ev_min2 rfl rfl) rfl rfl rfl ?_
  refine st (ev_slice_rd_hi (n := ms.length) Try.underlying29 ty82 rfl rfl (fun w1 sw => sw.sl_rd (h := 21) rfl) (by decide) (Qm.mflat_len ha) (by omega) (by omega)) rfl rfl rfl ?_
  refine at_eq (i := 16) (v' := cutAt 35 mv 0 (min ms.length 4)) rfl (by congr 1; omega) ?_
  refine st (ev_assign rfl) rfl rfl rfl ?_
  refine op_nil ?_
  refine ax_then ?_
  refine At.regs (L' := [(2, _), (3, _), (4, _), (5, _)]) (.cons rfl (.cons rfl (.cons rfl (.cons rfl (.nil _))))) ?_
  refine cd_seq ?_
  refine cd_region ?_
  refine st (ev_assign rfl) rfl rfl rfl ?_
  refine at_own_nil 6 55 32 ?_
  refine at_heq (i := 6) (v' := .own (.slice none 0 0) 55 32 (flat [])) rfl rfl ?_
  have hu6 := H32.nil
  refine op_nil ?_
  refine ax_then ?_
  refine At.regs (L' := [(2, _), (3, _), (4, _), (5, _), (6, _)]) (.cons rfl (.cons rfl (.cons rfl (.cons rfl (.cons rfl (.nil _)))))) ?_
  refine cd_seq ?_
  refine cd_seq ?_
  refine cd_region ?_
  refine st (ev_fieldAddr (b := _) Try.underlying24 (f := _) rfl ty22 (by decide) rfl) rfl rfl rfl ?_
  refine st (ld_blk1 (h := 3) ty22 rfl rfl rfl rfl) rfl rfl rfl ?_
  refine st (ev_len_rdh (h := 20) Try.underlying22 rfl rfl (by assumption)) rfl rfl rfl ?_
  refine st (ev_move rfl) rfl rfl rfl ?_
  refine op_nil ?_
  refine ax_then ?_
  refine At.regs (L' := [(2, _), (4, _), (5, _), (6, _), (18, _), (19, _), (20, _)]) (.cons rfl (.cons rfl (.cons rfl (.cons rfl (.cons rfl (.cons rfl (.cons rfl (.nil _)))))))) ?_
  refine cd_block ?_
  refine cd_loop (ι := Nat × Value) (fun x => x.1 ≤ ks.length) (fun x => ks.length - x.1)
      (fun x => [(2, .pointer (some ⟨b2, 0, none⟩)), (5, cutAt 35 mv 0 (min ms.length 4)), (6, x.2), (18, kv), (19, .int .i64 (ks.length : Nat)), (20, .int .i64 (x.1 : Int))])
      (fun x => [(2, .blk (b2) (.cells ([pb, mv]).toArray 31)), (3, .blk (b3) (.cells ([kv, .int .i64 need]).toArray 24)), (6, .own (x.2) 55 32 (flat (Qm.who body ms (ks.take (x.1)))))])
      (fun x => [(20, .sl (kv) 32 (flat (ks))), (21, .sl (mv) 35 (Qm.mflat (ms))), (22, .sl (pb) 1 (ints .u8 (body)))])
      (0, .slice none 0 0) (by omega) (.cons rfl (.cons rfl (.cons rfl (.cons rfl (.cons rfl (.cons rfl (.nil _))))))) (.cons rfl (.cons rfl (.cons rfl (.nil _)))) (.cons rfl (.cons rfl (.cons rfl (.nil _)))) (fun x hi => ?_)
  have e0 : (x.1 : Int).toNat = x.1 := by omega
  have hwu := Qm.who_h32 body ms (hu.take x.1)
  have hwl := hwu.2
  have hw32 := hwu.1
  have htl : (ks.take x.1).length ≤ ks.length := by rw [List.length_take]; omega
  have hgx : x.1 < ks.length → (ks.getD x.1 []).length = 32 := fun hh => hu.get hh
  have hgx2 : x.1 < ks.length → (ks.getD (x.1 : Int).toNat []).length = 32 := fun hh => by rw [e0]; exact hu.get hh
  have hst : x.1 < ks.length → ks.take (x.1 + 1) = ks.take x.1 ++ [ks.getD x.1 []] := fun hh => by rw [List.take_succ_eq_append_getElem hh, List.getD_eq_getElem?_getD, List.getElem?_eq_getElem hh]; rfl
  refine cd_seq ?_
  refine cd_region ?_
  refine st (ev_lss rfl rfl) rfl rfl rfl ?_
  refine op_nil ?_
  refine ax_then ?_
  refine At.regs (L' := [(2, _), (5, _), (6, _), (18, _), (19, _), (20, _), (21, _)]) (.cons rfl (.cons rfl (.cons rfl (.cons rfl (.cons rfl (.cons rfl (.cons rfl (.nil _)))))))) ?_
  refine cd_seq ?_
  refine cd_if rfl (fun hc21 => ?_) (fun hc21 => ?_)
  ·
    have hg := hgx (by omega)
    have hg2 := hgx2 (by omega)
    refine cd_skip ?_
    refine ax_then ?_
    refine At.regs (L' := [(2, _), (5, _), (6, _), (18, _), (19, _), (20, _), (21, _)]) (.cons rfl (.cons rfl (.cons rfl (.cons rfl (.cons rfl (.cons rfl (.cons rfl (.nil _)))))))) ?_
    refine cd_join (ι := Value) (fun y => True) (fun y => [(2, .pointer (some ⟨b2, 0, none⟩)), (5, cutAt 35 mv 0 (min ms.length 4)), (6, y), (18, kv), (19, .int .i64 (ks.length : Nat)), (20, .int .i64 (x.1 : Int))]) (fun y => [(2, .blk (b2) (.cells ([pb, mv]).toArray 31)), (3, .blk (b3) (.cells ([kv, .int .i64 need]).toArray 24)), (6, .own (y) 55 32 (flat (Qm.who body ms (ks.take (x.1 + 1)))))]) (fun y => [(20, .sl (kv) 32 (flat (ks))), (21, .sl (mv) 35 (Qm.mflat (ms))), (22, .sl (pb) 1 (ints .u8 (body)))]) ?_ (fun y hj => ?_)
    ·
      refine cd_block ?_
      refine cd_seq ?_
      refine cd_region ?_
      refine st (ev_indexAddr_rdh (h := 20) Try.underlying22 ty55 rfl rfl rfl (by assumption) (by omega) (by omega)) rfl rfl rfl ?_
      refine st (ld_rdh (h := 20) ty55 rfl rfl rfl (by assumption) (by omega)) rfl rfl rfl ?_
      refine at_eq (i := 23) (v' := .agg (ints .u8 (ks.getD x.1 [])).toArray) rfl (by rw [e0]) ?_
      refine st_alloc (h := 8) ty55 rfl rfl rfl (fun b8 => ?_)
      refine st_store_all 8 ty55 rfl rfl rfl rfl (by first | omega | (simp only [List.length_append, List.length_cons, List.length_nil, List.length_set, List.length_replicate, List.length_take, List.length_drop, ints_length, wr_length, sha_len, node_len, recov_len, Ky.named_len, Ky.keyPub_len] <;> omega) | rfl) (ints_one _ _) (by first | omega | (simp only [List.length_append, List.length_cons, List.length_nil, List.length_set, List.length_replicate, List.length_take, List.length_drop, ints_length, wr_length, sha_len, node_len, recov_len, Ky.named_len, Ky.keyPub_len] <;> omega) | rfl) rfl ?_
      refine op_nil ?_
      refine ax_then ?_
      refine At.regs (L' := [(2, _), (5, _), (6, _), (8, _), (18, _), (19, _), (20, _), (21, _), (22, _), (23, _)]) (.cons rfl (.cons rfl (.cons rfl (.cons rfl (.cons rfl (.cons rfl (.cons rfl (.cons rfl (.cons rfl (.cons rfl (.nil _))))))))))) ?_
      refine cd_seq ?_
      refine cd_region ?_
      refine st (ev_func rfl rfl) rfl rfl rfl ?_
      refine st (ev_assign rfl) rfl rfl rfl ?_
      refine op_nil ?_
      refine ax_then ?_
      refine At.regs (L' := [(2, _), (5, _), (6, _), (8, _), (9, _), (18, _), (19, _), (20, _), (21, _), (22, _), (23, _), (24, _)]) (.cons rfl (.cons rfl (.cons rfl (.cons rfl (.cons rfl (.cons rfl (.cons rfl (.cons rfl (.cons rfl (.cons rfl (.cons rfl (.cons rfl (.nil _))))))))))))) ?_
      refine cd_seq ?_
      refine cd_region ?_
      refine st (ev_move rfl) rfl rfl rfl ?_
      refine st (ld_blk_all (h := 8) ty55 rfl rfl rfl (by first | omega | (simp only [List.length_append, List.length_cons, List.length_nil, List.length_set, List.length_replicate, List.length_take, List.length_drop, ints_length, wr_length, sha_len, node_len, recov_len, Ky.named_len, Ky.keyPub_len] <;> omega) | rfl)) rfl rfl rfl ?_
      refine st_callv has89 rfl (fun w1 sw => contains_any x.2 (Qm.who body ms (ks.take (x.1))) (ks.getD x.1 []) w1 hw32 hg (by omega) (sw.own_rd (h := 6) rfl)) rfl rfl ?_
      refine at_eq (i := 27) (v' := .bool (decide (ks.getD x.1 [] ∈ Qm.who body ms (ks.take (x.1))))) rfl (congrArg Value.bool (decide_eq_decide.2 idx_mem)) ?_
      refine st (ev_not_if rfl) rfl rfl rfl ?_
      refine st (ev_move rfl) rfl rfl rfl ?_
      refine at_split_if (i := 29) rfl (fun hg29 => ?_) (fun hg29 => ?_)
      ·
        refine st (ev_move rfl) rfl rfl rfl ?_
        refine st (ev_move rfl) rfl rfl rfl ?_
        refine st_callv has92 rfl (fun w1 sw => containsF_any (cutAt 35 mv 0 (min ms.length 4)) (ms.take (min ms.length 4)) w1 90 has90 [] [.pointer (some ⟨b8, 0, none⟩), .pointer (some ⟨b2, 0, none⟩)] (fun y => decide (Qm.hits (ks.getD x.1 []) body y)) (fun w2 y hk2 hy => whoC_any y b8 b2 (ks.getD x.1 []) body pb mv w2 hg (hk2.lies (lies_blk (sw.blk_eq (h := 8) rfl))) (hk2.lies (lies_blk (sw.blk_eq (h := 2) rfl))) (hk2.rd (sw.sl_rd (h := 22) rfl)) hbl (ha y (List.mem_of_mem_take hy)) (hk2.mrd ((Qm.Keeps.of sw).mrd (hmr y (List.mem_of_mem_take hy))))) (ha.take _) (by rw [List.length_take]; omega) (rd_cutm ha (sw.sl_rd (h := 21) rfl) (by omega))) rfl rfl ?_
        refine at_eq (i := 32) (v' := .bool (decide (Qm.some4 body ms (ks.getD x.1 [])))) rfl (by rw [take_min, any4]) ?_
        refine st (ev_pick_t rfl rfl) rfl rfl rfl ?_
        refine op_nil ?_
        refine ax_then ?_
        refine At.regs (L' := [(2, _), (5, _), (6, _), (8, _), (9, _), (18, _), (19, _), (20, _), (21, _), (22, _), (23, _), (24, _), (25, _), (26, _), (27, _), (28, _), (29, _), (30, _), (31, _), (32, _), (33, _)]) (.cons rfl (.cons rfl (.cons rfl (.cons rfl (.cons rfl (.cons rfl (.cons rfl (.cons rfl (.cons rfl (.cons rfl (.cons rfl (.cons rfl (.cons rfl (.cons rfl (.cons rfl (.cons rfl (.cons rfl (.cons rfl (.cons rfl (.cons rfl (.cons rfl (.nil _)))))))))))))))))))))) ?_
        refine cd_if rfl (fun hc33 => ?_) (fun hc33 => ?_)
        ·
          refine cd_region ?_
          refine st (ev_move rfl) rfl rfl rfl ?_
          refine st (ld_blk_all (h := 8) ty55 rfl rfl rfl (by first | omega | (simp only [List.length_append, List.length_cons, List.length_nil, List.length_set, List.length_replicate, List.length_take, List.length_drop, ints_length, wr_length, sha_len, node_len, recov_len, Ky.named_len, Ky.keyPub_len] <;> omega) | rfl)) rfl rfl rfl ?_
          refine st_bsh1 (h := 36) Try.underlying22 ty55 rfl (by first | assumption | omega) rfl rfl (fun b36 hu36 => ?_)
          refine st_appendh (h := 6) Try.underlying22 Try.underlying22 ty55 rfl rfl rfl rfl (fun w1 sw => sw.own_rd (h := 36) rfl) (by assumption) (by assumption) (by first | omega | (simp only [List.length_append, List.length_cons, List.length_nil, List.length_set, List.length_replicate, List.length_take, List.length_drop, ints_length, wr_length, sha_len, node_len, recov_len, Ky.named_len, Ky.keyPub_len] <;> omega)) (by decide) rfl rfl (fun v37 hu37 => ?_)
          refine st (ev_assign rfl) rfl rfl rfl ?_
          refine op_nil ?_
          refine ax_block ?_
          refine ax_heq (i := 6) (v' := .own (v37) 55 32 (flat (Qm.who body ms (ks.take (x.1 + 1))))) rfl (by rw [hst (by omega), Qm.who_snoc, if_pos ⟨hg29, hc33⟩]) ?_
          exact at_met (v37) (trivial) (.cons rfl (.cons rfl (.cons rfl (.cons rfl (.cons rfl (.cons rfl (.nil _))))))) (.cons rfl (.cons rfl (.cons rfl (.nil _)))) (.cons rfl (.cons rfl (.cons rfl (.nil _))))
        ·
          refine cd_skip ?_
          refine ax_block ?_
          refine ax_heq (i := 6) (v' := .own (x.2) 55 32 (flat (Qm.who body ms (ks.take (x.1 + 1))))) rfl (by rw [hst (by omega), Qm.who_snoc, if_neg (fun hh => hc33 hh.2)]) ?_
          exact at_met (x.2) (trivial) (.cons rfl (.cons rfl (.cons rfl (.cons rfl (.cons rfl (.cons rfl (.nil _))))))) (.cons rfl (.cons rfl (.cons rfl (.nil _)))) (.cons rfl (.cons rfl (.cons rfl (.nil _))))
      ·
        refine st_skip rfl rfl rfl ?_
        refine st_skip rfl rfl rfl ?_
        refine st_skip rfl rfl rfl ?_
        refine st (ev_pick_f rfl rfl) rfl rfl rfl ?_
        refine op_nil ?_
        refine ax_then ?_
        refine At.regs (L' := [(2, _), (5, _), (6, _), (8, _), (9, _), (18, _), (19, _), (20, _), (21, _), (22, _), (23, _), (24, _), (25, _), (26, _), (27, _), (28, _), (29, _), (30, _), (31, _), (32, _), (33, _)]) (.cons rfl (.cons rfl (.cons rfl (.cons rfl (.cons rfl (.cons rfl (.cons rfl (.cons rfl (.cons rfl (.cons rfl (.cons rfl (.cons rfl (.cons rfl (.cons rfl (.cons rfl (.cons rfl (.cons rfl (.cons rfl (.cons rfl (.cons rfl (.cons rfl (.nil _)))))))))))))))))))))) ?_
        refine cd_false rfl ?_
        refine cd_skip ?_
        refine ax_block ?_
        refine ax_heq (i := 6) (v' := .own (x.2) 55 32 (flat (Qm.who body ms (ks.take (x.1 + 1))))) rfl (by rw [hst (by omega), Qm.who_snoc, if_neg (fun hh => hg29 hh.1)]) ?_
        exact at_met (x.2) (trivial) (.cons rfl (.cons rfl (.cons rfl (.cons rfl (.cons rfl (.cons rfl (.nil _))))))) (.cons rfl (.cons rfl (.cons rfl (.nil _)))) (.cons rfl (.cons rfl (.cons rfl (.nil _))))
    ·
      refine cd_region ?_
      refine st (ev_add64 rfl rfl (by omega) (by omega)) rfl rfl rfl ?_
      refine st (ev_move rfl) rfl rfl rfl ?_
      refine op_nil ?_
      exact at_again ((x.1 + 1, y)) (by show x.1 + 1 ≤ ks.length; omega) (by omega) (.cons rfl (.cons rfl (.cons rfl (.cons rfl (.cons rfl (.cons rfl (.nil _))))))) (.cons rfl (.cons rfl (.cons rfl (.nil _)))) (.cons rfl (.cons rfl (.cons rfl (.nil _))))
  ·
    obtain ⟨j, u⟩ := x
    dsimp only at hi hc21 ⊢
    obtain rfl : j = ks.length := by omega
    refine at_heq (i := 6) (v' := .own (u) 55 32 (flat (Qm.who body ms ks))) rfl (by rw [List.take_length]) ?_
    refine cd_exit ?_
    refine ax_then_exit ?_
    refine ax_then_exit ?_
    refine ax_block_hit ?_
    refine ax_then ?_
    refine At.regs (L' := [(6, _)]) (.cons rfl (.nil _)) ?_
    refine cd_seq ?_
    refine cd_region ?_
    refine st (ev_move rfl) rfl rfl rfl ?_
    refine st (ev_assign rfl) rfl rfl rfl ?_
    refine op_nil ?_
    refine ax_then ?_
    refine At.regs (L' := [(4, _)]) (.cons rfl (.nil _)) ?_
    refine cd_ret ?_
    refine rt_tmp (.inl rfl) Try.results59 rfl ?_
    exact fun w1 sw => ⟨u, trivial, rfl, (sw.gives (N := [(6, _)]) (.cons rfl (.nil _))).rn 0⟩
end Go.Proofs.Ytgfnmolbagilmaa

namespace Go.Proofs.Ytgfnmolbagilmaa
open Go Go.RowKit Fw
open Sha
open Ots
open Mk
set_option linter.unusedVariables false
set_option linter.unusedSimpArgs false
def meets (body : List Int) (ms : List Qm.Mark) (ks : List (List Int)) (need : Int) : Prop := isK ks need ∧ ((Qm.who body ms ks).length : Int) ≥ need
instance (body : List Int) (ms : List Qm.Mark) (ks : List (List Int)) (need : Int) : Decidable (meets body ms ks need) := by unfold meets; infer_instance
set_option maxRecDepth 20000 in
set_option maxHeartbeats 2000000 in
theorem meets_any (pb mv kv : Value) (need : Int) (body : List Int) (ms : List Qm.Mark) (ks : List (List Int)) (w : World) (hbody : Rd w pb 1 (ints .u8 body)) (hbl : body.length ≤ 140737488352000) (ha : Qm.AOk ms) (hml : ms.length ≤ 2000000000000) (hm : Rd w mv 35 (Qm.mflat ms)) (hmr : ∀ x, x ∈ ms → Qm.MRd w x) (hu : H32 ks) (hkl : ks.length ≤ 2000000000000) (hk : Rd w kv 32 (flat ks)) : Calls Try.prog 32 #[.agg (List.toArray [pb, mv]), .agg (List.toArray [kv, .int .i64 need])] w (PostV w (.bool (decide (meets body ms ks need)))) := by
  refine calls_at (vs := [.agg (List.toArray [pb, mv]), .agg (List.toArray [kv, .int .i64 need])]) (X := []) (H := []) (F := [(22, .sl (pb) 1 (ints .u8 (body))), (21, .sl (mv) 35 (Qm.mflat (ms))), (20, .sl (kv) 32 (flat (ks)))]) 16 Try.func32 rfl rfl rfl (((Sat.rd0 20 hk).more 21 hm).more 22 hbody) ?_
  refine cd_seq ?_
  refine cd_region ?_
  refine st_box (h := 2) rfl rfl rfl rfl (fun b2 => ?_)
  refine st_box (h := 3) rfl rfl rfl rfl (fun b3 => ?_)
  refine st (ev_assign rfl) rfl rfl rfl ?_
  refine op_nil ?_
  refine ax_then ?_
  refine At.regs (L' := [(2, _), (3, _), (4, _)]) (.cons rfl (.cons rfl (.cons rfl (.nil _)))) ?_
  refine cd_seq ?_
  refine at_freeze_blk (h := 2) (H' := [(3, _)]) 2 rfl (.cons rfl (.nil _)) rfl ?_
  refine at_freeze_blk (h := 3) (H' := []) 3 rfl (.nil _) rfl ?_
  refine cd_mix hmix ?_
  refine mx (i := 0) rfl (by decide +kernel) (by decide +kernel) (by decide +kernel) rfl (fun w0 => ld_mem_all (h := 3) ty24 rfl rfl rfl (by first | omega | (simp only [List.length_append, List.length_cons, List.length_nil, List.length_set, List.length_replicate, List.length_take, List.length_drop, ints_length, wr_length, sha_len, node_len, recov_len, Ky.named_len, Ky.keyPub_len] <;> omega) | rfl)) rfl rfl (Sub.refl _) ?_
  refine mx_one (i := 1) (by decide +kernel) (Sub.refl _) ?_
  refine wo (i := 1) rfl ?_
  refine st_callv has58 rfl (fun w1 sw => is_any kv ks need w1 hu (by omega) (sw.sl_rd (h := 20) rfl)) rfl rfl ?_
  refine op_nil ?_
  refine ax_then ?_
  refine mx (i := 2) rfl (by decide +kernel) (by decide +kernel) (by decide +kernel) rfl (fun w0 => ev_move rfl) rfl rfl (Sub.refl _) ?_
  refine at_split_if (i := 7) rfl (fun hg7 => ?_) (fun hg7 => ?_)
  ·
    refine mx (i := 3) rfl (by decide +kernel) (by decide +kernel) (by decide +kernel) rfl (fun w0 => ld_mem_all (h := 2) ty31 rfl rfl rfl (by first | omega | (simp only [List.length_append, List.length_cons, List.length_nil, List.length_set, List.length_replicate, List.length_take, List.length_drop, ints_length, wr_length, sha_len, node_len, recov_len, Ky.named_len, Ky.keyPub_len] <;> omega) | rfl)) rfl rfl (Sub.refl _) ?_
    refine mx (i := 4) rfl (by decide +kernel) (by decide +kernel) (by decide +kernel) rfl (fun w0 => ld_mem_all (h := 3) ty24 rfl rfl rfl (by first | omega | (simp only [List.length_append, List.length_cons, List.length_nil, List.length_set, List.length_replicate, List.length_take, List.length_drop, ints_length, wr_length, sha_len, node_len, recov_len, Ky.named_len, Ky.keyPub_len] <;> omega) | rfl)) rfl rfl (Sub.refl _) ?_
    refine mx (i := 7) rfl (by decide +kernel) (by decide +kernel) (by decide +kernel) rfl (fun w0 => ev_fieldAddr (b := _) Try.underlying24 (f := _) rfl ty3 (by decide) rfl) rfl rfl (Sub.refl _) ?_
    refine mx (i := 8) rfl (by decide +kernel) (by decide +kernel) (by decide +kernel) rfl (fun w0 => ld_mem1 (h := 3) ty3 rfl rfl rfl (Nat.zero_add _).symm rfl) rfl rfl (Sub.refl _) ?_
    refine mx_one (i := 5) (by decide +kernel) (Sub.refl _) ?_
    refine wo (i := 5) rfl ?_
    refine st_call has59 rfl (fun w1 sw => rn 10 (who_any pb mv kv need body ms ks w1 (sw.sl_rd (h := 22) rfl) hbl ha hml (sw.sl_rd (h := 21) rfl) (fun x hx => (Qm.Keeps.of sw).mrd (hmr x hx)) hu hkl (sw.sl_rd (h := 20) rfl))) nil_all rfl rfl (fun v10 _ => ?_)
    have hwu := Qm.who_h32 body ms hu
    have hw32 := hwu.1
    refine op_nil ?_
    refine ax_then ?_
    refine mx_one (i := 6) (by decide +kernel) (Sub.refl _) ?_
    refine wo (i := 6) rfl ?_
    refine st (ev_len_ownh (h := 10) Try.underlying22 rfl rfl (by assumption)) rfl rfl rfl ?_
    refine op_nil ?_
    refine ax_then ?_
    refine mx (i := 9) rfl (by decide +kernel) (by decide +kernel) (by decide +kernel) rfl (fun w0 => ev_geq rfl rfl) rfl rfl (Sub.refl _) ?_
    refine mx (i := 10) rfl (by decide +kernel) (by decide +kernel) (by decide +kernel) rfl (fun w0 => ev_pick_t rfl rfl) rfl rfl (Sub.refl _) ?_
    refine mx (i := 11) rfl (by decide +kernel) (by decide +kernel) (by decide +kernel) rfl (fun w0 => ev_assign rfl) rfl rfl (Sub.refl _) ?_
    refine mx_done (by decide +kernel) (Sub.refl _) ?_
    refine ax_then ?_
    refine At.regs (L' := [(4, _)]) (.cons rfl (.nil _)) ?_
    refine cd_ret ?_
    refine rt_tmp (.inl rfl) Try.results32 rfl ?_
    exact fun w1 sw => ⟨congrArg (fun b => Ending.returned (Value.bool b)) (by first | exact (decide_eq_false (fun hh => hg7 hh.1)).symm | exact decide_eq_decide.2 ⟨fun hh => ⟨hg7, hh⟩, fun hh => hh.2⟩), sw.gives (.nil _)⟩
  ·
    refine mx_skip (i := 3) rfl (by decide +kernel) (by decide +kernel) (by decide +kernel) rfl rfl rfl (Sub.refl _) ?_
    refine mx_skip (i := 4) rfl (by decide +kernel) (by decide +kernel) (by decide +kernel) rfl rfl rfl (Sub.refl _) ?_
    refine mx_skip (i := 5) rfl (by decide +kernel) (by decide +kernel) (by decide +kernel) rfl rfl rfl (Sub.refl _) ?_
    refine mx_skip (i := 6) rfl (by decide +kernel) (by decide +kernel) (by decide +kernel) rfl rfl rfl (Sub.refl _) ?_
    refine mx_skip (i := 7) rfl (by decide +kernel) (by decide +kernel) (by decide +kernel) rfl rfl rfl (Sub.refl _) ?_
    refine mx_skip (i := 8) rfl (by decide +kernel) (by decide +kernel) (by decide +kernel) rfl rfl rfl (Sub.refl _) ?_
    refine mx_skip (i := 9) rfl (by decide +kernel) (by decide +kernel) (by decide +kernel) rfl rfl rfl (Sub.refl _) ?_
    refine mx (i := 10) rfl (by decide +kernel) (by decide +kernel) (by decide +kernel) rfl (fun w0 => ev_pick_f rfl rfl) rfl rfl (Sub.refl _) ?_
    refine mx (i := 11) rfl (by decide +kernel) (by decide +kernel) (by decide +kernel) rfl (fun w0 => ev_assign rfl) rfl rfl (Sub.refl _) ?_
    refine mx_done (by decide +kernel) (Sub.refl _) ?_
    refine ax_then ?_
    refine At.regs (L' := [(4, _)]) (.cons rfl (.nil _)) ?_
    refine cd_ret ?_
    refine rt_tmp (.inl rfl) Try.results32 rfl ?_
    exact fun w1 sw => ⟨congrArg (fun b => Ending.returned (Value.bool b)) (by first | exact (decide_eq_false (fun hh => hg7 hh.1)).symm | exact decide_eq_decide.2 ⟨fun hh => ⟨hg7, hh⟩, fun hh => hh.2⟩), sw.gives (.nil _)⟩
end Go.Proofs.Ytgfnmolbagilmaa

namespace Go.Proofs.Ytgfnmolbagilmaa
open Go Go.RowKit Fw
open Sha
open Ots
open Mk
set_option linter.unusedVariables false
set_option linter.unusedSimpArgs false
set_option maxRecDepth 20000 in
set_option maxHeartbeats 2000000 in
theorem riskeys_any (sv : Value) (ks : List (List Int)) (need : Int) (w : World) (hu : H32 ks) (hs0 : ks.length ≤ 140737488352000) (h : Rd w sv 32 (flat ks)) : Calls Try.prog 63 #[.agg (List.toArray [sv, .int .i64 need])] w (PostV w (.bool (decide (isK ks need)))) := by
  refine calls_at (vs := [.agg (List.toArray [sv, .int .i64 need])]) (X := []) (H := []) (F := [(20, .sl (sv) 32 (flat (ks)))]) 51 Try.func63 rfl rfl rfl (Sat.rd0 20 h) ?_
  refine cd_seq ?_
  refine cd_region ?_
  refine st_box (h := 1) rfl rfl rfl rfl (fun b1 => ?_)
  refine st (ev_assign rfl) rfl rfl rfl ?_
  refine op_nil ?_
  refine ax_then ?_
  refine At.regs (L' := [(1, _), (2, _)]) (.cons rfl (.cons rfl (.nil _))) ?_
  refine cd_seq ?_
  refine cd_seq ?_
  refine cd_region ?_
  refine st (ev_fieldAddr (b := _) Try.underlying24 (f := _) rfl ty22 (by decide) rfl) rfl rfl rfl ?_
  refine st (ld_blk1 (h := 1) ty22 rfl rfl rfl rfl) rfl rfl rfl ?_
  refine st (ev_len_rdh (h := 20) Try.underlying22 rfl rfl (by assumption)) rfl rfl rfl ?_
  refine st (ev_lss rfl rfl) rfl rfl rfl ?_
  refine st (ev_move rfl) rfl rfl rfl ?_
  refine at_split_if (i := 9) rfl (fun hg9 => ?_) (fun hg9 => ?_)
  ·
    refine st_skip rfl rfl rfl ?_
    refine st_skip rfl rfl rfl ?_
    refine st_skip rfl rfl rfl ?_
    refine st_skip rfl rfl rfl ?_
    refine st (ev_pick_t rfl rfl) rfl rfl rfl ?_
    refine st (ev_move rfl) rfl rfl rfl ?_
    refine st_skip rfl rfl rfl ?_
    refine st_skip rfl rfl rfl ?_
    refine st_skip rfl rfl rfl ?_
    refine st (ev_pick_t rfl rfl) rfl rfl rfl ?_
    refine st (ev_move rfl) rfl rfl rfl ?_
    refine st_skip rfl rfl rfl ?_
    refine st_skip rfl rfl rfl ?_
    refine st_skip rfl rfl rfl ?_
    refine st_skip rfl rfl rfl ?_
    refine st_skip rfl rfl rfl ?_
    refine st_skip rfl rfl rfl ?_
    refine st (ev_pick_t rfl rfl) rfl rfl rfl ?_
    refine op_nil ?_
    refine ax_then ?_
    refine At.regs (L' := [(1, _), (2, _), (27, _)]) (.cons rfl (.cons rfl (.cons rfl (.nil _)))) ?_
    refine cd_true rfl ?_
    refine cd_seq ?_
    refine cd_region ?_
    refine st (ev_assign rfl) rfl rfl rfl ?_
    refine op_nil ?_
    refine ax_then ?_
    refine At.regs (L' := [(1, _), (2, _)]) (.cons rfl (.cons rfl (.nil _))) ?_
    refine cd_ret ?_
    refine ax_then_ret ?_
    refine rt_tmp (.inl rfl) Try.results63 rfl ?_
    exact fun w1 sw => ⟨congrArg (fun b => Ending.returned (Value.bool b)) (decide_eq_false (fun hh => by obtain ⟨_, a1, a2, a3, a4⟩ := hh; omega)).symm, sw.gives (.nil _)⟩
  ·
    refine st (ev_fieldAddr (b := _) Try.underlying24 (f := _) rfl ty22 (by decide) rfl) rfl rfl rfl ?_
    refine st (ld_blk1 (h := 1) ty22 rfl rfl rfl rfl) rfl rfl rfl ?_
    refine st (ev_len_rdh (h := 20) Try.underlying22 rfl rfl (by assumption)) rfl rfl rfl ?_
    refine st (ev_gtr rfl rfl) rfl rfl rfl ?_
    refine st (ev_pick_f rfl rfl) rfl rfl rfl ?_
    refine st (ev_move rfl) rfl rfl rfl ?_
    refine at_split_if (i := 15) rfl (fun hg15 => ?_) (fun hg15 => ?_)
    ·
      refine st_skip rfl rfl rfl ?_
      refine st_skip rfl rfl rfl ?_
      refine st_skip rfl rfl rfl ?_
      refine st (ev_pick_t rfl rfl) rfl rfl rfl ?_
      refine st (ev_move rfl) rfl rfl rfl ?_
      refine st_skip rfl rfl rfl ?_
      refine st_skip rfl rfl rfl ?_
      refine st_skip rfl rfl rfl ?_
      refine st_skip rfl rfl rfl ?_
      refine st_skip rfl rfl rfl ?_
      refine st_skip rfl rfl rfl ?_
      refine st (ev_pick_t rfl rfl) rfl rfl rfl ?_
      refine op_nil ?_
      refine ax_then ?_
      refine At.regs (L' := [(1, _), (2, _), (27, _)]) (.cons rfl (.cons rfl (.cons rfl (.nil _)))) ?_
      refine cd_true rfl ?_
      refine cd_seq ?_
      refine cd_region ?_
      refine st (ev_assign rfl) rfl rfl rfl ?_
      refine op_nil ?_
      refine ax_then ?_
      refine At.regs (L' := [(1, _), (2, _)]) (.cons rfl (.cons rfl (.nil _))) ?_
      refine cd_ret ?_
      refine ax_then_ret ?_
      refine rt_tmp (.inl rfl) Try.results63 rfl ?_
      exact fun w1 sw => ⟨congrArg (fun b => Ending.returned (Value.bool b)) (decide_eq_false (fun hh => by obtain ⟨_, a1, a2, a3, a4⟩ := hh; omega)).symm, sw.gives (.nil _)⟩
    ·
      refine st (ev_fieldAddr (b := _) Try.underlying24 (f := _) rfl ty3 (by decide) rfl) rfl rfl rfl ?_
      refine st (ld_blk1 (h := 1) ty3 rfl rfl rfl rfl) rfl rfl rfl ?_
      refine st (ev_lss rfl rfl) rfl rfl rfl ?_
      refine st (ev_pick_f rfl rfl) rfl rfl rfl ?_
      refine st (ev_move rfl) rfl rfl rfl ?_
      refine at_split_if (i := 20) rfl (fun hg20 => ?_) (fun hg20 => ?_)
      ·
        refine st_skip rfl rfl rfl ?_
        refine st_skip rfl rfl rfl ?_
        refine st_skip rfl rfl rfl ?_
        refine st_skip rfl rfl rfl ?_
        refine st_skip rfl rfl rfl ?_
        refine st_skip rfl rfl rfl ?_
        refine st (ev_pick_t rfl rfl) rfl rfl rfl ?_
        refine op_nil ?_
        refine ax_then ?_
        refine At.regs (L' := [(1, _), (2, _), (27, _)]) (.cons rfl (.cons rfl (.cons rfl (.nil _)))) ?_
        refine cd_true rfl ?_
        refine cd_seq ?_
        refine cd_region ?_
        refine st (ev_assign rfl) rfl rfl rfl ?_
        refine op_nil ?_
        refine ax_then ?_
        refine At.regs (L' := [(1, _), (2, _)]) (.cons rfl (.cons rfl (.nil _))) ?_
        refine cd_ret ?_
        refine ax_then_ret ?_
        refine rt_tmp (.inl rfl) Try.results63 rfl ?_
        exact fun w1 sw => ⟨congrArg (fun b => Ending.returned (Value.bool b)) (decide_eq_false (fun hh => by obtain ⟨_, a1, a2, a3, a4⟩ := hh; omega)).symm, sw.gives (.nil _)⟩
      ·
        refine st (ev_fieldAddr (b := _) Try.underlying24 (f := _) rfl ty3 (by decide) rfl) rfl rfl rfl ?_
        refine st (ld_blk1 (h := 1) ty3 rfl rfl rfl rfl) rfl rfl rfl ?_
        refine st (ev_fieldAddr (b := _) Try.underlying24 (f := _) rfl ty22 (by decide) rfl) rfl rfl rfl ?_
        refine st (ld_blk1 (h := 1) ty22 rfl rfl rfl rfl) rfl rfl rfl ?_
        refine st (ev_len_rdh (h := 20) Try.underlying22 rfl rfl (by assumption)) rfl rfl rfl ?_
        refine st (ev_gtr rfl rfl) rfl rfl rfl ?_
        refine st (ev_pick_f rfl rfl) rfl rfl rfl ?_
        refine op_nil ?_
        refine ax_then ?_
        refine At.regs (L' := [(1, _), (2, _), (27, _)]) (.cons rfl (.cons rfl (.cons rfl (.nil _)))) ?_
        refine cd_if rfl (fun hc27 => ?_) (fun hc27 => ?_)
        ·
          refine cd_seq ?_
          refine cd_region ?_
          refine st (ev_assign rfl) rfl rfl rfl ?_
          refine op_nil ?_
          refine ax_then ?_
          refine At.regs (L' := [(1, _), (2, _)]) (.cons rfl (.cons rfl (.nil _))) ?_
          refine cd_ret ?_
          refine ax_then_ret ?_
          refine rt_tmp (.inl rfl) Try.results63 rfl ?_
          exact fun w1 sw => ⟨congrArg (fun b => Ending.returned (Value.bool b)) (decide_eq_false (fun hh => by obtain ⟨_, a1, a2, a3, a4⟩ := hh; omega)).symm, sw.gives (.nil _)⟩
        ·
          have hbas : bas ks need := ⟨by omega, by omega, by omega, by omega⟩
          refine cd_skip ?_
          refine ax_then ?_
          refine At.regs (L' := [(1, _), (2, _)]) (.cons rfl (.cons rfl (.nil _))) ?_
          refine cd_seq ?_
          refine cd_seq ?_
          refine cd_region ?_
          refine st (ev_assign rfl) rfl rfl rfl ?_
          refine op_nil ?_
          refine ax_then ?_
          refine At.regs (L' := [(1, _), (2, _), (3, _)]) (.cons rfl (.cons rfl (.cons rfl (.nil _)))) ?_
          refine cd_block ?_
          refine cd_loop (ι := Nat) (fun i => i ≤ ks.length ∧ outK ks need i) (fun i => ks.length - i)
              (fun i => [(1, .pointer (some ⟨b1, 0, none⟩)), (3, .int .i64 (i : Int))])
              (fun i => [(1, .blk b1 (.cells ([sv, .int .i64 need]).toArray 24))])
              (fun i => [(20, .sl (sv) 32 (flat (ks)))])
              0 (⟨by omega, hbas, fun a ha => by omega⟩) (.cons rfl (.cons rfl (.nil _))) (.cons rfl (.nil _)) (.cons rfl (.nil _)) (fun i hi => ?_)
          have hi1 := hi
          have e0 : (i : Int).toNat = i := by omega
          have hi2 := hi.1
          refine cd_seq ?_
          refine cd_seq ?_
          refine cd_region ?_
          refine st (ev_move rfl) rfl rfl rfl ?_
          refine st (ev_fieldAddr (b := _) Try.underlying24 (f := _) rfl ty22 (by decide) rfl) rfl rfl rfl ?_
          refine st (ld_blk1 (h := 1) ty22 rfl rfl rfl rfl) rfl rfl rfl ?_
          refine st (ev_len_rdh (h := 20) Try.underlying22 rfl rfl (by assumption)) rfl rfl rfl ?_
          refine st (ev_lss rfl rfl) rfl rfl rfl ?_
          refine op_nil ?_
          refine ax_then ?_
          refine At.regs (L' := [(1, _), (3, _), (28, _), (29, _), (30, _), (31, _), (32, _)]) (.cons rfl (.cons rfl (.cons rfl (.cons rfl (.cons rfl (.cons rfl (.cons rfl (.nil _)))))))) ?_
          refine cd_if rfl (fun hc32 => ?_) (fun hc32 => ?_)
          ·
            refine cd_skip ?_
            refine ax_then ?_
            refine At.regs (L' := [(1, _), (3, _), (28, _), (29, _), (30, _), (31, _), (32, _)]) (.cons rfl (.cons rfl (.cons rfl (.cons rfl (.cons rfl (.cons rfl (.cons rfl (.nil _)))))))) ?_
            refine cd_seq ?_
            refine cd_block ?_
            refine cd_seq ?_
            refine cd_region ?_
            refine st (ev_assign rfl) rfl rfl rfl ?_
            refine op_nil ?_
            refine ax_then ?_
            refine At.regs (L' := [(1, _), (3, _), (4, _), (28, _), (29, _), (30, _), (31, _), (32, _)]) (.cons rfl (.cons rfl (.cons rfl (.cons rfl (.cons rfl (.cons rfl (.cons rfl (.cons rfl (.nil _))))))))) ?_
            refine cd_block ?_
            refine cd_loop (ι := Nat) (fun j => j ≤ i ∧ ∀ b, b < j → ks.getD i [] ≠ ks.getD b []) (fun j => i - j)
                (fun j => [(1, .pointer (some ⟨b1, 0, none⟩)), (3, .int .i64 (i : Int)), (4, .int .i64 (j : Int))])
                (fun j => [(1, .blk b1 (.cells ([sv, .int .i64 need]).toArray 24))])
                (fun j => [(20, .sl (sv) 32 (flat (ks)))])
                0 (⟨by omega, fun b hb => by omega⟩) (.cons rfl (.cons rfl (.cons rfl (.nil _)))) (.cons rfl (.nil _)) (.cons rfl (.nil _)) (fun j hi => ?_)
            have e1 : (j : Int).toNat = j := by omega
            have hj2 := hi.1
            have hgi := hu.get (i := (i : Int).toNat) (by omega)
            have hgj : j < i → (ks.getD (j : Int).toNat []).length = 32 := fun hj => hu.get (by omega)
            refine cd_seq ?_
            refine cd_seq ?_
            refine cd_region ?_
            refine st (ev_move rfl) rfl rfl rfl ?_
            refine st (ev_move rfl) rfl rfl rfl ?_
            refine st (ev_lss rfl rfl) rfl rfl rfl ?_
            refine op_nil ?_
            refine ax_then ?_
            refine At.regs (L' := [(1, _), (3, _), (4, _), (35, _), (36, _), (37, _)]) (.cons rfl (.cons rfl (.cons rfl (.cons rfl (.cons rfl (.cons rfl (.nil _))))))) ?_
            refine cd_if rfl (fun hc37 => ?_) (fun hc37 => ?_)
            ·
              refine cd_skip ?_
              refine ax_then ?_
              refine At.regs (L' := [(1, _), (3, _), (4, _), (35, _), (36, _), (37, _)]) (.cons rfl (.cons rfl (.cons rfl (.cons rfl (.cons rfl (.cons rfl (.nil _))))))) ?_
              refine cd_seq ?_
              refine cd_block ?_
              refine cd_seq ?_
              have hgj2 := hgj (by omega)
              refine cd_open hmix (by decide +kernel) ?_
              refine qt (ev_fieldAddr (b := _) Try.underlying24 (f := _) rfl ty22 (by decide) rfl) rfl rfl rfl ?_
              refine qt (ld_blk1 (h := 1) ty22 rfl rfl rfl rfl) rfl rfl rfl ?_
              refine qt (ev_move rfl) rfl rfl rfl ?_
              refine qt (ev_indexAddr_rdh (h := 20) Try.underlying22 ty55 rfl rfl rfl (by assumption) (by omega) (by omega)) rfl rfl rfl ?_
              refine qt (ld_rdh (h := 20) ty55 rfl rfl rfl (by assumption) (by omega)) rfl rfl rfl ?_
              refine qt (ev_fieldAddr (b := _) Try.underlying24 (f := _) rfl ty22 (by decide) rfl) rfl rfl rfl ?_
              refine qt (ld_blk1 (h := 1) ty22 rfl rfl rfl rfl) rfl rfl rfl ?_
              refine qt (ev_move rfl) rfl rfl rfl ?_
              refine qt (ev_indexAddr_rdh (h := 20) Try.underlying22 ty55 rfl rfl rfl (by assumption) (by omega) (by omega)) rfl rfl rfl ?_
              refine qt (ld_rdh (h := 20) ty55 rfl rfl rfl (by assumption) (by omega)) rfl rfl rfl ?_
              refine qt (ev_eql_arr Try.underlying55 ty5 eqg55 rfl rfl (by first | omega | (simp only [List.length_append, List.length_cons, List.length_nil, List.length_set, List.length_replicate, List.length_take, List.length_drop, ints_length, wr_length, sha_len, node_len, recov_len, Ky.named_len, Ky.keyPub_len] <;> omega) | rfl) (by first | omega | (simp only [List.length_append, List.length_cons, List.length_nil, List.length_set, List.length_replicate, List.length_take, List.length_drop, ints_length, wr_length, sha_len, node_len, recov_len, Ky.named_len, Ky.keyPub_len] <;> omega) | rfl)) rfl rfl rfl ?_
              refine qt_end ?_
              refine op_nil ?_
              refine ax_then ?_
              refine At.regs (L' := [(1, _), (3, _), (4, _), (35, _), (36, _), (37, _), (40, _), (41, _), (42, _), (43, _), (44, _), (45, _), (46, _), (47, _), (48, _), (49, _), (50, _)]) (.cons rfl (.cons rfl (.cons rfl (.cons rfl (.cons rfl (.cons rfl (.cons rfl (.cons rfl (.cons rfl (.cons rfl (.cons rfl (.cons rfl (.cons rfl (.cons rfl (.cons rfl (.cons rfl (.cons rfl (.nil _)))))))))))))))))) ?_
              refine cd_if rfl (fun hc50 => ?_) (fun hc50 => ?_)
              ·
                refine cd_seq ?_
                refine cd_region ?_
                refine st (ev_assign rfl) rfl rfl rfl ?_
                refine op_nil ?_
                refine ax_then ?_
                refine At.regs (L' := [(1, _), (2, _), (3, _), (4, _), (35, _), (36, _), (37, _), (40, _), (41, _), (42, _), (43, _), (44, _), (45, _), (46, _), (47, _), (48, _), (49, _), (50, _)]) (.cons rfl (.cons rfl (.cons rfl (.cons rfl (.cons rfl (.cons rfl (.cons rfl (.cons rfl (.cons rfl (.cons rfl (.cons rfl (.cons rfl (.cons rfl (.cons rfl (.cons rfl (.cons rfl (.cons rfl (.cons rfl (.nil _))))))))))))))))))) ?_
                refine cd_ret ?_
                refine ax_block_ret ?_
                refine ax_then_ret ?_
                refine ax_then_ret ?_
                refine ax_block_ret ?_
                refine ax_block_ret ?_
                refine ax_then_ret ?_
                refine ax_then_ret ?_
                refine ax_block_ret ?_
                refine ax_then_ret ?_
                refine rt_tmp (.inl rfl) Try.results63 rfl ?_
                exact fun w1 sw => ⟨congrArg (fun b => Ending.returned (Value.bool b)) (decide_eq_false (Qm.eqK_not (i := i) (j := j) (by omega) (by omega) (by rw [e0, e1] at hc50; exact hc50))).symm, sw.gives (.nil _)⟩
              ·
                refine cd_skip ?_
                refine ax_block ?_
                refine ax_then ?_
                refine At.regs (L' := [(1, _), (3, _), (4, _), (35, _), (36, _), (37, _), (40, _), (41, _), (42, _), (43, _), (44, _), (45, _), (46, _), (47, _), (48, _), (49, _), (50, _)]) (.cons rfl (.cons rfl (.cons rfl (.cons rfl (.cons rfl (.cons rfl (.cons rfl (.cons rfl (.cons rfl (.cons rfl (.cons rfl (.cons rfl (.cons rfl (.cons rfl (.cons rfl (.cons rfl (.cons rfl (.nil _)))))))))))))))))) ?_
                refine cd_region ?_
                refine st (ev_move rfl) rfl rfl rfl ?_
                refine st (ev_add64 rfl rfl (by omega) (by omega)) rfl rfl rfl ?_
                refine st (ev_assign rfl) rfl rfl rfl ?_
                refine op_nil ?_
                exact at_again (j + 1) (⟨by omega, fun b hb => (Nat.lt_succ_iff_lt_or_eq.1 hb).elim (hi.2 b) (fun e => by subst e; rw [← e0, ← e1]; exact hc50)⟩) (by omega) (.cons rfl (.cons rfl (.cons rfl (.nil _)))) (.cons rfl (.nil _)) (.cons rfl (.nil _))
            ·
              obtain rfl : i = j := by omega
              refine cd_exit ?_
              refine ax_then_exit ?_
              refine ax_then_exit ?_
              refine ax_block_hit ?_
              refine ax_block ?_
              refine ax_then ?_
              refine At.regs (L' := [(1, _), (3, _), (4, _), (35, _), (36, _), (37, _)]) (.cons rfl (.cons rfl (.cons rfl (.cons rfl (.cons rfl (.cons rfl (.nil _))))))) ?_
              refine cd_region ?_
              refine st (ev_move rfl) rfl rfl rfl ?_
              refine st (ev_add64 rfl rfl (by omega) (by omega)) rfl rfl rfl ?_
              refine st (ev_assign rfl) rfl rfl rfl ?_
              refine op_nil ?_
              exact at_again (i + 1) (⟨by omega, (innK_all (by omega)).1 ⟨hi1.2, hi.2⟩⟩) (by omega) (.cons rfl (.cons rfl (.nil _))) (.cons rfl (.nil _)) (.cons rfl (.nil _))
          ·
            obtain rfl : i = ks.length := by omega
            refine cd_exit ?_
            refine ax_then_exit ?_
            refine ax_then_exit ?_
            refine ax_block_hit ?_
            refine ax_then ?_
            refine At.regs (L' := []) (.nil _) ?_
            refine cd_seq ?_
            refine cd_region ?_
            refine st (ev_assign rfl) rfl rfl rfl ?_
            refine op_nil ?_
            refine ax_then ?_
            refine At.regs (L' := [(2, _)]) (.cons rfl (.nil _)) ?_
            refine cd_ret ?_
            refine rt_tmp (.inl rfl) Try.results63 rfl ?_
            exact fun w1 sw => ⟨congrArg (fun b => Ending.returned (Value.bool b)) (decide_eq_true (outK_isK.2 hi1.2)).symm, sw.gives (.nil _)⟩
end Go.Proofs.Ytgfnmolbagilmaa

namespace Go.Proofs.Ytgfnmolbagilmaa
open Go Go.RowKit Fw
open Sha
open Ots
open Mk
set_option linter.unusedVariables false
set_option linter.unusedSimpArgs false
set_option maxRecDepth 20000 in
set_option maxHeartbeats 1000000 in
theorem clone_nil (w : World) : Calls Try.prog 80 #[.slice none 0 0] w (Post (ι := Value) w [] (fun _ => True) (fun v => v) (fun v => [(0, .own (v) 5 1 (ints .u8 ([])))])) := by
  refine calls_at (vs := [.slice none 0 0]) (X := []) (H := []) (F := []) 8 Try.func80 rfl rfl rfl (Sat.start0 w) ?_
  refine cd_seq ?_
  refine cd_region ?_
  refine st (ev_assign rfl) rfl rfl rfl ?_
  refine at_own_nil 2 5 1 ?_
  refine at_heq (i := 2) (v' := .own (.slice none 0 0) 5 1 (ints .u8 [])) rfl rfl ?_
  refine op_nil ?_
  refine ax_then ?_
  refine At.regs (L' := [(0, _), (2, _)]) (.cons rfl (.cons rfl (.nil _))) ?_
  refine cd_seq ?_
  refine cd_seq ?_
  refine cd_region ?_
  refine st (ev_move rfl) rfl rfl rfl ?_
  refine st (ev_eql_slice_nil Try.underlying28 rfl rfl) rfl rfl rfl ?_
  refine op_nil ?_
  refine ax_then ?_
  refine At.regs (L' := [(0, _), (2, _), (4, _)]) (.cons rfl (.cons rfl (.cons rfl (.nil _)))) ?_
  refine cd_true rfl ?_
  refine cd_seq ?_
  refine cd_region ?_
  refine st (ev_assign rfl) rfl rfl rfl ?_
  refine at_own_nil 2 5 1 ?_
  refine at_heq (i := 2) (v' := .own (.slice none 0 0) 5 1 (ints .u8 [])) rfl rfl ?_
  refine op_nil ?_
  refine ax_then ?_
  refine At.regs (L' := [(0, _), (2, _)]) (.cons rfl (.cons rfl (.nil _))) ?_
  refine cd_ret ?_
  refine ax_then_ret ?_
  refine rt_tmp (.inl rfl) Try.results80 rfl ?_
  exact fun w1 sw => ⟨_, trivial, rfl, (sw.gives (N := [(2, _)]) (.cons rfl (.nil _))).rn 0⟩
set_option maxRecDepth 20000 in
set_option maxHeartbeats 1000000 in
theorem clone_some (x : Addr) (n c : Nat) (l : List Int) (w : World) (hl : l.length ≤ 140737488352000) (h : Rd w (.slice (some x) n c) 1 (ints .u8 l)) : Calls Try.prog 80 #[.slice (some x) n c] w (Post (ι := Value) w [] (fun _ => True) (fun v => v) (fun v => [(0, .own (v) 5 1 (ints .u8 (l)))])) := by
  refine calls_at (vs := [.slice (some x) n c]) (X := []) (H := []) (F := [(0, .sl (.slice (some x) n c) 1 (ints .u8 (l)))]) 8 Try.func80 rfl rfl rfl (Sat.rd0 0 h) ?_
  refine cd_seq ?_
  refine cd_region ?_
  refine st (ev_assign rfl) rfl rfl rfl ?_
  refine at_own_nil 2 5 1 ?_
  refine at_heq (i := 2) (v' := .own (.slice none 0 0) 5 1 (ints .u8 [])) rfl rfl ?_
  refine op_nil ?_
  refine ax_then ?_
  refine At.regs (L' := [(0, _), (2, _)]) (.cons rfl (.cons rfl (.nil _))) ?_
  refine cd_seq ?_
  refine cd_seq ?_
  refine cd_region ?_
  refine st (ev_move rfl) rfl rfl rfl ?_
  refine st (ev_eql_slice_nil Try.underlying28 rfl rfl) rfl rfl rfl ?_
  refine op_nil ?_
  refine ax_then ?_
  refine At.regs (L' := [(0, _), (2, _), (4, _)]) (.cons rfl (.cons rfl (.cons rfl (.nil _)))) ?_
  refine cd_false rfl ?_
  refine cd_skip ?_
  refine ax_then ?_
  refine At.regs (L' := [(0, _), (2, _)]) (.cons rfl (.cons rfl (.nil _))) ?_
  refine cd_seq ?_
  refine cd_region ?_
  refine st_bsi (h := 5) (xs := []) Try.underlying28 ty5 (by decide) rfl rfl (by decide) rfl rfl (fun b5 => ?_)
  refine st (ev_move rfl) rfl rfl rfl ?_
  refine st_appendi (h := 5) Try.underlying28 Try.underlying28 ty5 rfl rfl rfl rfl (fun w1 sw => sw.sl_rd (h := 0) rfl) (by first | omega | (simp only [List.length_append, List.length_cons, List.length_nil, List.length_set, List.length_replicate, List.length_take, List.length_drop, ints_length, wr_length, sha_len, node_len, recov_len, Ky.named_len, Ky.keyPub_len] <;> omega)) (by decide) rfl rfl (fun v7 => ?_)
  refine at_heq (i := 5) (v' := .own (v7) 5 1 (ints .u8 (l))) rfl (by rw [List.nil_append]) ?_
  refine st (ev_assign rfl) rfl rfl rfl ?_
  refine op_nil ?_
  refine ax_then ?_
  refine At.regs (L' := [(2, _)]) (.cons rfl (.nil _)) ?_
  refine cd_ret ?_
  refine rt_tmp (.inl rfl) Try.results80 rfl ?_
  exact fun w1 sw => ⟨_, trivial, rfl, (sw.gives (N := [(5, _)]) (.cons rfl (.nil _))).rn 0⟩
theorem clone_any (p : Value) (l : List Int) (w : World) (hl : l.length ≤ 140737488352000) (h : Rd w p 1 (ints .u8 l)) : Calls Try.prog 80 #[p] w (Post (ι := Value) w [] (fun _ => True) (fun v => v) (fun v => [(0, .own (v) 5 1 (ints .u8 (l)))])) := by
  have h' := h
  obtain ⟨a, len, cap, rfl, h1, h2, h3, h4⟩ := h
  cases a with
  | some x => exact clone_some x len cap l w hl h'
  | none =>
    have hc := h3 rfl
    have hn : len = 0 := by omega
    subst hc; subst hn
    have : l = [] := List.length_eq_zero_iff.1 (by rw [ints_length] at h1; omega)
    subst this
    exact clone_nil w
end Go.Proofs.Ytgfnmolbagilmaa

namespace Go.Proofs.Ytgfnmolbagilmaa
open Go Go.RowKit Fw
open Sha
open Ots
open Mk
set_option linter.unusedVariables false
set_option linter.unusedSimpArgs false
set_option maxRecDepth 20000 in
set_option maxHeartbeats 1000000 in
theorem rbad_any (b : Nat) (rv : Value) (bad : Bool) (w : World) (hb : w.heap[b]? = some (.cells (List.toArray [rv, .bool bad]) 139)) : Calls Try.prog 81 #[.pointer (some ⟨b, 0, none⟩)] w (Post (ι := Unit) w [b] (fun _ => True) (fun _ => .tuple #[]) (fun _ => [(0, .blk (b) (.cells ([Ky.nil0, .bool (true)]).toArray 139))])) := by
  refine calls_at (vs := [.pointer (some ⟨b, 0, none⟩)]) (X := [b]) (H := [(0, .blk (b) (.cells ([rv, .bool (bad)]).toArray 139))]) (F := []) 10 Try.func81 rfl rfl rfl (Sat.blkX 0 hb) ?_
  refine cd_seq ?_
  refine cd_region ?_
  refine st (ev_move rfl) rfl rfl rfl ?_
  refine st (ev_neq_ptr_nil Try.underlying107 rfl rfl) rfl rfl rfl ?_
  refine op_nil ?_
  refine ax_then ?_
  refine At.regs (L' := [(0, _), (3, _)]) (.cons rfl (.cons rfl (.nil _))) ?_
  refine cd_true rfl ?_
  refine cd_region ?_
  refine st (ev_move rfl) rfl rfl rfl ?_
  refine st (ev_move rfl) rfl rfl rfl ?_
  refine st (ev_nilCheck rfl) rfl rfl rfl ?_
  refine st (ev_fieldAddr (b := _) Try.underlying139 (f := _) rfl ty28 (by decide) rfl) rfl rfl rfl ?_
  refine st_store1 0 ty28 rfl rfl rfl rfl (show 0 < 2 from by decide) rfl ?_
  refine at_heq (i := 0) (v' := .blk (b) (.cells ([Ky.nil0, .bool (bad)]).toArray 139)) rfl rfl ?_
  refine st (ev_nilCheck rfl) rfl rfl rfl ?_
  refine st (ev_fieldAddr (b := _) Try.underlying139 (f := _) rfl ty4 (by decide) rfl) rfl rfl rfl ?_
  refine st_store1 0 ty4 rfl rfl rfl rfl (show 1 < 2 from by decide) rfl ?_
  refine at_heq (i := 0) (v' := .blk (b) (.cells ([Ky.nil0, .bool (true)]).toArray 139)) rfl rfl ?_
  refine op_nil ?_
  refine rt_none (.inr rfl) Try.results81 ?_
  exact fun w1 sw => ⟨(), trivial, rfl, sw.gives (N := [(0, _)]) (.cons rfl (.nil _))⟩
set_option maxRecDepth 20000 in
set_option maxHeartbeats 1000000 in
theorem rgood_any (b : Nat) (rv : Value) (bad : Bool) (w : World) (h : Lies w b 0 [rv, .bool bad]) : Calls Try.prog 82 #[.pointer (some ⟨b, 0, none⟩)] w (PostV w (.bool (!bad))) := by
  refine calls_at (vs := [.pointer (some ⟨b, 0, none⟩)]) (X := []) (H := []) (F := [(21, .mem b 0 [rv, .bool bad])]) 12 Try.func82 rfl rfl rfl ((Sat.start0 w).read 21 h off_nil) ?_
  refine cd_seq ?_
  refine cd_region ?_
  refine st (ev_assign rfl) rfl rfl rfl ?_
  refine op_nil ?_
  refine ax_then ?_
  refine At.regs (L' := [(0, _), (2, _)]) (.cons rfl (.cons rfl (.nil _))) ?_
  refine cd_seq ?_
  refine cd_region ?_
  refine st (ev_move rfl) rfl rfl rfl ?_
  refine st (ev_neq_ptr_nil Try.underlying107 rfl rfl) rfl rfl rfl ?_
  refine st (ev_move rfl) rfl rfl rfl ?_
  refine st (ev_move rfl) rfl rfl rfl ?_
  refine st (ev_nilCheck rfl) rfl rfl rfl ?_
  refine st (ev_fieldAddr (b := _) Try.underlying139 (f := _) rfl ty4 (by decide) rfl) rfl rfl rfl ?_
  refine st (ld_mem1 (h := 21) ty4 rfl rfl rfl (Nat.zero_add _).symm rfl) rfl rfl rfl ?_
  refine st (ev_not rfl) rfl rfl rfl ?_
  refine st (ev_pick_t rfl rfl) rfl rfl rfl ?_
  refine st (ev_assign rfl) rfl rfl rfl ?_
  refine op_nil ?_
  refine ax_then ?_
  refine At.regs (L' := [(2, _)]) (.cons rfl (.nil _)) ?_
  refine cd_ret ?_
  refine rt_tmp (.inl rfl) Try.results82 rfl ?_
  exact fun w1 sw => ⟨rfl, sw.gives (.nil _)⟩
set_option maxRecDepth 20000 in
set_option maxHeartbeats 1000000 in
theorem rwhole_any (b : Nat) (rv : Value) (bad : Bool) (r : List Int) (w : World) (h : Lies w b 0 [rv, .bool bad]) (h' : Rd w rv 1 (ints .u8 r)) : Calls Try.prog 52 #[.pointer (some ⟨b, 0, none⟩)] w (PostV w (.bool (!bad && decide (r.length = 0)))) := by
  refine calls_at (vs := [.pointer (some ⟨b, 0, none⟩)]) (X := []) (H := []) (F := [(21, .mem b 0 [rv, .bool bad]), (20, .sl (rv) 1 (ints .u8 (r)))]) 13 Try.func52 rfl rfl rfl ((Sat.rd0 20 h').read 21 h off_nil) ?_
  refine cd_seq ?_
  refine cd_region ?_
  refine st (ev_assign rfl) rfl rfl rfl ?_
  refine op_nil ?_
  refine ax_then ?_
  refine At.regs (L' := [(0, _), (2, _)]) (.cons rfl (.cons rfl (.nil _))) ?_
  refine cd_seq ?_
  refine cd_region ?_
  refine st (ev_move rfl) rfl rfl rfl ?_
  refine st_callv has82 rfl (fun w1 sw => rgood_any b rv bad w1 (sw.rd 21 _ rfl)) rfl rfl ?_
  refine st (ev_move rfl) rfl rfl rfl ?_
  refine at_split (i := 5) rfl (fun hg5 => ?_) (fun hg5 => ?_)
  ·
    refine st (ev_move rfl) rfl rfl rfl ?_
    refine st (ev_nilCheck rfl) rfl rfl rfl ?_
    refine st (ev_fieldAddr (b := _) Try.underlying139 (f := _) rfl ty28 (by decide) rfl) rfl rfl rfl ?_
    refine st (ld_mem1 (h := 21) ty28 rfl rfl rfl (Nat.zero_add _).symm rfl) rfl rfl rfl ?_
    refine st (ev_len_rdi (h := 20) Try.underlying28 rfl rfl) rfl rfl rfl ?_
    refine st (ev_eql rfl rfl) rfl rfl rfl ?_
    refine st (ev_pick_t rfl rfl) rfl rfl rfl ?_
    refine st (ev_assign rfl) rfl rfl rfl ?_
    refine op_nil ?_
    refine ax_then ?_
    refine At.regs (L' := [(2, _)]) (.cons rfl (.nil _)) ?_
    refine cd_ret ?_
    refine rt_tmp (.inl rfl) Try.results52 rfl ?_
    exact fun w1 sw => ⟨congrArg (fun b => Ending.returned (Value.bool b)) (by rw [hg5]; first | rfl | (rw [Bool.true_and]; exact decide_eq_decide.2 (by omega))), sw.gives (.nil _)⟩
  ·
    refine st_skip rfl rfl rfl ?_
    refine st_skip rfl rfl rfl ?_
    refine st_skip rfl rfl rfl ?_
    refine st_skip rfl rfl rfl ?_
    refine st_skip rfl rfl rfl ?_
    refine st_skip rfl rfl rfl ?_
    refine st (ev_pick_f rfl rfl) rfl rfl rfl ?_
    refine st (ev_assign rfl) rfl rfl rfl ?_
    refine op_nil ?_
    refine ax_then ?_
    refine At.regs (L' := [(2, _)]) (.cons rfl (.nil _)) ?_
    refine cd_ret ?_
    refine rt_tmp (.inl rfl) Try.results52 rfl ?_
    exact fun w1 sw => ⟨congrArg (fun b => Ending.returned (Value.bool b)) (by rw [hg5]; first | rfl | (rw [Bool.true_and]; exact decide_eq_decide.2 (by omega))), sw.gives (.nil _)⟩
set_option maxRecDepth 20000 in
set_option maxHeartbeats 1000000 in
theorem newreader_any (p : Value) (l : List Int) (w : World) (hl : l.length ≤ 140737488352000) (h : Rd w p 1 (ints .u8 l)) : Calls Try.prog 50 #[p] w (Post (ι := Nat × Value) w [] (fun _ => True) (fun x => .pointer (some ⟨x.1, 0, none⟩)) (fun x => [(0, .blk (x.1) (.cells ([x.2, .bool false]).toArray 139)), (1, .own (x.2) 5 1 (ints .u8 (l)))])) := by
  refine calls_at (vs := [p]) (X := []) (H := []) (F := [(0, .sl (p) 1 (ints .u8 (l)))]) 7 Try.func50 rfl rfl rfl (Sat.rd0 0 h) ?_
  refine cd_seq ?_
  refine cd_region ?_
  refine st (ev_assign rfl) rfl rfl rfl ?_
  refine op_nil ?_
  refine ax_then ?_
  refine At.regs (L' := [(0, _), (2, _)]) (.cons rfl (.cons rfl (.nil _))) ?_
  refine cd_seq ?_
  refine cd_region ?_
  refine st (ev_move rfl) rfl rfl rfl ?_
  refine st_call has80 rfl (fun w1 sw => rn 4 (clone_any p l w1 hl (sw.sl_rd (h := 0) rfl))) nil_all rfl rfl (fun v4 _ => ?_)
  refine at_own_shape (h := 4) rfl (fun hs4 => ?_)
  refine st (ev_build_struct ty139 rfl pl139 rfl ((fill_put (i := 0) (off := 0) (n := 1) (vs := [v4]) rfl hs4.1 rfl (Nat.le_of_ble_eq_true rfl)).trans fill_nil)) rfl rfl rfl ?_
  refine at_eq (i := 5) (v' := .agg (List.toArray [v4, .bool false])) rfl rfl ?_
  refine st_box (h := 6) rfl rfl rfl rfl (fun b6 => ?_)
  refine st (ev_assign rfl) rfl rfl rfl ?_
  refine op_nil ?_
  refine ax_then ?_
  refine At.regs (L' := [(2, _)]) (.cons rfl (.nil _)) ?_
  refine cd_ret ?_
  refine rt_tmp (.inl rfl) Try.results50 rfl ?_
  exact fun w1 sw => ⟨(b6, v4), trivial, rfl, (sw.gives (N := [(6, _), (4, _)]) (.cons rfl (.cons rfl (.nil _)))).rn2 (by decide) 0 1⟩
end Go.Proofs.Ytgfnmolbagilmaa

namespace Go.Proofs.Ytgfnmolbagilmaa
open Go Go.RowKit Fw
open Sha
open Ots
open Mk
set_option linter.unusedVariables false
set_option linter.unusedSimpArgs false
set_option maxRecDepth 20000 in
set_option maxHeartbeats 4000000 in
theorem rnum_g (b : Nat) (rv : Value) (bad : Bool) (r : List Int) (w : World) (hb : w.heap[b]? = some (.cells (List.toArray [rv, .bool bad]) 139)) (h : Rd w rv 1 (ints .u8 r)) (ho : FE.off b (.sl rv 1 (ints .u8 r))) (hr : r.length ≤ 140737488352000) : Calls Try.prog 51 #[.pointer (some ⟨b, 0, none⟩)] w (Post (ι := Value) w [b] (fun x => Rr.Und rv r x (Rr.nRest r)) (fun _ => .int .i64 (Rr.nVal r)) (fun x => [(0, .blk (b) (.cells ([x, .bool (bad || Rr.nBad r)]).toArray 139))])) := by
  refine calls_at (vs := [.pointer (some ⟨b, 0, none⟩)]) (X := [b]) (H := [(0, .blk (b) (.cells ([rv, .bool (bad)]).toArray 139))]) (F := [(1, .sl rv 1 (ints .u8 r))]) 55 Try.func51 rfl rfl rfl ((Sat.blkX 0 hb).readb (f := .sl rv 1 (ints .u8 r)) 1 h ho) ?_
  refine cd_seq ?_
  refine cd_region ?_
  refine st (ev_assign rfl) rfl rfl rfl ?_
  refine op_nil ?_
  refine ax_then ?_
  refine At.regs (L' := [(0, _), (2, _)]) (.cons rfl (.cons rfl (.nil _))) ?_
  refine cd_seq ?_
  refine cd_seq ?_
  refine cd_region ?_
  refine st (ev_move rfl) rfl rfl rfl ?_
  refine st (ev_eql_ptr_nil Try.underlying107 rfl rfl) rfl rfl rfl ?_
  refine op_nil ?_
  refine ax_then ?_
  refine At.regs (L' := [(0, _), (2, _), (7, _)]) (.cons rfl (.cons rfl (.cons rfl (.nil _)))) ?_
  refine cd_false rfl ?_
  refine cd_skip ?_
  refine ax_then ?_
  refine At.regs (L' := [(0, _), (2, _)]) (.cons rfl (.cons rfl (.nil _))) ?_
  refine cd_seq ?_
  refine cd_region ?_
  refine st (ev_assign rfl) rfl rfl rfl ?_
  refine op_nil ?_
  refine ax_then ?_
  refine At.regs (L' := [(0, _), (2, _), (3, _)]) (.cons rfl (.cons rfl (.cons rfl (.nil _)))) ?_
  refine cd_seq ?_
  refine cd_seq ?_
  refine cd_region ?_
  refine st (ev_move rfl) rfl rfl rfl ?_
  refine st (ev_nilCheck rfl) rfl rfl rfl ?_
  refine st (ev_fieldAddr (b := _) Try.underlying139 (f := _) rfl ty28 (by decide) rfl) rfl rfl rfl ?_
  refine st (ld_blk1 (h := 0) ty28 rfl rfl rfl rfl) rfl rfl rfl ?_
  refine st (ev_len_rdi (h := 1) Try.underlying28 rfl rfl) rfl rfl rfl ?_
  refine st (ev_move rfl) rfl rfl rfl ?_
  refine op_nil ?_
  refine ax_then ?_
  refine At.regs (L' := [(0, _), (2, _), (3, _), (11, _), (12, _), (13, _)]) (.cons rfl (.cons rfl (.cons rfl (.cons rfl (.cons rfl (.cons rfl (.nil _))))))) ?_
  refine cd_block ?_
  refine cd_loop (ι := Nat × Int) (fun x => x.1 ≤ r.length ∧ Rr.numG x.1 x.2 (r.drop x.1) = Rr.numS r) (fun x => r.length - x.1)
      (fun x => [(0, .pointer (some ⟨b, 0, none⟩)), (3, .int .u64 x.2), (11, rv), (12, .int .i64 (r.length : Nat)), (13, .int .i64 (x.1 : Int))])
      (fun x => [(0, .blk (b) (.cells ([rv, .bool (bad)]).toArray 139))])
      (fun x => [(1, .sl rv 1 (ints .u8 r))])
      (0, 0) (⟨by omega, by rw [List.drop_zero]; rfl⟩) (.cons rfl (.cons rfl (.cons rfl (.cons rfl (.cons rfl (.nil _)))))) (.cons rfl (.nil _)) (.cons rfl (.nil _)) (fun x hi => ?_)
  obtain ⟨i, u⟩ := x
  dsimp only at hi ⊢
  have hi1 := hi.1
  refine cd_seq ?_
  refine cd_region ?_
  refine st (ev_lss rfl rfl) rfl rfl rfl ?_
  refine op_nil ?_
  refine ax_then ?_
  refine At.regs (L' := [(0, _), (3, _), (11, _), (12, _), (13, _), (14, _)]) (.cons rfl (.cons rfl (.cons rfl (.cons rfl (.cons rfl (.cons rfl (.nil _))))))) ?_
  refine cd_seq ?_
  refine cd_if rfl (fun hc14 => ?_) (fun hc14 => ?_)
  ·
    have hlt : i < r.length := by omega
    have hd0 := Rr.drop_head hlt
    obtain ⟨c, hc⟩ : ∃ c, c = r.getD i 0 := ⟨_, rfl⟩
    have hd : r.drop i = c :: r.drop (i + 1) := by rw [hc]; exact hd0
    refine cd_skip ?_
    refine ax_then ?_
    refine At.regs (L' := [(0, _), (3, _), (11, _), (12, _), (13, _), (14, _)]) (.cons rfl (.cons rfl (.cons rfl (.cons rfl (.cons rfl (.cons rfl (.nil _))))))) ?_
    refine cd_seq ?_
    refine cd_block ?_
    refine cd_seq ?_
    refine cd_region ?_
    refine st (ev_move rfl) rfl rfl rfl ?_
    refine st (ev_indexAddr_rdi (h := 1) Try.underlying28 ty5 rfl rfl rfl (by omega) (by first | omega | (simp only [List.length_append, List.length_cons, List.length_nil, List.length_set, List.length_replicate, List.length_take, List.length_drop, ints_length, wr_length, sha_len, node_len, recov_len, Ky.named_len, Ky.keyPub_len, Ky.hashOf_len] <;> omega))) rfl rfl rfl ?_
    refine st (ld_rd1 (h := 1) ty5 rfl rfl rfl (ints_get _ _ _ (by first | omega | (simp only [List.length_append, List.length_cons, List.length_nil, List.length_set, List.length_replicate, List.length_take, List.length_drop, ints_length, wr_length, sha_len, node_len, recov_len, Ky.named_len, Ky.keyPub_len, Ky.hashOf_len] <;> omega) | rfl))) rfl rfl rfl ?_
    refine at_eq (i := 17) (v' := .int .u8 c) rfl (by rw [hc, Int.toNat_natCast]) ?_
    refine st (ev_assign rfl) rfl rfl rfl ?_
    refine st (ev_assign rfl) rfl rfl rfl ?_
    refine op_nil ?_
    refine ax_then ?_
    refine At.regs (L' := [(0, _), (3, _), (4, _), (5, _), (11, _), (12, _), (13, _), (14, _), (15, _), (16, _), (17, _)]) (.cons rfl (.cons rfl (.cons rfl (.cons rfl (.cons rfl (.cons rfl (.cons rfl (.cons rfl (.cons rfl (.cons rfl (.cons rfl (.nil _)))))))))))) ?_
    refine cd_seq ?_
    refine cd_seq ?_
    refine cd_region ?_
    refine st (ev_move rfl) rfl rfl rfl ?_
    refine st (ev_geq rfl rfl) rfl rfl rfl ?_
    refine st (ev_move rfl) rfl rfl rfl ?_
    refine at_split_if (i := 20) rfl (fun hg20 => ?_) (fun hg20 => ?_)
    ·
      refine st_skip rfl rfl rfl ?_
      refine st_skip rfl rfl rfl ?_
      refine st_skip rfl rfl rfl ?_
      refine st_skip rfl rfl rfl ?_
      refine st_skip rfl rfl rfl ?_
      refine st_skip rfl rfl rfl ?_
      refine st (ev_pick_t rfl rfl) rfl rfl rfl ?_
      refine op_nil ?_
      refine ax_then ?_
      refine At.regs (L' := [(0, _), (3, _), (4, _), (5, _), (11, _), (12, _), (13, _), (14, _), (15, _), (16, _), (17, _), (18, _), (19, _), (20, _), (21, _), (22, _), (23, _), (24, _), (25, _), (26, _), (27, _)]) (.cons rfl (.cons rfl (.cons rfl (.cons rfl (.cons rfl (.cons rfl (.cons rfl (.cons rfl (.cons rfl (.cons rfl (.cons rfl (.cons rfl (.cons rfl (.cons rfl (.cons rfl (.cons rfl (.cons rfl (.cons rfl (.cons rfl (.cons rfl (.cons rfl (.nil _)))))))))))))))))))))) ?_
      refine cd_true rfl ?_
      refine cd_exit ?_
      refine ax_then_exit ?_
      refine ax_block_miss (by decide) ?_
      refine ax_then_exit ?_
      refine ax_then_exit ?_
      refine ax_block_hit ?_
      refine ax_then ?_
      refine At.regs (L' := [(0, _)]) (.cons rfl (.nil _)) ?_
      refine cd_seq ?_
      refine cd_region ?_
      refine st (ev_move rfl) rfl rfl rfl ?_
      refine st_call has81 rfl (fun w1 sw => rbad_any b rv bad w1 (sw.blk_eq (h := 0) rfl)) (mod_blk rfl) rfl rfl (fun _ _ => ?_)
      refine op_nil ?_
      refine ax_then ?_
      refine At.regs (L' := []) (.nil _) ?_
      refine cd_seq ?_
      refine cd_region ?_
      refine st (ev_assign rfl) rfl rfl rfl ?_
      refine op_nil ?_
      refine ax_then ?_
      refine At.regs (L' := [(2, _)]) (.cons rfl (.nil _)) ?_
      refine cd_ret ?_
      refine rt_tmp (.inl rfl) Try.results51 rfl ?_
      first
      | (exact fun w1 sw => ⟨cutAt 1 rv (i + 1) r.length, Rr.nUnd_ok rv hs, by rw [(Rr.nVal_ok hs).1], by rw [(Rr.nVal_ok hs).2.1, Bool.or_false]; exact sw.gives (N := [(0, _)]) (.cons rfl (.nil _))⟩)
      | (have hnone : Rr.numS r = none := by
           rw [← hi.2]
           first
           | (rw [show i = r.length by omega, List.drop_length]; rfl)
           | (rw [hd]; first | exact Rr.numG_brk (by omega) | exact Rr.numG_big (by omega) (by omega))
         exact fun w1 sw => ⟨Ky.nil0, Rr.nUnd_no rv hnone, by rw [(Rr.nVal_no hnone).1], by rw [(Rr.nVal_no hnone).2.1, Bool.or_true]; exact sw.gives (N := [(0, _)]) (.cons rfl (.nil _))⟩)
    ·
      refine st (ev_move rfl) rfl rfl rfl ?_
      refine st (ev_gtr rfl rfl) rfl rfl rfl ?_
      refine st (ev_move rfl) rfl rfl rfl ?_
      refine at_split_if (i := 23) rfl (fun hg23 => ?_) (fun hg23 => ?_)
      ·
        refine st (ev_move rfl) rfl rfl rfl ?_
        refine st (ev_eql rfl rfl) rfl rfl rfl ?_
        refine st (ev_pick_t rfl rfl) rfl rfl rfl ?_
        refine st (ev_pick_f rfl rfl) rfl rfl rfl ?_
        refine op_nil ?_
        refine ax_then ?_
        refine At.regs (L' := [(0, _), (3, _), (4, _), (5, _), (11, _), (12, _), (13, _), (14, _), (15, _), (16, _), (17, _), (18, _), (19, _), (20, _), (21, _), (22, _), (23, _), (24, _), (25, _), (26, _), (27, _)]) (.cons rfl (.cons rfl (.cons rfl (.cons rfl (.cons rfl (.cons rfl (.cons rfl (.cons rfl (.cons rfl (.cons rfl (.cons rfl (.cons rfl (.cons rfl (.cons rfl (.cons rfl (.cons rfl (.cons rfl (.cons rfl (.cons rfl (.cons rfl (.cons rfl (.nil _)))))))))))))))))))))) ?_
        refine cd_if rfl (fun hc27 => ?_) (fun hc27 => ?_)
        ·
          refine cd_exit ?_
          refine ax_then_exit ?_
          refine ax_block_miss (by decide) ?_
          refine ax_then_exit ?_
          refine ax_then_exit ?_
          refine ax_block_hit ?_
          refine ax_then ?_
          refine At.regs (L' := [(0, _)]) (.cons rfl (.nil _)) ?_
          refine cd_seq ?_
          refine cd_region ?_
          refine st (ev_move rfl) rfl rfl rfl ?_
          refine st_call has81 rfl (fun w1 sw => rbad_any b rv bad w1 (sw.blk_eq (h := 0) rfl)) (mod_blk rfl) rfl rfl (fun _ _ => ?_)
          refine op_nil ?_
          refine ax_then ?_
          refine At.regs (L' := []) (.nil _) ?_
          refine cd_seq ?_
          refine cd_region ?_
          refine st (ev_assign rfl) rfl rfl rfl ?_
          refine op_nil ?_
          refine ax_then ?_
          refine At.regs (L' := [(2, _)]) (.cons rfl (.nil _)) ?_
          refine cd_ret ?_
          refine rt_tmp (.inl rfl) Try.results51 rfl ?_
          first
          | (exact fun w1 sw => ⟨cutAt 1 rv (i + 1) r.length, Rr.nUnd_ok rv hs, by rw [(Rr.nVal_ok hs).1], by rw [(Rr.nVal_ok hs).2.1, Bool.or_false]; exact sw.gives (N := [(0, _)]) (.cons rfl (.nil _))⟩)
          | (have hnone : Rr.numS r = none := by
               rw [← hi.2]
               first
               | (rw [show i = r.length by omega, List.drop_length]; rfl)
               | (rw [hd]; first | exact Rr.numG_brk (by omega) | exact Rr.numG_big (by omega) (by omega))
             exact fun w1 sw => ⟨Ky.nil0, Rr.nUnd_no rv hnone, by rw [(Rr.nVal_no hnone).1], by rw [(Rr.nVal_no hnone).2.1, Bool.or_true]; exact sw.gives (N := [(0, _)]) (.cons rfl (.nil _))⟩)
        ·
          refine cd_skip ?_
          refine ax_then ?_
          refine At.regs (L' := [(0, _), (3, _), (4, _), (5, _), (11, _), (12, _), (13, _), (14, _), (15, _), (16, _), (17, _), (18, _), (19, _), (20, _), (21, _), (22, _), (23, _), (24, _), (25, _), (26, _), (27, _)]) (.cons rfl (.cons rfl (.cons rfl (.cons rfl (.cons rfl (.cons rfl (.cons rfl (.cons rfl (.cons rfl (.cons rfl (.cons rfl (.cons rfl (.cons rfl (.cons rfl (.cons rfl (.cons rfl (.cons rfl (.cons rfl (.cons rfl (.cons rfl (.cons rfl (.nil _)))))))))))))))))))))) ?_
          refine cd_seq ?_
          refine cd_region ?_
          refine st (ev_move rfl) rfl rfl rfl ?_
          have hnb : ¬ (i ≥ 9 ∨ (i > 0 ∧ c = 0)) := by omega
          refine st (ev_move rfl) rfl rfl rfl ?_
          refine st (ev_and rfl rfl) rfl rfl rfl ?_
          refine st (ev_conv Try.underlying5 Try.underlying135 rfl) rfl rfl rfl ?_
          refine st (ev_move rfl) rfl rfl rfl ?_
          refine st (ev_mul64 rfl rfl (by omega) (by omega)) rfl rfl rfl ?_
          refine st (ev_shl rfl rfl (by omega)) rfl rfl rfl ?_
          refine st (ev_or rfl rfl) rfl rfl rfl ?_
          refine at_eq (i := 35) (v' := .int .u64 (Rr.acc u c i)) rfl rfl ?_
          refine st (ev_assign rfl) rfl rfl rfl ?_
          refine op_nil ?_
          refine ax_then ?_
          refine At.regs (L' := [(0, _), (3, _), (4, _), (5, _), (11, _), (12, _), (13, _), (14, _), (15, _), (16, _), (17, _), (18, _), (19, _), (20, _), (21, _), (22, _), (23, _), (24, _), (25, _), (26, _), (27, _), (28, _), (29, _), (30, _), (31, _), (32, _), (33, _), (34, _), (35, _)]) (.cons rfl (.cons rfl (.cons rfl (.cons rfl (.cons rfl (.cons rfl (.cons rfl (.cons rfl (.cons rfl (.cons rfl (.cons rfl (.cons rfl (.cons rfl (.cons rfl (.cons rfl (.cons rfl (.cons rfl (.cons rfl (.cons rfl (.cons rfl (.cons rfl (.cons rfl (.cons rfl (.cons rfl (.cons rfl (.cons rfl (.cons rfl (.cons rfl (.cons rfl (.nil _)))))))))))))))))))))))))))))) ?_
          refine cd_seq ?_
          refine cd_region ?_
          refine st (ev_move rfl) rfl rfl rfl ?_
          refine st (ev_lss rfl rfl) rfl rfl rfl ?_
          refine op_nil ?_
          refine ax_then ?_
          refine At.regs (L' := [(0, _), (3, _), (4, _), (5, _), (11, _), (12, _), (13, _), (14, _), (15, _), (16, _), (17, _), (18, _), (19, _), (20, _), (21, _), (22, _), (23, _), (24, _), (25, _), (26, _), (27, _), (28, _), (29, _), (30, _), (31, _), (32, _), (33, _), (34, _), (35, _), (36, _), (37, _)]) (.cons rfl (.cons rfl (.cons rfl (.cons rfl (.cons rfl (.cons rfl (.cons rfl (.cons rfl (.cons rfl (.cons rfl (.cons rfl (.cons rfl (.cons rfl (.cons rfl (.cons rfl (.cons rfl (.cons rfl (.cons rfl (.cons rfl (.cons rfl (.cons rfl (.cons rfl (.cons rfl (.cons rfl (.cons rfl (.cons rfl (.cons rfl (.cons rfl (.cons rfl (.cons rfl (.cons rfl (.nil _)))))))))))))))))))))))))))))))) ?_
          refine cd_if rfl (fun hc37 => ?_) (fun hc37 => ?_)
          ·
            refine cd_seq ?_
            refine cd_seq ?_
            refine cd_region ?_
            refine st (ev_move rfl) rfl rfl rfl ?_
            refine st (ev_gtr rfl rfl) rfl rfl rfl ?_
            refine op_nil ?_
            refine ax_then ?_
            refine At.regs (L' := [(0, _), (3, _), (4, _), (5, _), (11, _), (12, _), (13, _), (14, _), (15, _), (16, _), (17, _), (18, _), (19, _), (20, _), (21, _), (22, _), (23, _), (24, _), (25, _), (26, _), (27, _), (28, _), (29, _), (30, _), (31, _), (32, _), (33, _), (34, _), (35, _), (36, _), (37, _), (38, _), (39, _)]) (.cons rfl (.cons rfl (.cons rfl (.cons rfl (.cons rfl (.cons rfl (.cons rfl (.cons rfl (.cons rfl (.cons rfl (.cons rfl (.cons rfl (.cons rfl (.cons rfl (.cons rfl (.cons rfl (.cons rfl (.cons rfl (.cons rfl (.cons rfl (.cons rfl (.cons rfl (.cons rfl (.cons rfl (.cons rfl (.cons rfl (.cons rfl (.cons rfl (.cons rfl (.cons rfl (.cons rfl (.cons rfl (.cons rfl (.nil _)))))))))))))))))))))))))))))))))) ?_
            refine cd_if rfl (fun hc39 => ?_) (fun hc39 => ?_)
            ·
              refine cd_exit ?_
              refine ax_then_exit ?_
              refine ax_block_miss (by decide) ?_
              refine ax_then_exit ?_
              refine ax_then_exit ?_
              refine ax_block_hit ?_
              refine ax_then ?_
              refine At.regs (L' := [(0, _)]) (.cons rfl (.nil _)) ?_
              refine cd_seq ?_
              refine cd_region ?_
              refine st (ev_move rfl) rfl rfl rfl ?_
              refine st_call has81 rfl (fun w1 sw => rbad_any b rv bad w1 (sw.blk_eq (h := 0) rfl)) (mod_blk rfl) rfl rfl (fun _ _ => ?_)
              refine op_nil ?_
              refine ax_then ?_
              refine At.regs (L' := []) (.nil _) ?_
              refine cd_seq ?_
              refine cd_region ?_
              refine st (ev_assign rfl) rfl rfl rfl ?_
              refine op_nil ?_
              refine ax_then ?_
              refine At.regs (L' := [(2, _)]) (.cons rfl (.nil _)) ?_
              refine cd_ret ?_
              refine rt_tmp (.inl rfl) Try.results51 rfl ?_
              first
              | (exact fun w1 sw => ⟨cutAt 1 rv (i + 1) r.length, Rr.nUnd_ok rv hs, by rw [(Rr.nVal_ok hs).1], by rw [(Rr.nVal_ok hs).2.1, Bool.or_false]; exact sw.gives (N := [(0, _)]) (.cons rfl (.nil _))⟩)
              | (have hnone : Rr.numS r = none := by
                   rw [← hi.2]
                   first
                   | (rw [show i = r.length by omega, List.drop_length]; rfl)
                   | (rw [hd]; first | exact Rr.numG_brk (by omega) | exact Rr.numG_big (by omega) (by omega))
                 exact fun w1 sw => ⟨Ky.nil0, Rr.nUnd_no rv hnone, by rw [(Rr.nVal_no hnone).1], by rw [(Rr.nVal_no hnone).2.1, Bool.or_true]; exact sw.gives (N := [(0, _)]) (.cons rfl (.nil _))⟩)
            ·
              refine cd_skip ?_
              refine ax_then ?_
              refine At.regs (L' := [(0, _), (3, _), (4, _), (5, _), (11, _), (12, _), (13, _), (14, _), (15, _), (16, _), (17, _), (18, _), (19, _), (20, _), (21, _), (22, _), (23, _), (24, _), (25, _), (26, _), (27, _), (28, _), (29, _), (30, _), (31, _), (32, _), (33, _), (34, _), (35, _), (36, _), (37, _), (38, _), (39, _)]) (.cons rfl (.cons rfl (.cons rfl (.cons rfl (.cons rfl (.cons rfl (.cons rfl (.cons rfl (.cons rfl (.cons rfl (.cons rfl (.cons rfl (.cons rfl (.cons rfl (.cons rfl (.cons rfl (.cons rfl (.cons rfl (.cons rfl (.cons rfl (.cons rfl (.cons rfl (.cons rfl (.cons rfl (.cons rfl (.cons rfl (.cons rfl (.cons rfl (.cons rfl (.cons rfl (.cons rfl (.cons rfl (.cons rfl (.nil _)))))))))))))))))))))))))))))))))) ?_
              refine cd_seq ?_
              refine cd_region ?_
              refine st (ev_move rfl) rfl rfl rfl ?_
              have hs : Rr.numS r = some (Rr.acc u c i, i + 1) := by rw [← hi.2, hd]; exact Rr.numG_ok hnb (by omega) hc39
              have hap := Rr.acc_pos u c i
              have hrng := Rr.numS_spec hs
              refine st (ev_move rfl) rfl rfl rfl ?_
              refine st (ev_nilCheck rfl) rfl rfl rfl ?_
              refine st (ev_fieldAddr (b := _) Try.underlying139 (f := _) rfl ty28 (by decide) rfl) rfl rfl rfl ?_
              refine st (ld_blk1 (h := 0) ty28 rfl rfl rfl rfl) rfl rfl rfl ?_
              refine st (ev_move rfl) rfl rfl rfl ?_
              refine st (ev_add64 rfl rfl (by omega) (by omega)) rfl rfl rfl ?_
              refine st (ev_slicei_lo Try.underlying28 ty5 rfl rfl (fun w1 sw => sw.sl_rd (h := 1) rfl) (by omega) (by first | omega | (simp only [List.length_append, List.length_cons, List.length_nil, List.length_set, List.length_replicate, List.length_take, List.length_drop, ints_length, wr_length, sha_len, node_len, recov_len, Ky.named_len, Ky.keyPub_len, Ky.hashOf_len] <;> omega))) rfl rfl rfl ?_
              refine at_eq (i := 47) (v' := cutAt 1 rv (i + 1) r.length) rfl rfl ?_
              refine st (ev_nilCheck rfl) rfl rfl rfl ?_
              refine st (ev_fieldAddr (b := _) Try.underlying139 (f := _) rfl ty28 (by decide) rfl) rfl rfl rfl ?_
              refine st_store1 0 ty28 rfl rfl rfl (rd_shape (h.cuti (lo := i + 1) (hi := r.length) (by omega) (Nat.le_refl _))).2 (show 0 < 2 from by decide) rfl ?_
              refine at_heq (i := 0) (v' := .blk (b) (.cells ([cutAt 1 rv (i + 1) r.length, .bool (bad)]).toArray 139)) rfl rfl ?_
              refine op_nil ?_
              refine ax_then ?_
              refine At.regs (L' := [(0, _), (3, _), (4, _), (5, _), (11, _), (12, _), (13, _), (14, _), (15, _), (16, _), (17, _), (18, _), (19, _), (20, _), (21, _), (22, _), (23, _), (24, _), (25, _), (26, _), (27, _), (28, _), (29, _), (30, _), (31, _), (32, _), (33, _), (34, _), (35, _), (36, _), (37, _), (38, _), (39, _), (40, _), (41, _), (42, _), (43, _), (44, _), (45, _), (46, _), (47, _), (48, _), (49, _)]) (.cons rfl (.cons rfl (.cons rfl (.cons rfl (.cons rfl (.cons rfl (.cons rfl (.cons rfl (.cons rfl (.cons rfl (.cons rfl (.cons rfl (.cons rfl (.cons rfl (.cons rfl (.cons rfl (.cons rfl (.cons rfl (.cons rfl (.cons rfl (.cons rfl (.cons rfl (.cons rfl (.cons rfl (.cons rfl (.cons rfl (.cons rfl (.cons rfl (.cons rfl (.cons rfl (.cons rfl (.cons rfl (.cons rfl (.cons rfl (.cons rfl (.cons rfl (.cons rfl (.cons rfl (.cons rfl (.cons rfl (.cons rfl (.cons rfl (.cons rfl (.nil _)))))))))))))))))))))))))))))))))))))))))))) ?_
              refine cd_seq ?_
              refine cd_region ?_
              refine st (ev_move rfl) rfl rfl rfl ?_
              refine st (ev_conv64 Try.underlying135 Try.underlying3 rfl (by omega) (by omega)) rfl rfl rfl ?_
              refine st (ev_assign rfl) rfl rfl rfl ?_
              refine op_nil ?_
              refine ax_then ?_
              refine At.regs (L' := [(0, _), (2, _), (3, _), (4, _), (5, _), (11, _), (12, _), (13, _), (14, _), (15, _), (16, _), (17, _), (18, _), (19, _), (20, _), (21, _), (22, _), (23, _), (24, _), (25, _), (26, _), (27, _), (28, _), (29, _), (30, _), (31, _), (32, _), (33, _), (34, _), (35, _), (36, _), (37, _), (38, _), (39, _), (40, _), (41, _), (42, _), (43, _), (44, _), (45, _), (46, _), (47, _), (48, _), (49, _), (50, _), (51, _)]) (.cons rfl (.cons rfl (.cons rfl (.cons rfl (.cons rfl (.cons rfl (.cons rfl (.cons rfl (.cons rfl (.cons rfl (.cons rfl (.cons rfl (.cons rfl (.cons rfl (.cons rfl (.cons rfl (.cons rfl (.cons rfl (.cons rfl (.cons rfl (.cons rfl (.cons rfl (.cons rfl (.cons rfl (.cons rfl (.cons rfl (.cons rfl (.cons rfl (.cons rfl (.cons rfl (.cons rfl (.cons rfl (.cons rfl (.cons rfl (.cons rfl (.cons rfl (.cons rfl (.cons rfl (.cons rfl (.cons rfl (.cons rfl (.cons rfl (.cons rfl (.cons rfl (.cons rfl (.cons rfl (.nil _))))))))))))))))))))))))))))))))))))))))))))))) ?_
              refine cd_ret ?_
              refine ax_block_ret ?_
              refine ax_then_ret ?_
              refine ax_then_ret ?_
              refine ax_block_ret ?_
              refine ax_then_ret ?_
              refine rt_tmp (.inl rfl) Try.results51 rfl ?_
              first
              | (exact fun w1 sw => ⟨cutAt 1 rv (i + 1) r.length, Rr.nUnd_ok rv hs, by rw [(Rr.nVal_ok hs).1], by rw [(Rr.nVal_ok hs).2.1, Bool.or_false]; exact sw.gives (N := [(0, _)]) (.cons rfl (.nil _))⟩)
              | (have hnone : Rr.numS r = none := by
                   rw [← hi.2]
                   first
                   | (rw [show i = r.length by omega, List.drop_length]; rfl)
                   | (rw [hd]; first | exact Rr.numG_brk (by omega) | exact Rr.numG_big (by omega) (by omega))
                 exact fun w1 sw => ⟨Ky.nil0, Rr.nUnd_no rv hnone, by rw [(Rr.nVal_no hnone).1], by rw [(Rr.nVal_no hnone).2.1, Bool.or_true]; exact sw.gives (N := [(0, _)]) (.cons rfl (.nil _))⟩)
          ·
            refine cd_skip ?_
            refine ax_block ?_
            refine ax_then ?_
            refine At.regs (L' := [(0, _), (3, _), (4, _), (5, _), (11, _), (12, _), (13, _), (14, _), (15, _), (16, _), (17, _), (18, _), (19, _), (20, _), (21, _), (22, _), (23, _), (24, _), (25, _), (26, _), (27, _), (28, _), (29, _), (30, _), (31, _), (32, _), (33, _), (34, _), (35, _), (36, _), (37, _)]) (.cons rfl (.cons rfl (.cons rfl (.cons rfl (.cons rfl (.cons rfl (.cons rfl (.cons rfl (.cons rfl (.cons rfl (.cons rfl (.cons rfl (.cons rfl (.cons rfl (.cons rfl (.cons rfl (.cons rfl (.cons rfl (.cons rfl (.cons rfl (.cons rfl (.cons rfl (.cons rfl (.cons rfl (.cons rfl (.cons rfl (.cons rfl (.cons rfl (.cons rfl (.cons rfl (.cons rfl (.nil _)))))))))))))))))))))))))))))))) ?_
            refine cd_region ?_
            refine st (ev_add64 rfl rfl (by omega) (by omega)) rfl rfl rfl ?_
            refine st (ev_move rfl) rfl rfl rfl ?_
            refine op_nil ?_
            exact at_again ((i + 1, Rr.acc u c i)) (⟨by show i + 1 ≤ r.length; omega, by show Rr.numG (i + 1) (Rr.acc u c i) (r.drop (i + 1)) = Rr.numS r; rw [← Rr.numG_go hnb (by omega), ← hd]; exact hi.2⟩) (by omega) (.cons rfl (.cons rfl (.cons rfl (.cons rfl (.cons rfl (.nil _)))))) (.cons rfl (.nil _)) (.cons rfl (.nil _))
      ·
        refine st_skip rfl rfl rfl ?_
        refine st_skip rfl rfl rfl ?_
        refine st (ev_pick_f rfl rfl) rfl rfl rfl ?_
        refine st (ev_pick_f rfl rfl) rfl rfl rfl ?_
        refine op_nil ?_
        refine ax_then ?_
        refine At.regs (L' := [(0, _), (3, _), (4, _), (5, _), (11, _), (12, _), (13, _), (14, _), (15, _), (16, _), (17, _), (18, _), (19, _), (20, _), (21, _), (22, _), (23, _), (24, _), (25, _), (26, _), (27, _)]) (.cons rfl (.cons rfl (.cons rfl (.cons rfl (.cons rfl (.cons rfl (.cons rfl (.cons rfl (.cons rfl (.cons rfl (.cons rfl (.cons rfl (.cons rfl (.cons rfl (.cons rfl (.cons rfl (.cons rfl (.cons rfl (.cons rfl (.cons rfl (.cons rfl (.nil _)))))))))))))))))))))) ?_
        refine cd_false rfl ?_
        refine cd_skip ?_
        refine ax_then ?_
        refine At.regs (L' := [(0, _), (3, _), (4, _), (5, _), (11, _), (12, _), (13, _), (14, _), (15, _), (16, _), (17, _), (18, _), (19, _), (20, _), (21, _), (22, _), (23, _), (24, _), (25, _), (26, _), (27, _)]) (.cons rfl (.cons rfl (.cons rfl (.cons rfl (.cons rfl (.cons rfl (.cons rfl (.cons rfl (.cons rfl (.cons rfl (.cons rfl (.cons rfl (.cons rfl (.cons rfl (.cons rfl (.cons rfl (.cons rfl (.cons rfl (.cons rfl (.cons rfl (.cons rfl (.nil _)))))))))))))))))))))) ?_
        refine cd_seq ?_
        refine cd_region ?_
        refine st (ev_move rfl) rfl rfl rfl ?_
        have hnb : ¬ (i ≥ 9 ∨ (i > 0 ∧ c = 0)) := by omega
        refine st (ev_move rfl) rfl rfl rfl ?_
        refine st (ev_and rfl rfl) rfl rfl rfl ?_
        refine st (ev_conv Try.underlying5 Try.underlying135 rfl) rfl rfl rfl ?_
        refine st (ev_move rfl) rfl rfl rfl ?_
        refine st (ev_mul64 rfl rfl (by omega) (by omega)) rfl rfl rfl ?_
        refine st (ev_shl rfl rfl (by omega)) rfl rfl rfl ?_
        refine st (ev_or rfl rfl) rfl rfl rfl ?_
        refine at_eq (i := 35) (v' := .int .u64 (Rr.acc u c i)) rfl rfl ?_
        refine st (ev_assign rfl) rfl rfl rfl ?_
        refine op_nil ?_
        refine ax_then ?_
        refine At.regs (L' := [(0, _), (3, _), (4, _), (5, _), (11, _), (12, _), (13, _), (14, _), (15, _), (16, _), (17, _), (18, _), (19, _), (20, _), (21, _), (22, _), (23, _), (24, _), (25, _), (26, _), (27, _), (28, _), (29, _), (30, _), (31, _), (32, _), (33, _), (34, _), (35, _)]) (.cons rfl (.cons rfl (.cons rfl (.cons rfl (.cons rfl (.cons rfl (.cons rfl (.cons rfl (.cons rfl (.cons rfl (.cons rfl (.cons rfl (.cons rfl (.cons rfl (.cons rfl (.cons rfl (.cons rfl (.cons rfl (.cons rfl (.cons rfl (.cons rfl (.cons rfl (.cons rfl (.cons rfl (.cons rfl (.cons rfl (.cons rfl (.cons rfl (.cons rfl (.nil _)))))))))))))))))))))))))))))) ?_
        refine cd_seq ?_
        refine cd_region ?_
        refine st (ev_move rfl) rfl rfl rfl ?_
        refine st (ev_lss rfl rfl) rfl rfl rfl ?_
        refine op_nil ?_
        refine ax_then ?_
        refine At.regs (L' := [(0, _), (3, _), (4, _), (5, _), (11, _), (12, _), (13, _), (14, _), (15, _), (16, _), (17, _), (18, _), (19, _), (20, _), (21, _), (22, _), (23, _), (24, _), (25, _), (26, _), (27, _), (28, _), (29, _), (30, _), (31, _), (32, _), (33, _), (34, _), (35, _), (36, _), (37, _)]) (.cons rfl (.cons rfl (.cons rfl (.cons rfl (.cons rfl (.cons rfl (.cons rfl (.cons rfl (.cons rfl (.cons rfl (.cons rfl (.cons rfl (.cons rfl (.cons rfl (.cons rfl (.cons rfl (.cons rfl (.cons rfl (.cons rfl (.cons rfl (.cons rfl (.cons rfl (.cons rfl (.cons rfl (.cons rfl (.cons rfl (.cons rfl (.cons rfl (.cons rfl (.cons rfl (.cons rfl (.nil _)))))))))))))))))))))))))))))))) ?_
        refine cd_if rfl (fun hc37 => ?_) (fun hc37 => ?_)
        ·
          refine cd_seq ?_
          refine cd_seq ?_
          refine cd_region ?_
          refine st (ev_move rfl) rfl rfl rfl ?_
          refine st (ev_gtr rfl rfl) rfl rfl rfl ?_
          refine op_nil ?_
          refine ax_then ?_
          refine At.regs (L' := [(0, _), (3, _), (4, _), (5, _), (11, _), (12, _), (13, _), (14, _), (15, _), (16, _), (17, _), (18, _), (19, _), (20, _), (21, _), (22, _), (23, _), (24, _), (25, _), (26, _), (27, _), (28, _), (29, _), (30, _), (31, _), (32, _), (33, _), (34, _), (35, _), (36, _), (37, _), (38, _), (39, _)]) (.cons rfl (.cons rfl (.cons rfl (.cons rfl (.cons rfl (.cons rfl (.cons rfl (.cons rfl (.cons rfl (.cons rfl (.cons rfl (.cons rfl (.cons rfl (.cons rfl (.cons rfl (.cons rfl (.cons rfl (.cons rfl (.cons rfl (.cons rfl (.cons rfl (.cons rfl (.cons rfl (.cons rfl (.cons rfl (.cons rfl (.cons rfl (.cons rfl (.cons rfl (.cons rfl (.cons rfl (.cons rfl (.cons rfl (.nil _)))))))))))))))))))))))))))))))))) ?_
          refine cd_if rfl (fun hc39 => ?_) (fun hc39 => ?_)
          ·
            refine cd_exit ?_
            refine ax_then_exit ?_
            refine ax_block_miss (by decide) ?_
            refine ax_then_exit ?_
            refine ax_then_exit ?_
            refine ax_block_hit ?_
            refine ax_then ?_
            refine At.regs (L' := [(0, _)]) (.cons rfl (.nil _)) ?_
            refine cd_seq ?_
            refine cd_region ?_
            refine st (ev_move rfl) rfl rfl rfl ?_
            refine st_call has81 rfl (fun w1 sw => rbad_any b rv bad w1 (sw.blk_eq (h := 0) rfl)) (mod_blk rfl) rfl rfl (fun _ _ => ?_)
            refine op_nil ?_
            refine ax_then ?_
            refine At.regs (L' := []) (.nil _) ?_
            refine cd_seq ?_
            refine cd_region ?_
            refine st (ev_assign rfl) rfl rfl rfl ?_
            refine op_nil ?_
            refine ax_then ?_
            refine At.regs (L' := [(2, _)]) (.cons rfl (.nil _)) ?_
            refine cd_ret ?_
            refine rt_tmp (.inl rfl) Try.results51 rfl ?_
            first
            | (exact fun w1 sw => ⟨cutAt 1 rv (i + 1) r.length, Rr.nUnd_ok rv hs, by rw [(Rr.nVal_ok hs).1], by rw [(Rr.nVal_ok hs).2.1, Bool.or_false]; exact sw.gives (N := [(0, _)]) (.cons rfl (.nil _))⟩)
            | (have hnone : Rr.numS r = none := by
                 rw [← hi.2]
                 first
                 | (rw [show i = r.length by omega, List.drop_length]; rfl)
                 | (rw [hd]; first | exact Rr.numG_brk (by omega) | exact Rr.numG_big (by omega) (by omega))
               exact fun w1 sw => ⟨Ky.nil0, Rr.nUnd_no rv hnone, by rw [(Rr.nVal_no hnone).1], by rw [(Rr.nVal_no hnone).2.1, Bool.or_true]; exact sw.gives (N := [(0, _)]) (.cons rfl (.nil _))⟩)
          ·
            refine cd_skip ?_
            refine ax_then ?_
            refine At.regs (L' := [(0, _), (3, _), (4, _), (5, _), (11, _), (12, _), (13, _), (14, _), (15, _), (16, _), (17, _), (18, _), (19, _), (20, _), (21, _), (22, _), (23, _), (24, _), (25, _), (26, _), (27, _), (28, _), (29, _), (30, _), (31, _), (32, _), (33, _), (34, _), (35, _), (36, _), (37, _), (38, _), (39, _)]) (.cons rfl (.cons rfl (.cons rfl (.cons rfl (.cons rfl (.cons rfl (.cons rfl (.cons rfl (.cons rfl (.cons rfl (.cons rfl (.cons rfl (.cons rfl (.cons rfl (.cons rfl (.cons rfl (.cons rfl (.cons rfl (.cons rfl (.cons rfl (.cons rfl (.cons rfl (.cons rfl (.cons rfl (.cons rfl (.cons rfl (.cons rfl (.cons rfl (.cons rfl (.cons rfl (.cons rfl (.cons rfl (.cons rfl (.nil _)))))))))))))))))))))))))))))))))) ?_
            refine cd_seq ?_
            refine cd_region ?_
            refine st (ev_move rfl) rfl rfl rfl ?_
            have hs : Rr.numS r = some (Rr.acc u c i, i + 1) := by rw [← hi.2, hd]; exact Rr.numG_ok hnb (by omega) hc39
            have hap := Rr.acc_pos u c i
            have hrng := Rr.numS_spec hs
            refine st (ev_move rfl) rfl rfl rfl ?_
            refine st (ev_nilCheck rfl) rfl rfl rfl ?_
            refine st (ev_fieldAddr (b := _) Try.underlying139 (f := _) rfl ty28 (by decide) rfl) rfl rfl rfl ?_
            refine st (ld_blk1 (h := 0) ty28 rfl rfl rfl rfl) rfl rfl rfl ?_
            refine st (ev_move rfl) rfl rfl rfl ?_
            refine st (ev_add64 rfl rfl (by omega) (by omega)) rfl rfl rfl ?_
            refine st (ev_slicei_lo Try.underlying28 ty5 rfl rfl (fun w1 sw => sw.sl_rd (h := 1) rfl) (by omega) (by first | omega | (simp only [List.length_append, List.length_cons, List.length_nil, List.length_set, List.length_replicate, List.length_take, List.length_drop, ints_length, wr_length, sha_len, node_len, recov_len, Ky.named_len, Ky.keyPub_len, Ky.hashOf_len] <;> omega))) rfl rfl rfl ?_
            refine at_eq (i := 47) (v' := cutAt 1 rv (i + 1) r.length) rfl rfl ?_
            refine st (ev_nilCheck rfl) rfl rfl rfl ?_
            refine st (ev_fieldAddr (b := _) Try.underlying139 (f := _) rfl ty28 (by decide) rfl) rfl rfl rfl ?_
            refine st_store1 0 ty28 rfl rfl rfl (rd_shape (h.cuti (lo := i + 1) (hi := r.length) (by omega) (Nat.le_refl _))).2 (show 0 < 2 from by decide) rfl ?_
            refine at_heq (i := 0) (v' := .blk (b) (.cells ([cutAt 1 rv (i + 1) r.length, .bool (bad)]).toArray 139)) rfl rfl ?_
            refine op_nil ?_
            refine ax_then ?_
            refine At.regs (L' := [(0, _), (3, _), (4, _), (5, _), (11, _), (12, _), (13, _), (14, _), (15, _), (16, _), (17, _), (18, _), (19, _), (20, _), (21, _), (22, _), (23, _), (24, _), (25, _), (26, _), (27, _), (28, _), (29, _), (30, _), (31, _), (32, _), (33, _), (34, _), (35, _), (36, _), (37, _), (38, _), (39, _), (40, _), (41, _), (42, _), (43, _), (44, _), (45, _), (46, _), (47, _), (48, _), (49, _)]) (.cons rfl (.cons rfl (.cons rfl (.cons rfl (.cons rfl (.cons rfl (.cons rfl (.cons rfl (.cons rfl (.cons rfl (.cons rfl (.cons rfl (.cons rfl (.cons rfl (.cons rfl (.cons rfl (.cons rfl (.cons rfl (.cons rfl (.cons rfl (.cons rfl (.cons rfl (.cons rfl (.cons rfl (.cons rfl (.cons rfl (.cons rfl (.cons rfl (.cons rfl (.cons rfl (.cons rfl (.cons rfl (.cons rfl (.cons rfl (.cons rfl (.cons rfl (.cons rfl (.cons rfl (.cons rfl (.cons rfl (.cons rfl (.cons rfl (.cons rfl (.nil _)))))))))))))))))))))))))))))))))))))))))))) ?_
            refine cd_seq ?_
            refine cd_region ?_
            refine st (ev_move rfl) rfl rfl rfl ?_
            refine st (ev_conv64 Try.underlying135 Try.underlying3 rfl (by omega) (by omega)) rfl rfl rfl ?_
            refine st (ev_assign rfl) rfl rfl rfl ?_
            refine op_nil ?_
            refine ax_then ?_
            refine At.regs (L' := [(0, _), (2, _), (3, _), (4, _), (5, _), (11, _), (12, _), (13, _), (14, _), (15, _), (16, _), (17, _), (18, _), (19, _), (20, _), (21, _), (22, _), (23, _), (24, _), (25, _), (26, _), (27, _), (28, _), (29, _), (30, _), (31, _), (32, _), (33, _), (34, _), (35, _), (36, _), (37, _), (38, _), (39, _), (40, _), (41, _), (42, _), (43, _), (44, _), (45, _), (46, _), (47, _), (48, _), (49, _), (50, _), (51, _)]) (.cons rfl (.cons rfl (.cons rfl (.cons rfl (.cons rfl (.cons rfl (.cons rfl (.cons rfl (.cons rfl (.cons rfl (.cons rfl (.cons rfl (.cons rfl (.cons rfl (.cons rfl (.cons rfl (.cons rfl (.cons rfl (.cons rfl (.cons rfl (.cons rfl (.cons rfl (.cons rfl (.cons rfl (.cons rfl (.cons rfl (.cons rfl (.cons rfl (.cons rfl (.cons rfl (.cons rfl (.cons rfl (.cons rfl (.cons rfl (.cons rfl (.cons rfl (.cons rfl (.cons rfl (.cons rfl (.cons rfl (.cons rfl (.cons rfl (.cons rfl (.cons rfl (.cons rfl (.cons rfl (.nil _))))))))))))))))))))))))))))))))))))))))))))))) ?_
            refine cd_ret ?_
            refine ax_block_ret ?_
            refine ax_then_ret ?_
            refine ax_then_ret ?_
            refine ax_block_ret ?_
            refine ax_then_ret ?_
            refine rt_tmp (.inl rfl) Try.results51 rfl ?_
            first
            | (exact fun w1 sw => ⟨cutAt 1 rv (i + 1) r.length, Rr.nUnd_ok rv hs, by rw [(Rr.nVal_ok hs).1], by rw [(Rr.nVal_ok hs).2.1, Bool.or_false]; exact sw.gives (N := [(0, _)]) (.cons rfl (.nil _))⟩)
            | (have hnone : Rr.numS r = none := by
                 rw [← hi.2]
                 first
                 | (rw [show i = r.length by omega, List.drop_length]; rfl)
                 | (rw [hd]; first | exact Rr.numG_brk (by omega) | exact Rr.numG_big (by omega) (by omega))
               exact fun w1 sw => ⟨Ky.nil0, Rr.nUnd_no rv hnone, by rw [(Rr.nVal_no hnone).1], by rw [(Rr.nVal_no hnone).2.1, Bool.or_true]; exact sw.gives (N := [(0, _)]) (.cons rfl (.nil _))⟩)
        ·
          refine cd_skip ?_
          refine ax_block ?_
          refine ax_then ?_
          refine At.regs (L' := [(0, _), (3, _), (4, _), (5, _), (11, _), (12, _), (13, _), (14, _), (15, _), (16, _), (17, _), (18, _), (19, _), (20, _), (21, _), (22, _), (23, _), (24, _), (25, _), (26, _), (27, _), (28, _), (29, _), (30, _), (31, _), (32, _), (33, _), (34, _), (35, _), (36, _), (37, _)]) (.cons rfl (.cons rfl (.cons rfl (.cons rfl (.cons rfl (.cons rfl (.cons rfl (.cons rfl (.cons rfl (.cons rfl (.cons rfl (.cons rfl (.cons rfl (.cons rfl (.cons rfl (.cons rfl (.cons rfl (.cons rfl (.cons rfl (.cons rfl (.cons rfl (.cons rfl (.cons rfl (.cons rfl (.cons rfl (.cons rfl (.cons rfl (.cons rfl (.cons rfl (.cons rfl (.cons rfl (.nil _)))))))))))))))))))))))))))))))) ?_
          refine cd_region ?_
          refine st (ev_add64 rfl rfl (by omega) (by omega)) rfl rfl rfl ?_
          refine st (ev_move rfl) rfl rfl rfl ?_
          refine op_nil ?_
          exact at_again ((i + 1, Rr.acc u c i)) (⟨by show i + 1 ≤ r.length; omega, by show Rr.numG (i + 1) (Rr.acc u c i) (r.drop (i + 1)) = Rr.numS r; rw [← Rr.numG_go hnb (by omega), ← hd]; exact hi.2⟩) (by omega) (.cons rfl (.cons rfl (.cons rfl (.cons rfl (.cons rfl (.nil _)))))) (.cons rfl (.nil _)) (.cons rfl (.nil _))
  ·
    have hlt : ¬ i < r.length := by omega
    have hd : True := trivial
    refine cd_exit ?_
    refine ax_then_exit ?_
    refine ax_then_exit ?_
    refine ax_block_hit ?_
    refine ax_then ?_
    refine At.regs (L' := [(0, _)]) (.cons rfl (.nil _)) ?_
    refine cd_seq ?_
    refine cd_region ?_
    refine st (ev_move rfl) rfl rfl rfl ?_
    refine st_call has81 rfl (fun w1 sw => rbad_any b rv bad w1 (sw.blk_eq (h := 0) rfl)) (mod_blk rfl) rfl rfl (fun _ _ => ?_)
    refine op_nil ?_
    refine ax_then ?_
    refine At.regs (L' := []) (.nil _) ?_
    refine cd_seq ?_
    refine cd_region ?_
    refine st (ev_assign rfl) rfl rfl rfl ?_
    refine op_nil ?_
    refine ax_then ?_
    refine At.regs (L' := [(2, _)]) (.cons rfl (.nil _)) ?_
    refine cd_ret ?_
    refine rt_tmp (.inl rfl) Try.results51 rfl ?_
    first
    | (exact fun w1 sw => ⟨cutAt 1 rv (i + 1) r.length, Rr.nUnd_ok rv hs, by rw [(Rr.nVal_ok hs).1], by rw [(Rr.nVal_ok hs).2.1, Bool.or_false]; exact sw.gives (N := [(0, _)]) (.cons rfl (.nil _))⟩)
    | (have hnone : Rr.numS r = none := by
         rw [← hi.2]
         first
         | (rw [show i = r.length by omega, List.drop_length]; rfl)
         | (rw [hd]; first | exact Rr.numG_brk (by omega) | exact Rr.numG_big (by omega) (by omega))
       exact fun w1 sw => ⟨Ky.nil0, Rr.nUnd_no rv hnone, by rw [(Rr.nVal_no hnone).1], by rw [(Rr.nVal_no hnone).2.1, Bool.or_true]; exact sw.gives (N := [(0, _)]) (.cons rfl (.nil _))⟩)
set_option maxRecDepth 20000 in
set_option maxHeartbeats 2000000 in
theorem rrawg_ok (b : Nat) (rv : Value) (bad : Bool) (r : List Int) (w : World) (hb : w.heap[b]? = some (.cells (List.toArray [rv, .bool bad]) 139)) (h : Rd w rv 1 (ints .u8 r)) (ho : FE.off b (.sl rv 1 (ints .u8 r))) (hr : r.length ≤ 140737488352000) (n : Int) (hf : Rr.fitsR r n) : Calls Try.prog 128 #[.pointer (some ⟨b, 0, none⟩), .int .i64 n] w (Post (ι := Value × Value) w [b] (fun x => Rr.Und rv r x.1 (Rr.rRest r n)) (fun x => x.2) (fun x => [(0, .blk (b) (.cells ([x.1, .bool (bad || Rr.rBad r n)]).toArray 139)), (1, .own (x.2) 5 1 (ints .u8 (Rr.rOut r n)))])) := by
  have hf0 := hf.1
  have hf1 := hf.2
  refine calls_at (vs := [.pointer (some ⟨b, 0, none⟩), .int .i64 n]) (X := [b]) (H := [(0, .blk (b) (.cells ([rv, .bool (bad)]).toArray 139))]) (F := [(1, .sl rv 1 (ints .u8 r))]) 40 Try.func128 rfl rfl rfl ((Sat.blkX 0 hb).readb (f := .sl rv 1 (ints .u8 r)) 1 h ho) ?_
  refine cd_seq ?_
  refine cd_region ?_
  refine st (ev_assign rfl) rfl rfl rfl ?_
  refine at_own_nil 4 5 1 ?_
  refine at_heq (i := 4) (v' := .own (.slice none 0 0) 5 1 (ints .u8 [])) rfl rfl ?_
  refine op_nil ?_
  refine ax_then ?_
  refine At.regs (L' := [(0, _), (1, _), (4, _)]) (.cons rfl (.cons rfl (.cons rfl (.nil _)))) ?_
  refine cd_seq ?_
  refine cd_seq ?_
  refine cd_region ?_
  refine st (ev_move rfl) rfl rfl rfl ?_
  refine st (ev_eql_ptr_nil Try.underlying107 rfl rfl) rfl rfl rfl ?_
  refine st (ev_move rfl) rfl rfl rfl ?_
  refine st (ev_move rfl) rfl rfl rfl ?_
  refine st (ev_lss rfl rfl) rfl rfl rfl ?_
  refine st (ev_pick_f rfl rfl) rfl rfl rfl ?_
  refine st (ev_move rfl) rfl rfl rfl ?_
  refine at_eq (i := 12) (v' := .bool false) rfl (by simp only [Value.bool.injEq, decide_eq_true_eq, decide_eq_false_iff_not]; omega) ?_
  refine st (ev_move rfl) rfl rfl rfl ?_
  refine st (ev_move rfl) rfl rfl rfl ?_
  refine st (ev_nilCheck rfl) rfl rfl rfl ?_
  refine st (ev_fieldAddr (b := _) Try.underlying139 (f := _) rfl ty28 (by decide) rfl) rfl rfl rfl ?_
  refine st (ld_blk1 (h := 0) ty28 rfl rfl rfl rfl) rfl rfl rfl ?_
  refine st (ev_len_rdi (h := 1) Try.underlying28 rfl rfl) rfl rfl rfl ?_
  refine st (ev_gtr rfl rfl) rfl rfl rfl ?_
  refine st (ev_pick_f rfl rfl) rfl rfl rfl ?_
  refine op_nil ?_
  refine ax_then ?_
  refine At.regs (L' := [(0, _), (1, _), (4, _), (20, _)]) (.cons rfl (.cons rfl (.cons rfl (.cons rfl (.nil _))))) ?_
  refine cd_if_f rfl (by omega) ?_
  refine cd_skip ?_
  refine ax_then ?_
  refine At.regs (L' := [(0, _), (1, _), (4, _)]) (.cons rfl (.cons rfl (.cons rfl (.nil _)))) ?_
  refine cd_seq ?_
  refine cd_region ?_
  refine st (ev_move rfl) rfl rfl rfl ?_
  refine st (ev_nilCheck rfl) rfl rfl rfl ?_
  refine st (ev_fieldAddr (b := _) Try.underlying139 (f := _) rfl ty28 (by decide) rfl) rfl rfl rfl ?_
  refine st (ld_blk1 (h := 0) ty28 rfl rfl rfl rfl) rfl rfl rfl ?_
  refine st (ev_move rfl) rfl rfl rfl ?_
  refine st (ev_slicei_hi Try.underlying28 ty5 rfl rfl (fun w1 sw => sw.sl_rd (h := 1) rfl) (by omega) (by first | omega | (simp only [List.length_append, List.length_cons, List.length_nil, List.length_set, List.length_replicate, List.length_take, List.length_drop, ints_length, wr_length, sha_len, node_len, recov_len, Ky.named_len, Ky.keyPub_len, Ky.hashOf_len] <;> omega))) rfl rfl rfl ?_
  refine at_eq (i := 28) (v' := cutAt 1 rv 0 n.toNat) rfl rfl ?_
  refine st_call has80 rfl (fun w1 sw => rn 29 (clone_any (cutAt 1 rv 0 n.toNat) (r.take n.toNat) w1 (by rw [List.length_take]; omega) (by have := (sw.sl_rd (h := 1) rfl).cuti (lo := 0) (hi := n.toNat) (by omega) (by omega); simpa using this))) nil_all rfl rfl (fun v29 _ => ?_)
  refine at_heq (i := 29) (v' := .own (v29) 5 1 (ints .u8 (Rr.rOut r n))) rfl (by rw [show Rr.rOut r n = r.take n.toNat from if_pos hf]) ?_
  refine st (ev_assign rfl) rfl rfl rfl ?_
  refine op_nil ?_
  refine ax_then ?_
  refine At.regs (L' := [(0, _), (1, _), (4, _), (5, _)]) (.cons rfl (.cons rfl (.cons rfl (.cons rfl (.nil _))))) ?_
  refine cd_seq ?_
  refine cd_region ?_
  refine st (ev_move rfl) rfl rfl rfl ?_
  refine st (ev_move rfl) rfl rfl rfl ?_
  refine st (ev_nilCheck rfl) rfl rfl rfl ?_
  refine st (ev_fieldAddr (b := _) Try.underlying139 (f := _) rfl ty28 (by decide) rfl) rfl rfl rfl ?_
  refine st (ld_blk1 (h := 0) ty28 rfl rfl rfl rfl) rfl rfl rfl ?_
  refine st (ev_move rfl) rfl rfl rfl ?_
  refine st (ev_slicei_lo Try.underlying28 ty5 rfl rfl (fun w1 sw => sw.sl_rd (h := 1) rfl) (by omega) (by first | omega | (simp only [List.length_append, List.length_cons, List.length_nil, List.length_set, List.length_replicate, List.length_take, List.length_drop, ints_length, wr_length, sha_len, node_len, recov_len, Ky.named_len, Ky.keyPub_len, Ky.hashOf_len] <;> omega))) rfl rfl rfl ?_
  refine st (ev_nilCheck rfl) rfl rfl rfl ?_
  refine st (ev_fieldAddr (b := _) Try.underlying139 (f := _) rfl ty28 (by decide) rfl) rfl rfl rfl ?_
  refine st_store1 0 ty28 rfl rfl rfl (rd_shape (h.cuti (lo := n.toNat) (hi := r.length) (by omega) (Nat.le_refl _))).2 (show 0 < 2 from by decide) rfl ?_
  refine at_heq (i := 0) (v' := .blk (b) (.cells ([cutAt 1 rv n.toNat r.length, .bool (bad)]).toArray 139)) rfl rfl ?_
  refine op_nil ?_
  refine ax_then ?_
  refine At.regs (L' := [(4, _), (5, _)]) (.cons rfl (.cons rfl (.nil _))) ?_
  refine cd_seq ?_
  refine cd_region ?_
  refine st (ev_move rfl) rfl rfl rfl ?_
  refine st (ev_assign rfl) rfl rfl rfl ?_
  refine op_nil ?_
  refine ax_then ?_
  refine At.regs (L' := [(4, _)]) (.cons rfl (.nil _)) ?_
  refine cd_ret ?_
  refine rt_tmp (.inl rfl) Try.results128 rfl ?_
  exact fun w1 sw => ⟨(cutAt 1 rv n.toNat r.length, v29), Rr.rUnd_ok rv hf, rfl, by rw [show Rr.rBad r n = false from by rw [Rr.rBad, decide_eq_true hf]; rfl, Bool.or_false]; exact (sw.gives (N := [(0, _), (29, _)]) (.cons rfl (.cons rfl (.nil _)))).rn2 (by decide) 0 1⟩
set_option maxRecDepth 20000 in
set_option maxHeartbeats 2000000 in
theorem rrawg_neg (b : Nat) (rv : Value) (bad : Bool) (r : List Int) (w : World) (hb : w.heap[b]? = some (.cells (List.toArray [rv, .bool bad]) 139)) (h : Rd w rv 1 (ints .u8 r)) (ho : FE.off b (.sl rv 1 (ints .u8 r))) (hr : r.length ≤ 140737488352000) (n : Int) (hn : n < 0) : Calls Try.prog 128 #[.pointer (some ⟨b, 0, none⟩), .int .i64 n] w (Post (ι := Value × Value) w [b] (fun x => Rr.Und rv r x.1 (Rr.rRest r n)) (fun x => x.2) (fun x => [(0, .blk (b) (.cells ([x.1, .bool (bad || Rr.rBad r n)]).toArray 139)), (1, .own (x.2) 5 1 (ints .u8 (Rr.rOut r n)))])) := by
  have hf : ¬ Rr.fitsR r n := fun hh => by have := hh.1; have := hh.2; omega
  refine calls_at (vs := [.pointer (some ⟨b, 0, none⟩), .int .i64 n]) (X := [b]) (H := [(0, .blk (b) (.cells ([rv, .bool (bad)]).toArray 139))]) (F := [(1, .sl rv 1 (ints .u8 r))]) 40 Try.func128 rfl rfl rfl ((Sat.blkX 0 hb).readb (f := .sl rv 1 (ints .u8 r)) 1 h ho) ?_
  refine cd_seq ?_
  refine cd_region ?_
  refine st (ev_assign rfl) rfl rfl rfl ?_
  refine at_own_nil 4 5 1 ?_
  refine at_heq (i := 4) (v' := .own (.slice none 0 0) 5 1 (ints .u8 [])) rfl rfl ?_
  refine op_nil ?_
  refine ax_then ?_
  refine At.regs (L' := [(0, _), (1, _), (4, _)]) (.cons rfl (.cons rfl (.cons rfl (.nil _)))) ?_
  refine cd_seq ?_
  refine cd_seq ?_
  refine cd_region ?_
  refine st (ev_move rfl) rfl rfl rfl ?_
  refine st (ev_eql_ptr_nil Try.underlying107 rfl rfl) rfl rfl rfl ?_
  refine st (ev_move rfl) rfl rfl rfl ?_
  refine st (ev_move rfl) rfl rfl rfl ?_
  refine st (ev_lss rfl rfl) rfl rfl rfl ?_
  refine st (ev_pick_f rfl rfl) rfl rfl rfl ?_
  refine st (ev_move rfl) rfl rfl rfl ?_
  refine at_eq (i := 12) (v' := .bool true) rfl (by simp only [Value.bool.injEq, decide_eq_true_eq, decide_eq_false_iff_not]; omega) ?_
  refine st_skip rfl rfl rfl ?_
  refine st_skip rfl rfl rfl ?_
  refine st_skip rfl rfl rfl ?_
  refine st_skip rfl rfl rfl ?_
  refine st_skip rfl rfl rfl ?_
  refine st_skip rfl rfl rfl ?_
  refine st_skip rfl rfl rfl ?_
  refine st (ev_pick_t rfl rfl) rfl rfl rfl ?_
  refine op_nil ?_
  refine ax_then ?_
  refine At.regs (L' := [(0, _), (1, _), (4, _), (20, _)]) (.cons rfl (.cons rfl (.cons rfl (.cons rfl (.nil _))))) ?_
  refine cd_true rfl ?_
  refine cd_seq ?_
  refine cd_region ?_
  refine st (ev_move rfl) rfl rfl rfl ?_
  refine st_call has81 rfl (fun w1 sw => rbad_any b rv bad w1 (sw.blk_eq (h := 0) rfl)) (mod_blk rfl) rfl rfl (fun _ _ => ?_)
  refine op_nil ?_
  refine ax_then ?_
  refine At.regs (L' := [(0, _), (1, _), (4, _)]) (.cons rfl (.cons rfl (.cons rfl (.nil _)))) ?_
  refine cd_seq ?_
  refine cd_region ?_
  refine st (ev_assign rfl) rfl rfl rfl ?_
  refine at_own_nil 4 5 1 ?_
  refine at_heq (i := 4) (v' := .own (.slice none 0 0) 5 1 (ints .u8 [])) rfl rfl ?_
  refine op_nil ?_
  refine ax_then ?_
  refine At.regs (L' := [(0, _), (1, _), (4, _)]) (.cons rfl (.cons rfl (.cons rfl (.nil _)))) ?_
  refine cd_ret ?_
  refine ax_then_ret ?_
  refine rt_tmp (.inl rfl) Try.results128 rfl ?_
  exact fun w1 sw => ⟨(Ky.nil0, .slice none 0 0), Rr.rUnd_no rv hf, rfl, by rw [show Rr.rBad r n = true from by rw [Rr.rBad, decide_eq_false hf]; rfl, Bool.or_true, show Rr.rOut r n = [] from by rw [Rr.rOut, if_neg hf]]; exact (sw.gives (N := [(0, _), (4, _)]) (.cons rfl (.cons rfl (.nil _)))).rn2 (by decide) 0 1⟩
set_option maxRecDepth 20000 in
set_option maxHeartbeats 2000000 in
theorem rrawg_far (b : Nat) (rv : Value) (bad : Bool) (r : List Int) (w : World) (hb : w.heap[b]? = some (.cells (List.toArray [rv, .bool bad]) 139)) (h : Rd w rv 1 (ints .u8 r)) (ho : FE.off b (.sl rv 1 (ints .u8 r))) (hr : r.length ≤ 140737488352000) (n : Int) (hn0 : 0 ≤ n) (hn : n > (r.length : Nat)) : Calls Try.prog 128 #[.pointer (some ⟨b, 0, none⟩), .int .i64 n] w (Post (ι := Value × Value) w [b] (fun x => Rr.Und rv r x.1 (Rr.rRest r n)) (fun x => x.2) (fun x => [(0, .blk (b) (.cells ([x.1, .bool (bad || Rr.rBad r n)]).toArray 139)), (1, .own (x.2) 5 1 (ints .u8 (Rr.rOut r n)))])) := by
  have hf : ¬ Rr.fitsR r n := fun hh => by have := hh.1; have := hh.2; omega
  refine calls_at (vs := [.pointer (some ⟨b, 0, none⟩), .int .i64 n]) (X := [b]) (H := [(0, .blk (b) (.cells ([rv, .bool (bad)]).toArray 139))]) (F := [(1, .sl rv 1 (ints .u8 r))]) 40 Try.func128 rfl rfl rfl ((Sat.blkX 0 hb).readb (f := .sl rv 1 (ints .u8 r)) 1 h ho) ?_
  refine cd_seq ?_
  refine cd_region ?_
  refine st (ev_assign rfl) rfl rfl rfl ?_
  refine at_own_nil 4 5 1 ?_
  refine at_heq (i := 4) (v' := .own (.slice none 0 0) 5 1 (ints .u8 [])) rfl rfl ?_
  refine op_nil ?_
  refine ax_then ?_
  refine At.regs (L' := [(0, _), (1, _), (4, _)]) (.cons rfl (.cons rfl (.cons rfl (.nil _)))) ?_
  refine cd_seq ?_
  refine cd_seq ?_
  refine cd_region ?_
  refine st (ev_move rfl) rfl rfl rfl ?_
  refine st (ev_eql_ptr_nil Try.underlying107 rfl rfl) rfl rfl rfl ?_
  refine st (ev_move rfl) rfl rfl rfl ?_
  refine st (ev_move rfl) rfl rfl rfl ?_
  refine st (ev_lss rfl rfl) rfl rfl rfl ?_
  refine st (ev_pick_f rfl rfl) rfl rfl rfl ?_
  refine st (ev_move rfl) rfl rfl rfl ?_
  refine at_eq (i := 12) (v' := .bool false) rfl (by simp only [Value.bool.injEq, decide_eq_true_eq, decide_eq_false_iff_not]; omega) ?_
  refine st (ev_move rfl) rfl rfl rfl ?_
  refine st (ev_move rfl) rfl rfl rfl ?_
  refine st (ev_nilCheck rfl) rfl rfl rfl ?_
  refine st (ev_fieldAddr (b := _) Try.underlying139 (f := _) rfl ty28 (by decide) rfl) rfl rfl rfl ?_
  refine st (ld_blk1 (h := 0) ty28 rfl rfl rfl rfl) rfl rfl rfl ?_
  refine st (ev_len_rdi (h := 1) Try.underlying28 rfl rfl) rfl rfl rfl ?_
  refine st (ev_gtr rfl rfl) rfl rfl rfl ?_
  refine st (ev_pick_f rfl rfl) rfl rfl rfl ?_
  refine op_nil ?_
  refine ax_then ?_
  refine At.regs (L' := [(0, _), (1, _), (4, _), (20, _)]) (.cons rfl (.cons rfl (.cons rfl (.cons rfl (.nil _))))) ?_
  refine cd_if_t rfl (by omega) ?_
  refine cd_seq ?_
  refine cd_region ?_
  refine st (ev_move rfl) rfl rfl rfl ?_
  refine st_call has81 rfl (fun w1 sw => rbad_any b rv bad w1 (sw.blk_eq (h := 0) rfl)) (mod_blk rfl) rfl rfl (fun _ _ => ?_)
  refine op_nil ?_
  refine ax_then ?_
  refine At.regs (L' := [(0, _), (1, _), (4, _)]) (.cons rfl (.cons rfl (.cons rfl (.nil _)))) ?_
  refine cd_seq ?_
  refine cd_region ?_
  refine st (ev_assign rfl) rfl rfl rfl ?_
  refine at_own_nil 4 5 1 ?_
  refine at_heq (i := 4) (v' := .own (.slice none 0 0) 5 1 (ints .u8 [])) rfl rfl ?_
  refine op_nil ?_
  refine ax_then ?_
  refine At.regs (L' := [(0, _), (1, _), (4, _)]) (.cons rfl (.cons rfl (.cons rfl (.nil _)))) ?_
  refine cd_ret ?_
  refine ax_then_ret ?_
  refine rt_tmp (.inl rfl) Try.results128 rfl ?_
  exact fun w1 sw => ⟨(Ky.nil0, .slice none 0 0), Rr.rUnd_no rv hf, rfl, by rw [show Rr.rBad r n = true from by rw [Rr.rBad, decide_eq_false hf]; rfl, Bool.or_true, show Rr.rOut r n = [] from by rw [Rr.rOut, if_neg hf]]; exact (sw.gives (N := [(0, _), (4, _)]) (.cons rfl (.cons rfl (.nil _)))).rn2 (by decide) 0 1⟩
theorem rraw_g (b : Nat) (rv : Value) (bad : Bool) (r : List Int) (w : World) (hb : w.heap[b]? = some (.cells (List.toArray [rv, .bool bad]) 139)) (h : Rd w rv 1 (ints .u8 r)) (ho : FE.off b (.sl rv 1 (ints .u8 r))) (hr : r.length ≤ 140737488352000) (n : Int) : Calls Try.prog 128 #[.pointer (some ⟨b, 0, none⟩), .int .i64 n] w (Post (ι := Value × Value) w [b] (fun x => Rr.Und rv r x.1 (Rr.rRest r n)) (fun x => x.2) (fun x => [(0, .blk (b) (.cells ([x.1, .bool (bad || Rr.rBad r n)]).toArray 139)), (1, .own (x.2) 5 1 (ints .u8 (Rr.rOut r n)))])) := by
  by_cases h0 : n < 0
  · exact rrawg_neg b rv bad r w hb h ho hr n h0
  · by_cases h1 : n > (r.length : Nat)
    · exact rrawg_far b rv bad r w hb h ho hr n (by omega) h1
    · exact rrawg_ok b rv bad r w hb h ho hr n ⟨by omega, by omega⟩
end Go.Proofs.Ytgfnmolbagilmaa

/- A block handed in to be written; more than one new thing. -/
import Derived.Test.YteedclmcgifmpaaFw16
namespace Go.Proofs.Yteedclmcgifmpaa.Fw
open Go Go.RowKit Go.Proofs.Yteedclmcgifmpaa
set_option linter.unusedSimpArgs false
set_option linter.unusedVariables false
theorem Gives.rnf {w w' : World} {M : List Nat} {N N' : List (Nat × Ent)} (φ : Nat → Nat) (hφ : ∀ h e, lk N' h = some e → lk N (φ h) = some e) (hi : ∀ h h' e e', lk N' h = some e → lk N' h' = some e' → φ h = φ h' → h = h') (g : Gives w w' M N) : Gives w w' M N' :=
  ⟨g.tape, g.os, g.output, g.size, g.old, fun h e hh => g.hold _ _ (hφ h e hh), fun h e hh => g.fresh _ _ (hφ h e hh),
    fun h e h' e' hh hh' hne => g.apart _ _ _ _ (hφ h e hh) (hφ h' e' hh') fun hc => hne (hi h h' e e' hh hh' hc)⟩
theorem lk_two {e f x : Ent} {i j h : Nat} (hh : lk [(i, e), (j, f)] h = some x) : (h = i ∧ x = e) ∨ (h = j ∧ h ≠ i ∧ x = f) := by
  by_cases h1 : i = h
  · subst h1; rw [lk_cons_same] at hh; exact .inl ⟨rfl, (Option.some.inj hh).symm⟩
  · rw [lk_cons_ne h1] at hh
    obtain ⟨rfl, rfl⟩ := lk_one hh
    exact .inr ⟨rfl, fun h => h1 h.symm, rfl⟩
theorem Gives.rn2 {w w' : World} {M : List Nat} {e f : Ent} {a b : Nat} (hab : a ≠ b) (i j : Nat) (g : Gives w w' M [(a, e), (b, f)]) : Gives w w' M [(i, e), (j, f)] := by
  refine g.rnf (fun h => if h = i then a else b) (fun h x hh => ?_) (fun h h' x x' hh hh' hc => ?_)
  · rcases lk_two hh with ⟨rfl, rfl⟩ | ⟨rfl, hne, rfl⟩
    · rw [if_pos rfl, lk_cons_same]
    · rw [if_neg hne, lk_cons_ne hab, lk_cons_same]
  · rcases lk_two hh with ⟨rfl, rfl⟩ | ⟨rfl, hne, rfl⟩ <;> rcases lk_two hh' with ⟨rfl, rfl⟩ | ⟨rfl, hne', rfl⟩
    · rfl
    · rw [if_pos rfl, if_neg hne'] at hc; exact absurd hc hab
    · rw [if_pos rfl, if_neg hne] at hc; exact absurd hc.symm hab
    · rfl
theorem lk_three {e f d x : Ent} {i j k h : Nat} (hh : lk [(i, e), (j, f), (k, d)] h = some x) : (h = i ∧ x = e) ∨ (h = j ∧ h ≠ i ∧ x = f) ∨ (h = k ∧ h ≠ i ∧ h ≠ j ∧ x = d) := by
  by_cases h1 : i = h
  · subst h1; rw [lk_cons_same] at hh; exact .inl ⟨rfl, (Option.some.inj hh).symm⟩
  · rw [lk_cons_ne h1] at hh
    rcases lk_two hh with ⟨rfl, rfl⟩ | ⟨rfl, h2, rfl⟩
    · exact .inr (.inl ⟨rfl, fun h => h1 h.symm, rfl⟩)
    · exact .inr (.inr ⟨rfl, fun h => h1 h.symm, h2, rfl⟩)
theorem Gives.rn3 {w w' : World} {M : List Nat} {e f d : Ent} {a b c : Nat} (hab : a ≠ b) (hac : a ≠ c) (hbc : b ≠ c) (i j k : Nat) (g : Gives w w' M [(a, e), (b, f), (c, d)]) : Gives w w' M [(i, e), (j, f), (k, d)] := by
  refine g.rnf (fun h => if h = i then a else if h = j then b else c) (fun h x hh => ?_) (fun h h' x x' hh hh' hc => ?_)
  · rcases lk_three hh with ⟨rfl, rfl⟩ | ⟨rfl, hne, rfl⟩ | ⟨rfl, hne, hne2, rfl⟩
    · rw [if_pos rfl, lk_cons_same]
    · rw [if_neg hne, if_pos rfl, lk_cons_ne hab, lk_cons_same]
    · rw [if_neg hne, if_neg hne2, lk_cons_ne hac, lk_cons_ne hbc, lk_cons_same]
  · rcases lk_three hh with ⟨rfl, rfl⟩ | ⟨rfl, hne, rfl⟩ | ⟨rfl, hne, hne2, rfl⟩ <;> rcases lk_three hh' with ⟨rfl, rfl⟩ | ⟨rfl, hne', rfl⟩ | ⟨rfl, hne', hne2', rfl⟩ <;> first | rfl | (simp_all; done) | (exfalso; simp_all [eq_comm]; done) | (exfalso; simp only [if_pos, if_neg, *, not_false_eq_true, if_true, if_false] at hc; first | exact hab hc | exact hab hc.symm | exact hac hc | exact hac hc.symm | exact hbc hc | exact hbc hc.symm)
theorem rn2 {P : Program} {f : FuncId} {vs : Array Value} {w : World} {ι : Type} {M : List Nat} {Φ : ι → Prop} {v : ι → Value} {e e2 : ι → Ent} (i j : Nat) (h : Calls P f vs w (Post w M Φ v fun x => [(0, e x), (1, e2 x)])) :
    Calls P f vs w (Post w M Φ v fun x => [(i, e x), (j, e2 x)]) :=
  h.mono fun _ _ ⟨x, h1, h2, h3⟩ => ⟨x, h1, h2, h3.rn2 (by decide) i j⟩
theorem rn3 {P : Program} {f : FuncId} {vs : Array Value} {w : World} {ι : Type} {M : List Nat} {Φ : ι → Prop} {v : ι → Value} {e e2 e3 : ι → Ent} (i j k : Nat) (h : Calls P f vs w (Post w M Φ v fun x => [(0, e x), (1, e2 x), (2, e3 x)])) :
    Calls P f vs w (Post w M Φ v fun x => [(i, e x), (j, e2 x), (k, e3 x)]) :=
  h.mono fun _ _ ⟨x, h1, h2, h3⟩ => ⟨x, h1, h2, h3.rn3 (by decide) (by decide) (by decide) i j k⟩
theorem Sat.blkX {w : World} {b : Nat} {o : Obj} (i : Nat) (hb : w.heap[b]? = some o) : Sat w [b] [(i, .blk b o)] [] w :=
  .start w _ _ _ (fun h e hh => by obtain ⟨rfl, rfl⟩ := lk_one hh; exact hb) (fun h e hh b' hb' => by obtain ⟨rfl, rfl⟩ := lk_one hh; exact hb')
    (fun h e h' e' hh hh' hne => by obtain ⟨rfl, rfl⟩ := lk_one hh; obtain ⟨rfl, rfl⟩ := lk_one hh'; exact absurd rfl hne) (fun _ _ h => (lk_nil h).elim) (fun _ _ _ _ h => (lk_nil h).elim)
theorem Sat.readb {w0 w : World} {X : List Nat} {b i : Nat} {o : Obj} {F : List (Nat × FE)} (sw : Sat w0 X [(i, .blk b o)] F w) (j : Nat) {f : FE} (hf : f.holds w) (ho : f.off b) : Sat w0 X [(i, .blk b o)] ((j, f) :: F) w :=
  sw.read j hf fun h' e hh b' hb' => by
    obtain ⟨rfl, rfl⟩ := lk_one hh
    obtain rfl := mem_one hb'
    exact ho
theorem Sat.own_off {w0 w : World} {X : List Nat} {H : List (Nat × Ent)} {F : List (Nat × FE)} (sw : Sat w0 X H F w) {h h' b T sz : Nat} {v : Value} {l : List Value} {o : Obj} (hh : lk H h = some (.blk b o)) (hv : lk H h' = some (.own v T sz l)) (hne : h ≠ h') : FE.off b (.sl v sz l) :=
  .inr fun hb => sw.apart h _ h' _ hh hv hne b (by simp [Ent.ids]) hb
/-- what one written block stands for -/
theorem mod_blk3 {H : List (Nat × Ent)} {ι : Type} {k b j m : Nat} {o : Obj} {e' e2 e3 : ι → Ent} (hh : lk H k = some (.blk b o)) : ∀ b', b' ∈ [b] → ∃ k' e, lk H k' = some e ∧ b' ∈ e.ids ∧ ∀ x, lk [(k, e' x), (j, e2 x), (m, e3 x)] k' ≠ none :=
  fun b' hb => ⟨k, _, hh, by simpa [Ent.ids] using hb, fun x => by simp [lk_cons_same]⟩
theorem own_shape {w : World} {v : Value} {T sz : Nat} {l : List Value} (h : Own w v T sz l) : v.cells = #[v] ∧ v.oneCell' = true := by
  rcases h with ⟨rfl, _⟩ | ⟨b, len, cap, junk, rfl, _⟩ <;> exact ⟨rfl, rfl⟩
theorem at_own_shape {K : Act → World → Prop} {E : Env} {L : List (Nat × Value)} {H : List (Nat × Ent)} {F : List (Nat × FE)} {h T sz : Nat} {v : Value} {l : List Value} (hh : lk H h = some (.own v T sz l)) (k : v.cells = #[v] ∧ v.oneCell' = true → At K E L H F) : At K E L H F :=
  fun a w fa sw => k (own_shape (sw.hold _ _ hh)) a w fa sw
theorem rd_shape {w : World} {v : Value} {sz : Nat} {l : List Value} (h : Rd w v sz l) : v.cells = #[v] ∧ v.oneCell' = true := by
  obtain ⟨a, len, cap, rfl, _⟩ := h
  exact ⟨rfl, rfl⟩
end Go.Proofs.Yteedclmcgifmpaa.Fw

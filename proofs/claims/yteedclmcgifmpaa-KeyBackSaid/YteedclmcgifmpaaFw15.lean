/- Two operations that may go in either order, and meet. -/
import Derived.Test.YteedclmcgifmpaaFw14
namespace Go.Proofs.Yteedclmcgifmpaa.Fw
open Go Go.RowKit Go.Proofs.Yteedclmcgifmpaa
set_option linter.unusedSimpArgs false
set_option linter.unusedVariables false
section
variable {P : Program} {ops : Array Oper} {E : Env} {L L' : List (Nat × Value)} {H H' : List (Nat × Ent)} {F F' F0 : List (Nat × FE)} {K K' : Act → World → Prop}
def Mid (F0 : List (Nat × FE)) (K : Act → World → Prop) : Act → World → Prop := fun a w => CF F0 w ∧ K a w
theorem at_mid (hF : Sub F0 F) (h : At K E L H F) : At (Mid F0 K) E L H F := fun a w fa sw => ⟨sw.cf hF, h a w fa sw⟩
def One (E : Env) (L : List (Nat × Value)) (H : List (Nat × Ent)) (F : List (Nat × FE)) : Act → World → Prop := fun a w => Fits E.n L a ∧ Sat E.w0 E.X H F w
theorem mx_dia {f i j : Nat} {listed : Array Bool} (hr : Region.ready .any ops listed = [i, j]) (hri : Region.ready .any ops (listed.setIfInBounds i true) = [j]) (hrj : Region.ready .any ops (listed.setIfInBounds j true) = [i]) (hF : Sub F0 F)
    (h1 : At (wpOp P ops bot i (Mid F0 (wpOp P ops bot j K'))) E L H F) (h2 : At (wpOp P ops bot j (Mid F0 (wpOp P ops bot i K'))) E L H F)
    (h : ∀ a w, K' a w → wpC P ops (CF F0) K f ((listed.setIfInBounds i true).setIfInBounds j true) a w) : At (wpC P ops (CF F0) K (f + 2) listed) E L H F := by
  by_cases hij : i = j
  · subst hij
    refine mx_step hr hF fun k hk => ?_
    obtain rfl : k = i := by rcases List.mem_cons.1 hk with h | h <;> simpa using h
    intro a w fa sw
    refine wpOp_mono (fun a' w' h3 => ?_) (h1 a w fa sw)
    exact ⟨h3.1, by rw [hri]; simp, fun j' hj' => by
      rw [hri] at hj'
      obtain rfl : j' = k := by simpa using hj'
      exact wpOp_mono (fun a'' w'' h4 => h a'' w'' h4) h3.2⟩
  refine mx_step hr hF fun k hk => ?_
  rcases List.mem_cons.1 hk with rfl | hk
  · intro a w fa sw
    refine wpOp_mono (fun a' w' h3 => ?_) (h1 a w fa sw)
    exact ⟨h3.1, by rw [hri]; simp, fun j' hj' => by
      rw [hri] at hj'
      obtain rfl : j' = j := by simpa using hj'
      exact wpOp_mono (fun a'' w'' h4 => h a'' w'' h4) h3.2⟩
  · obtain rfl : k = j := by simpa using hk
    intro a w fa sw
    refine wpOp_mono (fun a' w' h3 => ?_) (h2 a w fa sw)
    exact ⟨h3.1, by rw [hrj]; simp, fun j' hj' => by
      rw [hrj] at hj'
      obtain rfl : j' = i := by simpa using hj'
      refine wpOp_mono (fun a'' w'' h4 => ?_) h3.2
      have := h a'' w'' h4
      rwa [Array.setIfInBounds_comm _ _ hij] at this⟩
theorem mx_dia0 {f i j : Nat} {listed : Array Bool} (hr : Region.ready .any ops listed = [i, j]) (hri : Region.ready .any ops (listed.setIfInBounds i true) = [j]) (hrj : Region.ready .any ops (listed.setIfInBounds j true) = [i]) (hF : Sub F0 F)
    (h1 : At (wpOp P ops bot i (Mid F0 (wpOp P ops bot j (One E L' H' F)))) E L H F) (h2 : At (wpOp P ops bot j (Mid F0 (wpOp P ops bot i (One E L' H' F)))) E L H F)
    (h : At (wpC P ops (CF F0) K f ((listed.setIfInBounds i true).setIfInBounds j true)) E L' H' F) : At (wpC P ops (CF F0) K (f + 2) listed) E L H F :=
  mx_dia hr hri hrj hF h1 h2 fun a w hk => h a w hk.1 hk.2
theorem mx_dia1 {f i j : Nat} {listed : Array Bool} {Ls : Value → List (Nat × Value)} {Hs : Value → List (Nat × Ent)} (hr : Region.ready .any ops listed = [i, j]) (hri : Region.ready .any ops (listed.setIfInBounds i true) = [j]) (hrj : Region.ready .any ops (listed.setIfInBounds j true) = [i]) (hF : Sub F0 F)
    (h1 : At (wpOp P ops bot i (Mid F0 (wpOp P ops bot j (fun a w => ∃ x, One E (Ls x) (Hs x) F a w)))) E L H F) (h2 : At (wpOp P ops bot j (Mid F0 (wpOp P ops bot i (fun a w => ∃ x, One E (Ls x) (Hs x) F a w)))) E L H F)
    (h : ∀ x, At (wpC P ops (CF F0) K f ((listed.setIfInBounds i true).setIfInBounds j true)) E (Ls x) (Hs x) F) : At (wpC P ops (CF F0) K (f + 2) listed) E L H F :=
  mx_dia hr hri hrj hF h1 h2 fun a w ⟨x, hk⟩ => h x a w hk.1 hk.2
theorem mx_dia2 {f i j : Nat} {listed : Array Bool} {Ls : Value → Value → List (Nat × Value)} {Hs : Value → Value → List (Nat × Ent)} (hr : Region.ready .any ops listed = [i, j]) (hri : Region.ready .any ops (listed.setIfInBounds i true) = [j]) (hrj : Region.ready .any ops (listed.setIfInBounds j true) = [i]) (hF : Sub F0 F)
    (h1 : At (wpOp P ops bot i (Mid F0 (wpOp P ops bot j (fun a w => ∃ x y, One E (Ls x y) (Hs x y) F a w)))) E L H F) (h2 : At (wpOp P ops bot j (Mid F0 (wpOp P ops bot i (fun a w => ∃ x y, One E (Ls x y) (Hs x y) F a w)))) E L H F)
    (h : ∀ x y, At (wpC P ops (CF F0) K f ((listed.setIfInBounds i true).setIfInBounds j true)) E (Ls x y) (Hs x y) F) : At (wpC P ops (CF F0) K (f + 2) listed) E L H F :=
  mx_dia hr hri hrj hF h1 h2 fun a w ⟨x, y, hk⟩ => h x y a w hk.1 hk.2
end
end Go.Proofs.Yteedclmcgifmpaa.Fw

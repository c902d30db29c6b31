/- The rows' steps. -/
import Derived.Test.YteedclmcgifmpaaRows
import Derived.Test.YteedclmcgifmpaaFw10
import Derived.Test.YteedclmcgifmpaaK4
import Derived.Test.YteedclmcgifmpaaFw13
namespace Go.Proofs.Yteedclmcgifmpaa
open Go Go.ChangeShapes Go.WideShapes Go.ChangeAt Go.RowKit Fw
set_option linter.unusedVariables false
theorem laid : laidOutB Try.prog = true := by kernel_rfl

namespace keyOfNothing
theorem own : ownKnob Try.prog.godebug = none := by kernel_rfl
set_option maxRecDepth 100000 in
theorem lifted (os : Os) (started : os.Started) (H : Type) (enc : TypeId × Value → H) :
    ReturnsInHanded {} Try.checked os 8 .any (Rows.keyOfNothingSpec.pre6 enc Try.prog Try.f8 Rows.keyOfNothingRow.domain false) (Rows.keyOfNothingSpec.post enc Try.prog Try.f8 false true false false) := by
  refine returnsInHanded_of_change_sized (C := Try.checked) own started (by kernel_rfl) Try.func8
    (ChangeSpec.witness6 (enc := enc) (C := Try.checked) false ⟨#[], #[.slice none 0 0], []⟩ 8 (by kernel_rfl) (by kernel_rfl) (by kernel_rfl) (by kernel_rfl)) ?_
  intro W base args ds gs before hval0 hW hcnd hsz _
  have hval : ∀ (j : Nat) t v, Try.f8.params[j]? = some t → args[j]? = some v → Value.okWide Try.prog W .any base t v := hval0
  have hW' := hW
  obtain ⟨p, q, hA0, hV, rfl, hfz, hnd⟩ := hW
  have hA : DataW.TrodAll enc Try.prog W 0 (fun _ => true) true Try.f8.params.toList args.toList ds p := hA0
  have hk := hA
  have hlt : ∀ x ∈ p, x.block < W.heap.size := fun x hx => hW'.lt x (List.mem_append.2 (.inl hx))
  rw [Try.params8] at hA hval hk
  obtain ⟨v0, vs0, d0, ds0, p0, q0, hargs, rfl, rfl, h0, r0⟩ := trodAll_cons hA
  obtain ⟨rfl, rfl, rfl⟩ := trodAll_nil r0
  obtain rfl : args = #[v0] := by cases args; simp_all
  obtain ⟨rfl, rfl⟩ := trodVars_none hV
  obtain ⟨l0, rd0, m0, b0⟩ := rd_ints Try.underlying22 Try.underlying5 (by kernel_rfl) (hval 0 22 v0 rfl rfl) h0 (light_of (j := 0) hsz rfl rfl)
  have len0 : l0.length ≤ 140737488351232 := by
    have h := m0
    rw [show Try.prog.bytesOf 5 = 1 from by kernel_rfl] at h
    have hr : reachBytes = 140737488351232 := rfl
    omega
  refine (keyOfNothing_any v0 l0 W len0 rd0).mono fun e W' ⟨he, g⟩ => ?_
  subst he
  have bel := g.below
  exact ⟨_, rfl, _, _, _, [], _, [], hW', trodAll_mk1 (shut_bool Try.underlying4 _), all_below laid bel _ _ _ _ (all_rows (by kernel_rfl)) hk hlt (fun x hx => by simpa using hlt x hx), rfl, bel.frame _, fun h => by cases h⟩
theorem over : Rows.keyOfNothingRow.holds Try.pinned (OpenSpec.ofChange Rows.keyOfNothingSpec) :=
  OpenClaim.holds_of_wide 8 Try.f8 rfl rfl rfl rfl rfl rfl rfl ⟨rfl, rfl, rfl, rfl, rfl⟩ rfl rfl rfl rfl rfl (by kernel_rfl) Try.func8 (by kernel_rfl)
    (of_decide_eq_true (by kernel_rfl)) (by unfold Func.isWrapper; first | (rw [if_pos (by decide +kernel)]; kernel_rfl) | (rw [if_neg (by decide +kernel)]; exact ⟨rfl, rfl⟩))
    (fun os started H enc _ => lifted os started H enc)
/-- The statement. -/
theorem proved : Rows.KeyOfNothingSaid := over
end keyOfNothing

namespace keyFrom
theorem own : ownKnob Try.prog.godebug = none := by kernel_rfl
set_option maxRecDepth 100000 in
theorem lifted (os : Os) (started : os.Started) (H : Type) (enc : TypeId × Value → H) :
    ReturnsInHanded {} Try.checked os 9 .any (Rows.keyFromSpec.pre6 enc Try.prog Try.f9 Rows.keyFromRow.domain false) (Rows.keyFromSpec.post enc Try.prog Try.f9 false true false false) := by
  refine returnsInHanded_of_change_sized (C := Try.checked) own started (by kernel_rfl) Try.func9
    (ChangeSpec.witness6 (enc := enc) (C := Try.checked) false ⟨#[], #[.agg #[.int .u8 0, .int .u8 0, .int .u8 0, .int .u8 0, .int .u8 0, .int .u8 0, .int .u8 0, .int .u8 0, .int .u8 0, .int .u8 0, .int .u8 0, .int .u8 0, .int .u8 0, .int .u8 0, .int .u8 0, .int .u8 0, .int .u8 0, .int .u8 0, .int .u8 0, .int .u8 0, .int .u8 0, .int .u8 0, .int .u8 0, .int .u8 0, .int .u8 0, .int .u8 0, .int .u8 0, .int .u8 0, .int .u8 0, .int .u8 0, .int .u8 0, .int .u8 0], .int .i64 0, .slice none 0 0], []⟩ 8 (by kernel_rfl) (by kernel_rfl) (by kernel_rfl) (by kernel_rfl)) ?_
  intro W base args ds gs before hval0 hW hcnd hsz _
  have hval : ∀ (j : Nat) t v, Try.f9.params[j]? = some t → args[j]? = some v → Value.okWide Try.prog W .any base t v := hval0
  have hW' := hW
  obtain ⟨p, q, hA0, hV, rfl, hfz, hnd⟩ := hW
  have hA : DataW.TrodAll enc Try.prog W 0 (fun _ => true) true Try.f9.params.toList args.toList ds p := hA0
  have hk := hA
  have hlt : ∀ x ∈ p, x.block < W.heap.size := fun x hx => hW'.lt x (List.mem_append.2 (.inl hx))
  rw [Try.params9] at hA hval hk
  obtain ⟨v0, vs0, d0, ds0, p0, q0, hargs, rfl, rfl, h0, r0⟩ := trodAll_cons hA
  obtain ⟨v1, vs1, d1, ds1, p1, q1, rfl, rfl, rfl, h1, r1⟩ := trodAll_cons r0
  obtain ⟨v2, vs2, d2, ds2, p2, q2, rfl, rfl, rfl, h2, r2⟩ := trodAll_cons r1
  obtain ⟨rfl, rfl, rfl⟩ := trodAll_nil r2
  obtain rfl : args = #[v0, v1, v2] := by cases args; simp_all
  obtain ⟨rfl, rfl⟩ := trodVars_none hV
  obtain ⟨l0, rfl, m0, b0⟩ := open_arr Try.underlying39 Try.underlying5 (by kernel_rfl) (by kernel_rfl) (hval 0 39 v0 rfl rfl) h0 (light_of (j := 0) hsz rfl rfl)
  obtain ⟨a1, rfl, _, _, w1⟩ := open_int Try.underlying3 (hval 1 3 v1 rfl rfl) h1
  obtain ⟨l2, rd2, m2, b2⟩ := rd_ints Try.underlying22 Try.underlying5 (by kernel_rfl) (hval 2 22 v2 rfl rfl) h2 (light_of (j := 2) hsz rfl rfl)
  have len2 : l2.length ≤ 140737488351232 := by
    have h := m2
    rw [show Try.prog.bytesOf 5 = 1 from by kernel_rfl] at h
    have hr : reachBytes = 140737488351232 := rfl
    omega
  refine (keyFrom_any l0 a1 v2 l2 W m0 len2 rd2).mono fun e W' ⟨he, g⟩ => ?_
  subst he
  have bel := g.below
  exact ⟨_, rfl, _, _, _, [], _, [], hW', trodAll_mk1 (shut_bool Try.underlying4 _), all_below laid bel _ _ _ _ (all_rows (by kernel_rfl)) hk hlt (fun x hx => by simpa using hlt x hx), rfl, bel.frame _, fun h => by cases h⟩
theorem over : Rows.keyFromRow.holds Try.pinned (OpenSpec.ofChange Rows.keyFromSpec) :=
  OpenClaim.holds_of_wide 9 Try.f9 rfl rfl rfl rfl rfl rfl rfl ⟨rfl, rfl, rfl, rfl, rfl⟩ rfl rfl rfl rfl rfl (by kernel_rfl) Try.func9 (by kernel_rfl)
    (of_decide_eq_true (by kernel_rfl)) (by unfold Func.isWrapper; first | (rw [if_pos (by decide +kernel)]; kernel_rfl) | (rw [if_neg (by decide +kernel)]; exact ⟨rfl, rfl⟩))
    (fun os started H enc _ => lifted os started H enc)
/-- The statement. -/
theorem proved : Rows.KeyFromSaid := over
end keyFrom

namespace keyTurned
theorem own : ownKnob Try.prog.godebug = none := by kernel_rfl
set_option maxRecDepth 100000 in
theorem lifted (os : Os) (started : os.Started) (H : Type) (enc : TypeId × Value → H) :
    ReturnsInHanded {} Try.checked os 10 .any (Rows.keyTurnedSpec.pre6 enc Try.prog Try.f10 Rows.keyTurnedRow.domain false) (Rows.keyTurnedSpec.post enc Try.prog Try.f10 false true false false) := by
  refine returnsInHanded_of_change_sized (C := Try.checked) own started (by kernel_rfl) Try.func10
    (ChangeSpec.witness6 (enc := enc) (C := Try.checked) false ⟨#[], #[.agg #[.int .u8 0, .int .u8 0, .int .u8 0, .int .u8 0, .int .u8 0, .int .u8 0, .int .u8 0, .int .u8 0, .int .u8 0, .int .u8 0, .int .u8 0, .int .u8 0, .int .u8 0, .int .u8 0, .int .u8 0, .int .u8 0, .int .u8 0, .int .u8 0, .int .u8 0, .int .u8 0, .int .u8 0, .int .u8 0, .int .u8 0, .int .u8 0, .int .u8 0, .int .u8 0, .int .u8 0, .int .u8 0, .int .u8 0, .int .u8 0, .int .u8 0, .int .u8 0], .slice none 0 0, .int .i64 0, .int .i64 0, .int .u8 0], []⟩ 8 (by kernel_rfl) (by kernel_rfl) (by kernel_rfl) (by kernel_rfl)) ?_
  intro W base args ds gs before hval0 hW hcnd hsz _
  have hval : ∀ (j : Nat) t v, Try.f10.params[j]? = some t → args[j]? = some v → Value.okWide Try.prog W .any base t v := hval0
  have hW' := hW
  obtain ⟨p, q, hA0, hV, rfl, hfz, hnd⟩ := hW
  have hA : DataW.TrodAll enc Try.prog W 0 (fun _ => true) true Try.f10.params.toList args.toList ds p := hA0
  have hk := hA
  have hlt : ∀ x ∈ p, x.block < W.heap.size := fun x hx => hW'.lt x (List.mem_append.2 (.inl hx))
  rw [Try.params10] at hA hval hk
  obtain ⟨v0, vs0, d0, ds0, p0, q0, hargs, rfl, rfl, h0, r0⟩ := trodAll_cons hA
  obtain ⟨v1, vs1, d1, ds1, p1, q1, rfl, rfl, rfl, h1, r1⟩ := trodAll_cons r0
  obtain ⟨v2, vs2, d2, ds2, p2, q2, rfl, rfl, rfl, h2, r2⟩ := trodAll_cons r1
  obtain ⟨v3, vs3, d3, ds3, p3, q3, rfl, rfl, rfl, h3, r3⟩ := trodAll_cons r2
  obtain ⟨v4, vs4, d4, ds4, p4, q4, rfl, rfl, rfl, h4, r4⟩ := trodAll_cons r3
  obtain ⟨rfl, rfl, rfl⟩ := trodAll_nil r4
  obtain rfl : args = #[v0, v1, v2, v3, v4] := by cases args; simp_all
  obtain ⟨rfl, rfl⟩ := trodVars_none hV
  obtain ⟨l0, rfl, m0, b0⟩ := open_arr Try.underlying39 Try.underlying5 (by kernel_rfl) (by kernel_rfl) (hval 0 39 v0 rfl rfl) h0 (light_of (j := 0) hsz rfl rfl)
  obtain ⟨l1, rd1, m1, b1⟩ := rd_ints Try.underlying22 Try.underlying5 (by kernel_rfl) (hval 1 22 v1 rfl rfl) h1 (light_of (j := 1) hsz rfl rfl)
  have len1 : l1.length ≤ 140737488351232 := by
    have h := m1
    rw [show Try.prog.bytesOf 5 = 1 from by kernel_rfl] at h
    have hr : reachBytes = 140737488351232 := rfl
    omega
  obtain ⟨a2, rfl, _, _, w2⟩ := open_int Try.underlying3 (hval 2 3 v2 rfl rfl) h2
  obtain ⟨a3, rfl, _, _, w3⟩ := open_int Try.underlying3 (hval 3 3 v3 rfl rfl) h3
  obtain ⟨a4, rfl, _, _, w4⟩ := open_int Try.underlying5 (hval 4 5 v4 rfl rfl) h4
  refine (keyTurned_any l0 v1 l1 a2 a3 a4 W m0 len1 rd1).mono fun e W' ⟨he, g⟩ => ?_
  subst he
  have bel := g.below
  exact ⟨_, rfl, _, _, _, [], _, [], hW', trodAll_mk1 (shut_bool Try.underlying4 _), all_below laid bel _ _ _ _ (all_rows (by kernel_rfl)) hk hlt (fun x hx => by simpa using hlt x hx), rfl, bel.frame _, fun h => by cases h⟩
theorem over : Rows.keyTurnedRow.holds Try.pinned (OpenSpec.ofChange Rows.keyTurnedSpec) :=
  OpenClaim.holds_of_wide 10 Try.f10 rfl rfl rfl rfl rfl rfl rfl ⟨rfl, rfl, rfl, rfl, rfl⟩ rfl rfl rfl rfl rfl (by kernel_rfl) Try.func10 (by kernel_rfl)
    (of_decide_eq_true (by kernel_rfl)) (by unfold Func.isWrapper; first | (rw [if_pos (by decide +kernel)]; kernel_rfl) | (rw [if_neg (by decide +kernel)]; exact ⟨rfl, rfl⟩))
    (fun os started H enc _ => lifted os started H enc)
/-- The statement. -/
theorem proved : Rows.KeyTurnedSaid := over
end keyTurned

namespace keyVerifies
theorem own : ownKnob Try.prog.godebug = none := by kernel_rfl
set_option maxRecDepth 100000 in
theorem lifted (os : Os) (started : os.Started) (H : Type) (enc : TypeId × Value → H) :
    ReturnsInHanded {} Try.checked os 11 .any (Rows.keyVerifiesSpec.pre6 enc Try.prog Try.f11 Rows.keyVerifiesRow.domain false) (Rows.keyVerifiesSpec.post enc Try.prog Try.f11 false true false false) := by
  refine returnsInHanded_of_change_sized (C := Try.checked) own started (by kernel_rfl) Try.func11
    (ChangeSpec.witness6 (enc := enc) (C := Try.checked) false ⟨#[], #[.agg #[.int .u8 0, .int .u8 0, .int .u8 0, .int .u8 0, .int .u8 0, .int .u8 0, .int .u8 0, .int .u8 0, .int .u8 0, .int .u8 0, .int .u8 0, .int .u8 0, .int .u8 0, .int .u8 0, .int .u8 0, .int .u8 0, .int .u8 0, .int .u8 0, .int .u8 0, .int .u8 0, .int .u8 0, .int .u8 0, .int .u8 0, .int .u8 0, .int .u8 0, .int .u8 0, .int .u8 0, .int .u8 0, .int .u8 0, .int .u8 0, .int .u8 0, .int .u8 0], .slice none 0 0, .agg #[.int .i64 0, .slice none 0 0, .slice none 0 0], .agg #[.int .i64 0, .slice none 0 0, .slice none 0 0]], []⟩ 8 (by kernel_rfl) (by kernel_rfl) (by kernel_rfl) (by kernel_rfl)) ?_
  intro W base args ds gs before hval0 hW hcnd hsz _
  have hval : ∀ (j : Nat) t v, Try.f11.params[j]? = some t → args[j]? = some v → Value.okWide Try.prog W .any base t v := hval0
  have hW' := hW
  obtain ⟨p, q, hA0, hV, rfl, hfz, hnd⟩ := hW
  have hA : DataW.TrodAll enc Try.prog W 0 (fun _ => true) true Try.f11.params.toList args.toList ds p := hA0
  have hk := hA
  have hlt : ∀ x ∈ p, x.block < W.heap.size := fun x hx => hW'.lt x (List.mem_append.2 (.inl hx))
  rw [Try.params11] at hA hval hk
  obtain ⟨v0, vs0, d0, ds0, p0, q0, hargs, rfl, rfl, h0, r0⟩ := trodAll_cons hA
  obtain ⟨v1, vs1, d1, ds1, p1, q1, rfl, rfl, rfl, h1, r1⟩ := trodAll_cons r0
  obtain ⟨v2, vs2, d2, ds2, p2, q2, rfl, rfl, rfl, h2, r2⟩ := trodAll_cons r1
  obtain ⟨v3, vs3, d3, ds3, p3, q3, rfl, rfl, rfl, h3, r3⟩ := trodAll_cons r2
  obtain ⟨rfl, rfl, rfl⟩ := trodAll_nil r3
  obtain rfl : args = #[v0, v1, v2, v3] := by cases args; simp_all
  obtain ⟨rfl, rfl⟩ := trodVars_none hV
  obtain ⟨l0, rfl, m0, b0⟩ := open_arr Try.underlying39 Try.underlying5 (by kernel_rfl) (by kernel_rfl) (hval 0 39 v0 rfl rfl) h0 (light_of (j := 0) hsz rfl rfl)
  obtain ⟨l1, rd1, m1, b1⟩ := rd_ints Try.underlying22 Try.underlying5 (by kernel_rfl) (hval 1 22 v1 rfl rfl) h1 (light_of (j := 1) hsz rfl rfl)
  have len1 : l1.length ≤ 140737488351232 := by
    have h := m1
    rw [show Try.prog.bytesOf 5 = 1 from by kernel_rfl] at h
    have hr : reachBytes = 140737488351232 := rfl
    omega
  obtain ⟨cs2, rfl, hl2, ho2, hf2⟩ := open_struct Try.underlying42 (hval 2 42 v2 rfl rfl) h2 (light_of (j := 2) hsz rfl rfl)
  obtain ⟨c20, c21, c22, rfl⟩ := three (hl2.trans (by kernel_rfl))
  have t20 : Tr enc Try.prog W 3 (([c20, c21, c22].drop 0).take (Try.prog.cellsOf 3)) := hf2 0 _ rfl
  have t21 : Tr enc Try.prog W 26 (([c20, c21, c22].drop 1).take (Try.prog.cellsOf 26)) := hf2 1 _ rfl
  have t22 : Tr enc Try.prog W 26 (([c20, c21, c22].drop 2).take (Try.prog.cellsOf 26)) := hf2 2 _ rfl
  rw [show Try.prog.cellsOf 3 = 1 from by kernel_rfl] at t20
  rw [show Try.prog.cellsOf 26 = 1 from by kernel_rfl] at t21 t22
  obtain ⟨n2, hn2, wn2⟩ := tr_int Try.underlying3 t20
  obtain rfl : c20 = .int .i64 n2 := (List.cons.inj hn2).1
  obtain ⟨hs2a, rd2a, hu2a, m2a, b2a⟩ := rd_hashes Try.underlying26 Try.underlying39 Try.underlying5 (by kernel_rfl) (by kernel_rfl) (ok_field (ts := [3, 26, 26]) (i := 1) ho2 (by kernel_rfl) rfl rfl Try.underlying26) t21
  have len2a : hs2a.length ≤ 4398046511104 := by
    have h := m2a
    rw [show Try.prog.bytesOf 39 = 32 from by kernel_rfl] at h
    have hr : reachBytes = 140737488351232 := rfl
    omega
  obtain ⟨hs2b, rd2b, hu2b, m2b, b2b⟩ := rd_hashes Try.underlying26 Try.underlying39 Try.underlying5 (by kernel_rfl) (by kernel_rfl) (ok_field (ts := [3, 26, 26]) (i := 2) ho2 (by kernel_rfl) rfl rfl Try.underlying26) t22
  have len2b : hs2b.length ≤ 4398046511104 := by
    have h := m2b
    rw [show Try.prog.bytesOf 39 = 32 from by kernel_rfl] at h
    have hr : reachBytes = 140737488351232 := rfl
    omega
  obtain ⟨cs3, rfl, hl3, ho3, hf3⟩ := open_struct Try.underlying42 (hval 3 42 v3 rfl rfl) h3 (light_of (j := 3) hsz rfl rfl)
  obtain ⟨c30, c31, c32, rfl⟩ := three (hl3.trans (by kernel_rfl))
  have t30 : Tr enc Try.prog W 3 (([c30, c31, c32].drop 0).take (Try.prog.cellsOf 3)) := hf3 0 _ rfl
  have t31 : Tr enc Try.prog W 26 (([c30, c31, c32].drop 1).take (Try.prog.cellsOf 26)) := hf3 1 _ rfl
  have t32 : Tr enc Try.prog W 26 (([c30, c31, c32].drop 2).take (Try.prog.cellsOf 26)) := hf3 2 _ rfl
  rw [show Try.prog.cellsOf 3 = 1 from by kernel_rfl] at t30
  rw [show Try.prog.cellsOf 26 = 1 from by kernel_rfl] at t31 t32
  obtain ⟨n3, hn3, wn3⟩ := tr_int Try.underlying3 t30
  obtain rfl : c30 = .int .i64 n3 := (List.cons.inj hn3).1
  obtain ⟨hs3a, rd3a, hu3a, m3a, b3a⟩ := rd_hashes Try.underlying26 Try.underlying39 Try.underlying5 (by kernel_rfl) (by kernel_rfl) (ok_field (ts := [3, 26, 26]) (i := 1) ho3 (by kernel_rfl) rfl rfl Try.underlying26) t31
  have len3a : hs3a.length ≤ 4398046511104 := by
    have h := m3a
    rw [show Try.prog.bytesOf 39 = 32 from by kernel_rfl] at h
    have hr : reachBytes = 140737488351232 := rfl
    omega
  obtain ⟨hs3b, rd3b, hu3b, m3b, b3b⟩ := rd_hashes Try.underlying26 Try.underlying39 Try.underlying5 (by kernel_rfl) (by kernel_rfl) (ok_field (ts := [3, 26, 26]) (i := 2) ho3 (by kernel_rfl) rfl rfl Try.underlying26) t32
  have len3b : hs3b.length ≤ 4398046511104 := by
    have h := m3b
    rw [show Try.prog.bytesOf 39 = 32 from by kernel_rfl] at h
    have hr : reachBytes = 140737488351232 := rfl
    omega
  refine (keyVerifies_any l0 v1 l1 n2 n3 c21 c22 c31 c32 hs2a hs2b hs3a hs3b W m0 len1 hu2a hu2b hu3a hu3b len2a len2b len3a len3b rd1 rd2a rd2b rd3a rd3b).mono fun e W' ⟨he, g⟩ => ?_
  subst he
  have bel := g.below
  exact ⟨_, rfl, _, _, _, [], _, [], hW', trodAll_mk1 (shut_bool Try.underlying4 _), all_below laid bel _ _ _ _ (all_rows (by kernel_rfl)) hk hlt (fun x hx => by simpa using hlt x hx), rfl, bel.frame _, fun h => by cases h⟩
theorem over : Rows.keyVerifiesRow.holds Try.pinned (OpenSpec.ofChange Rows.keyVerifiesSpec) :=
  OpenClaim.holds_of_wide 11 Try.f11 rfl rfl rfl rfl rfl rfl rfl ⟨rfl, rfl, rfl, rfl, rfl⟩ rfl rfl rfl rfl rfl (by kernel_rfl) Try.func11 (by kernel_rfl)
    (of_decide_eq_true (by kernel_rfl)) (by unfold Func.isWrapper; first | (rw [if_pos (by decide +kernel)]; kernel_rfl) | (rw [if_neg (by decide +kernel)]; exact ⟨rfl, rfl⟩))
    (fun os started H enc _ => lifted os started H enc)
/-- The statement. -/
theorem proved : Rows.KeyVerifiesSaid := over
end keyVerifies
end Go.Proofs.Yteedclmcgifmpaa

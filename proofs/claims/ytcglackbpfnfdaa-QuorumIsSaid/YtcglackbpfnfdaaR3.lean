/- The rows' steps. -/
import Derived.Test.YtcglackbpfnfdaaRows
import Derived.Test.YtcglackbpfnfdaaFw10
import Derived.Test.YtcglackbpfnfdaaFw13
import Derived.Test.YtcglackbpfnfdaaD9
namespace Go.Proofs.Ytcglackbpfnfdaa
open Go Go.ChangeShapes Go.WideShapes Go.ChangeAt Go.RowKit Fw
set_option linter.unusedVariables false
theorem laid : laidOutB Try.prog = true := by kernel_rfl

namespace quorumIs
theorem own : ownKnob Try.prog.godebug = none := by kernel_rfl
set_option maxRecDepth 100000 in
theorem lifted (os : Os) (started : os.Started) (H : Type) (enc : TypeId × Value → H) :
    ReturnsInHanded {} Try.checked os 4 .any (Rows.quorumIsSpec.pre6 enc Try.prog Try.f4 Rows.quorumIsRow.domain false) (Rows.quorumIsSpec.post enc Try.prog Try.f4 false true false false) := by
  refine returnsInHanded_of_change_sized (C := Try.checked) own started (by kernel_rfl) Try.func4
    (ChangeSpec.witness6 (enc := enc) (C := Try.checked) false ⟨#[], #[.agg #[.slice none 0 0, .int .i64 0]], []⟩ 8 (by kernel_rfl) (by kernel_rfl) (by kernel_rfl) (by kernel_rfl)) ?_
  intro W base args ds gs before hval0 hW hcnd hsz _
  have hval : ∀ (j : Nat) t v, Try.f4.params[j]? = some t → args[j]? = some v → Value.okWide Try.prog W .any base t v := hval0
  have hW' := hW
  obtain ⟨p, q, hA0, hV, rfl, hfz, hnd⟩ := hW
  have hA : DataW.TrodAll enc Try.prog W 0 (fun _ => true) true Try.f4.params.toList args.toList ds p := hA0
  have hk := hA
  have hlt : ∀ x ∈ p, x.block < W.heap.size := fun x hx => hW'.lt x (List.mem_append.2 (.inl hx))
  rw [Try.params4] at hA hval hk
  obtain ⟨v0, vs0, d0, ds0, p0, q0, hargs, rfl, rfl, h0, r0⟩ := trodAll_cons hA
  obtain ⟨rfl, rfl, rfl⟩ := trodAll_nil r0
  obtain rfl : args = #[v0] := by cases args; simp_all
  obtain ⟨rfl, rfl⟩ := trodVars_none hV
  obtain ⟨cs0, rfl, hl0, ho0, hf0⟩ := open_struct Try.underlying24 (hval 0 24 v0 rfl rfl) h0 (light_of (j := 0) hsz rfl rfl)
  obtain ⟨c0, c1, rfl⟩ := two (hl0.trans (by kernel_rfl))
  have t0 : Tr enc Try.prog W 22 (([c0, c1].drop 0).take (Try.prog.cellsOf 22)) := hf0 0 _ rfl
  have t1 : Tr enc Try.prog W 3 (([c0, c1].drop 1).take (Try.prog.cellsOf 3)) := hf0 1 _ rfl
  rw [show Try.prog.cellsOf 22 = 1 from by kernel_rfl] at t0
  rw [show Try.prog.cellsOf 3 = 1 from by kernel_rfl] at t1
  obtain ⟨hs0, rd0, hu0, m0, b0⟩ := rd_hashes Try.underlying22 Try.underlying32 Try.underlying5 (by kernel_rfl) (by kernel_rfl) (ok_field (ts := [22, 3]) (i := 0) ho0 (by kernel_rfl) rfl rfl Try.underlying22) t0
  obtain ⟨n1, hn1, w1⟩ := tr_int Try.underlying3 t1
  obtain rfl : c1 = .int .i64 n1 := (List.cons.inj hn1).1
  have len0 : hs0.length ≤ 1000000000000000 := by
    have h := m0
    rw [show Try.prog.bytesOf 32 = 32 from by kernel_rfl] at h
    have hr : reachBytes = 140737488351232 := rfl
    omega
  refine (quorumIs_any c0 hs0 n1 W hu0 len0 rd0).mono fun e W' ⟨he, g⟩ => ?_
  subst he
  have bel := g.below
  exact ⟨_, rfl, _, _, _, [], _, [], hW', trodAll_mk1 (shut_bool Try.underlying4 _), all_below laid bel _ _ _ _ (all_rows (by kernel_rfl)) hk hlt (fun x hx => by simpa using hlt x hx), rfl, bel.frame _, fun h => by cases h⟩
theorem over : Rows.quorumIsRow.holds Try.pinned (OpenSpec.ofChange Rows.quorumIsSpec) :=
  OpenClaim.holds_of_wide 4 Try.f4 rfl rfl rfl rfl rfl rfl rfl ⟨rfl, rfl, rfl, rfl, rfl⟩ rfl rfl rfl rfl rfl (by kernel_rfl) Try.func4 (by kernel_rfl)
    (of_decide_eq_true (by kernel_rfl)) (by unfold Func.isWrapper; first | (rw [if_pos (by decide +kernel)]; kernel_rfl) | (rw [if_neg (by decide +kernel)]; exact ⟨rfl, rfl⟩))
    (fun os started H enc _ => lifted os started H enc)
/-- The statement. -/
theorem proved : Rows.QuorumIsSaid := over
end quorumIs
end Go.Proofs.Ytcglackbpfnfdaa

/-
  No cell of these rows narrows 'for every input' (looked for: loops, veiled, ifaces, maps, wideKeys, modest, calm, conditions, laid).
  DERIVED. THE GIVEN ROWS OF THIS SEAT. 9 by the template 'for every input the law returns true; each argument reads behind the call as it read before'; 0 by the template 'total and deterministic' (their statements: YtgfnmolbagilmaaTotals.lean).
  GIVEN WITH THE SEED: the statements are not yours to turn. If you find one false, say at which input.
  Laid BY PROGRAM, IN A SANDBOX (cutbox-rows.mjs): the forced cells as the released guide's own fill.sh prints them over the translation 247bfbdd7e1ff782… (all of the seat's roots in one cut). By AI agents, Wed Nov 11 2026. No macro, syntax, notation, axiom, sorry.
-/
import Derived.Test.YtgfnmolbagilmaaChecked
import GoSem.Claim
import GoSem.ClaimJoined
import GoSem.ClaimMapViews
import Derived.JoinedTies
import Derived.KernelRfl
namespace Go.Proofs.Ytgfnmolbagilmaa
/- THE CELL 'sum', in the pinned program and in every row, IS THE sha256 OF THE DUMP (.gsa) THAT YtgfnmolbagilmaaProg.lean LOADS. Nothing in Lean hashes anything: it is a label: what it is worth is what the hold of that sum in a sandbox is worth. -/
noncomputable def Try.pinned : Pinned := { name := "ytgfnmolbagilmaa", sum := "247bfbdd7e1ff7826c706e468c5478d05d759f5e0a4a5eeaa7f06c21ec8a6d5a", checked := Try.checked }
namespace Rows
def none {H : Type} : Left H := { results := [], args := [] }

/-- 'ostlerlaw8.ChainNext': WHATEVER THE INPUT: true; the input reads as it did. -/
def chainNextSpec : ChangeSpec := { name := "chainNext", fn := fun _ => fun
  | [d1, d2, d3] => { results := [.lit (.bool true)], args := [d1, d2, d3] }
  | _ => none }
def chainNextRow : OpenClaim := { program := "ytgfnmolbagilmaa", sum := "247bfbdd7e1ff7826c706e468c5478d05d759f5e0a4a5eeaa7f06c21ec8a6d5a", func := "ostler/ostlerlaw8.ChainNext", spec := "chainNext", unfollowed := true, recurses := true, apart := false }
def ChainNextSaid : Prop := chainNextRow.holds Try.pinned (OpenSpec.ofChange chainNextSpec)

/-- ITS FALSE NEIGHBOUR: 'it returns false'. Refute it at one input. -/
def chainNextWrong : ChangeSpec := { name := "chainNext", fn := fun _ => fun
  | [d1, d2, d3] => { results := [.lit (.bool false)], args := [d1, d2, d3] }
  | _ => none }
def ChainNextWrongFalsely : Prop := chainNextRow.holds Try.pinned (OpenSpec.ofChange chainNextWrong)

/-- 'ostlerlaw8.ChainFollows': WHATEVER THE INPUT: true; the input reads as it did. -/
def chainFollowsSpec : ChangeSpec := { name := "chainFollows", fn := fun _ => fun
  | [d1, d2] => { results := [.lit (.bool true)], args := [d1, d2] }
  | _ => none }
def chainFollowsRow : OpenClaim := { program := "ytgfnmolbagilmaa", sum := "247bfbdd7e1ff7826c706e468c5478d05d759f5e0a4a5eeaa7f06c21ec8a6d5a", func := "ostler/ostlerlaw8.ChainFollows", spec := "chainFollows", unfollowed := true, recurses := true, apart := false }
def ChainFollowsSaid : Prop := chainFollowsRow.holds Try.pinned (OpenSpec.ofChange chainFollowsSpec)

/-- ITS FALSE NEIGHBOUR: 'it returns false'. Refute it at one input. -/
def chainFollowsWrong : ChangeSpec := { name := "chainFollows", fn := fun _ => fun
  | [d1, d2] => { results := [.lit (.bool false)], args := [d1, d2] }
  | _ => none }
def ChainFollowsWrongFalsely : Prop := chainFollowsRow.holds Try.pinned (OpenSpec.ofChange chainFollowsWrong)

/-- 'ostlerlaw8.ChainLinks': WHATEVER THE INPUT: true; the input reads as it did. -/
def chainLinksSpec : ChangeSpec := { name := "chainLinks", fn := fun _ => fun
  | [d1, d2] => { results := [.lit (.bool true)], args := [d1, d2] }
  | _ => none }
def chainLinksRow : OpenClaim := { program := "ytgfnmolbagilmaa", sum := "247bfbdd7e1ff7826c706e468c5478d05d759f5e0a4a5eeaa7f06c21ec8a6d5a", func := "ostler/ostlerlaw8.ChainLinks", spec := "chainLinks", unfollowed := true, recurses := true, apart := false }
def ChainLinksSaid : Prop := chainLinksRow.holds Try.pinned (OpenSpec.ofChange chainLinksSpec)

/-- ITS FALSE NEIGHBOUR: 'it returns false'. Refute it at one input. -/
def chainLinksWrong : ChangeSpec := { name := "chainLinks", fn := fun _ => fun
  | [d1, d2] => { results := [.lit (.bool false)], args := [d1, d2] }
  | _ => none }
def ChainLinksWrongFalsely : Prop := chainLinksRow.holds Try.pinned (OpenSpec.ofChange chainLinksWrong)

/-- 'ostlerlaw8.ChainStays': WHATEVER THE INPUT: true; the input reads as it did. -/
def chainStaysSpec : ChangeSpec := { name := "chainStays", fn := fun _ => fun
  | [d1, d2] => { results := [.lit (.bool true)], args := [d1, d2] }
  | _ => none }
def chainStaysRow : OpenClaim := { program := "ytgfnmolbagilmaa", sum := "247bfbdd7e1ff7826c706e468c5478d05d759f5e0a4a5eeaa7f06c21ec8a6d5a", func := "ostler/ostlerlaw8.ChainStays", spec := "chainStays", unfollowed := true, recurses := true, apart := false }
def ChainStaysSaid : Prop := chainStaysRow.holds Try.pinned (OpenSpec.ofChange chainStaysSpec)

/-- ITS FALSE NEIGHBOUR: 'it returns false'. Refute it at one input. -/
def chainStaysWrong : ChangeSpec := { name := "chainStays", fn := fun _ => fun
  | [d1, d2] => { results := [.lit (.bool false)], args := [d1, d2] }
  | _ => none }
def ChainStaysWrongFalsely : Prop := chainStaysRow.holds Try.pinned (OpenSpec.ofChange chainStaysWrong)

/-- 'ostlerlaw18.ClockPlays': WHATEVER THE INPUT: true; the input reads as it did. -/
def clockPlaysSpec : ChangeSpec := { name := "clockPlays", fn := fun _ => fun
  | [d1, d2, d3, d4] => { results := [.lit (.bool true)], args := [d1, d2, d3, d4] }
  | _ => none }
def clockPlaysRow : OpenClaim := { program := "ytgfnmolbagilmaa", sum := "247bfbdd7e1ff7826c706e468c5478d05d759f5e0a4a5eeaa7f06c21ec8a6d5a", func := "ostler/ostlerlaw18.ClockPlays", spec := "clockPlays", unfollowed := true, recurses := true, apart := false }
def ClockPlaysSaid : Prop := clockPlaysRow.holds Try.pinned (OpenSpec.ofChange clockPlaysSpec)

/-- ITS FALSE NEIGHBOUR: 'it returns false'. Refute it at one input. -/
def clockPlaysWrong : ChangeSpec := { name := "clockPlays", fn := fun _ => fun
  | [d1, d2, d3, d4] => { results := [.lit (.bool false)], args := [d1, d2, d3, d4] }
  | _ => none }
def ClockPlaysWrongFalsely : Prop := clockPlaysRow.holds Try.pinned (OpenSpec.ofChange clockPlaysWrong)

/-- 'ostlerlaw18.ClockForged': WHATEVER THE INPUT: true; the input reads as it did. -/
def clockForgedSpec : ChangeSpec := { name := "clockForged", fn := fun _ => fun
  | [d1, d2, d3, d4, d5] => { results := [.lit (.bool true)], args := [d1, d2, d3, d4, d5] }
  | _ => none }
def clockForgedRow : OpenClaim := { program := "ytgfnmolbagilmaa", sum := "247bfbdd7e1ff7826c706e468c5478d05d759f5e0a4a5eeaa7f06c21ec8a6d5a", func := "ostler/ostlerlaw18.ClockForged", spec := "clockForged", unfollowed := true, recurses := true, apart := false }
def ClockForgedSaid : Prop := clockForgedRow.holds Try.pinned (OpenSpec.ofChange clockForgedSpec)

/-- ITS FALSE NEIGHBOUR: 'it returns false'. Refute it at one input. -/
def clockForgedWrong : ChangeSpec := { name := "clockForged", fn := fun _ => fun
  | [d1, d2, d3, d4, d5] => { results := [.lit (.bool false)], args := [d1, d2, d3, d4, d5] }
  | _ => none }
def ClockForgedWrongFalsely : Prop := clockForgedRow.holds Try.pinned (OpenSpec.ofChange clockForgedWrong)

/-- 'ostlerlaw18.ClockUsed': WHATEVER THE INPUT: true; the input reads as it did. -/
def clockUsedSpec : ChangeSpec := { name := "clockUsed", fn := fun _ => fun
  | [d] => { results := [.lit (.bool true)], args := [d] }
  | _ => none }
def clockUsedRow : OpenClaim := { program := "ytgfnmolbagilmaa", sum := "247bfbdd7e1ff7826c706e468c5478d05d759f5e0a4a5eeaa7f06c21ec8a6d5a", func := "ostler/ostlerlaw18.ClockUsed", spec := "clockUsed", unfollowed := true, recurses := true, apart := false }
def ClockUsedSaid : Prop := clockUsedRow.holds Try.pinned (OpenSpec.ofChange clockUsedSpec)

/-- ITS FALSE NEIGHBOUR: 'it returns false'. Refute it at one input. -/
def clockUsedWrong : ChangeSpec := { name := "clockUsed", fn := fun _ => fun
  | [d] => { results := [.lit (.bool false)], args := [d] }
  | _ => none }
def ClockUsedWrongFalsely : Prop := clockUsedRow.holds Try.pinned (OpenSpec.ofChange clockUsedWrong)

/-- 'ostlerlaw18.ClockNonces': WHATEVER THE INPUT: true; the input reads as it did. -/
def clockNoncesSpec : ChangeSpec := { name := "clockNonces", fn := fun _ => fun
  | [d1, d2, d3, d4] => { results := [.lit (.bool true)], args := [d1, d2, d3, d4] }
  | _ => none }
def clockNoncesRow : OpenClaim := { program := "ytgfnmolbagilmaa", sum := "247bfbdd7e1ff7826c706e468c5478d05d759f5e0a4a5eeaa7f06c21ec8a6d5a", func := "ostler/ostlerlaw18.ClockNonces", spec := "clockNonces", unfollowed := true, recurses := true, apart := false }
def ClockNoncesSaid : Prop := clockNoncesRow.holds Try.pinned (OpenSpec.ofChange clockNoncesSpec)

/-- ITS FALSE NEIGHBOUR: 'it returns false'. Refute it at one input. -/
def clockNoncesWrong : ChangeSpec := { name := "clockNonces", fn := fun _ => fun
  | [d1, d2, d3, d4] => { results := [.lit (.bool false)], args := [d1, d2, d3, d4] }
  | _ => none }
def ClockNoncesWrongFalsely : Prop := clockNoncesRow.holds Try.pinned (OpenSpec.ofChange clockNoncesWrong)

/-- 'ostlerlaw18.ClockBounds': WHATEVER THE INPUT: true; the input reads as it did. -/
def clockBoundsSpec : ChangeSpec := { name := "clockBounds", fn := fun _ => fun
  | [d1, d2] => { results := [.lit (.bool true)], args := [d1, d2] }
  | _ => none }
def clockBoundsRow : OpenClaim := { program := "ytgfnmolbagilmaa", sum := "247bfbdd7e1ff7826c706e468c5478d05d759f5e0a4a5eeaa7f06c21ec8a6d5a", func := "ostler/ostlerlaw18.ClockBounds", spec := "clockBounds", unfollowed := true, recurses := true, apart := false }
def ClockBoundsSaid : Prop := clockBoundsRow.holds Try.pinned (OpenSpec.ofChange clockBoundsSpec)

/-- ITS FALSE NEIGHBOUR: 'it returns false'. Refute it at one input. -/
def clockBoundsWrong : ChangeSpec := { name := "clockBounds", fn := fun _ => fun
  | [d1, d2] => { results := [.lit (.bool false)], args := [d1, d2] }
  | _ => none }
def ClockBoundsWrongFalsely : Prop := clockBoundsRow.holds Try.pinned (OpenSpec.ofChange clockBoundsWrong)

/- THE SECOND FORM. 'bulk': how many values and letters a reading holds, each counted each time it is reached (what is shared counts as often as it is met; a slice's spare places count too). A statement '..UptoSaid' is the law's where the arguments, and the package variables that the reading takes, are together of bulk at most 1048576: NARROWER than '..Said'. Prove '..Said' where nothing that the law and all that it calls make is longer than what came in: it says more and counts as full. Else prove '..UptoSaid'. A law counts once. -/
mutual
def uptoBulk {H : Type} : DataW H → Nat
  | .lit (.string bytes) => bytes.length + 1
  | .lit _ => 1
  | .nil => 1
  | .ptr d => uptoBulk d + 1
  | .slice elems spare => uptoBulkAll elems + uptoBulkAll spare + 1
  | .agg parts => uptoBulkAll parts + 1
  | .iface _ d => uptoBulk d + 1
  | .map entries => uptoBulkEntries entries + 1
  | .held _ => 1
def uptoBulkAll {H : Type} : List (DataW H) → Nat
  | [] => 0
  | d :: r => uptoBulk d + uptoBulkAll r
def uptoBulkEntries {H : Type} : List (Lit × DataW H) → Nat
  | [] => 0
  | x :: r => uptoBulkEntry x + uptoBulkEntries r
def uptoBulkEntry {H : Type} : Lit × DataW H → Nat
  | (.string bytes, d) => bytes.length + uptoBulk d + 1
  | (_, d) => uptoBulk d + 1
 end
def uptoSmall : (H : Type) → List (DataW H) → Bool := fun _ ds => decide (uptoBulkAll ds ≤ 1048576)
def OpenSpec.upto (s : _root_.Go.ChangeSpec) : _root_.Go.OpenSpec := { _root_.Go.OpenSpec.ofChange s with cond := some uptoSmall }

/-- 'ostlerlaw8.ChainNext', WHERE WHAT IT READS IS OF BULK AT MOST 1048576: true; the input reads as it did. -/
def chainNextUptoRow : OpenClaim := { program := "ytgfnmolbagilmaa", sum := "247bfbdd7e1ff7826c706e468c5478d05d759f5e0a4a5eeaa7f06c21ec8a6d5a", func := "ostler/ostlerlaw8.ChainNext", spec := "chainNext", unfollowed := true, recurses := true, apart := false, narrowed := true }
def ChainNextUptoSaid : Prop := chainNextUptoRow.holds Try.pinned (OpenSpec.upto chainNextSpec)

/-- 'ostlerlaw8.ChainFollows', WHERE WHAT IT READS IS OF BULK AT MOST 1048576: true; the input reads as it did. -/
def chainFollowsUptoRow : OpenClaim := { program := "ytgfnmolbagilmaa", sum := "247bfbdd7e1ff7826c706e468c5478d05d759f5e0a4a5eeaa7f06c21ec8a6d5a", func := "ostler/ostlerlaw8.ChainFollows", spec := "chainFollows", unfollowed := true, recurses := true, apart := false, narrowed := true }
def ChainFollowsUptoSaid : Prop := chainFollowsUptoRow.holds Try.pinned (OpenSpec.upto chainFollowsSpec)

/-- 'ostlerlaw8.ChainLinks', WHERE WHAT IT READS IS OF BULK AT MOST 1048576: true; the input reads as it did. -/
def chainLinksUptoRow : OpenClaim := { program := "ytgfnmolbagilmaa", sum := "247bfbdd7e1ff7826c706e468c5478d05d759f5e0a4a5eeaa7f06c21ec8a6d5a", func := "ostler/ostlerlaw8.ChainLinks", spec := "chainLinks", unfollowed := true, recurses := true, apart := false, narrowed := true }
def ChainLinksUptoSaid : Prop := chainLinksUptoRow.holds Try.pinned (OpenSpec.upto chainLinksSpec)

/-- 'ostlerlaw8.ChainStays', WHERE WHAT IT READS IS OF BULK AT MOST 1048576: true; the input reads as it did. -/
def chainStaysUptoRow : OpenClaim := { program := "ytgfnmolbagilmaa", sum := "247bfbdd7e1ff7826c706e468c5478d05d759f5e0a4a5eeaa7f06c21ec8a6d5a", func := "ostler/ostlerlaw8.ChainStays", spec := "chainStays", unfollowed := true, recurses := true, apart := false, narrowed := true }
def ChainStaysUptoSaid : Prop := chainStaysUptoRow.holds Try.pinned (OpenSpec.upto chainStaysSpec)

/-- 'ostlerlaw18.ClockPlays', WHERE WHAT IT READS IS OF BULK AT MOST 1048576: true; the input reads as it did. -/
def clockPlaysUptoRow : OpenClaim := { program := "ytgfnmolbagilmaa", sum := "247bfbdd7e1ff7826c706e468c5478d05d759f5e0a4a5eeaa7f06c21ec8a6d5a", func := "ostler/ostlerlaw18.ClockPlays", spec := "clockPlays", unfollowed := true, recurses := true, apart := false, narrowed := true }
def ClockPlaysUptoSaid : Prop := clockPlaysUptoRow.holds Try.pinned (OpenSpec.upto clockPlaysSpec)

/-- 'ostlerlaw18.ClockForged', WHERE WHAT IT READS IS OF BULK AT MOST 1048576: true; the input reads as it did. -/
def clockForgedUptoRow : OpenClaim := { program := "ytgfnmolbagilmaa", sum := "247bfbdd7e1ff7826c706e468c5478d05d759f5e0a4a5eeaa7f06c21ec8a6d5a", func := "ostler/ostlerlaw18.ClockForged", spec := "clockForged", unfollowed := true, recurses := true, apart := false, narrowed := true }
def ClockForgedUptoSaid : Prop := clockForgedUptoRow.holds Try.pinned (OpenSpec.upto clockForgedSpec)

/-- 'ostlerlaw18.ClockUsed', WHERE WHAT IT READS IS OF BULK AT MOST 1048576: true; the input reads as it did. -/
def clockUsedUptoRow : OpenClaim := { program := "ytgfnmolbagilmaa", sum := "247bfbdd7e1ff7826c706e468c5478d05d759f5e0a4a5eeaa7f06c21ec8a6d5a", func := "ostler/ostlerlaw18.ClockUsed", spec := "clockUsed", unfollowed := true, recurses := true, apart := false, narrowed := true }
def ClockUsedUptoSaid : Prop := clockUsedUptoRow.holds Try.pinned (OpenSpec.upto clockUsedSpec)

/-- 'ostlerlaw18.ClockNonces', WHERE WHAT IT READS IS OF BULK AT MOST 1048576: true; the input reads as it did. -/
def clockNoncesUptoRow : OpenClaim := { program := "ytgfnmolbagilmaa", sum := "247bfbdd7e1ff7826c706e468c5478d05d759f5e0a4a5eeaa7f06c21ec8a6d5a", func := "ostler/ostlerlaw18.ClockNonces", spec := "clockNonces", unfollowed := true, recurses := true, apart := false, narrowed := true }
def ClockNoncesUptoSaid : Prop := clockNoncesUptoRow.holds Try.pinned (OpenSpec.upto clockNoncesSpec)

/-- 'ostlerlaw18.ClockBounds', WHERE WHAT IT READS IS OF BULK AT MOST 1048576: true; the input reads as it did. -/
def clockBoundsUptoRow : OpenClaim := { program := "ytgfnmolbagilmaa", sum := "247bfbdd7e1ff7826c706e468c5478d05d759f5e0a4a5eeaa7f06c21ec8a6d5a", func := "ostler/ostlerlaw18.ClockBounds", spec := "clockBounds", unfollowed := true, recurses := true, apart := false, narrowed := true }
def ClockBoundsUptoSaid : Prop := clockBoundsUptoRow.holds Try.pinned (OpenSpec.upto clockBoundsSpec)

end Rows
end Go.Proofs.Ytgfnmolbagilmaa

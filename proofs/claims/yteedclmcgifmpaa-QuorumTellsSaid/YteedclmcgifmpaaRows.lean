/-
  No cell of these rows narrows 'for every input' (looked for: loops, veiled, ifaces, maps, wideKeys, modest, calm, conditions, laid).
  DERIVED. THE GIVEN ROWS OF THIS SEAT. 12 by the template 'for every input the law returns true; each argument reads behind the call as it read before'; 0 by the template 'total and deterministic' (their statements: YteedclmcgifmpaaTotals.lean).
  GIVEN WITH THE SEED: the statements are not yours to turn. If you find one false, say at which input.
  Laid BY PROGRAM, IN A SANDBOX (cutbox-rows.mjs): the forced cells as the released guide's own fill.sh prints them over the translation e7b812f8301040e6… (all of the seat's roots in one cut). By AI agents, Wed Nov 11 2026. No macro, syntax, notation, axiom, sorry.
-/
import Derived.Test.YteedclmcgifmpaaChecked
import GoSem.Claim
import GoSem.ClaimJoined
import GoSem.ClaimMapViews
import Derived.JoinedTies
import Derived.KernelRfl
namespace Go.Proofs.Yteedclmcgifmpaa
/- THE CELL 'sum', in the pinned program and in every row, IS THE sha256 OF THE DUMP (.gsa) THAT YteedclmcgifmpaaProg.lean LOADS. Nothing in Lean hashes anything: it is a label: what it is worth is what the hold of that sum in a sandbox is worth. -/
noncomputable def Try.pinned : Pinned := { name := "yteedclmcgifmpaa", sum := "e7b812f8301040e607c67f0d88237a0cb3ec764b74cfc60dce82ef0f30f580f1", checked := Try.checked }
namespace Rows
def none {H : Type} : Left H := { results := [], args := [] }

/-- 'ostlerlaw7.QuorumTells': WHATEVER THE INPUT: true; the input reads as it did. -/
def quorumTellsSpec : ChangeSpec := { name := "quorumTells", fn := fun _ => fun
  | [d1, d2] => { results := [.lit (.bool true)], args := [d1, d2] }
  | _ => none }
def quorumTellsRow : OpenClaim := { program := "yteedclmcgifmpaa", sum := "e7b812f8301040e607c67f0d88237a0cb3ec764b74cfc60dce82ef0f30f580f1", func := "ostler/ostlerlaw7.QuorumTells", spec := "quorumTells", unfollowed := true, recurses := true, apart := false }
def QuorumTellsSaid : Prop := quorumTellsRow.holds Try.pinned (OpenSpec.ofChange quorumTellsSpec)

/-- ITS FALSE NEIGHBOUR: 'it returns false'. Refute it at one input. -/
def quorumTellsWrong : ChangeSpec := { name := "quorumTells", fn := fun _ => fun
  | [d1, d2] => { results := [.lit (.bool false)], args := [d1, d2] }
  | _ => none }
def QuorumTellsWrongFalsely : Prop := quorumTellsRow.holds Try.pinned (OpenSpec.ofChange quorumTellsWrong)

/-- 'ostlerlaw7.QuorumCounts': WHATEVER THE INPUT: true; the input reads as it did. -/
def quorumCountsSpec : ChangeSpec := { name := "quorumCounts", fn := fun _ => fun
  | [d1, d2, d3, d4] => { results := [.lit (.bool true)], args := [d1, d2, d3, d4] }
  | _ => none }
def quorumCountsRow : OpenClaim := { program := "yteedclmcgifmpaa", sum := "e7b812f8301040e607c67f0d88237a0cb3ec764b74cfc60dce82ef0f30f580f1", func := "ostler/ostlerlaw7.QuorumCounts", spec := "quorumCounts", unfollowed := true, recurses := true, apart := false }
def QuorumCountsSaid : Prop := quorumCountsRow.holds Try.pinned (OpenSpec.ofChange quorumCountsSpec)

/-- ITS FALSE NEIGHBOUR: 'it returns false'. Refute it at one input. -/
def quorumCountsWrong : ChangeSpec := { name := "quorumCounts", fn := fun _ => fun
  | [d1, d2, d3, d4] => { results := [.lit (.bool false)], args := [d1, d2, d3, d4] }
  | _ => none }
def QuorumCountsWrongFalsely : Prop := quorumCountsRow.holds Try.pinned (OpenSpec.ofChange quorumCountsWrong)

/-- 'ostlerlaw7.QuorumOther': WHATEVER THE INPUT: true; the input reads as it did. -/
def quorumOtherSpec : ChangeSpec := { name := "quorumOther", fn := fun _ => fun
  | [d1, d2, d3] => { results := [.lit (.bool true)], args := [d1, d2, d3] }
  | _ => none }
def quorumOtherRow : OpenClaim := { program := "yteedclmcgifmpaa", sum := "e7b812f8301040e607c67f0d88237a0cb3ec764b74cfc60dce82ef0f30f580f1", func := "ostler/ostlerlaw7.QuorumOther", spec := "quorumOther", unfollowed := true, recurses := true, apart := false }
def QuorumOtherSaid : Prop := quorumOtherRow.holds Try.pinned (OpenSpec.ofChange quorumOtherSpec)

/-- ITS FALSE NEIGHBOUR: 'it returns false'. Refute it at one input. -/
def quorumOtherWrong : ChangeSpec := { name := "quorumOther", fn := fun _ => fun
  | [d1, d2, d3] => { results := [.lit (.bool false)], args := [d1, d2, d3] }
  | _ => none }
def QuorumOtherWrongFalsely : Prop := quorumOtherRow.holds Try.pinned (OpenSpec.ofChange quorumOtherWrong)

/-- 'ostlerlaw7.QuorumNone': WHATEVER THE INPUT: true; the input reads as it did. -/
def quorumNoneSpec : ChangeSpec := { name := "quorumNone", fn := fun _ => fun
  | [d1, d2] => { results := [.lit (.bool true)], args := [d1, d2] }
  | _ => none }
def quorumNoneRow : OpenClaim := { program := "yteedclmcgifmpaa", sum := "e7b812f8301040e607c67f0d88237a0cb3ec764b74cfc60dce82ef0f30f580f1", func := "ostler/ostlerlaw7.QuorumNone", spec := "quorumNone", unfollowed := true, recurses := true, apart := false }
def QuorumNoneSaid : Prop := quorumNoneRow.holds Try.pinned (OpenSpec.ofChange quorumNoneSpec)

/-- ITS FALSE NEIGHBOUR: 'it returns false'. Refute it at one input. -/
def quorumNoneWrong : ChangeSpec := { name := "quorumNone", fn := fun _ => fun
  | [d1, d2] => { results := [.lit (.bool false)], args := [d1, d2] }
  | _ => none }
def QuorumNoneWrongFalsely : Prop := quorumNoneRow.holds Try.pinned (OpenSpec.ofChange quorumNoneWrong)

/-- 'ostlerlaw5.KeySigns': WHATEVER THE INPUT: true; the input reads as it did. -/
def keySignsSpec : ChangeSpec := { name := "keySigns", fn := fun _ => fun
  | [d1, d2, d3] => { results := [.lit (.bool true)], args := [d1, d2, d3] }
  | _ => none }
def keySignsRow : OpenClaim := { program := "yteedclmcgifmpaa", sum := "e7b812f8301040e607c67f0d88237a0cb3ec764b74cfc60dce82ef0f30f580f1", func := "ostler/ostlerlaw5.KeySigns", spec := "keySigns", unfollowed := true, recurses := true, apart := false }
def KeySignsSaid : Prop := keySignsRow.holds Try.pinned (OpenSpec.ofChange keySignsSpec)

/-- ITS FALSE NEIGHBOUR: 'it returns false'. Refute it at one input. -/
def keySignsWrong : ChangeSpec := { name := "keySigns", fn := fun _ => fun
  | [d1, d2, d3] => { results := [.lit (.bool false)], args := [d1, d2, d3] }
  | _ => none }
def KeySignsWrongFalsely : Prop := keySignsRow.holds Try.pinned (OpenSpec.ofChange keySignsWrong)

/-- 'ostlerlaw5.KeyOfNothing': WHATEVER THE INPUT: true; the input reads as it did. -/
def keyOfNothingSpec : ChangeSpec := { name := "keyOfNothing", fn := fun _ => fun
  | [d] => { results := [.lit (.bool true)], args := [d] }
  | _ => none }
def keyOfNothingRow : OpenClaim := { program := "yteedclmcgifmpaa", sum := "e7b812f8301040e607c67f0d88237a0cb3ec764b74cfc60dce82ef0f30f580f1", func := "ostler/ostlerlaw5.KeyOfNothing", spec := "keyOfNothing", unfollowed := true, recurses := true, apart := false }
def KeyOfNothingSaid : Prop := keyOfNothingRow.holds Try.pinned (OpenSpec.ofChange keyOfNothingSpec)

/-- ITS FALSE NEIGHBOUR: 'it returns false'. Refute it at one input. -/
def keyOfNothingWrong : ChangeSpec := { name := "keyOfNothing", fn := fun _ => fun
  | [d] => { results := [.lit (.bool false)], args := [d] }
  | _ => none }
def KeyOfNothingWrongFalsely : Prop := keyOfNothingRow.holds Try.pinned (OpenSpec.ofChange keyOfNothingWrong)

/-- 'ostlerlaw5.KeyFrom': WHATEVER THE INPUT: true; the input reads as it did. -/
def keyFromSpec : ChangeSpec := { name := "keyFrom", fn := fun _ => fun
  | [d1, d2, d3] => { results := [.lit (.bool true)], args := [d1, d2, d3] }
  | _ => none }
def keyFromRow : OpenClaim := { program := "yteedclmcgifmpaa", sum := "e7b812f8301040e607c67f0d88237a0cb3ec764b74cfc60dce82ef0f30f580f1", func := "ostler/ostlerlaw5.KeyFrom", spec := "keyFrom", unfollowed := true, recurses := true, apart := false }
def KeyFromSaid : Prop := keyFromRow.holds Try.pinned (OpenSpec.ofChange keyFromSpec)

/-- ITS FALSE NEIGHBOUR: 'it returns false'. Refute it at one input. -/
def keyFromWrong : ChangeSpec := { name := "keyFrom", fn := fun _ => fun
  | [d1, d2, d3] => { results := [.lit (.bool false)], args := [d1, d2, d3] }
  | _ => none }
def KeyFromWrongFalsely : Prop := keyFromRow.holds Try.pinned (OpenSpec.ofChange keyFromWrong)

/-- 'ostlerlaw5.KeyTurned': WHATEVER THE INPUT: true; the input reads as it did. -/
def keyTurnedSpec : ChangeSpec := { name := "keyTurned", fn := fun _ => fun
  | [d1, d2, d3, d4, d5] => { results := [.lit (.bool true)], args := [d1, d2, d3, d4, d5] }
  | _ => none }
def keyTurnedRow : OpenClaim := { program := "yteedclmcgifmpaa", sum := "e7b812f8301040e607c67f0d88237a0cb3ec764b74cfc60dce82ef0f30f580f1", func := "ostler/ostlerlaw5.KeyTurned", spec := "keyTurned", unfollowed := true, recurses := true, apart := false }
def KeyTurnedSaid : Prop := keyTurnedRow.holds Try.pinned (OpenSpec.ofChange keyTurnedSpec)

/-- ITS FALSE NEIGHBOUR: 'it returns false'. Refute it at one input. -/
def keyTurnedWrong : ChangeSpec := { name := "keyTurned", fn := fun _ => fun
  | [d1, d2, d3, d4, d5] => { results := [.lit (.bool false)], args := [d1, d2, d3, d4, d5] }
  | _ => none }
def KeyTurnedWrongFalsely : Prop := keyTurnedRow.holds Try.pinned (OpenSpec.ofChange keyTurnedWrong)

/-- 'ostlerlaw5.KeyVerifies': WHATEVER THE INPUT: true; the input reads as it did. -/
def keyVerifiesSpec : ChangeSpec := { name := "keyVerifies", fn := fun _ => fun
  | [d1, d2, d3, d4] => { results := [.lit (.bool true)], args := [d1, d2, d3, d4] }
  | _ => none }
def keyVerifiesRow : OpenClaim := { program := "yteedclmcgifmpaa", sum := "e7b812f8301040e607c67f0d88237a0cb3ec764b74cfc60dce82ef0f30f580f1", func := "ostler/ostlerlaw5.KeyVerifies", spec := "keyVerifies", unfollowed := true, recurses := true, apart := false }
def KeyVerifiesSaid : Prop := keyVerifiesRow.holds Try.pinned (OpenSpec.ofChange keyVerifiesSpec)

/-- ITS FALSE NEIGHBOUR: 'it returns false'. Refute it at one input. -/
def keyVerifiesWrong : ChangeSpec := { name := "keyVerifies", fn := fun _ => fun
  | [d1, d2, d3, d4] => { results := [.lit (.bool false)], args := [d1, d2, d3, d4] }
  | _ => none }
def KeyVerifiesWrongFalsely : Prop := keyVerifiesRow.holds Try.pinned (OpenSpec.ofChange keyVerifiesWrong)

/-- 'ostlerlaw5.KeyBytes': WHATEVER THE INPUT: true; the input reads as it did. -/
def keyBytesSpec : ChangeSpec := { name := "keyBytes", fn := fun _ => fun
  | [d1, d2] => { results := [.lit (.bool true)], args := [d1, d2] }
  | _ => none }
def keyBytesRow : OpenClaim := { program := "yteedclmcgifmpaa", sum := "e7b812f8301040e607c67f0d88237a0cb3ec764b74cfc60dce82ef0f30f580f1", func := "ostler/ostlerlaw5.KeyBytes", spec := "keyBytes", unfollowed := true, recurses := true, apart := false }
def KeyBytesSaid : Prop := keyBytesRow.holds Try.pinned (OpenSpec.ofChange keyBytesSpec)

/-- ITS FALSE NEIGHBOUR: 'it returns false'. Refute it at one input. -/
def keyBytesWrong : ChangeSpec := { name := "keyBytes", fn := fun _ => fun
  | [d1, d2] => { results := [.lit (.bool false)], args := [d1, d2] }
  | _ => none }
def KeyBytesWrongFalsely : Prop := keyBytesRow.holds Try.pinned (OpenSpec.ofChange keyBytesWrong)

/-- 'ostlerlaw5.KeyCut': WHATEVER THE INPUT: true; the input reads as it did. -/
def keyCutSpec : ChangeSpec := { name := "keyCut", fn := fun _ => fun
  | [d1, d2, d3, d4] => { results := [.lit (.bool true)], args := [d1, d2, d3, d4] }
  | _ => none }
def keyCutRow : OpenClaim := { program := "yteedclmcgifmpaa", sum := "e7b812f8301040e607c67f0d88237a0cb3ec764b74cfc60dce82ef0f30f580f1", func := "ostler/ostlerlaw5.KeyCut", spec := "keyCut", unfollowed := true, recurses := true, apart := false }
def KeyCutSaid : Prop := keyCutRow.holds Try.pinned (OpenSpec.ofChange keyCutSpec)

/-- ITS FALSE NEIGHBOUR: 'it returns false'. Refute it at one input. -/
def keyCutWrong : ChangeSpec := { name := "keyCut", fn := fun _ => fun
  | [d1, d2, d3, d4] => { results := [.lit (.bool false)], args := [d1, d2, d3, d4] }
  | _ => none }
def KeyCutWrongFalsely : Prop := keyCutRow.holds Try.pinned (OpenSpec.ofChange keyCutWrong)

/-- 'ostlerlaw5.KeyBack': WHATEVER THE INPUT: true; the input reads as it did. -/
def keyBackSpec : ChangeSpec := { name := "keyBack", fn := fun _ => fun
  | [d1, d2, d3, d4] => { results := [.lit (.bool true)], args := [d1, d2, d3, d4] }
  | _ => none }
def keyBackRow : OpenClaim := { program := "yteedclmcgifmpaa", sum := "e7b812f8301040e607c67f0d88237a0cb3ec764b74cfc60dce82ef0f30f580f1", func := "ostler/ostlerlaw5.KeyBack", spec := "keyBack", unfollowed := true, recurses := true, apart := false }
def KeyBackSaid : Prop := keyBackRow.holds Try.pinned (OpenSpec.ofChange keyBackSpec)

/-- ITS FALSE NEIGHBOUR: 'it returns false'. Refute it at one input. -/
def keyBackWrong : ChangeSpec := { name := "keyBack", fn := fun _ => fun
  | [d1, d2, d3, d4] => { results := [.lit (.bool false)], args := [d1, d2, d3, d4] }
  | _ => none }
def KeyBackWrongFalsely : Prop := keyBackRow.holds Try.pinned (OpenSpec.ofChange keyBackWrong)

/- THE SECOND FORM. 'bulk': how many values and letters a reading holds, each counted each time it is reached (what is shared counts as often as it is met; a slice's spare places count too). A statement '..UptoSaid' is the law's where the arguments, and the package variables that the reading takes, are together of bulk at most 1048576: NARROWER than '..Said'. Prove '..Said' where nothing that the law and all that it calls make is longer than what came in: it says more and counts as full. Else prove '..UptoSaid'. A law counts once. -/
mutual
def uptoBulk {H : Type} : DataW H → Nat
  | .lit (.string bytes) => bytes.length + 1
  | .lit _ => 1
  | .nil => 1
  | .ptr d => uptoBulk d + 1
  | .slice elems spare => uptoBulkAll elems + uptoBulkAll spare + 1
  | .agg parts => uptoBulkAll parts + 1
  | .iface _ d => uptoBulk d + 1
  | .map entries => uptoBulkEntries entries + 1
  | .held _ => 1
def uptoBulkAll {H : Type} : List (DataW H) → Nat
  | [] => 0
  | d :: r => uptoBulk d + uptoBulkAll r
def uptoBulkEntries {H : Type} : List (Lit × DataW H) → Nat
  | [] => 0
  | x :: r => uptoBulkEntry x + uptoBulkEntries r
def uptoBulkEntry {H : Type} : Lit × DataW H → Nat
  | (.string bytes, d) => bytes.length + uptoBulk d + 1
  | (_, d) => uptoBulk d + 1
 end
def uptoSmall : (H : Type) → List (DataW H) → Bool := fun _ ds => decide (uptoBulkAll ds ≤ 1048576)
def OpenSpec.upto (s : _root_.Go.ChangeSpec) : _root_.Go.OpenSpec := { _root_.Go.OpenSpec.ofChange s with cond := some uptoSmall }

/-- 'ostlerlaw7.QuorumTells', WHERE WHAT IT READS IS OF BULK AT MOST 1048576: true; the input reads as it did. -/
def quorumTellsUptoRow : OpenClaim := { program := "yteedclmcgifmpaa", sum := "e7b812f8301040e607c67f0d88237a0cb3ec764b74cfc60dce82ef0f30f580f1", func := "ostler/ostlerlaw7.QuorumTells", spec := "quorumTells", unfollowed := true, recurses := true, apart := false, narrowed := true }
def QuorumTellsUptoSaid : Prop := quorumTellsUptoRow.holds Try.pinned (OpenSpec.upto quorumTellsSpec)

/-- 'ostlerlaw7.QuorumCounts', WHERE WHAT IT READS IS OF BULK AT MOST 1048576: true; the input reads as it did. -/
def quorumCountsUptoRow : OpenClaim := { program := "yteedclmcgifmpaa", sum := "e7b812f8301040e607c67f0d88237a0cb3ec764b74cfc60dce82ef0f30f580f1", func := "ostler/ostlerlaw7.QuorumCounts", spec := "quorumCounts", unfollowed := true, recurses := true, apart := false, narrowed := true }
def QuorumCountsUptoSaid : Prop := quorumCountsUptoRow.holds Try.pinned (OpenSpec.upto quorumCountsSpec)

/-- 'ostlerlaw7.QuorumOther', WHERE WHAT IT READS IS OF BULK AT MOST 1048576: true; the input reads as it did. -/
def quorumOtherUptoRow : OpenClaim := { program := "yteedclmcgifmpaa", sum := "e7b812f8301040e607c67f0d88237a0cb3ec764b74cfc60dce82ef0f30f580f1", func := "ostler/ostlerlaw7.QuorumOther", spec := "quorumOther", unfollowed := true, recurses := true, apart := false, narrowed := true }
def QuorumOtherUptoSaid : Prop := quorumOtherUptoRow.holds Try.pinned (OpenSpec.upto quorumOtherSpec)

/-- 'ostlerlaw7.QuorumNone', WHERE WHAT IT READS IS OF BULK AT MOST 1048576: true; the input reads as it did. -/
def quorumNoneUptoRow : OpenClaim := { program := "yteedclmcgifmpaa", sum := "e7b812f8301040e607c67f0d88237a0cb3ec764b74cfc60dce82ef0f30f580f1", func := "ostler/ostlerlaw7.QuorumNone", spec := "quorumNone", unfollowed := true, recurses := true, apart := false, narrowed := true }
def QuorumNoneUptoSaid : Prop := quorumNoneUptoRow.holds Try.pinned (OpenSpec.upto quorumNoneSpec)

/-- 'ostlerlaw5.KeySigns', WHERE WHAT IT READS IS OF BULK AT MOST 1048576: true; the input reads as it did. -/
def keySignsUptoRow : OpenClaim := { program := "yteedclmcgifmpaa", sum := "e7b812f8301040e607c67f0d88237a0cb3ec764b74cfc60dce82ef0f30f580f1", func := "ostler/ostlerlaw5.KeySigns", spec := "keySigns", unfollowed := true, recurses := true, apart := false, narrowed := true }
def KeySignsUptoSaid : Prop := keySignsUptoRow.holds Try.pinned (OpenSpec.upto keySignsSpec)

/-- 'ostlerlaw5.KeyOfNothing', WHERE WHAT IT READS IS OF BULK AT MOST 1048576: true; the input reads as it did. -/
def keyOfNothingUptoRow : OpenClaim := { program := "yteedclmcgifmpaa", sum := "e7b812f8301040e607c67f0d88237a0cb3ec764b74cfc60dce82ef0f30f580f1", func := "ostler/ostlerlaw5.KeyOfNothing", spec := "keyOfNothing", unfollowed := true, recurses := true, apart := false, narrowed := true }
def KeyOfNothingUptoSaid : Prop := keyOfNothingUptoRow.holds Try.pinned (OpenSpec.upto keyOfNothingSpec)

/-- 'ostlerlaw5.KeyFrom', WHERE WHAT IT READS IS OF BULK AT MOST 1048576: true; the input reads as it did. -/
def keyFromUptoRow : OpenClaim := { program := "yteedclmcgifmpaa", sum := "e7b812f8301040e607c67f0d88237a0cb3ec764b74cfc60dce82ef0f30f580f1", func := "ostler/ostlerlaw5.KeyFrom", spec := "keyFrom", unfollowed := true, recurses := true, apart := false, narrowed := true }
def KeyFromUptoSaid : Prop := keyFromUptoRow.holds Try.pinned (OpenSpec.upto keyFromSpec)

/-- 'ostlerlaw5.KeyTurned', WHERE WHAT IT READS IS OF BULK AT MOST 1048576: true; the input reads as it did. -/
def keyTurnedUptoRow : OpenClaim := { program := "yteedclmcgifmpaa", sum := "e7b812f8301040e607c67f0d88237a0cb3ec764b74cfc60dce82ef0f30f580f1", func := "ostler/ostlerlaw5.KeyTurned", spec := "keyTurned", unfollowed := true, recurses := true, apart := false, narrowed := true }
def KeyTurnedUptoSaid : Prop := keyTurnedUptoRow.holds Try.pinned (OpenSpec.upto keyTurnedSpec)

/-- 'ostlerlaw5.KeyVerifies', WHERE WHAT IT READS IS OF BULK AT MOST 1048576: true; the input reads as it did. -/
def keyVerifiesUptoRow : OpenClaim := { program := "yteedclmcgifmpaa", sum := "e7b812f8301040e607c67f0d88237a0cb3ec764b74cfc60dce82ef0f30f580f1", func := "ostler/ostlerlaw5.KeyVerifies", spec := "keyVerifies", unfollowed := true, recurses := true, apart := false, narrowed := true }
def KeyVerifiesUptoSaid : Prop := keyVerifiesUptoRow.holds Try.pinned (OpenSpec.upto keyVerifiesSpec)

/-- 'ostlerlaw5.KeyBytes', WHERE WHAT IT READS IS OF BULK AT MOST 1048576: true; the input reads as it did. -/
def keyBytesUptoRow : OpenClaim := { program := "yteedclmcgifmpaa", sum := "e7b812f8301040e607c67f0d88237a0cb3ec764b74cfc60dce82ef0f30f580f1", func := "ostler/ostlerlaw5.KeyBytes", spec := "keyBytes", unfollowed := true, recurses := true, apart := false, narrowed := true }
def KeyBytesUptoSaid : Prop := keyBytesUptoRow.holds Try.pinned (OpenSpec.upto keyBytesSpec)

/-- 'ostlerlaw5.KeyCut', WHERE WHAT IT READS IS OF BULK AT MOST 1048576: true; the input reads as it did. -/
def keyCutUptoRow : OpenClaim := { program := "yteedclmcgifmpaa", sum := "e7b812f8301040e607c67f0d88237a0cb3ec764b74cfc60dce82ef0f30f580f1", func := "ostler/ostlerlaw5.KeyCut", spec := "keyCut", unfollowed := true, recurses := true, apart := false, narrowed := true }
def KeyCutUptoSaid : Prop := keyCutUptoRow.holds Try.pinned (OpenSpec.upto keyCutSpec)

/-- 'ostlerlaw5.KeyBack', WHERE WHAT IT READS IS OF BULK AT MOST 1048576: true; the input reads as it did. -/
def keyBackUptoRow : OpenClaim := { program := "yteedclmcgifmpaa", sum := "e7b812f8301040e607c67f0d88237a0cb3ec764b74cfc60dce82ef0f30f580f1", func := "ostler/ostlerlaw5.KeyBack", spec := "keyBack", unfollowed := true, recurses := true, apart := false, narrowed := true }
def KeyBackUptoSaid : Prop := keyBackUptoRow.holds Try.pinned (OpenSpec.upto keyBackSpec)

end Rows
end Go.Proofs.Yteedclmcgifmpaa

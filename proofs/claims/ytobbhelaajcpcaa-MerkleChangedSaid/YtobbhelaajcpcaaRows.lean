/-
  No cell of these rows narrows 'for every input' (looked for: loops, veiled, ifaces, maps, wideKeys, modest, calm, conditions, laid).
  DERIVED. THE GIVEN ROWS OF THIS SEAT. 11 by the template 'for every input the law returns true; each argument reads behind the call as it read before'; 0 by the template 'total and deterministic' (their statements: YtobbhelaajcpcaaTotals.lean).
  GIVEN WITH THE SEED: the statements are not yours to turn. If you find one false, say at which input.
  Laid BY PROGRAM, IN A SANDBOX (cutbox-rows.mjs): the forced cells as the released guide's own fill.sh prints them over the translation 445ad69726b7a381… (all of the seat's roots in one cut). By AI agents, Wed Nov 11 2026. No macro, syntax, notation, axiom, sorry.
-/
import Derived.Test.YtobbhelaajcpcaaChecked
import GoSem.Claim
import GoSem.ClaimJoined
import GoSem.ClaimMapViews
import Derived.JoinedTies
import Derived.KernelRfl
namespace Go.Proofs.Ytobbhelaajcpcaa
/- THE CELL 'sum', in the pinned program and in every row, IS THE sha256 OF THE DUMP (.gsa) THAT YtobbhelaajcpcaaProg.lean LOADS. Nothing in Lean hashes anything: it is a label: what it is worth is what the hold of that sum in a sandbox is worth. -/
noncomputable def Try.pinned : Pinned := { name := "ytobbhelaajcpcaa", sum := "445ad69726b7a3817c977e9cf00ff7b65130030e304e6c461ae37096f5d6a320", checked := Try.checked }
namespace Rows
def none {H : Type} : Left H := { results := [], args := [] }

/-- 'ostlerlaw4.MerkleChanged': WHATEVER THE INPUT: true; the input reads as it did. -/
def merkleChangedSpec : ChangeSpec := { name := "merkleChanged", fn := fun _ => fun
  | [d1, d2, d3] => { results := [.lit (.bool true)], args := [d1, d2, d3] }
  | _ => none }
def merkleChangedRow : OpenClaim := { program := "ytobbhelaajcpcaa", sum := "445ad69726b7a3817c977e9cf00ff7b65130030e304e6c461ae37096f5d6a320", func := "ostler/ostlerlaw4.MerkleChanged", spec := "merkleChanged", recurses := true, apart := false }
def MerkleChangedSaid : Prop := merkleChangedRow.holds Try.pinned (OpenSpec.ofChange merkleChangedSpec)

/-- ITS FALSE NEIGHBOUR: 'it returns false'. Refute it at one input. -/
def merkleChangedWrong : ChangeSpec := { name := "merkleChanged", fn := fun _ => fun
  | [d1, d2, d3] => { results := [.lit (.bool false)], args := [d1, d2, d3] }
  | _ => none }
def MerkleChangedWrongFalsely : Prop := merkleChangedRow.holds Try.pinned (OpenSpec.ofChange merkleChangedWrong)

/-- 'ostlerlaw3.OtsTells': WHATEVER THE INPUT: true; the input reads as it did. -/
def otsTellsSpec : ChangeSpec := { name := "otsTells", fn := fun _ => fun
  | [d1, d2, d3, d4, d5, d6] => { results := [.lit (.bool true)], args := [d1, d2, d3, d4, d5, d6] }
  | _ => none }
def otsTellsRow : OpenClaim := { program := "ytobbhelaajcpcaa", sum := "445ad69726b7a3817c977e9cf00ff7b65130030e304e6c461ae37096f5d6a320", func := "ostler/ostlerlaw3.OtsTells", spec := "otsTells", unfollowed := true, recurses := true, apart := false }
def OtsTellsSaid : Prop := otsTellsRow.holds Try.pinned (OpenSpec.ofChange otsTellsSpec)

/-- ITS FALSE NEIGHBOUR: 'it returns false'. Refute it at one input. -/
def otsTellsWrong : ChangeSpec := { name := "otsTells", fn := fun _ => fun
  | [d1, d2, d3, d4, d5, d6] => { results := [.lit (.bool false)], args := [d1, d2, d3, d4, d5, d6] }
  | _ => none }
def OtsTellsWrongFalsely : Prop := otsTellsRow.holds Try.pinned (OpenSpec.ofChange otsTellsWrong)

/-- 'ostlerlaw3.OtsSigns': WHATEVER THE INPUT: true; the input reads as it did. -/
def otsSignsSpec : ChangeSpec := { name := "otsSigns", fn := fun _ => fun
  | [d1, d2, d3, d4] => { results := [.lit (.bool true)], args := [d1, d2, d3, d4] }
  | _ => none }
def otsSignsRow : OpenClaim := { program := "ytobbhelaajcpcaa", sum := "445ad69726b7a3817c977e9cf00ff7b65130030e304e6c461ae37096f5d6a320", func := "ostler/ostlerlaw3.OtsSigns", spec := "otsSigns", unfollowed := true, recurses := true, apart := false }
def OtsSignsSaid : Prop := otsSignsRow.holds Try.pinned (OpenSpec.ofChange otsSignsSpec)

/-- ITS FALSE NEIGHBOUR: 'it returns false'. Refute it at one input. -/
def otsSignsWrong : ChangeSpec := { name := "otsSigns", fn := fun _ => fun
  | [d1, d2, d3, d4] => { results := [.lit (.bool false)], args := [d1, d2, d3, d4] }
  | _ => none }
def OtsSignsWrongFalsely : Prop := otsSignsRow.holds Try.pinned (OpenSpec.ofChange otsSignsWrong)

/-- 'ostlerlaw3.OtsBack': WHATEVER THE INPUT: true; the input reads as it did. -/
def otsBackSpec : ChangeSpec := { name := "otsBack", fn := fun _ => fun
  | [d1, d2, d3] => { results := [.lit (.bool true)], args := [d1, d2, d3] }
  | _ => none }
def otsBackRow : OpenClaim := { program := "ytobbhelaajcpcaa", sum := "445ad69726b7a3817c977e9cf00ff7b65130030e304e6c461ae37096f5d6a320", func := "ostler/ostlerlaw3.OtsBack", spec := "otsBack", unfollowed := true, recurses := true, apart := false }
def OtsBackSaid : Prop := otsBackRow.holds Try.pinned (OpenSpec.ofChange otsBackSpec)

/-- ITS FALSE NEIGHBOUR: 'it returns false'. Refute it at one input. -/
def otsBackWrong : ChangeSpec := { name := "otsBack", fn := fun _ => fun
  | [d1, d2, d3] => { results := [.lit (.bool false)], args := [d1, d2, d3] }
  | _ => none }
def OtsBackWrongFalsely : Prop := otsBackRow.holds Try.pinned (OpenSpec.ofChange otsBackWrong)

/-- 'ostlerlaw3.OtsDigits': WHATEVER THE INPUT: true; the input reads as it did. -/
def otsDigitsSpec : ChangeSpec := { name := "otsDigits", fn := fun _ => fun
  | [d1, d2] => { results := [.lit (.bool true)], args := [d1, d2] }
  | _ => none }
def otsDigitsRow : OpenClaim := { program := "ytobbhelaajcpcaa", sum := "445ad69726b7a3817c977e9cf00ff7b65130030e304e6c461ae37096f5d6a320", func := "ostler/ostlerlaw3.OtsDigits", spec := "otsDigits", unfollowed := true, recurses := true, apart := false }
def OtsDigitsSaid : Prop := otsDigitsRow.holds Try.pinned (OpenSpec.ofChange otsDigitsSpec)

/-- ITS FALSE NEIGHBOUR: 'it returns false'. Refute it at one input. -/
def otsDigitsWrong : ChangeSpec := { name := "otsDigits", fn := fun _ => fun
  | [d1, d2] => { results := [.lit (.bool false)], args := [d1, d2] }
  | _ => none }
def OtsDigitsWrongFalsely : Prop := otsDigitsRow.holds Try.pinned (OpenSpec.ofChange otsDigitsWrong)

/-- 'ostlerlaw3.OtsWalks': WHATEVER THE INPUT: true; the input reads as it did. -/
def otsWalksSpec : ChangeSpec := { name := "otsWalks", fn := fun _ => fun
  | [d1, d2, d3, d4] => { results := [.lit (.bool true)], args := [d1, d2, d3, d4] }
  | _ => none }
def otsWalksRow : OpenClaim := { program := "ytobbhelaajcpcaa", sum := "445ad69726b7a3817c977e9cf00ff7b65130030e304e6c461ae37096f5d6a320", func := "ostler/ostlerlaw3.OtsWalks", spec := "otsWalks", unfollowed := true, recurses := true, apart := false }
def OtsWalksSaid : Prop := otsWalksRow.holds Try.pinned (OpenSpec.ofChange otsWalksSpec)

/-- ITS FALSE NEIGHBOUR: 'it returns false'. Refute it at one input. -/
def otsWalksWrong : ChangeSpec := { name := "otsWalks", fn := fun _ => fun
  | [d1, d2, d3, d4] => { results := [.lit (.bool false)], args := [d1, d2, d3, d4] }
  | _ => none }
def OtsWalksWrongFalsely : Prop := otsWalksRow.holds Try.pinned (OpenSpec.ofChange otsWalksWrong)

/-- 'ostlerlaw3.OtsChecks': WHATEVER THE INPUT: true; the input reads as it did. -/
def otsChecksSpec : ChangeSpec := { name := "otsChecks", fn := fun _ => fun
  | [d] => { results := [.lit (.bool true)], args := [d] }
  | _ => none }
def otsChecksRow : OpenClaim := { program := "ytobbhelaajcpcaa", sum := "445ad69726b7a3817c977e9cf00ff7b65130030e304e6c461ae37096f5d6a320", func := "ostler/ostlerlaw3.OtsChecks", spec := "otsChecks", unfollowed := true, recurses := true, apart := false }
def OtsChecksSaid : Prop := otsChecksRow.holds Try.pinned (OpenSpec.ofChange otsChecksSpec)

/-- ITS FALSE NEIGHBOUR: 'it returns false'. Refute it at one input. -/
def otsChecksWrong : ChangeSpec := { name := "otsChecks", fn := fun _ => fun
  | [d] => { results := [.lit (.bool false)], args := [d] }
  | _ => none }
def OtsChecksWrongFalsely : Prop := otsChecksRow.holds Try.pinned (OpenSpec.ofChange otsChecksWrong)

/-- 'ostlerlaw3.OtsShort': WHATEVER THE INPUT: true; the input reads as it did. -/
def otsShortSpec : ChangeSpec := { name := "otsShort", fn := fun _ => fun
  | [d1, d2, d3] => { results := [.lit (.bool true)], args := [d1, d2, d3] }
  | _ => none }
def otsShortRow : OpenClaim := { program := "ytobbhelaajcpcaa", sum := "445ad69726b7a3817c977e9cf00ff7b65130030e304e6c461ae37096f5d6a320", func := "ostler/ostlerlaw3.OtsShort", spec := "otsShort", unfollowed := true, recurses := true, apart := false }
def OtsShortSaid : Prop := otsShortRow.holds Try.pinned (OpenSpec.ofChange otsShortSpec)

/-- ITS FALSE NEIGHBOUR: 'it returns false'. Refute it at one input. -/
def otsShortWrong : ChangeSpec := { name := "otsShort", fn := fun _ => fun
  | [d1, d2, d3] => { results := [.lit (.bool false)], args := [d1, d2, d3] }
  | _ => none }
def OtsShortWrongFalsely : Prop := otsShortRow.holds Try.pinned (OpenSpec.ofChange otsShortWrong)

/-- 'ostlerlaw4.MerkleOrder': WHATEVER THE INPUT: true; the input reads as it did. -/
def merkleOrderSpec : ChangeSpec := { name := "merkleOrder", fn := fun _ => fun
  | [d1, d2] => { results := [.lit (.bool true)], args := [d1, d2] }
  | _ => none }
def merkleOrderRow : OpenClaim := { program := "ytobbhelaajcpcaa", sum := "445ad69726b7a3817c977e9cf00ff7b65130030e304e6c461ae37096f5d6a320", func := "ostler/ostlerlaw4.MerkleOrder", spec := "merkleOrder", recurses := true, apart := false }
def MerkleOrderSaid : Prop := merkleOrderRow.holds Try.pinned (OpenSpec.ofChange merkleOrderSpec)

/-- ITS FALSE NEIGHBOUR: 'it returns false'. Refute it at one input. -/
def merkleOrderWrong : ChangeSpec := { name := "merkleOrder", fn := fun _ => fun
  | [d1, d2] => { results := [.lit (.bool false)], args := [d1, d2] }
  | _ => none }
def MerkleOrderWrongFalsely : Prop := merkleOrderRow.holds Try.pinned (OpenSpec.ofChange merkleOrderWrong)

/-- 'ostlerlaw4.MerkleTells': WHATEVER THE INPUT: true; the input reads as it did. -/
def merkleTellsSpec : ChangeSpec := { name := "merkleTells", fn := fun _ => fun
  | [d1, d2, d3, d4] => { results := [.lit (.bool true)], args := [d1, d2, d3, d4] }
  | _ => none }
def merkleTellsRow : OpenClaim := { program := "ytobbhelaajcpcaa", sum := "445ad69726b7a3817c977e9cf00ff7b65130030e304e6c461ae37096f5d6a320", func := "ostler/ostlerlaw4.MerkleTells", spec := "merkleTells", recurses := true, apart := false }
def MerkleTellsSaid : Prop := merkleTellsRow.holds Try.pinned (OpenSpec.ofChange merkleTellsSpec)

/-- ITS FALSE NEIGHBOUR: 'it returns false'. Refute it at one input. -/
def merkleTellsWrong : ChangeSpec := { name := "merkleTells", fn := fun _ => fun
  | [d1, d2, d3, d4] => { results := [.lit (.bool false)], args := [d1, d2, d3, d4] }
  | _ => none }
def MerkleTellsWrongFalsely : Prop := merkleTellsRow.holds Try.pinned (OpenSpec.ofChange merkleTellsWrong)

/-- 'ostlerlaw4.MerkleUp': WHATEVER THE INPUT: true; the input reads as it did. -/
def merkleUpSpec : ChangeSpec := { name := "merkleUp", fn := fun _ => fun
  | [d1, d2, d3] => { results := [.lit (.bool true)], args := [d1, d2, d3] }
  | _ => none }
def merkleUpRow : OpenClaim := { program := "ytobbhelaajcpcaa", sum := "445ad69726b7a3817c977e9cf00ff7b65130030e304e6c461ae37096f5d6a320", func := "ostler/ostlerlaw4.MerkleUp", spec := "merkleUp", recurses := true, apart := false }
def MerkleUpSaid : Prop := merkleUpRow.holds Try.pinned (OpenSpec.ofChange merkleUpSpec)

/-- ITS FALSE NEIGHBOUR: 'it returns false'. Refute it at one input. -/
def merkleUpWrong : ChangeSpec := { name := "merkleUp", fn := fun _ => fun
  | [d1, d2, d3] => { results := [.lit (.bool false)], args := [d1, d2, d3] }
  | _ => none }
def MerkleUpWrongFalsely : Prop := merkleUpRow.holds Try.pinned (OpenSpec.ofChange merkleUpWrong)

/- THE SECOND FORM. 'bulk': how many values and letters a reading holds, each counted each time it is reached (what is shared counts as often as it is met; a slice's spare places count too). A statement '..UptoSaid' is the law's where the arguments, and the package variables that the reading takes, are together of bulk at most 1048576: NARROWER than '..Said'. Prove '..Said' where nothing that the law and all that it calls make is longer than what came in: it says more and counts as full. Else prove '..UptoSaid'. A law counts once. -/
mutual
def uptoBulk {H : Type} : DataW H → Nat
  | .lit (.string bytes) => bytes.length + 1
  | .lit _ => 1
  | .nil => 1
  | .ptr d => uptoBulk d + 1
  | .slice elems spare => uptoBulkAll elems + uptoBulkAll spare + 1
  | .agg parts => uptoBulkAll parts + 1
  | .iface _ d => uptoBulk d + 1
  | .map entries => uptoBulkEntries entries + 1
  | .held _ => 1
def uptoBulkAll {H : Type} : List (DataW H) → Nat
  | [] => 0
  | d :: r => uptoBulk d + uptoBulkAll r
def uptoBulkEntries {H : Type} : List (Lit × DataW H) → Nat
  | [] => 0
  | x :: r => uptoBulkEntry x + uptoBulkEntries r
def uptoBulkEntry {H : Type} : Lit × DataW H → Nat
  | (.string bytes, d) => bytes.length + uptoBulk d + 1
  | (_, d) => uptoBulk d + 1
 end
def uptoSmall : (H : Type) → List (DataW H) → Bool := fun _ ds => decide (uptoBulkAll ds ≤ 1048576)
def OpenSpec.upto (s : _root_.Go.ChangeSpec) : _root_.Go.OpenSpec := { _root_.Go.OpenSpec.ofChange s with cond := some uptoSmall }

/-- 'ostlerlaw4.MerkleChanged', WHERE WHAT IT READS IS OF BULK AT MOST 1048576: true; the input reads as it did. -/
def merkleChangedUptoRow : OpenClaim := { program := "ytobbhelaajcpcaa", sum := "445ad69726b7a3817c977e9cf00ff7b65130030e304e6c461ae37096f5d6a320", func := "ostler/ostlerlaw4.MerkleChanged", spec := "merkleChanged", recurses := true, apart := false, narrowed := true }
def MerkleChangedUptoSaid : Prop := merkleChangedUptoRow.holds Try.pinned (OpenSpec.upto merkleChangedSpec)

/-- 'ostlerlaw3.OtsTells', WHERE WHAT IT READS IS OF BULK AT MOST 1048576: true; the input reads as it did. -/
def otsTellsUptoRow : OpenClaim := { program := "ytobbhelaajcpcaa", sum := "445ad69726b7a3817c977e9cf00ff7b65130030e304e6c461ae37096f5d6a320", func := "ostler/ostlerlaw3.OtsTells", spec := "otsTells", unfollowed := true, recurses := true, apart := false, narrowed := true }
def OtsTellsUptoSaid : Prop := otsTellsUptoRow.holds Try.pinned (OpenSpec.upto otsTellsSpec)

/-- 'ostlerlaw3.OtsSigns', WHERE WHAT IT READS IS OF BULK AT MOST 1048576: true; the input reads as it did. -/
def otsSignsUptoRow : OpenClaim := { program := "ytobbhelaajcpcaa", sum := "445ad69726b7a3817c977e9cf00ff7b65130030e304e6c461ae37096f5d6a320", func := "ostler/ostlerlaw3.OtsSigns", spec := "otsSigns", unfollowed := true, recurses := true, apart := false, narrowed := true }
def OtsSignsUptoSaid : Prop := otsSignsUptoRow.holds Try.pinned (OpenSpec.upto otsSignsSpec)

/-- 'ostlerlaw3.OtsBack', WHERE WHAT IT READS IS OF BULK AT MOST 1048576: true; the input reads as it did. -/
def otsBackUptoRow : OpenClaim := { program := "ytobbhelaajcpcaa", sum := "445ad69726b7a3817c977e9cf00ff7b65130030e304e6c461ae37096f5d6a320", func := "ostler/ostlerlaw3.OtsBack", spec := "otsBack", unfollowed := true, recurses := true, apart := false, narrowed := true }
def OtsBackUptoSaid : Prop := otsBackUptoRow.holds Try.pinned (OpenSpec.upto otsBackSpec)

/-- 'ostlerlaw3.OtsDigits', WHERE WHAT IT READS IS OF BULK AT MOST 1048576: true; the input reads as it did. -/
def otsDigitsUptoRow : OpenClaim := { program := "ytobbhelaajcpcaa", sum := "445ad69726b7a3817c977e9cf00ff7b65130030e304e6c461ae37096f5d6a320", func := "ostler/ostlerlaw3.OtsDigits", spec := "otsDigits", unfollowed := true, recurses := true, apart := false, narrowed := true }
def OtsDigitsUptoSaid : Prop := otsDigitsUptoRow.holds Try.pinned (OpenSpec.upto otsDigitsSpec)

/-- 'ostlerlaw3.OtsWalks', WHERE WHAT IT READS IS OF BULK AT MOST 1048576: true; the input reads as it did. -/
def otsWalksUptoRow : OpenClaim := { program := "ytobbhelaajcpcaa", sum := "445ad69726b7a3817c977e9cf00ff7b65130030e304e6c461ae37096f5d6a320", func := "ostler/ostlerlaw3.OtsWalks", spec := "otsWalks", unfollowed := true, recurses := true, apart := false, narrowed := true }
def OtsWalksUptoSaid : Prop := otsWalksUptoRow.holds Try.pinned (OpenSpec.upto otsWalksSpec)

/-- 'ostlerlaw3.OtsChecks', WHERE WHAT IT READS IS OF BULK AT MOST 1048576: true; the input reads as it did. -/
def otsChecksUptoRow : OpenClaim := { program := "ytobbhelaajcpcaa", sum := "445ad69726b7a3817c977e9cf00ff7b65130030e304e6c461ae37096f5d6a320", func := "ostler/ostlerlaw3.OtsChecks", spec := "otsChecks", unfollowed := true, recurses := true, apart := false, narrowed := true }
def OtsChecksUptoSaid : Prop := otsChecksUptoRow.holds Try.pinned (OpenSpec.upto otsChecksSpec)

/-- 'ostlerlaw3.OtsShort', WHERE WHAT IT READS IS OF BULK AT MOST 1048576: true; the input reads as it did. -/
def otsShortUptoRow : OpenClaim := { program := "ytobbhelaajcpcaa", sum := "445ad69726b7a3817c977e9cf00ff7b65130030e304e6c461ae37096f5d6a320", func := "ostler/ostlerlaw3.OtsShort", spec := "otsShort", unfollowed := true, recurses := true, apart := false, narrowed := true }
def OtsShortUptoSaid : Prop := otsShortUptoRow.holds Try.pinned (OpenSpec.upto otsShortSpec)

/-- 'ostlerlaw4.MerkleOrder', WHERE WHAT IT READS IS OF BULK AT MOST 1048576: true; the input reads as it did. -/
def merkleOrderUptoRow : OpenClaim := { program := "ytobbhelaajcpcaa", sum := "445ad69726b7a3817c977e9cf00ff7b65130030e304e6c461ae37096f5d6a320", func := "ostler/ostlerlaw4.MerkleOrder", spec := "merkleOrder", recurses := true, apart := false, narrowed := true }
def MerkleOrderUptoSaid : Prop := merkleOrderUptoRow.holds Try.pinned (OpenSpec.upto merkleOrderSpec)

/-- 'ostlerlaw4.MerkleTells', WHERE WHAT IT READS IS OF BULK AT MOST 1048576: true; the input reads as it did. -/
def merkleTellsUptoRow : OpenClaim := { program := "ytobbhelaajcpcaa", sum := "445ad69726b7a3817c977e9cf00ff7b65130030e304e6c461ae37096f5d6a320", func := "ostler/ostlerlaw4.MerkleTells", spec := "merkleTells", recurses := true, apart := false, narrowed := true }
def MerkleTellsUptoSaid : Prop := merkleTellsUptoRow.holds Try.pinned (OpenSpec.upto merkleTellsSpec)

/-- 'ostlerlaw4.MerkleUp', WHERE WHAT IT READS IS OF BULK AT MOST 1048576: true; the input reads as it did. -/
def merkleUpUptoRow : OpenClaim := { program := "ytobbhelaajcpcaa", sum := "445ad69726b7a3817c977e9cf00ff7b65130030e304e6c461ae37096f5d6a320", func := "ostler/ostlerlaw4.MerkleUp", spec := "merkleUp", recurses := true, apart := false, narrowed := true }
def MerkleUpUptoSaid : Prop := merkleUpUptoRow.holds Try.pinned (OpenSpec.upto merkleUpSpec)

end Rows
end Go.Proofs.Ytobbhelaajcpcaa

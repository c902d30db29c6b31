/-
  No cell of these rows narrows 'for every input' (looked for: loops, veiled, ifaces, maps, wideKeys, modest, calm, conditions, laid).
  DERIVED. THE GIVEN ROWS OF THIS SEAT. 6 by the template 'for every input the law returns true; each argument reads behind the call as it read before'; 0 by the template 'total and deterministic' (their statements: YtcglackbpfnfdaaTotals.lean).
  GIVEN WITH THE SEED: the statements are not yours to turn. If you find one false, say at which input.
  Laid BY PROGRAM, IN A SANDBOX (cutbox-rows.mjs): the forced cells as the released guide's own fill.sh prints them over the translation 384a8ee68c1c9234… (all of the seat's roots in one cut). By AI agents, Wed Nov 11 2026. No macro, syntax, notation, axiom, sorry.
-/
import Derived.Test.YtcglackbpfnfdaaChecked
import GoSem.Claim
import GoSem.ClaimJoined
import GoSem.ClaimMapViews
import Derived.JoinedTies
import Derived.KernelRfl
namespace Go.Proofs.Ytcglackbpfnfdaa
/- THE CELL 'sum', in the pinned program and in every row, IS THE sha256 OF THE DUMP (.gsa) THAT YtcglackbpfnfdaaProg.lean LOADS. Nothing in Lean hashes anything: it is a label: what it is worth is what the hold of that sum in a sandbox is worth. -/
noncomputable def Try.pinned : Pinned := { name := "ytcglackbpfnfdaa", sum := "384a8ee68c1c92348c9b5c33509b9596786a8d1c5d6361d7059a7b4af41334c0", checked := Try.checked }
namespace Rows
def none {H : Type} : Left H := { results := [], args := [] }

/-- 'ostlerlaw8.ChainTime': WHATEVER THE INPUT: true; the input reads as it did. -/
def chainTimeSpec : ChangeSpec := { name := "chainTime", fn := fun _ => fun
  | [d1, d2, d3] => { results := [.lit (.bool true)], args := [d1, d2, d3] }
  | _ => none }
def chainTimeRow : OpenClaim := { program := "ytcglackbpfnfdaa", sum := "384a8ee68c1c92348c9b5c33509b9596786a8d1c5d6361d7059a7b4af41334c0", func := "ostler/ostlerlaw8.ChainTime", spec := "chainTime", apart := false }
def ChainTimeSaid : Prop := chainTimeRow.holds Try.pinned (OpenSpec.ofChange chainTimeSpec)

/-- ITS FALSE NEIGHBOUR: 'it returns false'. Refute it at one input. -/
def chainTimeWrong : ChangeSpec := { name := "chainTime", fn := fun _ => fun
  | [d1, d2, d3] => { results := [.lit (.bool false)], args := [d1, d2, d3] }
  | _ => none }
def ChainTimeWrongFalsely : Prop := chainTimeRow.holds Try.pinned (OpenSpec.ofChange chainTimeWrong)

/-- 'ostlerlaw7.QuorumIs': WHATEVER THE INPUT: true; the input reads as it did. -/
def quorumIsSpec : ChangeSpec := { name := "quorumIs", fn := fun _ => fun
  | [d] => { results := [.lit (.bool true)], args := [d] }
  | _ => none }
def quorumIsRow : OpenClaim := { program := "ytcglackbpfnfdaa", sum := "384a8ee68c1c92348c9b5c33509b9596786a8d1c5d6361d7059a7b4af41334c0", func := "ostler/ostlerlaw7.QuorumIs", spec := "quorumIs", apart := false }
def QuorumIsSaid : Prop := quorumIsRow.holds Try.pinned (OpenSpec.ofChange quorumIsSpec)

/-- ITS FALSE NEIGHBOUR: 'it returns false'. Refute it at one input. -/
def quorumIsWrong : ChangeSpec := { name := "quorumIs", fn := fun _ => fun
  | [d] => { results := [.lit (.bool false)], args := [d] }
  | _ => none }
def QuorumIsWrongFalsely : Prop := quorumIsRow.holds Try.pinned (OpenSpec.ofChange quorumIsWrong)

/-- 'ostlerlaw2.DigestSums': WHATEVER THE INPUT: true; the input reads as it did. -/
def digestSumsSpec : ChangeSpec := { name := "digestSums", fn := fun _ => fun
  | [d] => { results := [.lit (.bool true)], args := [d] }
  | _ => none }
def digestSumsRow : OpenClaim := { program := "ytcglackbpfnfdaa", sum := "384a8ee68c1c92348c9b5c33509b9596786a8d1c5d6361d7059a7b4af41334c0", func := "ostler/ostlerlaw2.DigestSums", spec := "digestSums", unfollowed := true, recurses := true, apart := false }
def DigestSumsSaid : Prop := digestSumsRow.holds Try.pinned (OpenSpec.ofChange digestSumsSpec)

/-- ITS FALSE NEIGHBOUR: 'it returns false'. Refute it at one input. -/
def digestSumsWrong : ChangeSpec := { name := "digestSums", fn := fun _ => fun
  | [d] => { results := [.lit (.bool false)], args := [d] }
  | _ => none }
def DigestSumsWrongFalsely : Prop := digestSumsRow.holds Try.pinned (OpenSpec.ofChange digestSumsWrong)

/-- 'ostlerlaw2.DigestMacs': WHATEVER THE INPUT: true; the input reads as it did. -/
def digestMacsSpec : ChangeSpec := { name := "digestMacs", fn := fun _ => fun
  | [d1, d2] => { results := [.lit (.bool true)], args := [d1, d2] }
  | _ => none }
def digestMacsRow : OpenClaim := { program := "ytcglackbpfnfdaa", sum := "384a8ee68c1c92348c9b5c33509b9596786a8d1c5d6361d7059a7b4af41334c0", func := "ostler/ostlerlaw2.DigestMacs", spec := "digestMacs", unfollowed := true, recurses := true, apart := false }
def DigestMacsSaid : Prop := digestMacsRow.holds Try.pinned (OpenSpec.ofChange digestMacsSpec)

/-- ITS FALSE NEIGHBOUR: 'it returns false'. Refute it at one input. -/
def digestMacsWrong : ChangeSpec := { name := "digestMacs", fn := fun _ => fun
  | [d1, d2] => { results := [.lit (.bool false)], args := [d1, d2] }
  | _ => none }
def DigestMacsWrongFalsely : Prop := digestMacsRow.holds Try.pinned (OpenSpec.ofChange digestMacsWrong)

/-- 'ostlerlaw2.DigestKeys': WHATEVER THE INPUT: true; the input reads as it did. -/
def digestKeysSpec : ChangeSpec := { name := "digestKeys", fn := fun _ => fun
  | [d1, d2, d3] => { results := [.lit (.bool true)], args := [d1, d2, d3] }
  | _ => none }
def digestKeysRow : OpenClaim := { program := "ytcglackbpfnfdaa", sum := "384a8ee68c1c92348c9b5c33509b9596786a8d1c5d6361d7059a7b4af41334c0", func := "ostler/ostlerlaw2.DigestKeys", spec := "digestKeys", unfollowed := true, recurses := true, apart := false }
def DigestKeysSaid : Prop := digestKeysRow.holds Try.pinned (OpenSpec.ofChange digestKeysSpec)

/-- ITS FALSE NEIGHBOUR: 'it returns false'. Refute it at one input. -/
def digestKeysWrong : ChangeSpec := { name := "digestKeys", fn := fun _ => fun
  | [d1, d2, d3] => { results := [.lit (.bool false)], args := [d1, d2, d3] }
  | _ => none }
def DigestKeysWrongFalsely : Prop := digestKeysRow.holds Try.pinned (OpenSpec.ofChange digestKeysWrong)

/-- 'ostlerlaw2.DigestLinks': WHATEVER THE INPUT: true; the input reads as it did. -/
def digestLinksSpec : ChangeSpec := { name := "digestLinks", fn := fun _ => fun
  | [d1, d2] => { results := [.lit (.bool true)], args := [d1, d2] }
  | _ => none }
def digestLinksRow : OpenClaim := { program := "ytcglackbpfnfdaa", sum := "384a8ee68c1c92348c9b5c33509b9596786a8d1c5d6361d7059a7b4af41334c0", func := "ostler/ostlerlaw2.DigestLinks", spec := "digestLinks", unfollowed := true, recurses := true, apart := false }
def DigestLinksSaid : Prop := digestLinksRow.holds Try.pinned (OpenSpec.ofChange digestLinksSpec)

/-- ITS FALSE NEIGHBOUR: 'it returns false'. Refute it at one input. -/
def digestLinksWrong : ChangeSpec := { name := "digestLinks", fn := fun _ => fun
  | [d1, d2] => { results := [.lit (.bool false)], args := [d1, d2] }
  | _ => none }
def DigestLinksWrongFalsely : Prop := digestLinksRow.holds Try.pinned (OpenSpec.ofChange digestLinksWrong)

/- THE SECOND FORM. 'bulk': how many values and letters a reading holds, each counted each time it is reached (what is shared counts as often as it is met; a slice's spare places count too). A statement '..UptoSaid' is the law's where the arguments, and the package variables that the reading takes, are together of bulk at most 1048576: NARROWER than '..Said'. Prove '..Said' where nothing that the law and all that it calls make is longer than what came in: it says more and counts as full. Else prove '..UptoSaid'. A law counts once. -/
mutual
def uptoBulk {H : Type} : DataW H → Nat
  | .lit (.string bytes) => bytes.length + 1
  | .lit _ => 1
  | .nil => 1
  | .ptr d => uptoBulk d + 1
  | .slice elems spare => uptoBulkAll elems + uptoBulkAll spare + 1
  | .agg parts => uptoBulkAll parts + 1
  | .iface _ d => uptoBulk d + 1
  | .map entries => uptoBulkEntries entries + 1
  | .held _ => 1
def uptoBulkAll {H : Type} : List (DataW H) → Nat
  | [] => 0
  | d :: r => uptoBulk d + uptoBulkAll r
def uptoBulkEntries {H : Type} : List (Lit × DataW H) → Nat
  | [] => 0
  | x :: r => uptoBulkEntry x + uptoBulkEntries r
def uptoBulkEntry {H : Type} : Lit × DataW H → Nat
  | (.string bytes, d) => bytes.length + uptoBulk d + 1
  | (_, d) => uptoBulk d + 1
 end
def uptoSmall : (H : Type) → List (DataW H) → Bool := fun _ ds => decide (uptoBulkAll ds ≤ 1048576)
def OpenSpec.upto (s : _root_.Go.ChangeSpec) : _root_.Go.OpenSpec := { _root_.Go.OpenSpec.ofChange s with cond := some uptoSmall }

/-- 'ostlerlaw8.ChainTime', WHERE WHAT IT READS IS OF BULK AT MOST 1048576: true; the input reads as it did. -/
def chainTimeUptoRow : OpenClaim := { program := "ytcglackbpfnfdaa", sum := "384a8ee68c1c92348c9b5c33509b9596786a8d1c5d6361d7059a7b4af41334c0", func := "ostler/ostlerlaw8.ChainTime", spec := "chainTime", apart := false, narrowed := true }
def ChainTimeUptoSaid : Prop := chainTimeUptoRow.holds Try.pinned (OpenSpec.upto chainTimeSpec)

/-- 'ostlerlaw7.QuorumIs', WHERE WHAT IT READS IS OF BULK AT MOST 1048576: true; the input reads as it did. -/
def quorumIsUptoRow : OpenClaim := { program := "ytcglackbpfnfdaa", sum := "384a8ee68c1c92348c9b5c33509b9596786a8d1c5d6361d7059a7b4af41334c0", func := "ostler/ostlerlaw7.QuorumIs", spec := "quorumIs", apart := false, narrowed := true }
def QuorumIsUptoSaid : Prop := quorumIsUptoRow.holds Try.pinned (OpenSpec.upto quorumIsSpec)

/-- 'ostlerlaw2.DigestSums', WHERE WHAT IT READS IS OF BULK AT MOST 1048576: true; the input reads as it did. -/
def digestSumsUptoRow : OpenClaim := { program := "ytcglackbpfnfdaa", sum := "384a8ee68c1c92348c9b5c33509b9596786a8d1c5d6361d7059a7b4af41334c0", func := "ostler/ostlerlaw2.DigestSums", spec := "digestSums", unfollowed := true, recurses := true, apart := false, narrowed := true }
def DigestSumsUptoSaid : Prop := digestSumsUptoRow.holds Try.pinned (OpenSpec.upto digestSumsSpec)

/-- 'ostlerlaw2.DigestMacs', WHERE WHAT IT READS IS OF BULK AT MOST 1048576: true; the input reads as it did. -/
def digestMacsUptoRow : OpenClaim := { program := "ytcglackbpfnfdaa", sum := "384a8ee68c1c92348c9b5c33509b9596786a8d1c5d6361d7059a7b4af41334c0", func := "ostler/ostlerlaw2.DigestMacs", spec := "digestMacs", unfollowed := true, recurses := true, apart := false, narrowed := true }
def DigestMacsUptoSaid : Prop := digestMacsUptoRow.holds Try.pinned (OpenSpec.upto digestMacsSpec)

/-- 'ostlerlaw2.DigestKeys', WHERE WHAT IT READS IS OF BULK AT MOST 1048576: true; the input reads as it did. -/
def digestKeysUptoRow : OpenClaim := { program := "ytcglackbpfnfdaa", sum := "384a8ee68c1c92348c9b5c33509b9596786a8d1c5d6361d7059a7b4af41334c0", func := "ostler/ostlerlaw2.DigestKeys", spec := "digestKeys", unfollowed := true, recurses := true, apart := false, narrowed := true }
def DigestKeysUptoSaid : Prop := digestKeysUptoRow.holds Try.pinned (OpenSpec.upto digestKeysSpec)

/-- 'ostlerlaw2.DigestLinks', WHERE WHAT IT READS IS OF BULK AT MOST 1048576: true; the input reads as it did. -/
def digestLinksUptoRow : OpenClaim := { program := "ytcglackbpfnfdaa", sum := "384a8ee68c1c92348c9b5c33509b9596786a8d1c5d6361d7059a7b4af41334c0", func := "ostler/ostlerlaw2.DigestLinks", spec := "digestLinks", unfollowed := true, recurses := true, apart := false, narrowed := true }
def DigestLinksUptoSaid : Prop := digestLinksUptoRow.holds Try.pinned (OpenSpec.upto digestLinksSpec)

end Rows
end Go.Proofs.Ytcglackbpfnfdaa

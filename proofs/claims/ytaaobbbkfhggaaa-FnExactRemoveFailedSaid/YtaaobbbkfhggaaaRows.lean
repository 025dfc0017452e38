/-
  No cell of these rows narrows 'for every input' (looked for: loops, veiled, ifaces, maps, wideKeys, modest, calm, conditions, laid).
  DERIVED. THE GIVEN ROWS OF THIS SEAT. 7 by the template 'for every input the law returns true; each argument reads behind the call as it read before'; 0 by the template 'total and deterministic' (their statements: YtaaobbbkfhggaaaTotals.lean).
  GIVEN WITH THE SEED: the statements are not yours to turn. If you find one false, say at which input.
  Laid BY PROGRAM, IN A SANDBOX (cutbox-rows.mjs): the forced cells as the released guide's own fill.sh prints them over the translation 89ae0fa0e3a970b9… (all of the seat's roots in one cut). By AI agents, Wed Nov 11 2026. No macro, syntax, notation, axiom, sorry.
-/
import Derived.Test.YtaaobbbkfhggaaaChecked
import GoSem.Claim
import GoSem.ClaimJoined
import GoSem.ClaimMapViews
import Derived.JoinedTies
import Derived.KernelRfl
namespace Go.Proofs.Ytaaobbbkfhggaaa
/- THE CELL 'sum', in the pinned program and in every row, IS THE sha256 OF THE DUMP (.gsa) THAT YtaaobbbkfhggaaaProg.lean LOADS. Nothing in Lean hashes anything: it is a label: what it is worth is what the hold of that sum in a sandbox is worth. -/
noncomputable def Try.pinned : Pinned := { name := "ytaaobbbkfhggaaa", sum := "89ae0fa0e3a970b9edf125e14fb6bc2f3c8b30ed15fcbc0f3161685c08e1e5ee", checked := Try.checked }
namespace Rows
def none {H : Type} : Left H := { results := [], args := [] }

/-- 'laws.FnExactLinkIndex': WHATEVER THE INPUT: true; the input reads as it did. -/
def fnExactLinkIndexSpec : ChangeSpec := { name := "fnExactLinkIndex", fn := fun _ => fun
  | [d1, d2, d3] => { results := [.lit (.bool true)], args := [d1, d2, d3] }
  | _ => none }
def fnExactLinkIndexRow : OpenClaim := { program := "ytaaobbbkfhggaaa", sum := "89ae0fa0e3a970b9edf125e14fb6bc2f3c8b30ed15fcbc0f3161685c08e1e5ee", func := "loop.example/g00507/laws.FnExactLinkIndex", spec := "fnExactLinkIndex", unfollowed := true, recurses := true, apart := false }
def FnExactLinkIndexSaid : Prop := fnExactLinkIndexRow.holds Try.pinned (OpenSpec.ofChange fnExactLinkIndexSpec)

/-- ITS FALSE NEIGHBOUR: 'it returns false'. Refute it at one input. -/
def fnExactLinkIndexWrong : ChangeSpec := { name := "fnExactLinkIndex", fn := fun _ => fun
  | [d1, d2, d3] => { results := [.lit (.bool false)], args := [d1, d2, d3] }
  | _ => none }
def FnExactLinkIndexWrongFalsely : Prop := fnExactLinkIndexRow.holds Try.pinned (OpenSpec.ofChange fnExactLinkIndexWrong)

/-- 'laws.FnExactFaceTo': WHATEVER THE INPUT: true; the input reads as it did. -/
def fnExactFaceToSpec : ChangeSpec := { name := "fnExactFaceTo", fn := fun _ => fun
  | [d1, d2, d3] => { results := [.lit (.bool true)], args := [d1, d2, d3] }
  | _ => none }
def fnExactFaceToRow : OpenClaim := { program := "ytaaobbbkfhggaaa", sum := "89ae0fa0e3a970b9edf125e14fb6bc2f3c8b30ed15fcbc0f3161685c08e1e5ee", func := "loop.example/g00507/laws.FnExactFaceTo", spec := "fnExactFaceTo", unfollowed := true, recurses := true, apart := false }
def FnExactFaceToSaid : Prop := fnExactFaceToRow.holds Try.pinned (OpenSpec.ofChange fnExactFaceToSpec)

/-- ITS FALSE NEIGHBOUR: 'it returns false'. Refute it at one input. -/
def fnExactFaceToWrong : ChangeSpec := { name := "fnExactFaceTo", fn := fun _ => fun
  | [d1, d2, d3] => { results := [.lit (.bool false)], args := [d1, d2, d3] }
  | _ => none }
def FnExactFaceToWrongFalsely : Prop := fnExactFaceToRow.holds Try.pinned (OpenSpec.ofChange fnExactFaceToWrong)

/-- 'laws.FnExactValidTopology': WHATEVER THE INPUT: true; the input reads as it did. -/
def fnExactValidTopologySpec : ChangeSpec := { name := "fnExactValidTopology", fn := fun _ => fun
  | [d] => { results := [.lit (.bool true)], args := [d] }
  | _ => none }
def fnExactValidTopologyRow : OpenClaim := { program := "ytaaobbbkfhggaaa", sum := "89ae0fa0e3a970b9edf125e14fb6bc2f3c8b30ed15fcbc0f3161685c08e1e5ee", func := "loop.example/g00507/laws.FnExactValidTopology", spec := "fnExactValidTopology", apart := false }
def FnExactValidTopologySaid : Prop := fnExactValidTopologyRow.holds Try.pinned (OpenSpec.ofChange fnExactValidTopologySpec)

/-- ITS FALSE NEIGHBOUR: 'it returns false'. Refute it at one input. -/
def fnExactValidTopologyWrong : ChangeSpec := { name := "fnExactValidTopology", fn := fun _ => fun
  | [d] => { results := [.lit (.bool false)], args := [d] }
  | _ => none }
def FnExactValidTopologyWrongFalsely : Prop := fnExactValidTopologyRow.holds Try.pinned (OpenSpec.ofChange fnExactValidTopologyWrong)

/-- 'laws.FnExactWorstFailures': WHATEVER THE INPUT: true; the input reads as it did. -/
def fnExactWorstFailuresSpec : ChangeSpec := { name := "fnExactWorstFailures", fn := fun _ => fun
  | [d] => { results := [.lit (.bool true)], args := [d] }
  | _ => none }
def fnExactWorstFailuresRow : OpenClaim := { program := "ytaaobbbkfhggaaa", sum := "89ae0fa0e3a970b9edf125e14fb6bc2f3c8b30ed15fcbc0f3161685c08e1e5ee", func := "loop.example/g00507/laws.FnExactWorstFailures", spec := "fnExactWorstFailures", apart := false }
def FnExactWorstFailuresSaid : Prop := fnExactWorstFailuresRow.holds Try.pinned (OpenSpec.ofChange fnExactWorstFailuresSpec)

/-- ITS FALSE NEIGHBOUR: 'it returns false'. Refute it at one input. -/
def fnExactWorstFailuresWrong : ChangeSpec := { name := "fnExactWorstFailures", fn := fun _ => fun
  | [d] => { results := [.lit (.bool false)], args := [d] }
  | _ => none }
def FnExactWorstFailuresWrongFalsely : Prop := fnExactWorstFailuresRow.holds Try.pinned (OpenSpec.ofChange fnExactWorstFailuresWrong)

/-- 'laws.FnExactRemoteEnd': WHATEVER THE INPUT: true; the input reads as it did. -/
def fnExactRemoteEndSpec : ChangeSpec := { name := "fnExactRemoteEnd", fn := fun _ => fun
  | [d1, d2, d3] => { results := [.lit (.bool true)], args := [d1, d2, d3] }
  | _ => none }
def fnExactRemoteEndRow : OpenClaim := { program := "ytaaobbbkfhggaaa", sum := "89ae0fa0e3a970b9edf125e14fb6bc2f3c8b30ed15fcbc0f3161685c08e1e5ee", func := "loop.example/g00507/laws.FnExactRemoteEnd", spec := "fnExactRemoteEnd", unfollowed := true, recurses := true, apart := false }
def FnExactRemoteEndSaid : Prop := fnExactRemoteEndRow.holds Try.pinned (OpenSpec.ofChange fnExactRemoteEndSpec)

/-- ITS FALSE NEIGHBOUR: 'it returns false'. Refute it at one input. -/
def fnExactRemoteEndWrong : ChangeSpec := { name := "fnExactRemoteEnd", fn := fun _ => fun
  | [d1, d2, d3] => { results := [.lit (.bool false)], args := [d1, d2, d3] }
  | _ => none }
def FnExactRemoteEndWrongFalsely : Prop := fnExactRemoteEndRow.holds Try.pinned (OpenSpec.ofChange fnExactRemoteEndWrong)

/-- 'laws.FnExactNeighborsOf': WHATEVER THE INPUT: true; the input reads as it did. -/
def fnExactNeighborsOfSpec : ChangeSpec := { name := "fnExactNeighborsOf", fn := fun _ => fun
  | [d1, d2] => { results := [.lit (.bool true)], args := [d1, d2] }
  | _ => none }
def fnExactNeighborsOfRow : OpenClaim := { program := "ytaaobbbkfhggaaa", sum := "89ae0fa0e3a970b9edf125e14fb6bc2f3c8b30ed15fcbc0f3161685c08e1e5ee", func := "loop.example/g00507/laws.FnExactNeighborsOf", spec := "fnExactNeighborsOf", unfollowed := true, recurses := true, apart := false }
def FnExactNeighborsOfSaid : Prop := fnExactNeighborsOfRow.holds Try.pinned (OpenSpec.ofChange fnExactNeighborsOfSpec)

/-- ITS FALSE NEIGHBOUR: 'it returns false'. Refute it at one input. -/
def fnExactNeighborsOfWrong : ChangeSpec := { name := "fnExactNeighborsOf", fn := fun _ => fun
  | [d1, d2] => { results := [.lit (.bool false)], args := [d1, d2] }
  | _ => none }
def FnExactNeighborsOfWrongFalsely : Prop := fnExactNeighborsOfRow.holds Try.pinned (OpenSpec.ofChange fnExactNeighborsOfWrong)

/-- 'laws.FnExactRemoveFailed': WHATEVER THE INPUT: true; the input reads as it did. -/
def fnExactRemoveFailedSpec : ChangeSpec := { name := "fnExactRemoveFailed", fn := fun _ => fun
  | [d1, d2, d3] => { results := [.lit (.bool true)], args := [d1, d2, d3] }
  | _ => none }
def fnExactRemoveFailedRow : OpenClaim := { program := "ytaaobbbkfhggaaa", sum := "89ae0fa0e3a970b9edf125e14fb6bc2f3c8b30ed15fcbc0f3161685c08e1e5ee", func := "loop.example/g00507/laws.FnExactRemoveFailed", spec := "fnExactRemoveFailed", apart := false }
def FnExactRemoveFailedSaid : Prop := fnExactRemoveFailedRow.holds Try.pinned (OpenSpec.ofChange fnExactRemoveFailedSpec)

/-- ITS FALSE NEIGHBOUR: 'it returns false'. Refute it at one input. -/
def fnExactRemoveFailedWrong : ChangeSpec := { name := "fnExactRemoveFailed", fn := fun _ => fun
  | [d1, d2, d3] => { results := [.lit (.bool false)], args := [d1, d2, d3] }
  | _ => none }
def FnExactRemoveFailedWrongFalsely : Prop := fnExactRemoveFailedRow.holds Try.pinned (OpenSpec.ofChange fnExactRemoveFailedWrong)

/- THE SECOND FORM. 'bulk': how many values and letters a reading holds, each counted each time it is reached (what is shared counts as often as it is met; a slice's spare places count too). A statement '..UptoSaid' is the law's where the arguments, and the package variables that the reading takes, are together of bulk at most 1048576: NARROWER than '..Said'. Prove '..Said' where nothing that the law and all that it calls make is longer than what came in: it says more and counts as full. Else prove '..UptoSaid'. A law counts once. -/
mutual
def uptoBulk {H : Type} : DataW H → Nat
  | .lit (.string bytes) => bytes.length + 1
  | .lit _ => 1
  | .nil => 1
  | .ptr d => uptoBulk d + 1
  | .slice elems spare => uptoBulkAll elems + uptoBulkAll spare + 1
  | .agg parts => uptoBulkAll parts + 1
  | .iface _ d => uptoBulk d + 1
  | .map entries => uptoBulkEntries entries + 1
  | .held _ => 1
def uptoBulkAll {H : Type} : List (DataW H) → Nat
  | [] => 0
  | d :: r => uptoBulk d + uptoBulkAll r
def uptoBulkEntries {H : Type} : List (Lit × DataW H) → Nat
  | [] => 0
  | x :: r => uptoBulkEntry x + uptoBulkEntries r
def uptoBulkEntry {H : Type} : Lit × DataW H → Nat
  | (.string bytes, d) => bytes.length + uptoBulk d + 1
  | (_, d) => uptoBulk d + 1
 end
def uptoSmall : (H : Type) → List (DataW H) → Bool := fun _ ds => decide (uptoBulkAll ds ≤ 1048576)
def OpenSpec.upto (s : _root_.Go.ChangeSpec) : _root_.Go.OpenSpec := { _root_.Go.OpenSpec.ofChange s with cond := some uptoSmall }

/-- 'laws.FnExactLinkIndex', WHERE WHAT IT READS IS OF BULK AT MOST 1048576: true; the input reads as it did. -/
def fnExactLinkIndexUptoRow : OpenClaim := { program := "ytaaobbbkfhggaaa", sum := "89ae0fa0e3a970b9edf125e14fb6bc2f3c8b30ed15fcbc0f3161685c08e1e5ee", func := "loop.example/g00507/laws.FnExactLinkIndex", spec := "fnExactLinkIndex", unfollowed := true, recurses := true, apart := false, narrowed := true }
def FnExactLinkIndexUptoSaid : Prop := fnExactLinkIndexUptoRow.holds Try.pinned (OpenSpec.upto fnExactLinkIndexSpec)

/-- 'laws.FnExactFaceTo', WHERE WHAT IT READS IS OF BULK AT MOST 1048576: true; the input reads as it did. -/
def fnExactFaceToUptoRow : OpenClaim := { program := "ytaaobbbkfhggaaa", sum := "89ae0fa0e3a970b9edf125e14fb6bc2f3c8b30ed15fcbc0f3161685c08e1e5ee", func := "loop.example/g00507/laws.FnExactFaceTo", spec := "fnExactFaceTo", unfollowed := true, recurses := true, apart := false, narrowed := true }
def FnExactFaceToUptoSaid : Prop := fnExactFaceToUptoRow.holds Try.pinned (OpenSpec.upto fnExactFaceToSpec)

/-- 'laws.FnExactValidTopology', WHERE WHAT IT READS IS OF BULK AT MOST 1048576: true; the input reads as it did. -/
def fnExactValidTopologyUptoRow : OpenClaim := { program := "ytaaobbbkfhggaaa", sum := "89ae0fa0e3a970b9edf125e14fb6bc2f3c8b30ed15fcbc0f3161685c08e1e5ee", func := "loop.example/g00507/laws.FnExactValidTopology", spec := "fnExactValidTopology", apart := false, narrowed := true }
def FnExactValidTopologyUptoSaid : Prop := fnExactValidTopologyUptoRow.holds Try.pinned (OpenSpec.upto fnExactValidTopologySpec)

/-- 'laws.FnExactWorstFailures', WHERE WHAT IT READS IS OF BULK AT MOST 1048576: true; the input reads as it did. -/
def fnExactWorstFailuresUptoRow : OpenClaim := { program := "ytaaobbbkfhggaaa", sum := "89ae0fa0e3a970b9edf125e14fb6bc2f3c8b30ed15fcbc0f3161685c08e1e5ee", func := "loop.example/g00507/laws.FnExactWorstFailures", spec := "fnExactWorstFailures", apart := false, narrowed := true }
def FnExactWorstFailuresUptoSaid : Prop := fnExactWorstFailuresUptoRow.holds Try.pinned (OpenSpec.upto fnExactWorstFailuresSpec)

/-- 'laws.FnExactRemoteEnd', WHERE WHAT IT READS IS OF BULK AT MOST 1048576: true; the input reads as it did. -/
def fnExactRemoteEndUptoRow : OpenClaim := { program := "ytaaobbbkfhggaaa", sum := "89ae0fa0e3a970b9edf125e14fb6bc2f3c8b30ed15fcbc0f3161685c08e1e5ee", func := "loop.example/g00507/laws.FnExactRemoteEnd", spec := "fnExactRemoteEnd", unfollowed := true, recurses := true, apart := false, narrowed := true }
def FnExactRemoteEndUptoSaid : Prop := fnExactRemoteEndUptoRow.holds Try.pinned (OpenSpec.upto fnExactRemoteEndSpec)

/-- 'laws.FnExactNeighborsOf', WHERE WHAT IT READS IS OF BULK AT MOST 1048576: true; the input reads as it did. -/
def fnExactNeighborsOfUptoRow : OpenClaim := { program := "ytaaobbbkfhggaaa", sum := "89ae0fa0e3a970b9edf125e14fb6bc2f3c8b30ed15fcbc0f3161685c08e1e5ee", func := "loop.example/g00507/laws.FnExactNeighborsOf", spec := "fnExactNeighborsOf", unfollowed := true, recurses := true, apart := false, narrowed := true }
def FnExactNeighborsOfUptoSaid : Prop := fnExactNeighborsOfUptoRow.holds Try.pinned (OpenSpec.upto fnExactNeighborsOfSpec)

/-- 'laws.FnExactRemoveFailed', WHERE WHAT IT READS IS OF BULK AT MOST 1048576: true; the input reads as it did. -/
def fnExactRemoveFailedUptoRow : OpenClaim := { program := "ytaaobbbkfhggaaa", sum := "89ae0fa0e3a970b9edf125e14fb6bc2f3c8b30ed15fcbc0f3161685c08e1e5ee", func := "loop.example/g00507/laws.FnExactRemoveFailed", spec := "fnExactRemoveFailed", apart := false, narrowed := true }
def FnExactRemoveFailedUptoSaid : Prop := fnExactRemoveFailedUptoRow.holds Try.pinned (OpenSpec.upto fnExactRemoveFailedSpec)

end Rows
end Go.Proofs.Ytaaobbbkfhggaaa

/-
  No cell of these rows narrows 'for every input' (looked for: loops, veiled, ifaces, maps, wideKeys, modest, calm, conditions, laid).
  DERIVED. THE GIVEN ROWS OF THIS SEAT. 6 by the template 'for every input the law returns true; each argument reads behind the call as it read before'; 0 by the template 'total and deterministic' (their statements: YtfigcalengpipaaTotals.lean).
  GIVEN WITH THE SEED: the statements are not yours to turn. If you find one false, say at which input.
  Laid BY PROGRAM, IN A SANDBOX (cutbox-rows.mjs): the forced cells as the released guide's own fill.sh prints them over the translation 6b0ac67674fe0436… (all of the seat's roots in one cut). By AI agents, Wed Nov 11 2026. No macro, syntax, notation, axiom, sorry.
-/
import Derived.Test.YtfigcalengpipaaChecked
import GoSem.Claim
import GoSem.ClaimJoined
import GoSem.ClaimMapViews
import Derived.JoinedTies
import Derived.KernelRfl
namespace Go.Proofs.Ytfigcalengpipaa
/- THE CELL 'sum', in the pinned program and in every row, IS THE sha256 OF THE DUMP (.gsa) THAT YtfigcalengpipaaProg.lean LOADS. Nothing in Lean hashes anything: it is a label: what it is worth is what the hold of that sum in a sandbox is worth. -/
noncomputable def Try.pinned : Pinned := { name := "ytfigcalengpipaa", sum := "6b0ac67674fe0436c293d6641ec74f0af20db4475c57b75e6da37f1f748cdda0", checked := Try.checked }
namespace Rows
def none {H : Type} : Left H := { results := [], args := [] }

/-- 'laws.FnExactNewNode': WHATEVER THE INPUT: true; the input reads as it did. -/
def fnExactNewNodeSpec : ChangeSpec := { name := "fnExactNewNode", fn := fun _ => fun
  | [d] => { results := [.lit (.bool true)], args := [d] }
  | _ => none }
def fnExactNewNodeRow : OpenClaim := { program := "ytfigcalengpipaa", sum := "6b0ac67674fe0436c293d6641ec74f0af20db4475c57b75e6da37f1f748cdda0", func := "loop.example/g00507/laws.FnExactNewNode", spec := "fnExactNewNode", apart := false }
def FnExactNewNodeSaid : Prop := fnExactNewNodeRow.holds Try.pinned (OpenSpec.ofChange fnExactNewNodeSpec)

/-- ITS FALSE NEIGHBOUR: 'it returns false'. Refute it at one input. -/
def fnExactNewNodeWrong : ChangeSpec := { name := "fnExactNewNode", fn := fun _ => fun
  | [d] => { results := [.lit (.bool false)], args := [d] }
  | _ => none }
def FnExactNewNodeWrongFalsely : Prop := fnExactNewNodeRow.holds Try.pinned (OpenSpec.ofChange fnExactNewNodeWrong)

/-- 'laws.FnExactIsIdle': WHATEVER THE INPUT: true; the input reads as it did. -/
def fnExactIsIdleSpec : ChangeSpec := { name := "fnExactIsIdle", fn := fun _ => fun
  | [d] => { results := [.lit (.bool true)], args := [d] }
  | _ => none }
def fnExactIsIdleRow : OpenClaim := { program := "ytfigcalengpipaa", sum := "6b0ac67674fe0436c293d6641ec74f0af20db4475c57b75e6da37f1f748cdda0", func := "loop.example/g00507/laws.FnExactIsIdle", spec := "fnExactIsIdle", apart := false }
def FnExactIsIdleSaid : Prop := fnExactIsIdleRow.holds Try.pinned (OpenSpec.ofChange fnExactIsIdleSpec)

/-- ITS FALSE NEIGHBOUR: 'it returns false'. Refute it at one input. -/
def fnExactIsIdleWrong : ChangeSpec := { name := "fnExactIsIdle", fn := fun _ => fun
  | [d] => { results := [.lit (.bool false)], args := [d] }
  | _ => none }
def FnExactIsIdleWrongFalsely : Prop := fnExactIsIdleRow.holds Try.pinned (OpenSpec.ofChange fnExactIsIdleWrong)

/-- 'laws.FnExactNodeSize': WHATEVER THE INPUT: true; the input reads as it did. -/
def fnExactNodeSizeSpec : ChangeSpec := { name := "fnExactNodeSize", fn := fun _ => fun
  | [d] => { results := [.lit (.bool true)], args := [d] }
  | _ => none }
def fnExactNodeSizeRow : OpenClaim := { program := "ytfigcalengpipaa", sum := "6b0ac67674fe0436c293d6641ec74f0af20db4475c57b75e6da37f1f748cdda0", func := "loop.example/g00507/laws.FnExactNodeSize", spec := "fnExactNodeSize", apart := false }
def FnExactNodeSizeSaid : Prop := fnExactNodeSizeRow.holds Try.pinned (OpenSpec.ofChange fnExactNodeSizeSpec)

/-- ITS FALSE NEIGHBOUR: 'it returns false'. Refute it at one input. -/
def fnExactNodeSizeWrong : ChangeSpec := { name := "fnExactNodeSize", fn := fun _ => fun
  | [d] => { results := [.lit (.bool false)], args := [d] }
  | _ => none }
def FnExactNodeSizeWrongFalsely : Prop := fnExactNodeSizeRow.holds Try.pinned (OpenSpec.ofChange fnExactNodeSizeWrong)

/-- 'laws.FnExactPendingFaces': WHATEVER THE INPUT: true; the input reads as it did. -/
def fnExactPendingFacesSpec : ChangeSpec := { name := "fnExactPendingFaces", fn := fun _ => fun
  | [d1, d2] => { results := [.lit (.bool true)], args := [d1, d2] }
  | _ => none }
def fnExactPendingFacesRow : OpenClaim := { program := "ytfigcalengpipaa", sum := "6b0ac67674fe0436c293d6641ec74f0af20db4475c57b75e6da37f1f748cdda0", func := "loop.example/g00507/laws.FnExactPendingFaces", spec := "fnExactPendingFaces", unfollowed := true, recurses := true, apart := false }
def FnExactPendingFacesSaid : Prop := fnExactPendingFacesRow.holds Try.pinned (OpenSpec.ofChange fnExactPendingFacesSpec)

/-- ITS FALSE NEIGHBOUR: 'it returns false'. Refute it at one input. -/
def fnExactPendingFacesWrong : ChangeSpec := { name := "fnExactPendingFaces", fn := fun _ => fun
  | [d1, d2] => { results := [.lit (.bool false)], args := [d1, d2] }
  | _ => none }
def FnExactPendingFacesWrongFalsely : Prop := fnExactPendingFacesRow.holds Try.pinned (OpenSpec.ofChange fnExactPendingFacesWrong)

/-- 'laws.FnExactCrashNode': WHATEVER THE INPUT: true; the input reads as it did. -/
def fnExactCrashNodeSpec : ChangeSpec := { name := "fnExactCrashNode", fn := fun _ => fun
  | [d] => { results := [.lit (.bool true)], args := [d] }
  | _ => none }
def fnExactCrashNodeRow : OpenClaim := { program := "ytfigcalengpipaa", sum := "6b0ac67674fe0436c293d6641ec74f0af20db4475c57b75e6da37f1f748cdda0", func := "loop.example/g00507/laws.FnExactCrashNode", spec := "fnExactCrashNode", apart := false }
def FnExactCrashNodeSaid : Prop := fnExactCrashNodeRow.holds Try.pinned (OpenSpec.ofChange fnExactCrashNodeSpec)

/-- ITS FALSE NEIGHBOUR: 'it returns false'. Refute it at one input. -/
def fnExactCrashNodeWrong : ChangeSpec := { name := "fnExactCrashNode", fn := fun _ => fun
  | [d] => { results := [.lit (.bool false)], args := [d] }
  | _ => none }
def FnExactCrashNodeWrongFalsely : Prop := fnExactCrashNodeRow.holds Try.pinned (OpenSpec.ofChange fnExactCrashNodeWrong)

/-- 'laws.FnExactEqualNodes': WHATEVER THE INPUT: true; the input reads as it did. -/
def fnExactEqualNodesSpec : ChangeSpec := { name := "fnExactEqualNodes", fn := fun _ => fun
  | [d1, d2] => { results := [.lit (.bool true)], args := [d1, d2] }
  | _ => none }
def fnExactEqualNodesRow : OpenClaim := { program := "ytfigcalengpipaa", sum := "6b0ac67674fe0436c293d6641ec74f0af20db4475c57b75e6da37f1f748cdda0", func := "loop.example/g00507/laws.FnExactEqualNodes", spec := "fnExactEqualNodes", unfollowed := true, recurses := true, apart := false }
def FnExactEqualNodesSaid : Prop := fnExactEqualNodesRow.holds Try.pinned (OpenSpec.ofChange fnExactEqualNodesSpec)

/-- ITS FALSE NEIGHBOUR: 'it returns false'. Refute it at one input. -/
def fnExactEqualNodesWrong : ChangeSpec := { name := "fnExactEqualNodes", fn := fun _ => fun
  | [d1, d2] => { results := [.lit (.bool false)], args := [d1, d2] }
  | _ => none }
def FnExactEqualNodesWrongFalsely : Prop := fnExactEqualNodesRow.holds Try.pinned (OpenSpec.ofChange fnExactEqualNodesWrong)

/- THE SECOND FORM. 'bulk': how many values and letters a reading holds, each counted each time it is reached (what is shared counts as often as it is met; a slice's spare places count too). A statement '..UptoSaid' is the law's where the arguments, and the package variables that the reading takes, are together of bulk at most 1048576: NARROWER than '..Said'. Prove '..Said' where nothing that the law and all that it calls make is longer than what came in: it says more and counts as full. Else prove '..UptoSaid'. A law counts once. -/
mutual
def uptoBulk {H : Type} : DataW H → Nat
  | .lit (.string bytes) => bytes.length + 1
  | .lit _ => 1
  | .nil => 1
  | .ptr d => uptoBulk d + 1
  | .slice elems spare => uptoBulkAll elems + uptoBulkAll spare + 1
  | .agg parts => uptoBulkAll parts + 1
  | .iface _ d => uptoBulk d + 1
  | .map entries => uptoBulkEntries entries + 1
  | .held _ => 1
def uptoBulkAll {H : Type} : List (DataW H) → Nat
  | [] => 0
  | d :: r => uptoBulk d + uptoBulkAll r
def uptoBulkEntries {H : Type} : List (Lit × DataW H) → Nat
  | [] => 0
  | x :: r => uptoBulkEntry x + uptoBulkEntries r
def uptoBulkEntry {H : Type} : Lit × DataW H → Nat
  | (.string bytes, d) => bytes.length + uptoBulk d + 1
  | (_, d) => uptoBulk d + 1
 end
def uptoSmall : (H : Type) → List (DataW H) → Bool := fun _ ds => decide (uptoBulkAll ds ≤ 1048576)
def OpenSpec.upto (s : _root_.Go.ChangeSpec) : _root_.Go.OpenSpec := { _root_.Go.OpenSpec.ofChange s with cond := some uptoSmall }

/-- 'laws.FnExactNewNode', WHERE WHAT IT READS IS OF BULK AT MOST 1048576: true; the input reads as it did. -/
def fnExactNewNodeUptoRow : OpenClaim := { program := "ytfigcalengpipaa", sum := "6b0ac67674fe0436c293d6641ec74f0af20db4475c57b75e6da37f1f748cdda0", func := "loop.example/g00507/laws.FnExactNewNode", spec := "fnExactNewNode", apart := false, narrowed := true }
def FnExactNewNodeUptoSaid : Prop := fnExactNewNodeUptoRow.holds Try.pinned (OpenSpec.upto fnExactNewNodeSpec)

/-- 'laws.FnExactIsIdle', WHERE WHAT IT READS IS OF BULK AT MOST 1048576: true; the input reads as it did. -/
def fnExactIsIdleUptoRow : OpenClaim := { program := "ytfigcalengpipaa", sum := "6b0ac67674fe0436c293d6641ec74f0af20db4475c57b75e6da37f1f748cdda0", func := "loop.example/g00507/laws.FnExactIsIdle", spec := "fnExactIsIdle", apart := false, narrowed := true }
def FnExactIsIdleUptoSaid : Prop := fnExactIsIdleUptoRow.holds Try.pinned (OpenSpec.upto fnExactIsIdleSpec)

/-- 'laws.FnExactNodeSize', WHERE WHAT IT READS IS OF BULK AT MOST 1048576: true; the input reads as it did. -/
def fnExactNodeSizeUptoRow : OpenClaim := { program := "ytfigcalengpipaa", sum := "6b0ac67674fe0436c293d6641ec74f0af20db4475c57b75e6da37f1f748cdda0", func := "loop.example/g00507/laws.FnExactNodeSize", spec := "fnExactNodeSize", apart := false, narrowed := true }
def FnExactNodeSizeUptoSaid : Prop := fnExactNodeSizeUptoRow.holds Try.pinned (OpenSpec.upto fnExactNodeSizeSpec)

/-- 'laws.FnExactPendingFaces', WHERE WHAT IT READS IS OF BULK AT MOST 1048576: true; the input reads as it did. -/
def fnExactPendingFacesUptoRow : OpenClaim := { program := "ytfigcalengpipaa", sum := "6b0ac67674fe0436c293d6641ec74f0af20db4475c57b75e6da37f1f748cdda0", func := "loop.example/g00507/laws.FnExactPendingFaces", spec := "fnExactPendingFaces", unfollowed := true, recurses := true, apart := false, narrowed := true }
def FnExactPendingFacesUptoSaid : Prop := fnExactPendingFacesUptoRow.holds Try.pinned (OpenSpec.upto fnExactPendingFacesSpec)

/-- 'laws.FnExactCrashNode', WHERE WHAT IT READS IS OF BULK AT MOST 1048576: true; the input reads as it did. -/
def fnExactCrashNodeUptoRow : OpenClaim := { program := "ytfigcalengpipaa", sum := "6b0ac67674fe0436c293d6641ec74f0af20db4475c57b75e6da37f1f748cdda0", func := "loop.example/g00507/laws.FnExactCrashNode", spec := "fnExactCrashNode", apart := false, narrowed := true }
def FnExactCrashNodeUptoSaid : Prop := fnExactCrashNodeUptoRow.holds Try.pinned (OpenSpec.upto fnExactCrashNodeSpec)

/-- 'laws.FnExactEqualNodes', WHERE WHAT IT READS IS OF BULK AT MOST 1048576: true; the input reads as it did. -/
def fnExactEqualNodesUptoRow : OpenClaim := { program := "ytfigcalengpipaa", sum := "6b0ac67674fe0436c293d6641ec74f0af20db4475c57b75e6da37f1f748cdda0", func := "loop.example/g00507/laws.FnExactEqualNodes", spec := "fnExactEqualNodes", unfollowed := true, recurses := true, apart := false, narrowed := true }
def FnExactEqualNodesUptoSaid : Prop := fnExactEqualNodesUptoRow.holds Try.pinned (OpenSpec.upto fnExactEqualNodesSpec)

end Rows
end Go.Proofs.Ytfigcalengpipaa

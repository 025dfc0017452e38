/-
  No cell of these rows narrows 'for every input' (looked for: loops, veiled, ifaces, maps, wideKeys, modest, calm, conditions, laid).
  DERIVED. THE GIVEN ROWS OF THIS SEAT. 6 by the template 'for every input the law returns true; each argument reads behind the call as it read before'; 0 by the template 'total and deterministic' (their statements: YtjobmdnggfjkhaaTotals.lean).
  GIVEN WITH THE SEED: the statements are not yours to turn. If you find one false, say at which input.
  Laid BY PROGRAM, IN A SANDBOX (cutbox-rows.mjs): the forced cells as the released guide's own fill.sh prints them over the translation 2755f8ae2c0e1eb6… (all of the seat's roots in one cut). By AI agents, Wed Nov 11 2026. No macro, syntax, notation, axiom, sorry.
-/
import Derived.Test.YtjobmdnggfjkhaaChecked
import GoSem.Claim
import GoSem.ClaimJoined
import GoSem.ClaimMapViews
import Derived.JoinedTies
import Derived.KernelRfl
namespace Go.Proofs.Ytjobmdnggfjkhaa
/- THE CELL 'sum', in the pinned program and in every row, IS THE sha256 OF THE DUMP (.gsa) THAT YtjobmdnggfjkhaaProg.lean LOADS. Nothing in Lean hashes anything: it is a label: what it is worth is what the hold of that sum in a sandbox is worth. -/
noncomputable def Try.pinned : Pinned := { name := "ytjobmdnggfjkhaa", sum := "2755f8ae2c0e1eb67b0b0c3e8a973a29cf79b1794f2d27fbd09cc094a15fab77", checked := Try.checked }
namespace Rows
def none {H : Type} : Left H := { results := [], args := [] }

/-- 'laws.FnExactRecordFailure': WHATEVER THE INPUT: true; the input reads as it did. -/
def fnExactRecordFailureSpec : ChangeSpec := { name := "fnExactRecordFailure", fn := fun _ => fun
  | [d1, d2, d3] => { results := [.lit (.bool true)], args := [d1, d2, d3] }
  | _ => none }
def fnExactRecordFailureRow : OpenClaim := { program := "ytjobmdnggfjkhaa", sum := "2755f8ae2c0e1eb67b0b0c3e8a973a29cf79b1794f2d27fbd09cc094a15fab77", func := "loop.example/g00507/laws.FnExactRecordFailure", spec := "fnExactRecordFailure", unfollowed := true, recurses := true, apart := false }
def FnExactRecordFailureSaid : Prop := fnExactRecordFailureRow.holds Try.pinned (OpenSpec.ofChange fnExactRecordFailureSpec)

/-- ITS FALSE NEIGHBOUR: 'it returns false'. Refute it at one input. -/
def fnExactRecordFailureWrong : ChangeSpec := { name := "fnExactRecordFailure", fn := fun _ => fun
  | [d1, d2, d3] => { results := [.lit (.bool false)], args := [d1, d2, d3] }
  | _ => none }
def FnExactRecordFailureWrongFalsely : Prop := fnExactRecordFailureRow.holds Try.pinned (OpenSpec.ofChange fnExactRecordFailureWrong)

/-- 'laws.FnExactAddRoute': WHATEVER THE INPUT: true; the input reads as it did. -/
def fnExactAddRouteSpec : ChangeSpec := { name := "fnExactAddRoute", fn := fun _ => fun
  | [d1, d2] => { results := [.lit (.bool true)], args := [d1, d2] }
  | _ => none }
def fnExactAddRouteRow : OpenClaim := { program := "ytjobmdnggfjkhaa", sum := "2755f8ae2c0e1eb67b0b0c3e8a973a29cf79b1794f2d27fbd09cc094a15fab77", func := "loop.example/g00507/laws.FnExactAddRoute", spec := "fnExactAddRoute", unfollowed := true, recurses := true, apart := false }
def FnExactAddRouteSaid : Prop := fnExactAddRouteRow.holds Try.pinned (OpenSpec.ofChange fnExactAddRouteSpec)

/-- ITS FALSE NEIGHBOUR: 'it returns false'. Refute it at one input. -/
def fnExactAddRouteWrong : ChangeSpec := { name := "fnExactAddRoute", fn := fun _ => fun
  | [d1, d2] => { results := [.lit (.bool false)], args := [d1, d2] }
  | _ => none }
def FnExactAddRouteWrongFalsely : Prop := fnExactAddRouteRow.holds Try.pinned (OpenSpec.ofChange fnExactAddRouteWrong)

/-- 'laws.FnExactMarkSent': WHATEVER THE INPUT: true; the input reads as it did. -/
def fnExactMarkSentSpec : ChangeSpec := { name := "fnExactMarkSent", fn := fun _ => fun
  | [d1, d2, d3] => { results := [.lit (.bool true)], args := [d1, d2, d3] }
  | _ => none }
def fnExactMarkSentRow : OpenClaim := { program := "ytjobmdnggfjkhaa", sum := "2755f8ae2c0e1eb67b0b0c3e8a973a29cf79b1794f2d27fbd09cc094a15fab77", func := "loop.example/g00507/laws.FnExactMarkSent", spec := "fnExactMarkSent", unfollowed := true, recurses := true, apart := false }
def FnExactMarkSentSaid : Prop := fnExactMarkSentRow.holds Try.pinned (OpenSpec.ofChange fnExactMarkSentSpec)

/-- ITS FALSE NEIGHBOUR: 'it returns false'. Refute it at one input. -/
def fnExactMarkSentWrong : ChangeSpec := { name := "fnExactMarkSent", fn := fun _ => fun
  | [d1, d2, d3] => { results := [.lit (.bool false)], args := [d1, d2, d3] }
  | _ => none }
def FnExactMarkSentWrongFalsely : Prop := fnExactMarkSentRow.holds Try.pinned (OpenSpec.ofChange fnExactMarkSentWrong)

/-- 'laws.FnExactSatisfy': WHATEVER THE INPUT: true; the input reads as it did. -/
def fnExactSatisfySpec : ChangeSpec := { name := "fnExactSatisfy", fn := fun _ => fun
  | [d1, d2] => { results := [.lit (.bool true)], args := [d1, d2] }
  | _ => none }
def fnExactSatisfyRow : OpenClaim := { program := "ytjobmdnggfjkhaa", sum := "2755f8ae2c0e1eb67b0b0c3e8a973a29cf79b1794f2d27fbd09cc094a15fab77", func := "loop.example/g00507/laws.FnExactSatisfy", spec := "fnExactSatisfy", unfollowed := true, recurses := true, apart := false }
def FnExactSatisfySaid : Prop := fnExactSatisfyRow.holds Try.pinned (OpenSpec.ofChange fnExactSatisfySpec)

/-- ITS FALSE NEIGHBOUR: 'it returns false'. Refute it at one input. -/
def fnExactSatisfyWrong : ChangeSpec := { name := "fnExactSatisfy", fn := fun _ => fun
  | [d1, d2] => { results := [.lit (.bool false)], args := [d1, d2] }
  | _ => none }
def FnExactSatisfyWrongFalsely : Prop := fnExactSatisfyRow.holds Try.pinned (OpenSpec.ofChange fnExactSatisfyWrong)

/-- 'laws.FnExactLocalDeliveries': WHATEVER THE INPUT: true; the input reads as it did. -/
def fnExactLocalDeliveriesSpec : ChangeSpec := { name := "fnExactLocalDeliveries", fn := fun _ => fun
  | [d] => { results := [.lit (.bool true)], args := [d] }
  | _ => none }
def fnExactLocalDeliveriesRow : OpenClaim := { program := "ytjobmdnggfjkhaa", sum := "2755f8ae2c0e1eb67b0b0c3e8a973a29cf79b1794f2d27fbd09cc094a15fab77", func := "loop.example/g00507/laws.FnExactLocalDeliveries", spec := "fnExactLocalDeliveries", apart := false }
def FnExactLocalDeliveriesSaid : Prop := fnExactLocalDeliveriesRow.holds Try.pinned (OpenSpec.ofChange fnExactLocalDeliveriesSpec)

/-- ITS FALSE NEIGHBOUR: 'it returns false'. Refute it at one input. -/
def fnExactLocalDeliveriesWrong : ChangeSpec := { name := "fnExactLocalDeliveries", fn := fun _ => fun
  | [d] => { results := [.lit (.bool false)], args := [d] }
  | _ => none }
def FnExactLocalDeliveriesWrongFalsely : Prop := fnExactLocalDeliveriesRow.holds Try.pinned (OpenSpec.ofChange fnExactLocalDeliveriesWrong)

/-- 'laws.FnExactSentTo': WHATEVER THE INPUT: true; the input reads as it did. -/
def fnExactSentToSpec : ChangeSpec := { name := "fnExactSentTo", fn := fun _ => fun
  | [d1, d2] => { results := [.lit (.bool true)], args := [d1, d2] }
  | _ => none }
def fnExactSentToRow : OpenClaim := { program := "ytjobmdnggfjkhaa", sum := "2755f8ae2c0e1eb67b0b0c3e8a973a29cf79b1794f2d27fbd09cc094a15fab77", func := "loop.example/g00507/laws.FnExactSentTo", spec := "fnExactSentTo", apart := false }
def FnExactSentToSaid : Prop := fnExactSentToRow.holds Try.pinned (OpenSpec.ofChange fnExactSentToSpec)

/-- ITS FALSE NEIGHBOUR: 'it returns false'. Refute it at one input. -/
def fnExactSentToWrong : ChangeSpec := { name := "fnExactSentTo", fn := fun _ => fun
  | [d1, d2] => { results := [.lit (.bool false)], args := [d1, d2] }
  | _ => none }
def FnExactSentToWrongFalsely : Prop := fnExactSentToRow.holds Try.pinned (OpenSpec.ofChange fnExactSentToWrong)

/- THE SECOND FORM. 'bulk': how many values and letters a reading holds, each counted each time it is reached (what is shared counts as often as it is met; a slice's spare places count too). A statement '..UptoSaid' is the law's where the arguments, and the package variables that the reading takes, are together of bulk at most 1048576: NARROWER than '..Said'. Prove '..Said' where nothing that the law and all that it calls make is longer than what came in: it says more and counts as full. Else prove '..UptoSaid'. A law counts once. -/
mutual
def uptoBulk {H : Type} : DataW H → Nat
  | .lit (.string bytes) => bytes.length + 1
  | .lit _ => 1
  | .nil => 1
  | .ptr d => uptoBulk d + 1
  | .slice elems spare => uptoBulkAll elems + uptoBulkAll spare + 1
  | .agg parts => uptoBulkAll parts + 1
  | .iface _ d => uptoBulk d + 1
  | .map entries => uptoBulkEntries entries + 1
  | .held _ => 1
def uptoBulkAll {H : Type} : List (DataW H) → Nat
  | [] => 0
  | d :: r => uptoBulk d + uptoBulkAll r
def uptoBulkEntries {H : Type} : List (Lit × DataW H) → Nat
  | [] => 0
  | x :: r => uptoBulkEntry x + uptoBulkEntries r
def uptoBulkEntry {H : Type} : Lit × DataW H → Nat
  | (.string bytes, d) => bytes.length + uptoBulk d + 1
  | (_, d) => uptoBulk d + 1
 end
def uptoSmall : (H : Type) → List (DataW H) → Bool := fun _ ds => decide (uptoBulkAll ds ≤ 1048576)
def OpenSpec.upto (s : _root_.Go.ChangeSpec) : _root_.Go.OpenSpec := { _root_.Go.OpenSpec.ofChange s with cond := some uptoSmall }

/-- 'laws.FnExactRecordFailure', WHERE WHAT IT READS IS OF BULK AT MOST 1048576: true; the input reads as it did. -/
def fnExactRecordFailureUptoRow : OpenClaim := { program := "ytjobmdnggfjkhaa", sum := "2755f8ae2c0e1eb67b0b0c3e8a973a29cf79b1794f2d27fbd09cc094a15fab77", func := "loop.example/g00507/laws.FnExactRecordFailure", spec := "fnExactRecordFailure", unfollowed := true, recurses := true, apart := false, narrowed := true }
def FnExactRecordFailureUptoSaid : Prop := fnExactRecordFailureUptoRow.holds Try.pinned (OpenSpec.upto fnExactRecordFailureSpec)

/-- 'laws.FnExactAddRoute', WHERE WHAT IT READS IS OF BULK AT MOST 1048576: true; the input reads as it did. -/
def fnExactAddRouteUptoRow : OpenClaim := { program := "ytjobmdnggfjkhaa", sum := "2755f8ae2c0e1eb67b0b0c3e8a973a29cf79b1794f2d27fbd09cc094a15fab77", func := "loop.example/g00507/laws.FnExactAddRoute", spec := "fnExactAddRoute", unfollowed := true, recurses := true, apart := false, narrowed := true }
def FnExactAddRouteUptoSaid : Prop := fnExactAddRouteUptoRow.holds Try.pinned (OpenSpec.upto fnExactAddRouteSpec)

/-- 'laws.FnExactMarkSent', WHERE WHAT IT READS IS OF BULK AT MOST 1048576: true; the input reads as it did. -/
def fnExactMarkSentUptoRow : OpenClaim := { program := "ytjobmdnggfjkhaa", sum := "2755f8ae2c0e1eb67b0b0c3e8a973a29cf79b1794f2d27fbd09cc094a15fab77", func := "loop.example/g00507/laws.FnExactMarkSent", spec := "fnExactMarkSent", unfollowed := true, recurses := true, apart := false, narrowed := true }
def FnExactMarkSentUptoSaid : Prop := fnExactMarkSentUptoRow.holds Try.pinned (OpenSpec.upto fnExactMarkSentSpec)

/-- 'laws.FnExactSatisfy', WHERE WHAT IT READS IS OF BULK AT MOST 1048576: true; the input reads as it did. -/
def fnExactSatisfyUptoRow : OpenClaim := { program := "ytjobmdnggfjkhaa", sum := "2755f8ae2c0e1eb67b0b0c3e8a973a29cf79b1794f2d27fbd09cc094a15fab77", func := "loop.example/g00507/laws.FnExactSatisfy", spec := "fnExactSatisfy", unfollowed := true, recurses := true, apart := false, narrowed := true }
def FnExactSatisfyUptoSaid : Prop := fnExactSatisfyUptoRow.holds Try.pinned (OpenSpec.upto fnExactSatisfySpec)

/-- 'laws.FnExactLocalDeliveries', WHERE WHAT IT READS IS OF BULK AT MOST 1048576: true; the input reads as it did. -/
def fnExactLocalDeliveriesUptoRow : OpenClaim := { program := "ytjobmdnggfjkhaa", sum := "2755f8ae2c0e1eb67b0b0c3e8a973a29cf79b1794f2d27fbd09cc094a15fab77", func := "loop.example/g00507/laws.FnExactLocalDeliveries", spec := "fnExactLocalDeliveries", apart := false, narrowed := true }
def FnExactLocalDeliveriesUptoSaid : Prop := fnExactLocalDeliveriesUptoRow.holds Try.pinned (OpenSpec.upto fnExactLocalDeliveriesSpec)

/-- 'laws.FnExactSentTo', WHERE WHAT IT READS IS OF BULK AT MOST 1048576: true; the input reads as it did. -/
def fnExactSentToUptoRow : OpenClaim := { program := "ytjobmdnggfjkhaa", sum := "2755f8ae2c0e1eb67b0b0c3e8a973a29cf79b1794f2d27fbd09cc094a15fab77", func := "loop.example/g00507/laws.FnExactSentTo", spec := "fnExactSentTo", apart := false, narrowed := true }
def FnExactSentToUptoSaid : Prop := fnExactSentToUptoRow.holds Try.pinned (OpenSpec.upto fnExactSentToSpec)

end Rows
end Go.Proofs.Ytjobmdnggfjkhaa

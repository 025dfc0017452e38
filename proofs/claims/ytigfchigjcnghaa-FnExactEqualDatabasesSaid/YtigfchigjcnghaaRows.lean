/-
  No cell of these rows narrows 'for every input' (looked for: loops, veiled, ifaces, maps, wideKeys, modest, calm, conditions, laid).
  DERIVED. THE GIVEN ROWS OF THIS SEAT. 12 by the template 'for every input the law returns true; each argument reads behind the call as it read before'; 0 by the template 'total and deterministic' (their statements: YtigfchigjcnghaaTotals.lean).
  GIVEN WITH THE SEED: the statements are not yours to turn. If you find one false, say at which input.
  Laid BY PROGRAM, IN A SANDBOX (cutbox-rows.mjs): the forced cells as the released guide's own fill.sh prints them over the translation 521eb9f8451521a6… (all of the seat's roots in one cut). By AI agents, Wed Nov 11 2026. No macro, syntax, notation, axiom, sorry.
-/
import Derived.Test.YtigfchigjcnghaaChecked
import GoSem.Claim
import GoSem.ClaimJoined
import GoSem.ClaimMapViews
import Derived.JoinedTies
import Derived.KernelRfl
namespace Go.Proofs.Ytigfchigjcnghaa
/- THE CELL 'sum', in the pinned program and in every row, IS THE sha256 OF THE DUMP (.gsa) THAT YtigfchigjcnghaaProg.lean LOADS. Nothing in Lean hashes anything: it is a label: what it is worth is what the hold of that sum in a sandbox is worth. -/
noncomputable def Try.pinned : Pinned := { name := "ytigfchigjcnghaa", sum := "521eb9f8451521a684476eceda21c12ca2319118aadf0e38861330f459426509", checked := Try.checked }
namespace Rows
def none {H : Type} : Left H := { results := [], args := [] }

/-- 'laws.FnExactEqualMeasurements': WHATEVER THE INPUT: true; the input reads as it did. -/
def fnExactEqualMeasurementsSpec : ChangeSpec := { name := "fnExactEqualMeasurements", fn := fun _ => fun
  | [d1, d2] => { results := [.lit (.bool true)], args := [d1, d2] }
  | _ => none }
def fnExactEqualMeasurementsRow : OpenClaim := { program := "ytigfchigjcnghaa", sum := "521eb9f8451521a684476eceda21c12ca2319118aadf0e38861330f459426509", func := "loop.example/g00507/laws.FnExactEqualMeasurements", spec := "fnExactEqualMeasurements", unfollowed := true, recurses := true, apart := false }
def FnExactEqualMeasurementsSaid : Prop := fnExactEqualMeasurementsRow.holds Try.pinned (OpenSpec.ofChange fnExactEqualMeasurementsSpec)

/-- ITS FALSE NEIGHBOUR: 'it returns false'. Refute it at one input. -/
def fnExactEqualMeasurementsWrong : ChangeSpec := { name := "fnExactEqualMeasurements", fn := fun _ => fun
  | [d1, d2] => { results := [.lit (.bool false)], args := [d1, d2] }
  | _ => none }
def FnExactEqualMeasurementsWrongFalsely : Prop := fnExactEqualMeasurementsRow.holds Try.pinned (OpenSpec.ofChange fnExactEqualMeasurementsWrong)

/-- 'laws.FnExactEqualRoutes': WHATEVER THE INPUT: true; the input reads as it did. -/
def fnExactEqualRoutesSpec : ChangeSpec := { name := "fnExactEqualRoutes", fn := fun _ => fun
  | [d1, d2] => { results := [.lit (.bool true)], args := [d1, d2] }
  | _ => none }
def fnExactEqualRoutesRow : OpenClaim := { program := "ytigfchigjcnghaa", sum := "521eb9f8451521a684476eceda21c12ca2319118aadf0e38861330f459426509", func := "loop.example/g00507/laws.FnExactEqualRoutes", spec := "fnExactEqualRoutes", unfollowed := true, recurses := true, apart := false }
def FnExactEqualRoutesSaid : Prop := fnExactEqualRoutesRow.holds Try.pinned (OpenSpec.ofChange fnExactEqualRoutesSpec)

/-- ITS FALSE NEIGHBOUR: 'it returns false'. Refute it at one input. -/
def fnExactEqualRoutesWrong : ChangeSpec := { name := "fnExactEqualRoutes", fn := fun _ => fun
  | [d1, d2] => { results := [.lit (.bool false)], args := [d1, d2] }
  | _ => none }
def FnExactEqualRoutesWrongFalsely : Prop := fnExactEqualRoutesRow.holds Try.pinned (OpenSpec.ofChange fnExactEqualRoutesWrong)

/-- 'laws.FnExactFailuresOf': WHATEVER THE INPUT: true; the input reads as it did. -/
def fnExactFailuresOfSpec : ChangeSpec := { name := "fnExactFailuresOf", fn := fun _ => fun
  | [d1, d2, d3] => { results := [.lit (.bool true)], args := [d1, d2, d3] }
  | _ => none }
def fnExactFailuresOfRow : OpenClaim := { program := "ytigfchigjcnghaa", sum := "521eb9f8451521a684476eceda21c12ca2319118aadf0e38861330f459426509", func := "loop.example/g00507/laws.FnExactFailuresOf", spec := "fnExactFailuresOf", unfollowed := true, recurses := true, apart := false }
def FnExactFailuresOfSaid : Prop := fnExactFailuresOfRow.holds Try.pinned (OpenSpec.ofChange fnExactFailuresOfSpec)

/-- ITS FALSE NEIGHBOUR: 'it returns false'. Refute it at one input. -/
def fnExactFailuresOfWrong : ChangeSpec := { name := "fnExactFailuresOf", fn := fun _ => fun
  | [d1, d2, d3] => { results := [.lit (.bool false)], args := [d1, d2, d3] }
  | _ => none }
def FnExactFailuresOfWrongFalsely : Prop := fnExactFailuresOfRow.holds Try.pinned (OpenSpec.ofChange fnExactFailuresOfWrong)

/-- 'laws.FnExactFindAdvertisement': WHATEVER THE INPUT: true; the input reads as it did. -/
def fnExactFindAdvertisementSpec : ChangeSpec := { name := "fnExactFindAdvertisement", fn := fun _ => fun
  | [d1, d2] => { results := [.lit (.bool true)], args := [d1, d2] }
  | _ => none }
def fnExactFindAdvertisementRow : OpenClaim := { program := "ytigfchigjcnghaa", sum := "521eb9f8451521a684476eceda21c12ca2319118aadf0e38861330f459426509", func := "loop.example/g00507/laws.FnExactFindAdvertisement", spec := "fnExactFindAdvertisement", unfollowed := true, recurses := true, apart := false }
def FnExactFindAdvertisementSaid : Prop := fnExactFindAdvertisementRow.holds Try.pinned (OpenSpec.ofChange fnExactFindAdvertisementSpec)

/-- ITS FALSE NEIGHBOUR: 'it returns false'. Refute it at one input. -/
def fnExactFindAdvertisementWrong : ChangeSpec := { name := "fnExactFindAdvertisement", fn := fun _ => fun
  | [d1, d2] => { results := [.lit (.bool false)], args := [d1, d2] }
  | _ => none }
def FnExactFindAdvertisementWrongFalsely : Prop := fnExactFindAdvertisementRow.holds Try.pinned (OpenSpec.ofChange fnExactFindAdvertisementWrong)

/-- 'laws.FnExactValidAdvertisement': WHATEVER THE INPUT: true; the input reads as it did. -/
def fnExactValidAdvertisementSpec : ChangeSpec := { name := "fnExactValidAdvertisement", fn := fun _ => fun
  | [d] => { results := [.lit (.bool true)], args := [d] }
  | _ => none }
def fnExactValidAdvertisementRow : OpenClaim := { program := "ytigfchigjcnghaa", sum := "521eb9f8451521a684476eceda21c12ca2319118aadf0e38861330f459426509", func := "loop.example/g00507/laws.FnExactValidAdvertisement", spec := "fnExactValidAdvertisement", unfollowed := true, recurses := true, apart := false }
def FnExactValidAdvertisementSaid : Prop := fnExactValidAdvertisementRow.holds Try.pinned (OpenSpec.ofChange fnExactValidAdvertisementSpec)

/-- ITS FALSE NEIGHBOUR: 'it returns false'. Refute it at one input. -/
def fnExactValidAdvertisementWrong : ChangeSpec := { name := "fnExactValidAdvertisement", fn := fun _ => fun
  | [d] => { results := [.lit (.bool false)], args := [d] }
  | _ => none }
def FnExactValidAdvertisementWrongFalsely : Prop := fnExactValidAdvertisementRow.holds Try.pinned (OpenSpec.ofChange fnExactValidAdvertisementWrong)

/-- 'laws.FnExactRemoveFace': WHATEVER THE INPUT: true; the input reads as it did. -/
def fnExactRemoveFaceSpec : ChangeSpec := { name := "fnExactRemoveFace", fn := fun _ => fun
  | [d1, d2] => { results := [.lit (.bool true)], args := [d1, d2] }
  | _ => none }
def fnExactRemoveFaceRow : OpenClaim := { program := "ytigfchigjcnghaa", sum := "521eb9f8451521a684476eceda21c12ca2319118aadf0e38861330f459426509", func := "loop.example/g00507/laws.FnExactRemoveFace", spec := "fnExactRemoveFace", unfollowed := true, recurses := true, apart := false }
def FnExactRemoveFaceSaid : Prop := fnExactRemoveFaceRow.holds Try.pinned (OpenSpec.ofChange fnExactRemoveFaceSpec)

/-- ITS FALSE NEIGHBOUR: 'it returns false'. Refute it at one input. -/
def fnExactRemoveFaceWrong : ChangeSpec := { name := "fnExactRemoveFace", fn := fun _ => fun
  | [d1, d2] => { results := [.lit (.bool false)], args := [d1, d2] }
  | _ => none }
def FnExactRemoveFaceWrongFalsely : Prop := fnExactRemoveFaceRow.holds Try.pinned (OpenSpec.ofChange fnExactRemoveFaceWrong)

/-- 'laws.FnExactValidMeasurements': WHATEVER THE INPUT: true; the input reads as it did. -/
def fnExactValidMeasurementsSpec : ChangeSpec := { name := "fnExactValidMeasurements", fn := fun _ => fun
  | [d] => { results := [.lit (.bool true)], args := [d] }
  | _ => none }
def fnExactValidMeasurementsRow : OpenClaim := { program := "ytigfchigjcnghaa", sum := "521eb9f8451521a684476eceda21c12ca2319118aadf0e38861330f459426509", func := "loop.example/g00507/laws.FnExactValidMeasurements", spec := "fnExactValidMeasurements", unfollowed := true, recurses := true, apart := false }
def FnExactValidMeasurementsSaid : Prop := fnExactValidMeasurementsRow.holds Try.pinned (OpenSpec.ofChange fnExactValidMeasurementsSpec)

/-- ITS FALSE NEIGHBOUR: 'it returns false'. Refute it at one input. -/
def fnExactValidMeasurementsWrong : ChangeSpec := { name := "fnExactValidMeasurements", fn := fun _ => fun
  | [d] => { results := [.lit (.bool false)], args := [d] }
  | _ => none }
def FnExactValidMeasurementsWrongFalsely : Prop := fnExactValidMeasurementsRow.holds Try.pinned (OpenSpec.ofChange fnExactValidMeasurementsWrong)

/-- 'laws.FnExactValidRoutes': WHATEVER THE INPUT: true; the input reads as it did. -/
def fnExactValidRoutesSpec : ChangeSpec := { name := "fnExactValidRoutes", fn := fun _ => fun
  | [d] => { results := [.lit (.bool true)], args := [d] }
  | _ => none }
def fnExactValidRoutesRow : OpenClaim := { program := "ytigfchigjcnghaa", sum := "521eb9f8451521a684476eceda21c12ca2319118aadf0e38861330f459426509", func := "loop.example/g00507/laws.FnExactValidRoutes", spec := "fnExactValidRoutes", unfollowed := true, recurses := true, apart := false }
def FnExactValidRoutesSaid : Prop := fnExactValidRoutesRow.holds Try.pinned (OpenSpec.ofChange fnExactValidRoutesSpec)

/-- ITS FALSE NEIGHBOUR: 'it returns false'. Refute it at one input. -/
def fnExactValidRoutesWrong : ChangeSpec := { name := "fnExactValidRoutes", fn := fun _ => fun
  | [d] => { results := [.lit (.bool false)], args := [d] }
  | _ => none }
def FnExactValidRoutesWrongFalsely : Prop := fnExactValidRoutesRow.holds Try.pinned (OpenSpec.ofChange fnExactValidRoutesWrong)

/-- 'laws.FnExactIsRetransmission': WHATEVER THE INPUT: true; the input reads as it did. -/
def fnExactIsRetransmissionSpec : ChangeSpec := { name := "fnExactIsRetransmission", fn := fun _ => fun
  | [d1, d2, d3] => { results := [.lit (.bool true)], args := [d1, d2, d3] }
  | _ => none }
def fnExactIsRetransmissionRow : OpenClaim := { program := "ytigfchigjcnghaa", sum := "521eb9f8451521a684476eceda21c12ca2319118aadf0e38861330f459426509", func := "loop.example/g00507/laws.FnExactIsRetransmission", spec := "fnExactIsRetransmission", unfollowed := true, recurses := true, apart := false }
def FnExactIsRetransmissionSaid : Prop := fnExactIsRetransmissionRow.holds Try.pinned (OpenSpec.ofChange fnExactIsRetransmissionSpec)

/-- ITS FALSE NEIGHBOUR: 'it returns false'. Refute it at one input. -/
def fnExactIsRetransmissionWrong : ChangeSpec := { name := "fnExactIsRetransmission", fn := fun _ => fun
  | [d1, d2, d3] => { results := [.lit (.bool false)], args := [d1, d2, d3] }
  | _ => none }
def FnExactIsRetransmissionWrongFalsely : Prop := fnExactIsRetransmissionRow.holds Try.pinned (OpenSpec.ofChange fnExactIsRetransmissionWrong)

/-- 'laws.FnExactCountInterests': WHATEVER THE INPUT: true; the input reads as it did. -/
def fnExactCountInterestsSpec : ChangeSpec := { name := "fnExactCountInterests", fn := fun _ => fun
  | [d] => { results := [.lit (.bool true)], args := [d] }
  | _ => none }
def fnExactCountInterestsRow : OpenClaim := { program := "ytigfchigjcnghaa", sum := "521eb9f8451521a684476eceda21c12ca2319118aadf0e38861330f459426509", func := "loop.example/g00507/laws.FnExactCountInterests", spec := "fnExactCountInterests", apart := false }
def FnExactCountInterestsSaid : Prop := fnExactCountInterestsRow.holds Try.pinned (OpenSpec.ofChange fnExactCountInterestsSpec)

/-- ITS FALSE NEIGHBOUR: 'it returns false'. Refute it at one input. -/
def fnExactCountInterestsWrong : ChangeSpec := { name := "fnExactCountInterests", fn := fun _ => fun
  | [d] => { results := [.lit (.bool false)], args := [d] }
  | _ => none }
def FnExactCountInterestsWrongFalsely : Prop := fnExactCountInterestsRow.holds Try.pinned (OpenSpec.ofChange fnExactCountInterestsWrong)

/-- 'laws.FnExactMatchingPrefix': WHATEVER THE INPUT: true; the input reads as it did. -/
def fnExactMatchingPrefixSpec : ChangeSpec := { name := "fnExactMatchingPrefix", fn := fun _ => fun
  | [d1, d2] => { results := [.lit (.bool true)], args := [d1, d2] }
  | _ => none }
def fnExactMatchingPrefixRow : OpenClaim := { program := "ytigfchigjcnghaa", sum := "521eb9f8451521a684476eceda21c12ca2319118aadf0e38861330f459426509", func := "loop.example/g00507/laws.FnExactMatchingPrefix", spec := "fnExactMatchingPrefix", apart := false }
def FnExactMatchingPrefixSaid : Prop := fnExactMatchingPrefixRow.holds Try.pinned (OpenSpec.ofChange fnExactMatchingPrefixSpec)

/-- ITS FALSE NEIGHBOUR: 'it returns false'. Refute it at one input. -/
def fnExactMatchingPrefixWrong : ChangeSpec := { name := "fnExactMatchingPrefix", fn := fun _ => fun
  | [d1, d2] => { results := [.lit (.bool false)], args := [d1, d2] }
  | _ => none }
def FnExactMatchingPrefixWrongFalsely : Prop := fnExactMatchingPrefixRow.holds Try.pinned (OpenSpec.ofChange fnExactMatchingPrefixWrong)

/-- 'laws.FnExactEqualDatabases': WHATEVER THE INPUT: true; the input reads as it did. -/
def fnExactEqualDatabasesSpec : ChangeSpec := { name := "fnExactEqualDatabases", fn := fun _ => fun
  | [d1, d2] => { results := [.lit (.bool true)], args := [d1, d2] }
  | _ => none }
def fnExactEqualDatabasesRow : OpenClaim := { program := "ytigfchigjcnghaa", sum := "521eb9f8451521a684476eceda21c12ca2319118aadf0e38861330f459426509", func := "loop.example/g00507/laws.FnExactEqualDatabases", spec := "fnExactEqualDatabases", unfollowed := true, recurses := true, apart := false }
def FnExactEqualDatabasesSaid : Prop := fnExactEqualDatabasesRow.holds Try.pinned (OpenSpec.ofChange fnExactEqualDatabasesSpec)

/-- ITS FALSE NEIGHBOUR: 'it returns false'. Refute it at one input. -/
def fnExactEqualDatabasesWrong : ChangeSpec := { name := "fnExactEqualDatabases", fn := fun _ => fun
  | [d1, d2] => { results := [.lit (.bool false)], args := [d1, d2] }
  | _ => none }
def FnExactEqualDatabasesWrongFalsely : Prop := fnExactEqualDatabasesRow.holds Try.pinned (OpenSpec.ofChange fnExactEqualDatabasesWrong)

/- THE SECOND FORM. 'bulk': how many values and letters a reading holds, each counted each time it is reached (what is shared counts as often as it is met; a slice's spare places count too). A statement '..UptoSaid' is the law's where the arguments, and the package variables that the reading takes, are together of bulk at most 1048576: NARROWER than '..Said'. Prove '..Said' where nothing that the law and all that it calls make is longer than what came in: it says more and counts as full. Else prove '..UptoSaid'. A law counts once. -/
mutual
def uptoBulk {H : Type} : DataW H → Nat
  | .lit (.string bytes) => bytes.length + 1
  | .lit _ => 1
  | .nil => 1
  | .ptr d => uptoBulk d + 1
  | .slice elems spare => uptoBulkAll elems + uptoBulkAll spare + 1
  | .agg parts => uptoBulkAll parts + 1
  | .iface _ d => uptoBulk d + 1
  | .map entries => uptoBulkEntries entries + 1
  | .held _ => 1
def uptoBulkAll {H : Type} : List (DataW H) → Nat
  | [] => 0
  | d :: r => uptoBulk d + uptoBulkAll r
def uptoBulkEntries {H : Type} : List (Lit × DataW H) → Nat
  | [] => 0
  | x :: r => uptoBulkEntry x + uptoBulkEntries r
def uptoBulkEntry {H : Type} : Lit × DataW H → Nat
  | (.string bytes, d) => bytes.length + uptoBulk d + 1
  | (_, d) => uptoBulk d + 1
 end
def uptoSmall : (H : Type) → List (DataW H) → Bool := fun _ ds => decide (uptoBulkAll ds ≤ 1048576)
def OpenSpec.upto (s : _root_.Go.ChangeSpec) : _root_.Go.OpenSpec := { _root_.Go.OpenSpec.ofChange s with cond := some uptoSmall }

/-- 'laws.FnExactEqualMeasurements', WHERE WHAT IT READS IS OF BULK AT MOST 1048576: true; the input reads as it did. -/
def fnExactEqualMeasurementsUptoRow : OpenClaim := { program := "ytigfchigjcnghaa", sum := "521eb9f8451521a684476eceda21c12ca2319118aadf0e38861330f459426509", func := "loop.example/g00507/laws.FnExactEqualMeasurements", spec := "fnExactEqualMeasurements", unfollowed := true, recurses := true, apart := false, narrowed := true }
def FnExactEqualMeasurementsUptoSaid : Prop := fnExactEqualMeasurementsUptoRow.holds Try.pinned (OpenSpec.upto fnExactEqualMeasurementsSpec)

/-- 'laws.FnExactEqualRoutes', WHERE WHAT IT READS IS OF BULK AT MOST 1048576: true; the input reads as it did. -/
def fnExactEqualRoutesUptoRow : OpenClaim := { program := "ytigfchigjcnghaa", sum := "521eb9f8451521a684476eceda21c12ca2319118aadf0e38861330f459426509", func := "loop.example/g00507/laws.FnExactEqualRoutes", spec := "fnExactEqualRoutes", unfollowed := true, recurses := true, apart := false, narrowed := true }
def FnExactEqualRoutesUptoSaid : Prop := fnExactEqualRoutesUptoRow.holds Try.pinned (OpenSpec.upto fnExactEqualRoutesSpec)

/-- 'laws.FnExactFailuresOf', WHERE WHAT IT READS IS OF BULK AT MOST 1048576: true; the input reads as it did. -/
def fnExactFailuresOfUptoRow : OpenClaim := { program := "ytigfchigjcnghaa", sum := "521eb9f8451521a684476eceda21c12ca2319118aadf0e38861330f459426509", func := "loop.example/g00507/laws.FnExactFailuresOf", spec := "fnExactFailuresOf", unfollowed := true, recurses := true, apart := false, narrowed := true }
def FnExactFailuresOfUptoSaid : Prop := fnExactFailuresOfUptoRow.holds Try.pinned (OpenSpec.upto fnExactFailuresOfSpec)

/-- 'laws.FnExactFindAdvertisement', WHERE WHAT IT READS IS OF BULK AT MOST 1048576: true; the input reads as it did. -/
def fnExactFindAdvertisementUptoRow : OpenClaim := { program := "ytigfchigjcnghaa", sum := "521eb9f8451521a684476eceda21c12ca2319118aadf0e38861330f459426509", func := "loop.example/g00507/laws.FnExactFindAdvertisement", spec := "fnExactFindAdvertisement", unfollowed := true, recurses := true, apart := false, narrowed := true }
def FnExactFindAdvertisementUptoSaid : Prop := fnExactFindAdvertisementUptoRow.holds Try.pinned (OpenSpec.upto fnExactFindAdvertisementSpec)

/-- 'laws.FnExactValidAdvertisement', WHERE WHAT IT READS IS OF BULK AT MOST 1048576: true; the input reads as it did. -/
def fnExactValidAdvertisementUptoRow : OpenClaim := { program := "ytigfchigjcnghaa", sum := "521eb9f8451521a684476eceda21c12ca2319118aadf0e38861330f459426509", func := "loop.example/g00507/laws.FnExactValidAdvertisement", spec := "fnExactValidAdvertisement", unfollowed := true, recurses := true, apart := false, narrowed := true }
def FnExactValidAdvertisementUptoSaid : Prop := fnExactValidAdvertisementUptoRow.holds Try.pinned (OpenSpec.upto fnExactValidAdvertisementSpec)

/-- 'laws.FnExactRemoveFace', WHERE WHAT IT READS IS OF BULK AT MOST 1048576: true; the input reads as it did. -/
def fnExactRemoveFaceUptoRow : OpenClaim := { program := "ytigfchigjcnghaa", sum := "521eb9f8451521a684476eceda21c12ca2319118aadf0e38861330f459426509", func := "loop.example/g00507/laws.FnExactRemoveFace", spec := "fnExactRemoveFace", unfollowed := true, recurses := true, apart := false, narrowed := true }
def FnExactRemoveFaceUptoSaid : Prop := fnExactRemoveFaceUptoRow.holds Try.pinned (OpenSpec.upto fnExactRemoveFaceSpec)

/-- 'laws.FnExactValidMeasurements', WHERE WHAT IT READS IS OF BULK AT MOST 1048576: true; the input reads as it did. -/
def fnExactValidMeasurementsUptoRow : OpenClaim := { program := "ytigfchigjcnghaa", sum := "521eb9f8451521a684476eceda21c12ca2319118aadf0e38861330f459426509", func := "loop.example/g00507/laws.FnExactValidMeasurements", spec := "fnExactValidMeasurements", unfollowed := true, recurses := true, apart := false, narrowed := true }
def FnExactValidMeasurementsUptoSaid : Prop := fnExactValidMeasurementsUptoRow.holds Try.pinned (OpenSpec.upto fnExactValidMeasurementsSpec)

/-- 'laws.FnExactValidRoutes', WHERE WHAT IT READS IS OF BULK AT MOST 1048576: true; the input reads as it did. -/
def fnExactValidRoutesUptoRow : OpenClaim := { program := "ytigfchigjcnghaa", sum := "521eb9f8451521a684476eceda21c12ca2319118aadf0e38861330f459426509", func := "loop.example/g00507/laws.FnExactValidRoutes", spec := "fnExactValidRoutes", unfollowed := true, recurses := true, apart := false, narrowed := true }
def FnExactValidRoutesUptoSaid : Prop := fnExactValidRoutesUptoRow.holds Try.pinned (OpenSpec.upto fnExactValidRoutesSpec)

/-- 'laws.FnExactIsRetransmission', WHERE WHAT IT READS IS OF BULK AT MOST 1048576: true; the input reads as it did. -/
def fnExactIsRetransmissionUptoRow : OpenClaim := { program := "ytigfchigjcnghaa", sum := "521eb9f8451521a684476eceda21c12ca2319118aadf0e38861330f459426509", func := "loop.example/g00507/laws.FnExactIsRetransmission", spec := "fnExactIsRetransmission", unfollowed := true, recurses := true, apart := false, narrowed := true }
def FnExactIsRetransmissionUptoSaid : Prop := fnExactIsRetransmissionUptoRow.holds Try.pinned (OpenSpec.upto fnExactIsRetransmissionSpec)

/-- 'laws.FnExactCountInterests', WHERE WHAT IT READS IS OF BULK AT MOST 1048576: true; the input reads as it did. -/
def fnExactCountInterestsUptoRow : OpenClaim := { program := "ytigfchigjcnghaa", sum := "521eb9f8451521a684476eceda21c12ca2319118aadf0e38861330f459426509", func := "loop.example/g00507/laws.FnExactCountInterests", spec := "fnExactCountInterests", apart := false, narrowed := true }
def FnExactCountInterestsUptoSaid : Prop := fnExactCountInterestsUptoRow.holds Try.pinned (OpenSpec.upto fnExactCountInterestsSpec)

/-- 'laws.FnExactMatchingPrefix', WHERE WHAT IT READS IS OF BULK AT MOST 1048576: true; the input reads as it did. -/
def fnExactMatchingPrefixUptoRow : OpenClaim := { program := "ytigfchigjcnghaa", sum := "521eb9f8451521a684476eceda21c12ca2319118aadf0e38861330f459426509", func := "loop.example/g00507/laws.FnExactMatchingPrefix", spec := "fnExactMatchingPrefix", apart := false, narrowed := true }
def FnExactMatchingPrefixUptoSaid : Prop := fnExactMatchingPrefixUptoRow.holds Try.pinned (OpenSpec.upto fnExactMatchingPrefixSpec)

/-- 'laws.FnExactEqualDatabases', WHERE WHAT IT READS IS OF BULK AT MOST 1048576: true; the input reads as it did. -/
def fnExactEqualDatabasesUptoRow : OpenClaim := { program := "ytigfchigjcnghaa", sum := "521eb9f8451521a684476eceda21c12ca2319118aadf0e38861330f459426509", func := "loop.example/g00507/laws.FnExactEqualDatabases", spec := "fnExactEqualDatabases", unfollowed := true, recurses := true, apart := false, narrowed := true }
def FnExactEqualDatabasesUptoSaid : Prop := fnExactEqualDatabasesUptoRow.holds Try.pinned (OpenSpec.upto fnExactEqualDatabasesSpec)

end Rows
end Go.Proofs.Ytigfchigjcnghaa

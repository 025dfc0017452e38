/-
  No cell of these rows narrows 'for every input' (looked for: loops, veiled, ifaces, maps, wideKeys, modest, calm, conditions, laid).
  DERIVED. THE GIVEN ROWS OF THIS SEAT. 6 by the template 'for every input the law returns true; each argument reads behind the call as it read before'; 0 by the template 'total and deterministic' (their statements: YtclhapbahkjljaaTotals.lean).
  GIVEN WITH THE SEED: the statements are not yours to turn. If you find one false, say at which input.
  Laid BY PROGRAM, IN A SANDBOX (cutbox-rows.mjs): the forced cells as the released guide's own fill.sh prints them over the translation 9e1d6d553dd434b4… (all of the seat's roots in one cut). By AI agents, Wed Nov 11 2026. No macro, syntax, notation, axiom, sorry.
-/
import Derived.Test.YtclhapbahkjljaaChecked
import GoSem.Claim
import GoSem.ClaimJoined
import GoSem.ClaimMapViews
import Derived.JoinedTies
import Derived.KernelRfl
namespace Go.Proofs.Ytclhapbahkjljaa
/- THE CELL 'sum', in the pinned program and in every row, IS THE sha256 OF THE DUMP (.gsa) THAT YtclhapbahkjljaaProg.lean LOADS. Nothing in Lean hashes anything: it is a label: what it is worth is what the hold of that sum in a sandbox is worth. -/
noncomputable def Try.pinned : Pinned := { name := "ytclhapbahkjljaa", sum := "9e1d6d553dd434b447c24a6a80a4040c01fc66b6454474ba6c5ec3e494e61b93", checked := Try.checked }
namespace Rows
def none {H : Type} : Left H := { results := [], args := [] }

/-- 'laws.FnExactValidAdvertisement': WHATEVER THE INPUT: true; the input reads as it did. -/
def fnExactValidAdvertisementSpec : ChangeSpec := { name := "fnExactValidAdvertisement", fn := fun _ => fun
  | [d] => { results := [.lit (.bool true)], args := [d] }
  | _ => none }
def fnExactValidAdvertisementRow : OpenClaim := { program := "ytclhapbahkjljaa", sum := "9e1d6d553dd434b447c24a6a80a4040c01fc66b6454474ba6c5ec3e494e61b93", func := "loop.example/g00507/laws.FnExactValidAdvertisement", spec := "fnExactValidAdvertisement", unfollowed := true, recurses := true, apart := false }
def FnExactValidAdvertisementSaid : Prop := fnExactValidAdvertisementRow.holds Try.pinned (OpenSpec.ofChange fnExactValidAdvertisementSpec)

/-- ITS FALSE NEIGHBOUR: 'it returns false'. Refute it at one input. -/
def fnExactValidAdvertisementWrong : ChangeSpec := { name := "fnExactValidAdvertisement", fn := fun _ => fun
  | [d] => { results := [.lit (.bool false)], args := [d] }
  | _ => none }
def FnExactValidAdvertisementWrongFalsely : Prop := fnExactValidAdvertisementRow.holds Try.pinned (OpenSpec.ofChange fnExactValidAdvertisementWrong)

/-- 'laws.FnExactMatchingPrefix': WHATEVER THE INPUT: true; the input reads as it did. -/
def fnExactMatchingPrefixSpec : ChangeSpec := { name := "fnExactMatchingPrefix", fn := fun _ => fun
  | [d1, d2] => { results := [.lit (.bool true)], args := [d1, d2] }
  | _ => none }
def fnExactMatchingPrefixRow : OpenClaim := { program := "ytclhapbahkjljaa", sum := "9e1d6d553dd434b447c24a6a80a4040c01fc66b6454474ba6c5ec3e494e61b93", func := "loop.example/g00507/laws.FnExactMatchingPrefix", spec := "fnExactMatchingPrefix", apart := false }
def FnExactMatchingPrefixSaid : Prop := fnExactMatchingPrefixRow.holds Try.pinned (OpenSpec.ofChange fnExactMatchingPrefixSpec)

/-- ITS FALSE NEIGHBOUR: 'it returns false'. Refute it at one input. -/
def fnExactMatchingPrefixWrong : ChangeSpec := { name := "fnExactMatchingPrefix", fn := fun _ => fun
  | [d1, d2] => { results := [.lit (.bool false)], args := [d1, d2] }
  | _ => none }
def FnExactMatchingPrefixWrongFalsely : Prop := fnExactMatchingPrefixRow.holds Try.pinned (OpenSpec.ofChange fnExactMatchingPrefixWrong)

/-- 'laws.FnExactRemoveFace': WHATEVER THE INPUT: true; the input reads as it did. -/
def fnExactRemoveFaceSpec : ChangeSpec := { name := "fnExactRemoveFace", fn := fun _ => fun
  | [d1, d2] => { results := [.lit (.bool true)], args := [d1, d2] }
  | _ => none }
def fnExactRemoveFaceRow : OpenClaim := { program := "ytclhapbahkjljaa", sum := "9e1d6d553dd434b447c24a6a80a4040c01fc66b6454474ba6c5ec3e494e61b93", func := "loop.example/g00507/laws.FnExactRemoveFace", spec := "fnExactRemoveFace", unfollowed := true, recurses := true, apart := false }
def FnExactRemoveFaceSaid : Prop := fnExactRemoveFaceRow.holds Try.pinned (OpenSpec.ofChange fnExactRemoveFaceSpec)

/-- ITS FALSE NEIGHBOUR: 'it returns false'. Refute it at one input. -/
def fnExactRemoveFaceWrong : ChangeSpec := { name := "fnExactRemoveFace", fn := fun _ => fun
  | [d1, d2] => { results := [.lit (.bool false)], args := [d1, d2] }
  | _ => none }
def FnExactRemoveFaceWrongFalsely : Prop := fnExactRemoveFaceRow.holds Try.pinned (OpenSpec.ofChange fnExactRemoveFaceWrong)

/-- 'laws.FnExactValidDatabase': WHATEVER THE INPUT: true; the input reads as it did. -/
def fnExactValidDatabaseSpec : ChangeSpec := { name := "fnExactValidDatabase", fn := fun _ => fun
  | [d] => { results := [.lit (.bool true)], args := [d] }
  | _ => none }
def fnExactValidDatabaseRow : OpenClaim := { program := "ytclhapbahkjljaa", sum := "9e1d6d553dd434b447c24a6a80a4040c01fc66b6454474ba6c5ec3e494e61b93", func := "loop.example/g00507/laws.FnExactValidDatabase", spec := "fnExactValidDatabase", unfollowed := true, recurses := true, apart := false }
def FnExactValidDatabaseSaid : Prop := fnExactValidDatabaseRow.holds Try.pinned (OpenSpec.ofChange fnExactValidDatabaseSpec)

/-- ITS FALSE NEIGHBOUR: 'it returns false'. Refute it at one input. -/
def fnExactValidDatabaseWrong : ChangeSpec := { name := "fnExactValidDatabase", fn := fun _ => fun
  | [d] => { results := [.lit (.bool false)], args := [d] }
  | _ => none }
def FnExactValidDatabaseWrongFalsely : Prop := fnExactValidDatabaseRow.holds Try.pinned (OpenSpec.ofChange fnExactValidDatabaseWrong)

/-- 'laws.FnExactRecordSuccess': WHATEVER THE INPUT: true; the input reads as it did. -/
def fnExactRecordSuccessSpec : ChangeSpec := { name := "fnExactRecordSuccess", fn := fun _ => fun
  | [d1, d2, d3] => { results := [.lit (.bool true)], args := [d1, d2, d3] }
  | _ => none }
def fnExactRecordSuccessRow : OpenClaim := { program := "ytclhapbahkjljaa", sum := "9e1d6d553dd434b447c24a6a80a4040c01fc66b6454474ba6c5ec3e494e61b93", func := "loop.example/g00507/laws.FnExactRecordSuccess", spec := "fnExactRecordSuccess", unfollowed := true, recurses := true, apart := false }
def FnExactRecordSuccessSaid : Prop := fnExactRecordSuccessRow.holds Try.pinned (OpenSpec.ofChange fnExactRecordSuccessSpec)

/-- ITS FALSE NEIGHBOUR: 'it returns false'. Refute it at one input. -/
def fnExactRecordSuccessWrong : ChangeSpec := { name := "fnExactRecordSuccess", fn := fun _ => fun
  | [d1, d2, d3] => { results := [.lit (.bool false)], args := [d1, d2, d3] }
  | _ => none }
def FnExactRecordSuccessWrongFalsely : Prop := fnExactRecordSuccessRow.holds Try.pinned (OpenSpec.ofChange fnExactRecordSuccessWrong)

/-- 'laws.FnExactEqualOutgoing': WHATEVER THE INPUT: true; the input reads as it did. -/
def fnExactEqualOutgoingSpec : ChangeSpec := { name := "fnExactEqualOutgoing", fn := fun _ => fun
  | [d1, d2] => { results := [.lit (.bool true)], args := [d1, d2] }
  | _ => none }
def fnExactEqualOutgoingRow : OpenClaim := { program := "ytclhapbahkjljaa", sum := "9e1d6d553dd434b447c24a6a80a4040c01fc66b6454474ba6c5ec3e494e61b93", func := "loop.example/g00507/laws.FnExactEqualOutgoing", spec := "fnExactEqualOutgoing", unfollowed := true, recurses := true, apart := false }
def FnExactEqualOutgoingSaid : Prop := fnExactEqualOutgoingRow.holds Try.pinned (OpenSpec.ofChange fnExactEqualOutgoingSpec)

/-- ITS FALSE NEIGHBOUR: 'it returns false'. Refute it at one input. -/
def fnExactEqualOutgoingWrong : ChangeSpec := { name := "fnExactEqualOutgoing", fn := fun _ => fun
  | [d1, d2] => { results := [.lit (.bool false)], args := [d1, d2] }
  | _ => none }
def FnExactEqualOutgoingWrongFalsely : Prop := fnExactEqualOutgoingRow.holds Try.pinned (OpenSpec.ofChange fnExactEqualOutgoingWrong)

/- THE SECOND FORM. 'bulk': how many values and letters a reading holds, each counted each time it is reached (what is shared counts as often as it is met; a slice's spare places count too). A statement '..UptoSaid' is the law's where the arguments, and the package variables that the reading takes, are together of bulk at most 1048576: NARROWER than '..Said'. Prove '..Said' where nothing that the law and all that it calls make is longer than what came in: it says more and counts as full. Else prove '..UptoSaid'. A law counts once. -/
mutual
def uptoBulk {H : Type} : DataW H → Nat
  | .lit (.string bytes) => bytes.length + 1
  | .lit _ => 1
  | .nil => 1
  | .ptr d => uptoBulk d + 1
  | .slice elems spare => uptoBulkAll elems + uptoBulkAll spare + 1
  | .agg parts => uptoBulkAll parts + 1
  | .iface _ d => uptoBulk d + 1
  | .map entries => uptoBulkEntries entries + 1
  | .held _ => 1
def uptoBulkAll {H : Type} : List (DataW H) → Nat
  | [] => 0
  | d :: r => uptoBulk d + uptoBulkAll r
def uptoBulkEntries {H : Type} : List (Lit × DataW H) → Nat
  | [] => 0
  | x :: r => uptoBulkEntry x + uptoBulkEntries r
def uptoBulkEntry {H : Type} : Lit × DataW H → Nat
  | (.string bytes, d) => bytes.length + uptoBulk d + 1
  | (_, d) => uptoBulk d + 1
 end
def uptoSmall : (H : Type) → List (DataW H) → Bool := fun _ ds => decide (uptoBulkAll ds ≤ 1048576)
def OpenSpec.upto (s : _root_.Go.ChangeSpec) : _root_.Go.OpenSpec := { _root_.Go.OpenSpec.ofChange s with cond := some uptoSmall }

/-- 'laws.FnExactValidAdvertisement', WHERE WHAT IT READS IS OF BULK AT MOST 1048576: true; the input reads as it did. -/
def fnExactValidAdvertisementUptoRow : OpenClaim := { program := "ytclhapbahkjljaa", sum := "9e1d6d553dd434b447c24a6a80a4040c01fc66b6454474ba6c5ec3e494e61b93", func := "loop.example/g00507/laws.FnExactValidAdvertisement", spec := "fnExactValidAdvertisement", unfollowed := true, recurses := true, apart := false, narrowed := true }
def FnExactValidAdvertisementUptoSaid : Prop := fnExactValidAdvertisementUptoRow.holds Try.pinned (OpenSpec.upto fnExactValidAdvertisementSpec)

/-- 'laws.FnExactMatchingPrefix', WHERE WHAT IT READS IS OF BULK AT MOST 1048576: true; the input reads as it did. -/
def fnExactMatchingPrefixUptoRow : OpenClaim := { program := "ytclhapbahkjljaa", sum := "9e1d6d553dd434b447c24a6a80a4040c01fc66b6454474ba6c5ec3e494e61b93", func := "loop.example/g00507/laws.FnExactMatchingPrefix", spec := "fnExactMatchingPrefix", apart := false, narrowed := true }
def FnExactMatchingPrefixUptoSaid : Prop := fnExactMatchingPrefixUptoRow.holds Try.pinned (OpenSpec.upto fnExactMatchingPrefixSpec)

/-- 'laws.FnExactRemoveFace', WHERE WHAT IT READS IS OF BULK AT MOST 1048576: true; the input reads as it did. -/
def fnExactRemoveFaceUptoRow : OpenClaim := { program := "ytclhapbahkjljaa", sum := "9e1d6d553dd434b447c24a6a80a4040c01fc66b6454474ba6c5ec3e494e61b93", func := "loop.example/g00507/laws.FnExactRemoveFace", spec := "fnExactRemoveFace", unfollowed := true, recurses := true, apart := false, narrowed := true }
def FnExactRemoveFaceUptoSaid : Prop := fnExactRemoveFaceUptoRow.holds Try.pinned (OpenSpec.upto fnExactRemoveFaceSpec)

/-- 'laws.FnExactValidDatabase', WHERE WHAT IT READS IS OF BULK AT MOST 1048576: true; the input reads as it did. -/
def fnExactValidDatabaseUptoRow : OpenClaim := { program := "ytclhapbahkjljaa", sum := "9e1d6d553dd434b447c24a6a80a4040c01fc66b6454474ba6c5ec3e494e61b93", func := "loop.example/g00507/laws.FnExactValidDatabase", spec := "fnExactValidDatabase", unfollowed := true, recurses := true, apart := false, narrowed := true }
def FnExactValidDatabaseUptoSaid : Prop := fnExactValidDatabaseUptoRow.holds Try.pinned (OpenSpec.upto fnExactValidDatabaseSpec)

/-- 'laws.FnExactRecordSuccess', WHERE WHAT IT READS IS OF BULK AT MOST 1048576: true; the input reads as it did. -/
def fnExactRecordSuccessUptoRow : OpenClaim := { program := "ytclhapbahkjljaa", sum := "9e1d6d553dd434b447c24a6a80a4040c01fc66b6454474ba6c5ec3e494e61b93", func := "loop.example/g00507/laws.FnExactRecordSuccess", spec := "fnExactRecordSuccess", unfollowed := true, recurses := true, apart := false, narrowed := true }
def FnExactRecordSuccessUptoSaid : Prop := fnExactRecordSuccessUptoRow.holds Try.pinned (OpenSpec.upto fnExactRecordSuccessSpec)

/-- 'laws.FnExactEqualOutgoing', WHERE WHAT IT READS IS OF BULK AT MOST 1048576: true; the input reads as it did. -/
def fnExactEqualOutgoingUptoRow : OpenClaim := { program := "ytclhapbahkjljaa", sum := "9e1d6d553dd434b447c24a6a80a4040c01fc66b6454474ba6c5ec3e494e61b93", func := "loop.example/g00507/laws.FnExactEqualOutgoing", spec := "fnExactEqualOutgoing", unfollowed := true, recurses := true, apart := false, narrowed := true }
def FnExactEqualOutgoingUptoSaid : Prop := fnExactEqualOutgoingUptoRow.holds Try.pinned (OpenSpec.upto fnExactEqualOutgoingSpec)

end Rows
end Go.Proofs.Ytclhapbahkjljaa

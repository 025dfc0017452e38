/-
  The program's types as plain data, and how their cells are taken apart. Printed by gentypes.py.
-/
import Derived.Test.YtadneiijklnccaaDoorOwn2
namespace Go.Proofs.YtadneiijklnccaaDoor
open Go.RowKit
set_option linter.unusedVariables false
set_option linter.unusedSimpArgs false
set_option linter.unnecessarySimpa false
abbrev LLink := Int × Int
instance decLink : DecidableEq LLink := inferInstanceAs (DecidableEq (Int × Int))
def RLink : Rep LLink := .pair .int .int
theorem RLink_raw {w : World} {cs : List Value} {x : LLink} (h : RLink.raw w cs x) : cs = [.int .i64 x.1, .int .i64 x.2] ∧ (-9223372036854775808 ≤ x.1 ∧ x.1 ≤ 9223372036854775807) ∧ (-9223372036854775808 ≤ x.2 ∧ x.2 ≤ 9223372036854775807) := by
  obtain ⟨_, _, rfl, a_0, b_0⟩ := Rep.pair_raw h
  obtain ⟨rfl, r_0⟩ := Rep.int_raw a_0
  obtain ⟨rfl, r_1⟩ := Rep.int_raw b_0
  exact ⟨rfl, r_0, r_1⟩
abbrev LTopology := Int × (List LLink)
instance decTopology : DecidableEq LTopology := inferInstanceAs (DecidableEq (Int × (List LLink)))
def RTopology : Rep LTopology := .pair .int (.slice 43 RLink)
theorem RTopology_raw {w : World} {cs : List Value} {x : LTopology} (h : RTopology.raw w cs x) : ∃ v1, cs = [.int .i64 x.1, v1] ∧ (-9223372036854775808 ≤ x.1 ∧ x.1 ≤ 9223372036854775807) ∧ (Rep.slice 43 RLink).raw w [v1] x.2 := by
  obtain ⟨_, _, rfl, a_0, b_0⟩ := Rep.pair_raw h
  obtain ⟨rfl, r_0⟩ := Rep.int_raw a_0
  obtain ⟨_, rfl, r_1⟩ := Rep.slice_raw b_0
  exact ⟨_, rfl, r_0, r_1⟩
end Go.Proofs.YtadneiijklnccaaDoor

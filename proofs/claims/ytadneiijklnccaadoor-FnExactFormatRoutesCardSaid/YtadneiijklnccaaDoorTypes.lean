/-
  The program's types as plain data, and how their cells are taken apart. Printed by gentypes.py.
-/
import Derived.Test.YtadneiijklnccaaDoorOwn2
namespace Go.Proofs.YtadneiijklnccaaDoor
open Go.RowKit
set_option linter.unusedVariables false
set_option linter.unusedSimpArgs false
set_option linter.unnecessarySimpa false
abbrev LName := (List ByteArray)
instance decName : DecidableEq LName := inferInstanceAs (DecidableEq ((List ByteArray)))
def RName : Rep LName := (.slice 9 .str)
theorem RName_raw {w : World} {cs : List Value} {x : LName} (h : RName.raw w cs x) : ∃ v0, cs = [v0] ∧ (Rep.slice 9 Rep.str).raw w [v0] x := by
  obtain ⟨_, rfl, r_0⟩ := Rep.slice_raw h
  exact ⟨_, rfl, r_0⟩
abbrev LRoute := LName × Int × Int
instance decRoute : DecidableEq LRoute := inferInstanceAs (DecidableEq (LName × Int × Int))
def RRoute : Rep LRoute := .pair RName (.pair .int .int)
theorem RRoute_raw {w : World} {cs : List Value} {x : LRoute} (h : RRoute.raw w cs x) : ∃ v0, cs = [v0, .int .i64 x.2.1, .int .i64 x.2.2] ∧ RName.raw w [v0] x.1 ∧ (Rep.slice 9 Rep.str).raw w [v0] x.1 ∧ (-9223372036854775808 ≤ x.2.1 ∧ x.2.1 ≤ 9223372036854775807) ∧ (-9223372036854775808 ≤ x.2.2 ∧ x.2.2 ≤ 9223372036854775807) := by
  obtain ⟨_, _, rfl, a_0, b_0⟩ := Rep.pair_raw h
  have q_0 := RName_raw a_0
  obtain ⟨_, rfl, s_0_0⟩ := q_0
  obtain ⟨_, _, rfl, a_1, b_1⟩ := Rep.pair_raw b_0
  obtain ⟨rfl, r_1⟩ := Rep.int_raw a_1
  obtain ⟨rfl, r_2⟩ := Rep.int_raw b_1
  exact ⟨_, rfl, a_0, s_0_0, r_1, r_2⟩
end Go.Proofs.YtadneiijklnccaaDoor

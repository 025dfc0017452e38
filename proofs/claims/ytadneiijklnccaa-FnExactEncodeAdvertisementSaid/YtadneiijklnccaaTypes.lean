/-
  The program's types as plain data, and how their cells are taken apart. Printed by gentypes.py.
-/
import Derived.Test.YtadneiijklnccaaOwn2
namespace Go.Proofs.Ytadneiijklnccaa
open Go.RowKit
set_option linter.unusedVariables false
set_option linter.unusedSimpArgs false
set_option linter.unnecessarySimpa false
abbrev LName := (List ByteArray)
instance decName : DecidableEq LName := inferInstanceAs (DecidableEq ((List ByteArray)))
def RName : Rep LName := (.slice 9 .str)
theorem RName_n : RName.n = 1 := rfl
theorem RName_raw {w : World} {cs : List Value} {x : LName} (h : RName.raw w cs x) : ∃ v0, cs = [v0] ∧ (Rep.slice 9 Rep.str).raw w [v0] x := by
  obtain ⟨_, rfl, r_0⟩ := Rep.slice_raw h
  exact ⟨_, rfl, r_0⟩
theorem RName_sub_0 : Rep.Sub RName (Rep.slice 9 Rep.str) (fun x => x) (fun x y => y) 0 := Rep.Sub.refl (Rep.slice 9 Rep.str)
abbrev LAdvertisement := Int × Int × (List Int) × (List LName)
instance decAdvertisement : DecidableEq LAdvertisement := inferInstanceAs (DecidableEq (Int × Int × (List Int) × (List LName)))
def RAdvertisement : Rep LAdvertisement := .pair .int (.pair .int (.pair (.slice 3 .int) (.slice 46 RName)))
theorem RAdvertisement_raw {w : World} {cs : List Value} {x : LAdvertisement} (h : RAdvertisement.raw w cs x) : ∃ v2 v3, cs = [.int .i64 x.1, .int .i64 x.2.1, v2, v3] ∧ (-9223372036854775808 ≤ x.1 ∧ x.1 ≤ 9223372036854775807) ∧ (-9223372036854775808 ≤ x.2.1 ∧ x.2.1 ≤ 9223372036854775807) ∧ (Rep.slice 3 Rep.int).raw w [v2] x.2.2.1 ∧ (Rep.slice 46 RName).raw w [v3] x.2.2.2 := by
  obtain ⟨_, _, rfl, a_0, b_0⟩ := Rep.pair_raw h
  obtain ⟨rfl, r_0⟩ := Rep.int_raw a_0
  obtain ⟨_, _, rfl, a_1, b_1⟩ := Rep.pair_raw b_0
  obtain ⟨rfl, r_1⟩ := Rep.int_raw a_1
  obtain ⟨_, _, rfl, a_2, b_2⟩ := Rep.pair_raw b_1
  obtain ⟨_, rfl, r_2⟩ := Rep.slice_raw a_2
  obtain ⟨_, rfl, r_3⟩ := Rep.slice_raw b_2
  exact ⟨_, _, rfl, r_0, r_1, r_2, r_3⟩
theorem RAdvertisement_sub_2 : Rep.Sub RAdvertisement (Rep.slice 3 Rep.int) (fun x => x.2.2.1) (fun x y => (x.1, x.2.1, y, x.2.2.2)) 2 := Rep.Sub.right (Rep.Sub.right (Rep.Sub.left (Rep.Sub.refl (Rep.slice 3 Rep.int)) (by decide)) rfl) rfl
theorem RAdvertisement_sub_3 : Rep.Sub RAdvertisement (Rep.slice 46 RName) (fun x => x.2.2.2) (fun x y => (x.1, x.2.1, x.2.2.1, y)) 3 := Rep.Sub.right (Rep.Sub.right (Rep.Sub.right (Rep.Sub.refl (Rep.slice 46 RName)) rfl) rfl) rfl
end Go.Proofs.Ytadneiijklnccaa

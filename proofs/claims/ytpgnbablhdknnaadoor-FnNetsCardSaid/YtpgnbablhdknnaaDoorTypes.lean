/-
  The program's types as plain data, and how their cells are taken apart. Printed by gentypes.py.
-/
import Derived.Test.YtpgnbablhdknnaaDoorOwn2
namespace Go.Proofs.YtpgnbablhdknnaaDoor
open Go.RowKit
set_option linter.unusedVariables false
set_option linter.unusedSimpArgs false
set_option linter.unnecessarySimpa false

abbrev LLink := Int × Int
instance decLink : DecidableEq LLink := inferInstanceAs (DecidableEq (Int × Int))
def RLink : Rep LLink := .pair .int .int
theorem RLink_n : RLink.n = 2 := rfl
theorem RLink_raw {w : World} {cs : List Value} {x : LLink} (h : RLink.raw w cs x) : cs = [.int .i64 x.1, .int .i64 x.2] ∧ (-9223372036854775808 ≤ x.1 ∧ x.1 ≤ 9223372036854775807) ∧ (-9223372036854775808 ≤ x.2 ∧ x.2 ≤ 9223372036854775807) := by
  obtain ⟨_, _, rfl, a_0, b_0⟩ := Rep.pair_raw h
  obtain ⟨rfl, r_0⟩ := Rep.int_raw a_0
  obtain ⟨rfl, r_1⟩ := Rep.int_raw b_0
  exact ⟨rfl, r_0, r_1⟩
def setLink_0 (x : LLink) (v : Int) : LLink := (v, x.2)
theorem RLink_set0 {x : LLink} (v : Int) (hv : -9223372036854775808 ≤ v ∧ v ≤ 9223372036854775807) {w : World} {cs : List Value} {S : Nat → Prop} (h : RLink.is true w cs x S) : RLink.is true w (cs.set 0 (.int .i64 v)) (setLink_0 x v) S := by
  obtain ⟨c0, d0, A0, B0, rfl, p0, q0, hA0, hB0, hd0⟩ := h
  obtain ⟨rfl, _⟩ := p0
  have e : (([.int .i64 x.1] ++ d0) : List Value).set 0 (.int .i64 v) = ([.int .i64 v] ++ d0) := by
    rfl
  rw [e]
  exact ⟨_, _, A0, B0, rfl, ⟨rfl, hv⟩, q0, hA0, hB0, hd0⟩
def setLink_1 (x : LLink) (v : Int) : LLink := (x.1, v)
theorem RLink_set1 {x : LLink} (v : Int) (hv : -9223372036854775808 ≤ v ∧ v ≤ 9223372036854775807) {w : World} {cs : List Value} {S : Nat → Prop} (h : RLink.is true w cs x S) : RLink.is true w (cs.set 1 (.int .i64 v)) (setLink_1 x v) S := by
  obtain ⟨c0, d0, A0, B0, rfl, p0, q0, hA0, hB0, hd0⟩ := h
  obtain ⟨rfl, _⟩ := q0
  have l0 := Rep.len _ p0
  change _ = 1 at l0
  have e : ((c0 ++ [.int .i64 x.2]) : List Value).set 1 (.int .i64 v) = (c0 ++ [.int .i64 v]) := by
    obtain ⟨y0_0, rfl⟩ : ∃ y0_0, c0 = [y0_0] := by match c0, l0 with | [y0_0], _ => exact ⟨_, rfl⟩
    rfl
  rw [e]
  exact ⟨_, _, A0, B0, rfl, p0, ⟨rfl, hv⟩, hA0, hB0, hd0⟩
abbrev LTopology := Int × (List LLink)
instance decTopology : DecidableEq LTopology := inferInstanceAs (DecidableEq (Int × (List LLink)))
def RTopology : Rep LTopology := .pair .int (.slice 49 RLink)
theorem RTopology_n : RTopology.n = 2 := rfl
theorem RTopology_raw {w : World} {cs : List Value} {x : LTopology} (h : RTopology.raw w cs x) : ∃ v1, cs = [.int .i64 x.1, v1] ∧ (-9223372036854775808 ≤ x.1 ∧ x.1 ≤ 9223372036854775807) ∧ (Rep.slice 49 RLink).raw w [v1] x.2 := by
  obtain ⟨_, _, rfl, a_0, b_0⟩ := Rep.pair_raw h
  obtain ⟨rfl, r_0⟩ := Rep.int_raw a_0
  obtain ⟨_, rfl, r_1⟩ := Rep.slice_raw b_0
  exact ⟨_, rfl, r_0, r_1⟩
theorem RTopology_sub_1 : Rep.Sub RTopology (Rep.slice 49 RLink) (fun x => x.2) (fun x y => (x.1, y)) 1 := Rep.Sub.right (Rep.Sub.refl (Rep.slice 49 RLink)) rfl
def setTopology_0 (x : LTopology) (v : Int) : LTopology := (v, x.2)
theorem RTopology_set0 {x : LTopology} (v : Int) (hv : -9223372036854775808 ≤ v ∧ v ≤ 9223372036854775807) {w : World} {cs : List Value} {S : Nat → Prop} (h : RTopology.is true w cs x S) : RTopology.is true w (cs.set 0 (.int .i64 v)) (setTopology_0 x v) S := by
  obtain ⟨c0, d0, A0, B0, rfl, p0, q0, hA0, hB0, hd0⟩ := h
  obtain ⟨rfl, _⟩ := p0
  have e : (([.int .i64 x.1] ++ d0) : List Value).set 0 (.int .i64 v) = ([.int .i64 v] ++ d0) := by
    rfl
  rw [e]
  exact ⟨_, _, A0, B0, rfl, ⟨rfl, hv⟩, q0, hA0, hB0, hd0⟩
end Go.Proofs.YtpgnbablhdknnaaDoor

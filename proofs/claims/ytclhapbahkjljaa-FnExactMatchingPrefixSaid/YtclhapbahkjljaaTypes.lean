/-
  The program's types as plain data, and how their cells are taken apart. Printed by gentypes.py.
-/
import Derived.Test.YtclhapbahkjljaaOwn2
namespace Go.Proofs.Ytclhapbahkjljaa
open Go.RowKit
set_option linter.unusedVariables false

abbrev LName := (List ByteArray)
instance decName : DecidableEq LName := inferInstanceAs (DecidableEq ((List ByteArray)))
def RName : Rep LName := (.slice 9 .str)
theorem RName_n : RName.n = 1 := rfl
theorem RName_raw {w : World} {cs : List Value} {x : LName} (h : RName.raw w cs x) : ∃ v0, cs = [v0] ∧ (Rep.slice 9 Rep.str).raw w [v0] x := by
  obtain ⟨_, rfl, r_0⟩ := Rep.slice_raw h
  exact ⟨_, rfl, r_0⟩
theorem RName_sub_0 : Rep.Sub RName (Rep.slice 9 Rep.str) (fun x => x) (fun x y => y) 0 := Rep.Sub.refl (Rep.slice 9 Rep.str)
abbrev LMeasurement := LName × Int × Int
instance decMeasurement : DecidableEq LMeasurement := inferInstanceAs (DecidableEq (LName × Int × Int))
def RMeasurement : Rep LMeasurement := .pair RName (.pair .int .int)
theorem RMeasurement_n : RMeasurement.n = 3 := rfl
theorem RMeasurement_raw {w : World} {cs : List Value} {x : LMeasurement} (h : RMeasurement.raw w cs x) : ∃ v0, cs = [v0, .int .i64 x.2.1, .int .i64 x.2.2] ∧ RName.raw w [v0] x.1 ∧ (Rep.slice 9 Rep.str).raw w [v0] x.1 ∧ (-9223372036854775808 ≤ x.2.1 ∧ x.2.1 ≤ 9223372036854775807) ∧ (-9223372036854775808 ≤ x.2.2 ∧ x.2.2 ≤ 9223372036854775807) := by
  obtain ⟨_, _, rfl, a_0, b_0⟩ := Rep.pair_raw h
  have q_0 := RName_raw a_0
  obtain ⟨_, rfl, s_0_0⟩ := q_0
  obtain ⟨_, _, rfl, a_1, b_1⟩ := Rep.pair_raw b_0
  obtain ⟨rfl, r_1⟩ := Rep.int_raw a_1
  obtain ⟨rfl, r_2⟩ := Rep.int_raw b_1
  exact ⟨_, rfl, a_0, s_0_0, r_1, r_2⟩
theorem RMeasurement_sub_0 : Rep.Sub RMeasurement RName (fun x => x.1) (fun x y => (y, x.2.1, x.2.2)) 0 := Rep.Sub.left (Rep.Sub.refl RName) (by decide)
theorem RMeasurement_sub_0_0 : Rep.Sub RMeasurement (Rep.slice 9 Rep.str) (fun x => x.1) (fun x y => (y, x.2.1, x.2.2)) 0 := Rep.Sub.left (Rep.Sub.refl (Rep.slice 9 Rep.str)) (by decide)
def setMeasurement_1 (x : LMeasurement) (v : Int) : LMeasurement := (x.1, v, x.2.2)
theorem RMeasurement_set1 {x : LMeasurement} (v : Int) (hv : -9223372036854775808 ≤ v ∧ v ≤ 9223372036854775807) {w : World} {cs : List Value} {S : Nat → Prop} (h : RMeasurement.is true w cs x S) : RMeasurement.is true w (cs.set 1 (.int .i64 v)) (setMeasurement_1 x v) S := by
  obtain ⟨c0, d0, A0, B0, rfl, p0, q0, hA0, hB0, hd0⟩ := h
  obtain ⟨c1, d1, A1, B1, rfl, p1, q1, hA1, hB1, hd1⟩ := q0
  obtain ⟨rfl, _⟩ := p1
  have l0 := Rep.len _ p0
  change _ = 1 at l0
  have e : ((c0 ++ ([.int .i64 x.2.1] ++ d1)) : List Value).set 1 (.int .i64 v) = (c0 ++ ([.int .i64 v] ++ d1)) := by
    obtain ⟨y0_0, rfl⟩ : ∃ y0_0, c0 = [y0_0] := by match c0, l0 with | [y0_0], _ => exact ⟨_, rfl⟩
    rfl
  rw [e]
  exact ⟨_, _, A0, B0, rfl, p0, ⟨_, _, A1, B1, rfl, ⟨rfl, hv⟩, q1, hA1, hB1, hd1⟩, hA0, hB0, hd0⟩
def setMeasurement_2 (x : LMeasurement) (v : Int) : LMeasurement := (x.1, x.2.1, v)
theorem RMeasurement_set2 {x : LMeasurement} (v : Int) (hv : -9223372036854775808 ≤ v ∧ v ≤ 9223372036854775807) {w : World} {cs : List Value} {S : Nat → Prop} (h : RMeasurement.is true w cs x S) : RMeasurement.is true w (cs.set 2 (.int .i64 v)) (setMeasurement_2 x v) S := by
  obtain ⟨c0, d0, A0, B0, rfl, p0, q0, hA0, hB0, hd0⟩ := h
  obtain ⟨c1, d1, A1, B1, rfl, p1, q1, hA1, hB1, hd1⟩ := q0
  obtain ⟨rfl, _⟩ := q1
  have l0 := Rep.len _ p0
  have l1 := Rep.len _ p1
  change _ = 1 at l0; change _ = 1 at l1
  have e : ((c0 ++ (c1 ++ [.int .i64 x.2.2])) : List Value).set 2 (.int .i64 v) = (c0 ++ (c1 ++ [.int .i64 v])) := by
    obtain ⟨y0_0, rfl⟩ : ∃ y0_0, c0 = [y0_0] := by match c0, l0 with | [y0_0], _ => exact ⟨_, rfl⟩
    obtain ⟨y1_0, rfl⟩ : ∃ y1_0, c1 = [y1_0] := by match c1, l1 with | [y1_0], _ => exact ⟨_, rfl⟩
    rfl
  rw [e]
  exact ⟨_, _, A0, B0, rfl, p0, ⟨_, _, A1, B1, rfl, p1, ⟨rfl, hv⟩, hA1, hB1, hd1⟩, hA0, hB0, hd0⟩
abbrev LRoute := LName × Int × Int
instance decRoute : DecidableEq LRoute := inferInstanceAs (DecidableEq (LName × Int × Int))
def RRoute : Rep LRoute := .pair RName (.pair .int .int)
theorem RRoute_n : RRoute.n = 3 := rfl
theorem RRoute_raw {w : World} {cs : List Value} {x : LRoute} (h : RRoute.raw w cs x) : ∃ v0, cs = [v0, .int .i64 x.2.1, .int .i64 x.2.2] ∧ RName.raw w [v0] x.1 ∧ (Rep.slice 9 Rep.str).raw w [v0] x.1 ∧ (-9223372036854775808 ≤ x.2.1 ∧ x.2.1 ≤ 9223372036854775807) ∧ (-9223372036854775808 ≤ x.2.2 ∧ x.2.2 ≤ 9223372036854775807) := by
  obtain ⟨_, _, rfl, a_0, b_0⟩ := Rep.pair_raw h
  have q_0 := RName_raw a_0
  obtain ⟨_, rfl, s_0_0⟩ := q_0
  obtain ⟨_, _, rfl, a_1, b_1⟩ := Rep.pair_raw b_0
  obtain ⟨rfl, r_1⟩ := Rep.int_raw a_1
  obtain ⟨rfl, r_2⟩ := Rep.int_raw b_1
  exact ⟨_, rfl, a_0, s_0_0, r_1, r_2⟩
theorem RRoute_sub_0 : Rep.Sub RRoute RName (fun x => x.1) (fun x y => (y, x.2.1, x.2.2)) 0 := Rep.Sub.left (Rep.Sub.refl RName) (by decide)
theorem RRoute_sub_0_0 : Rep.Sub RRoute (Rep.slice 9 Rep.str) (fun x => x.1) (fun x y => (y, x.2.1, x.2.2)) 0 := Rep.Sub.left (Rep.Sub.refl (Rep.slice 9 Rep.str)) (by decide)
def setRoute_1 (x : LRoute) (v : Int) : LRoute := (x.1, v, x.2.2)
theorem RRoute_set1 {x : LRoute} (v : Int) (hv : -9223372036854775808 ≤ v ∧ v ≤ 9223372036854775807) {w : World} {cs : List Value} {S : Nat → Prop} (h : RRoute.is true w cs x S) : RRoute.is true w (cs.set 1 (.int .i64 v)) (setRoute_1 x v) S := by
  obtain ⟨c0, d0, A0, B0, rfl, p0, q0, hA0, hB0, hd0⟩ := h
  obtain ⟨c1, d1, A1, B1, rfl, p1, q1, hA1, hB1, hd1⟩ := q0
  obtain ⟨rfl, _⟩ := p1
  have l0 := Rep.len _ p0
  change _ = 1 at l0
  have e : ((c0 ++ ([.int .i64 x.2.1] ++ d1)) : List Value).set 1 (.int .i64 v) = (c0 ++ ([.int .i64 v] ++ d1)) := by
    obtain ⟨y0_0, rfl⟩ : ∃ y0_0, c0 = [y0_0] := by match c0, l0 with | [y0_0], _ => exact ⟨_, rfl⟩
    rfl
  rw [e]
  exact ⟨_, _, A0, B0, rfl, p0, ⟨_, _, A1, B1, rfl, ⟨rfl, hv⟩, q1, hA1, hB1, hd1⟩, hA0, hB0, hd0⟩
def setRoute_2 (x : LRoute) (v : Int) : LRoute := (x.1, x.2.1, v)
theorem RRoute_set2 {x : LRoute} (v : Int) (hv : -9223372036854775808 ≤ v ∧ v ≤ 9223372036854775807) {w : World} {cs : List Value} {S : Nat → Prop} (h : RRoute.is true w cs x S) : RRoute.is true w (cs.set 2 (.int .i64 v)) (setRoute_2 x v) S := by
  obtain ⟨c0, d0, A0, B0, rfl, p0, q0, hA0, hB0, hd0⟩ := h
  obtain ⟨c1, d1, A1, B1, rfl, p1, q1, hA1, hB1, hd1⟩ := q0
  obtain ⟨rfl, _⟩ := q1
  have l0 := Rep.len _ p0
  have l1 := Rep.len _ p1
  change _ = 1 at l0; change _ = 1 at l1
  have e : ((c0 ++ (c1 ++ [.int .i64 x.2.2])) : List Value).set 2 (.int .i64 v) = (c0 ++ (c1 ++ [.int .i64 v])) := by
    obtain ⟨y0_0, rfl⟩ : ∃ y0_0, c0 = [y0_0] := by match c0, l0 with | [y0_0], _ => exact ⟨_, rfl⟩
    obtain ⟨y1_0, rfl⟩ : ∃ y1_0, c1 = [y1_0] := by match c1, l1 with | [y1_0], _ => exact ⟨_, rfl⟩
    rfl
  rw [e]
  exact ⟨_, _, A0, B0, rfl, p0, ⟨_, _, A1, B1, rfl, p1, ⟨rfl, hv⟩, hA1, hB1, hd1⟩, hA0, hB0, hd0⟩
abbrev LAdvertisement := Int × Int × (List Int) × (List LName)
instance decAdvertisement : DecidableEq LAdvertisement := inferInstanceAs (DecidableEq (Int × Int × (List Int) × (List LName)))
def RAdvertisement : Rep LAdvertisement := .pair .int (.pair .int (.pair (.slice 3 .int) (.slice 40 RName)))
theorem RAdvertisement_n : RAdvertisement.n = 4 := rfl
theorem RAdvertisement_raw {w : World} {cs : List Value} {x : LAdvertisement} (h : RAdvertisement.raw w cs x) : ∃ v2 v3, cs = [.int .i64 x.1, .int .i64 x.2.1, v2, v3] ∧ (-9223372036854775808 ≤ x.1 ∧ x.1 ≤ 9223372036854775807) ∧ (-9223372036854775808 ≤ x.2.1 ∧ x.2.1 ≤ 9223372036854775807) ∧ (Rep.slice 3 Rep.int).raw w [v2] x.2.2.1 ∧ (Rep.slice 40 RName).raw w [v3] x.2.2.2 := by
  obtain ⟨_, _, rfl, a_0, b_0⟩ := Rep.pair_raw h
  obtain ⟨rfl, r_0⟩ := Rep.int_raw a_0
  obtain ⟨_, _, rfl, a_1, b_1⟩ := Rep.pair_raw b_0
  obtain ⟨rfl, r_1⟩ := Rep.int_raw a_1
  obtain ⟨_, _, rfl, a_2, b_2⟩ := Rep.pair_raw b_1
  obtain ⟨_, rfl, r_2⟩ := Rep.slice_raw a_2
  obtain ⟨_, rfl, r_3⟩ := Rep.slice_raw b_2
  exact ⟨_, _, rfl, r_0, r_1, r_2, r_3⟩
theorem RAdvertisement_sub_2 : Rep.Sub RAdvertisement (Rep.slice 3 Rep.int) (fun x => x.2.2.1) (fun x y => (x.1, x.2.1, y, x.2.2.2)) 2 := Rep.Sub.right (Rep.Sub.right (Rep.Sub.left (Rep.Sub.refl (Rep.slice 3 Rep.int)) (by decide)) rfl) rfl
theorem RAdvertisement_sub_3 : Rep.Sub RAdvertisement (Rep.slice 40 RName) (fun x => x.2.2.2) (fun x y => (x.1, x.2.1, x.2.2.1, y)) 3 := Rep.Sub.right (Rep.Sub.right (Rep.Sub.right (Rep.Sub.refl (Rep.slice 40 RName)) rfl) rfl) rfl
def setAdvertisement_0 (x : LAdvertisement) (v : Int) : LAdvertisement := (v, x.2.1, x.2.2.1, x.2.2.2)
theorem RAdvertisement_set0 {x : LAdvertisement} (v : Int) (hv : -9223372036854775808 ≤ v ∧ v ≤ 9223372036854775807) {w : World} {cs : List Value} {S : Nat → Prop} (h : RAdvertisement.is true w cs x S) : RAdvertisement.is true w (cs.set 0 (.int .i64 v)) (setAdvertisement_0 x v) S := by
  obtain ⟨c0, d0, A0, B0, rfl, p0, q0, hA0, hB0, hd0⟩ := h
  obtain ⟨rfl, _⟩ := p0
  have e : (([.int .i64 x.1] ++ d0) : List Value).set 0 (.int .i64 v) = ([.int .i64 v] ++ d0) := by
    rfl
  rw [e]
  exact ⟨_, _, A0, B0, rfl, ⟨rfl, hv⟩, q0, hA0, hB0, hd0⟩
def setAdvertisement_1 (x : LAdvertisement) (v : Int) : LAdvertisement := (x.1, v, x.2.2.1, x.2.2.2)
theorem RAdvertisement_set1 {x : LAdvertisement} (v : Int) (hv : -9223372036854775808 ≤ v ∧ v ≤ 9223372036854775807) {w : World} {cs : List Value} {S : Nat → Prop} (h : RAdvertisement.is true w cs x S) : RAdvertisement.is true w (cs.set 1 (.int .i64 v)) (setAdvertisement_1 x v) S := by
  obtain ⟨c0, d0, A0, B0, rfl, p0, q0, hA0, hB0, hd0⟩ := h
  obtain ⟨c1, d1, A1, B1, rfl, p1, q1, hA1, hB1, hd1⟩ := q0
  obtain ⟨rfl, _⟩ := p1
  have l0 := Rep.len _ p0
  change _ = 1 at l0
  have e : ((c0 ++ ([.int .i64 x.2.1] ++ d1)) : List Value).set 1 (.int .i64 v) = (c0 ++ ([.int .i64 v] ++ d1)) := by
    obtain ⟨y0_0, rfl⟩ : ∃ y0_0, c0 = [y0_0] := by match c0, l0 with | [y0_0], _ => exact ⟨_, rfl⟩
    rfl
  rw [e]
  exact ⟨_, _, A0, B0, rfl, p0, ⟨_, _, A1, B1, rfl, ⟨rfl, hv⟩, q1, hA1, hB1, hd1⟩, hA0, hB0, hd0⟩
abbrev LInterest := LName × Int × Int × Int
instance decInterest : DecidableEq LInterest := inferInstanceAs (DecidableEq (LName × Int × Int × Int))
def RInterest : Rep LInterest := .pair RName (.pair .int (.pair .int .int))
theorem RInterest_n : RInterest.n = 4 := rfl
theorem RInterest_raw {w : World} {cs : List Value} {x : LInterest} (h : RInterest.raw w cs x) : ∃ v0, cs = [v0, .int .i64 x.2.1, .int .i64 x.2.2.1, .int .i64 x.2.2.2] ∧ RName.raw w [v0] x.1 ∧ (Rep.slice 9 Rep.str).raw w [v0] x.1 ∧ (-9223372036854775808 ≤ x.2.1 ∧ x.2.1 ≤ 9223372036854775807) ∧ (-9223372036854775808 ≤ x.2.2.1 ∧ x.2.2.1 ≤ 9223372036854775807) ∧ (-9223372036854775808 ≤ x.2.2.2 ∧ x.2.2.2 ≤ 9223372036854775807) := by
  obtain ⟨_, _, rfl, a_0, b_0⟩ := Rep.pair_raw h
  have q_0 := RName_raw a_0
  obtain ⟨_, rfl, s_0_0⟩ := q_0
  obtain ⟨_, _, rfl, a_1, b_1⟩ := Rep.pair_raw b_0
  obtain ⟨rfl, r_1⟩ := Rep.int_raw a_1
  obtain ⟨_, _, rfl, a_2, b_2⟩ := Rep.pair_raw b_1
  obtain ⟨rfl, r_2⟩ := Rep.int_raw a_2
  obtain ⟨rfl, r_3⟩ := Rep.int_raw b_2
  exact ⟨_, rfl, a_0, s_0_0, r_1, r_2, r_3⟩
theorem RInterest_sub_0 : Rep.Sub RInterest RName (fun x => x.1) (fun x y => (y, x.2.1, x.2.2.1, x.2.2.2)) 0 := Rep.Sub.left (Rep.Sub.refl RName) (by decide)
theorem RInterest_sub_0_0 : Rep.Sub RInterest (Rep.slice 9 Rep.str) (fun x => x.1) (fun x y => (y, x.2.1, x.2.2.1, x.2.2.2)) 0 := Rep.Sub.left (Rep.Sub.refl (Rep.slice 9 Rep.str)) (by decide)
def setInterest_1 (x : LInterest) (v : Int) : LInterest := (x.1, v, x.2.2.1, x.2.2.2)
theorem RInterest_set1 {x : LInterest} (v : Int) (hv : -9223372036854775808 ≤ v ∧ v ≤ 9223372036854775807) {w : World} {cs : List Value} {S : Nat → Prop} (h : RInterest.is true w cs x S) : RInterest.is true w (cs.set 1 (.int .i64 v)) (setInterest_1 x v) S := by
  obtain ⟨c0, d0, A0, B0, rfl, p0, q0, hA0, hB0, hd0⟩ := h
  obtain ⟨c1, d1, A1, B1, rfl, p1, q1, hA1, hB1, hd1⟩ := q0
  obtain ⟨rfl, _⟩ := p1
  have l0 := Rep.len _ p0
  change _ = 1 at l0
  have e : ((c0 ++ ([.int .i64 x.2.1] ++ d1)) : List Value).set 1 (.int .i64 v) = (c0 ++ ([.int .i64 v] ++ d1)) := by
    obtain ⟨y0_0, rfl⟩ : ∃ y0_0, c0 = [y0_0] := by match c0, l0 with | [y0_0], _ => exact ⟨_, rfl⟩
    rfl
  rw [e]
  exact ⟨_, _, A0, B0, rfl, p0, ⟨_, _, A1, B1, rfl, ⟨rfl, hv⟩, q1, hA1, hB1, hd1⟩, hA0, hB0, hd0⟩
def setInterest_2 (x : LInterest) (v : Int) : LInterest := (x.1, x.2.1, v, x.2.2.2)
theorem RInterest_set2 {x : LInterest} (v : Int) (hv : -9223372036854775808 ≤ v ∧ v ≤ 9223372036854775807) {w : World} {cs : List Value} {S : Nat → Prop} (h : RInterest.is true w cs x S) : RInterest.is true w (cs.set 2 (.int .i64 v)) (setInterest_2 x v) S := by
  obtain ⟨c0, d0, A0, B0, rfl, p0, q0, hA0, hB0, hd0⟩ := h
  obtain ⟨c1, d1, A1, B1, rfl, p1, q1, hA1, hB1, hd1⟩ := q0
  obtain ⟨c2, d2, A2, B2, rfl, p2, q2, hA2, hB2, hd2⟩ := q1
  obtain ⟨rfl, _⟩ := p2
  have l0 := Rep.len _ p0
  have l1 := Rep.len _ p1
  change _ = 1 at l0; change _ = 1 at l1
  have e : ((c0 ++ (c1 ++ ([.int .i64 x.2.2.1] ++ d2))) : List Value).set 2 (.int .i64 v) = (c0 ++ (c1 ++ ([.int .i64 v] ++ d2))) := by
    obtain ⟨y0_0, rfl⟩ : ∃ y0_0, c0 = [y0_0] := by match c0, l0 with | [y0_0], _ => exact ⟨_, rfl⟩
    obtain ⟨y1_0, rfl⟩ : ∃ y1_0, c1 = [y1_0] := by match c1, l1 with | [y1_0], _ => exact ⟨_, rfl⟩
    rfl
  rw [e]
  exact ⟨_, _, A0, B0, rfl, p0, ⟨_, _, A1, B1, rfl, p1, ⟨_, _, A2, B2, rfl, ⟨rfl, hv⟩, q2, hA2, hB2, hd2⟩, hA1, hB1, hd1⟩, hA0, hB0, hd0⟩
def setInterest_3 (x : LInterest) (v : Int) : LInterest := (x.1, x.2.1, x.2.2.1, v)
theorem RInterest_set3 {x : LInterest} (v : Int) (hv : -9223372036854775808 ≤ v ∧ v ≤ 9223372036854775807) {w : World} {cs : List Value} {S : Nat → Prop} (h : RInterest.is true w cs x S) : RInterest.is true w (cs.set 3 (.int .i64 v)) (setInterest_3 x v) S := by
  obtain ⟨c0, d0, A0, B0, rfl, p0, q0, hA0, hB0, hd0⟩ := h
  obtain ⟨c1, d1, A1, B1, rfl, p1, q1, hA1, hB1, hd1⟩ := q0
  obtain ⟨c2, d2, A2, B2, rfl, p2, q2, hA2, hB2, hd2⟩ := q1
  obtain ⟨rfl, _⟩ := q2
  have l0 := Rep.len _ p0
  have l1 := Rep.len _ p1
  have l2 := Rep.len _ p2
  change _ = 1 at l0; change _ = 1 at l1; change _ = 1 at l2
  have e : ((c0 ++ (c1 ++ (c2 ++ [.int .i64 x.2.2.2]))) : List Value).set 3 (.int .i64 v) = (c0 ++ (c1 ++ (c2 ++ [.int .i64 v]))) := by
    obtain ⟨y0_0, rfl⟩ : ∃ y0_0, c0 = [y0_0] := by match c0, l0 with | [y0_0], _ => exact ⟨_, rfl⟩
    obtain ⟨y1_0, rfl⟩ : ∃ y1_0, c1 = [y1_0] := by match c1, l1 with | [y1_0], _ => exact ⟨_, rfl⟩
    obtain ⟨y2_0, rfl⟩ : ∃ y2_0, c2 = [y2_0] := by match c2, l2 with | [y2_0], _ => exact ⟨_, rfl⟩
    rfl
  rw [e]
  exact ⟨_, _, A0, B0, rfl, p0, ⟨_, _, A1, B1, rfl, p1, ⟨_, _, A2, B2, rfl, p2, ⟨rfl, hv⟩, hA2, hB2, hd2⟩, hA1, hB1, hd1⟩, hA0, hB0, hd0⟩
abbrev LData := LName × (List UInt8) × LName × Int × Int
instance decData : DecidableEq LData := inferInstanceAs (DecidableEq (LName × (List UInt8) × LName × Int × Int))
def RData : Rep LData := .pair RName (.pair (.slice 5 .byte) (.pair RName (.pair .int .int)))
theorem RData_n : RData.n = 5 := rfl
theorem RData_raw {w : World} {cs : List Value} {x : LData} (h : RData.raw w cs x) : ∃ v0 v1 v2, cs = [v0, v1, v2, .int .i64 x.2.2.2.1, .int .i64 x.2.2.2.2] ∧ RName.raw w [v0] x.1 ∧ (Rep.slice 9 Rep.str).raw w [v0] x.1 ∧ (Rep.slice 5 Rep.byte).raw w [v1] x.2.1 ∧ RName.raw w [v2] x.2.2.1 ∧ (Rep.slice 9 Rep.str).raw w [v2] x.2.2.1 ∧ (-9223372036854775808 ≤ x.2.2.2.1 ∧ x.2.2.2.1 ≤ 9223372036854775807) ∧ (-9223372036854775808 ≤ x.2.2.2.2 ∧ x.2.2.2.2 ≤ 9223372036854775807) := by
  obtain ⟨_, _, rfl, a_0, b_0⟩ := Rep.pair_raw h
  have q_0 := RName_raw a_0
  obtain ⟨_, rfl, s_0_0⟩ := q_0
  obtain ⟨_, _, rfl, a_1, b_1⟩ := Rep.pair_raw b_0
  obtain ⟨_, rfl, r_1⟩ := Rep.slice_raw a_1
  obtain ⟨_, _, rfl, a_2, b_2⟩ := Rep.pair_raw b_1
  have q_2 := RName_raw a_2
  obtain ⟨_, rfl, s_2_0⟩ := q_2
  obtain ⟨_, _, rfl, a_3, b_3⟩ := Rep.pair_raw b_2
  obtain ⟨rfl, r_3⟩ := Rep.int_raw a_3
  obtain ⟨rfl, r_4⟩ := Rep.int_raw b_3
  exact ⟨_, _, _, rfl, a_0, s_0_0, r_1, a_2, s_2_0, r_3, r_4⟩
theorem RData_sub_0 : Rep.Sub RData RName (fun x => x.1) (fun x y => (y, x.2.1, x.2.2.1, x.2.2.2.1, x.2.2.2.2)) 0 := Rep.Sub.left (Rep.Sub.refl RName) (by decide)
theorem RData_sub_0_0 : Rep.Sub RData (Rep.slice 9 Rep.str) (fun x => x.1) (fun x y => (y, x.2.1, x.2.2.1, x.2.2.2.1, x.2.2.2.2)) 0 := Rep.Sub.left (Rep.Sub.refl (Rep.slice 9 Rep.str)) (by decide)
theorem RData_sub_1 : Rep.Sub RData (Rep.slice 5 Rep.byte) (fun x => x.2.1) (fun x y => (x.1, y, x.2.2.1, x.2.2.2.1, x.2.2.2.2)) 1 := Rep.Sub.right (Rep.Sub.left (Rep.Sub.refl (Rep.slice 5 Rep.byte)) (by decide)) rfl
theorem RData_sub_2 : Rep.Sub RData RName (fun x => x.2.2.1) (fun x y => (x.1, x.2.1, y, x.2.2.2.1, x.2.2.2.2)) 2 := Rep.Sub.right (Rep.Sub.right (Rep.Sub.left (Rep.Sub.refl RName) (by decide)) rfl) rfl
theorem RData_sub_2_0 : Rep.Sub RData (Rep.slice 9 Rep.str) (fun x => x.2.2.1) (fun x y => (x.1, x.2.1, y, x.2.2.2.1, x.2.2.2.2)) 2 := Rep.Sub.right (Rep.Sub.right (Rep.Sub.left (Rep.Sub.refl (Rep.slice 9 Rep.str)) (by decide)) rfl) rfl
def setData_3 (x : LData) (v : Int) : LData := (x.1, x.2.1, x.2.2.1, v, x.2.2.2.2)
theorem RData_set3 {x : LData} (v : Int) (hv : -9223372036854775808 ≤ v ∧ v ≤ 9223372036854775807) {w : World} {cs : List Value} {S : Nat → Prop} (h : RData.is true w cs x S) : RData.is true w (cs.set 3 (.int .i64 v)) (setData_3 x v) S := by
  obtain ⟨c0, d0, A0, B0, rfl, p0, q0, hA0, hB0, hd0⟩ := h
  obtain ⟨c1, d1, A1, B1, rfl, p1, q1, hA1, hB1, hd1⟩ := q0
  obtain ⟨c2, d2, A2, B2, rfl, p2, q2, hA2, hB2, hd2⟩ := q1
  obtain ⟨c3, d3, A3, B3, rfl, p3, q3, hA3, hB3, hd3⟩ := q2
  obtain ⟨rfl, _⟩ := p3
  have l0 := Rep.len _ p0
  have l1 := Rep.len _ p1
  have l2 := Rep.len _ p2
  change _ = 1 at l0; change _ = 1 at l1; change _ = 1 at l2
  have e : ((c0 ++ (c1 ++ (c2 ++ ([.int .i64 x.2.2.2.1] ++ d3)))) : List Value).set 3 (.int .i64 v) = (c0 ++ (c1 ++ (c2 ++ ([.int .i64 v] ++ d3)))) := by
    obtain ⟨y0_0, rfl⟩ : ∃ y0_0, c0 = [y0_0] := by match c0, l0 with | [y0_0], _ => exact ⟨_, rfl⟩
    obtain ⟨y1_0, rfl⟩ : ∃ y1_0, c1 = [y1_0] := by match c1, l1 with | [y1_0], _ => exact ⟨_, rfl⟩
    obtain ⟨y2_0, rfl⟩ : ∃ y2_0, c2 = [y2_0] := by match c2, l2 with | [y2_0], _ => exact ⟨_, rfl⟩
    rfl
  rw [e]
  exact ⟨_, _, A0, B0, rfl, p0, ⟨_, _, A1, B1, rfl, p1, ⟨_, _, A2, B2, rfl, p2, ⟨_, _, A3, B3, rfl, ⟨rfl, hv⟩, q3, hA3, hB3, hd3⟩, hA2, hB2, hd2⟩, hA1, hB1, hd1⟩, hA0, hB0, hd0⟩
def setData_4 (x : LData) (v : Int) : LData := (x.1, x.2.1, x.2.2.1, x.2.2.2.1, v)
theorem RData_set4 {x : LData} (v : Int) (hv : -9223372036854775808 ≤ v ∧ v ≤ 9223372036854775807) {w : World} {cs : List Value} {S : Nat → Prop} (h : RData.is true w cs x S) : RData.is true w (cs.set 4 (.int .i64 v)) (setData_4 x v) S := by
  obtain ⟨c0, d0, A0, B0, rfl, p0, q0, hA0, hB0, hd0⟩ := h
  obtain ⟨c1, d1, A1, B1, rfl, p1, q1, hA1, hB1, hd1⟩ := q0
  obtain ⟨c2, d2, A2, B2, rfl, p2, q2, hA2, hB2, hd2⟩ := q1
  obtain ⟨c3, d3, A3, B3, rfl, p3, q3, hA3, hB3, hd3⟩ := q2
  obtain ⟨rfl, _⟩ := q3
  have l0 := Rep.len _ p0
  have l1 := Rep.len _ p1
  have l2 := Rep.len _ p2
  have l3 := Rep.len _ p3
  change _ = 1 at l0; change _ = 1 at l1; change _ = 1 at l2; change _ = 1 at l3
  have e : ((c0 ++ (c1 ++ (c2 ++ (c3 ++ [.int .i64 x.2.2.2.2])))) : List Value).set 4 (.int .i64 v) = (c0 ++ (c1 ++ (c2 ++ (c3 ++ [.int .i64 v])))) := by
    obtain ⟨y0_0, rfl⟩ : ∃ y0_0, c0 = [y0_0] := by match c0, l0 with | [y0_0], _ => exact ⟨_, rfl⟩
    obtain ⟨y1_0, rfl⟩ : ∃ y1_0, c1 = [y1_0] := by match c1, l1 with | [y1_0], _ => exact ⟨_, rfl⟩
    obtain ⟨y2_0, rfl⟩ : ∃ y2_0, c2 = [y2_0] := by match c2, l2 with | [y2_0], _ => exact ⟨_, rfl⟩
    obtain ⟨y3_0, rfl⟩ : ∃ y3_0, c3 = [y3_0] := by match c3, l3 with | [y3_0], _ => exact ⟨_, rfl⟩
    rfl
  rw [e]
  exact ⟨_, _, A0, B0, rfl, p0, ⟨_, _, A1, B1, rfl, p1, ⟨_, _, A2, B2, rfl, p2, ⟨_, _, A3, B3, rfl, p3, ⟨rfl, hv⟩, hA3, hB3, hd3⟩, hA2, hB2, hd2⟩, hA1, hB1, hd1⟩, hA0, hB0, hd0⟩
abbrev LOutgoing := Int × Bool × LInterest × LData
instance decOutgoing : DecidableEq LOutgoing := inferInstanceAs (DecidableEq (Int × Bool × LInterest × LData))
def ROutgoing : Rep LOutgoing := .pair .int (.pair .bool (.pair RInterest RData))
theorem ROutgoing_n : ROutgoing.n = 11 := rfl
theorem ROutgoing_raw {w : World} {cs : List Value} {x : LOutgoing} (h : ROutgoing.raw w cs x) : ∃ v2 v6 v7 v8, cs = [.int .i64 x.1, .bool x.2.1, v2, .int .i64 x.2.2.1.2.1, .int .i64 x.2.2.1.2.2.1, .int .i64 x.2.2.1.2.2.2, v6, v7, v8, .int .i64 x.2.2.2.2.2.2.1, .int .i64 x.2.2.2.2.2.2.2] ∧ (-9223372036854775808 ≤ x.1 ∧ x.1 ≤ 9223372036854775807) ∧ RInterest.raw w [v2, .int .i64 x.2.2.1.2.1, .int .i64 x.2.2.1.2.2.1, .int .i64 x.2.2.1.2.2.2] x.2.2.1 ∧ RName.raw w [v2] x.2.2.1.1 ∧ (Rep.slice 9 Rep.str).raw w [v2] x.2.2.1.1 ∧ (-9223372036854775808 ≤ x.2.2.1.2.1 ∧ x.2.2.1.2.1 ≤ 9223372036854775807) ∧ (-9223372036854775808 ≤ x.2.2.1.2.2.1 ∧ x.2.2.1.2.2.1 ≤ 9223372036854775807) ∧ (-9223372036854775808 ≤ x.2.2.1.2.2.2 ∧ x.2.2.1.2.2.2 ≤ 9223372036854775807) ∧ RData.raw w [v6, v7, v8, .int .i64 x.2.2.2.2.2.2.1, .int .i64 x.2.2.2.2.2.2.2] x.2.2.2 ∧ RName.raw w [v6] x.2.2.2.1 ∧ (Rep.slice 9 Rep.str).raw w [v6] x.2.2.2.1 ∧ (Rep.slice 5 Rep.byte).raw w [v7] x.2.2.2.2.1 ∧ RName.raw w [v8] x.2.2.2.2.2.1 ∧ (Rep.slice 9 Rep.str).raw w [v8] x.2.2.2.2.2.1 ∧ (-9223372036854775808 ≤ x.2.2.2.2.2.2.1 ∧ x.2.2.2.2.2.2.1 ≤ 9223372036854775807) ∧ (-9223372036854775808 ≤ x.2.2.2.2.2.2.2 ∧ x.2.2.2.2.2.2.2 ≤ 9223372036854775807) := by
  obtain ⟨_, _, rfl, a_0, b_0⟩ := Rep.pair_raw h
  obtain ⟨rfl, r_0⟩ := Rep.int_raw a_0
  obtain ⟨_, _, rfl, a_1, b_1⟩ := Rep.pair_raw b_0
  obtain rfl := Rep.bool_raw a_1
  obtain ⟨_, _, rfl, a_2, b_2⟩ := Rep.pair_raw b_1
  have q_2 := RInterest_raw a_2
  obtain ⟨_, rfl, s_2_0, s_2_1, s_2_2, s_2_3, s_2_4⟩ := q_2
  have q_3 := RData_raw b_2
  obtain ⟨_, _, _, rfl, s_3_0, s_3_1, s_3_2, s_3_3, s_3_4, s_3_5, s_3_6⟩ := q_3
  exact ⟨_, _, _, _, rfl, r_0, a_2, s_2_0, s_2_1, s_2_2, s_2_3, s_2_4, b_2, s_3_0, s_3_1, s_3_2, s_3_3, s_3_4, s_3_5, s_3_6⟩
theorem ROutgoing_sub_2 : Rep.Sub ROutgoing RInterest (fun x => x.2.2.1) (fun x y => (x.1, x.2.1, y, x.2.2.2)) 2 := Rep.Sub.right (Rep.Sub.right (Rep.Sub.left (Rep.Sub.refl RInterest) (by decide)) rfl) rfl
theorem ROutgoing_sub_2_0 : Rep.Sub ROutgoing RName (fun x => x.2.2.1.1) (fun x y => (x.1, x.2.1, (y, x.2.2.1.2.1, x.2.2.1.2.2.1, x.2.2.1.2.2.2), x.2.2.2)) 2 := Rep.Sub.right (Rep.Sub.right (Rep.Sub.left (Rep.Sub.left (Rep.Sub.refl RName) (by decide)) (by decide)) rfl) rfl
theorem ROutgoing_sub_2_0_0 : Rep.Sub ROutgoing (Rep.slice 9 Rep.str) (fun x => x.2.2.1.1) (fun x y => (x.1, x.2.1, (y, x.2.2.1.2.1, x.2.2.1.2.2.1, x.2.2.1.2.2.2), x.2.2.2)) 2 := Rep.Sub.right (Rep.Sub.right (Rep.Sub.left (Rep.Sub.left (Rep.Sub.refl (Rep.slice 9 Rep.str)) (by decide)) (by decide)) rfl) rfl
theorem ROutgoing_sub_3 : Rep.Sub ROutgoing RData (fun x => x.2.2.2) (fun x y => (x.1, x.2.1, x.2.2.1, y)) 6 := Rep.Sub.right (Rep.Sub.right (Rep.Sub.right (Rep.Sub.refl RData) rfl) rfl) rfl
theorem ROutgoing_sub_3_0 : Rep.Sub ROutgoing RName (fun x => x.2.2.2.1) (fun x y => (x.1, x.2.1, x.2.2.1, (y, x.2.2.2.2.1, x.2.2.2.2.2.1, x.2.2.2.2.2.2.1, x.2.2.2.2.2.2.2))) 6 := Rep.Sub.right (Rep.Sub.right (Rep.Sub.right (Rep.Sub.left (Rep.Sub.refl RName) (by decide)) rfl) rfl) rfl
theorem ROutgoing_sub_3_0_0 : Rep.Sub ROutgoing (Rep.slice 9 Rep.str) (fun x => x.2.2.2.1) (fun x y => (x.1, x.2.1, x.2.2.1, (y, x.2.2.2.2.1, x.2.2.2.2.2.1, x.2.2.2.2.2.2.1, x.2.2.2.2.2.2.2))) 6 := Rep.Sub.right (Rep.Sub.right (Rep.Sub.right (Rep.Sub.left (Rep.Sub.refl (Rep.slice 9 Rep.str)) (by decide)) rfl) rfl) rfl
theorem ROutgoing_sub_3_1 : Rep.Sub ROutgoing (Rep.slice 5 Rep.byte) (fun x => x.2.2.2.2.1) (fun x y => (x.1, x.2.1, x.2.2.1, (x.2.2.2.1, y, x.2.2.2.2.2.1, x.2.2.2.2.2.2.1, x.2.2.2.2.2.2.2))) 7 := Rep.Sub.right (Rep.Sub.right (Rep.Sub.right (Rep.Sub.right (Rep.Sub.left (Rep.Sub.refl (Rep.slice 5 Rep.byte)) (by decide)) rfl) rfl) rfl) rfl
theorem ROutgoing_sub_3_2 : Rep.Sub ROutgoing RName (fun x => x.2.2.2.2.2.1) (fun x y => (x.1, x.2.1, x.2.2.1, (x.2.2.2.1, x.2.2.2.2.1, y, x.2.2.2.2.2.2.1, x.2.2.2.2.2.2.2))) 8 := Rep.Sub.right (Rep.Sub.right (Rep.Sub.right (Rep.Sub.right (Rep.Sub.right (Rep.Sub.left (Rep.Sub.refl RName) (by decide)) rfl) rfl) rfl) rfl) rfl
theorem ROutgoing_sub_3_2_0 : Rep.Sub ROutgoing (Rep.slice 9 Rep.str) (fun x => x.2.2.2.2.2.1) (fun x y => (x.1, x.2.1, x.2.2.1, (x.2.2.2.1, x.2.2.2.2.1, y, x.2.2.2.2.2.2.1, x.2.2.2.2.2.2.2))) 8 := Rep.Sub.right (Rep.Sub.right (Rep.Sub.right (Rep.Sub.right (Rep.Sub.right (Rep.Sub.left (Rep.Sub.refl (Rep.slice 9 Rep.str)) (by decide)) rfl) rfl) rfl) rfl) rfl
def setOutgoing_0 (x : LOutgoing) (v : Int) : LOutgoing := (v, x.2.1, x.2.2.1, x.2.2.2)
theorem ROutgoing_set0 {x : LOutgoing} (v : Int) (hv : -9223372036854775808 ≤ v ∧ v ≤ 9223372036854775807) {w : World} {cs : List Value} {S : Nat → Prop} (h : ROutgoing.is true w cs x S) : ROutgoing.is true w (cs.set 0 (.int .i64 v)) (setOutgoing_0 x v) S := by
  obtain ⟨c0, d0, A0, B0, rfl, p0, q0, hA0, hB0, hd0⟩ := h
  obtain ⟨rfl, _⟩ := p0
  have e : (([.int .i64 x.1] ++ d0) : List Value).set 0 (.int .i64 v) = ([.int .i64 v] ++ d0) := by
    rfl
  rw [e]
  exact ⟨_, _, A0, B0, rfl, ⟨rfl, hv⟩, q0, hA0, hB0, hd0⟩
def setOutgoing_1 (x : LOutgoing) (v : Bool) : LOutgoing := (x.1, v, x.2.2.1, x.2.2.2)
theorem ROutgoing_set1 {x : LOutgoing} (v : Bool) {w : World} {cs : List Value} {S : Nat → Prop} (h : ROutgoing.is true w cs x S) : ROutgoing.is true w (cs.set 1 (.bool v)) (setOutgoing_1 x v) S := by
  obtain ⟨c0, d0, A0, B0, rfl, p0, q0, hA0, hB0, hd0⟩ := h
  obtain ⟨c1, d1, A1, B1, rfl, p1, q1, hA1, hB1, hd1⟩ := q0
  obtain rfl := (show _ = _ from p1)
  have l0 := Rep.len _ p0
  change _ = 1 at l0
  have e : ((c0 ++ ([.bool x.2.1] ++ d1)) : List Value).set 1 (.bool v) = (c0 ++ ([.bool v] ++ d1)) := by
    obtain ⟨y0_0, rfl⟩ : ∃ y0_0, c0 = [y0_0] := by match c0, l0 with | [y0_0], _ => exact ⟨_, rfl⟩
    rfl
  rw [e]
  exact ⟨_, _, A0, B0, rfl, p0, ⟨_, _, A1, B1, rfl, rfl, q1, hA1, hB1, hd1⟩, hA0, hB0, hd0⟩
def setOutgoing_3 (x : LOutgoing) (v : Int) : LOutgoing := (x.1, x.2.1, (x.2.2.1.1, v, x.2.2.1.2.2.1, x.2.2.1.2.2.2), x.2.2.2)
theorem ROutgoing_set3 {x : LOutgoing} (v : Int) (hv : -9223372036854775808 ≤ v ∧ v ≤ 9223372036854775807) {w : World} {cs : List Value} {S : Nat → Prop} (h : ROutgoing.is true w cs x S) : ROutgoing.is true w (cs.set 3 (.int .i64 v)) (setOutgoing_3 x v) S := by
  obtain ⟨c0, d0, A0, B0, rfl, p0, q0, hA0, hB0, hd0⟩ := h
  obtain ⟨c1, d1, A1, B1, rfl, p1, q1, hA1, hB1, hd1⟩ := q0
  obtain ⟨c2, d2, A2, B2, rfl, p2, q2, hA2, hB2, hd2⟩ := q1
  obtain ⟨c3, d3, A3, B3, rfl, p3, q3, hA3, hB3, hd3⟩ := p2
  obtain ⟨c4, d4, A4, B4, rfl, p4, q4, hA4, hB4, hd4⟩ := q3
  obtain ⟨rfl, _⟩ := p4
  have l0 := Rep.len _ p0
  have l1 := Rep.len _ p1
  have l3 := Rep.len _ p3
  change _ = 1 at l0; change _ = 1 at l1; change _ = 1 at l3
  have e : ((c0 ++ (c1 ++ ((c3 ++ ([.int .i64 x.2.2.1.2.1] ++ d4)) ++ d2))) : List Value).set 3 (.int .i64 v) = (c0 ++ (c1 ++ ((c3 ++ ([.int .i64 v] ++ d4)) ++ d2))) := by
    obtain ⟨y0_0, rfl⟩ : ∃ y0_0, c0 = [y0_0] := by match c0, l0 with | [y0_0], _ => exact ⟨_, rfl⟩
    obtain ⟨y1_0, rfl⟩ : ∃ y1_0, c1 = [y1_0] := by match c1, l1 with | [y1_0], _ => exact ⟨_, rfl⟩
    obtain ⟨y3_0, rfl⟩ : ∃ y3_0, c3 = [y3_0] := by match c3, l3 with | [y3_0], _ => exact ⟨_, rfl⟩
    rfl
  rw [e]
  exact ⟨_, _, A0, B0, rfl, p0, ⟨_, _, A1, B1, rfl, p1, ⟨_, _, A2, B2, rfl, ⟨_, _, A3, B3, rfl, p3, ⟨_, _, A4, B4, rfl, ⟨rfl, hv⟩, q4, hA4, hB4, hd4⟩, hA3, hB3, hd3⟩, q2, hA2, hB2, hd2⟩, hA1, hB1, hd1⟩, hA0, hB0, hd0⟩
def setOutgoing_4 (x : LOutgoing) (v : Int) : LOutgoing := (x.1, x.2.1, (x.2.2.1.1, x.2.2.1.2.1, v, x.2.2.1.2.2.2), x.2.2.2)
theorem ROutgoing_set4 {x : LOutgoing} (v : Int) (hv : -9223372036854775808 ≤ v ∧ v ≤ 9223372036854775807) {w : World} {cs : List Value} {S : Nat → Prop} (h : ROutgoing.is true w cs x S) : ROutgoing.is true w (cs.set 4 (.int .i64 v)) (setOutgoing_4 x v) S := by
  obtain ⟨c0, d0, A0, B0, rfl, p0, q0, hA0, hB0, hd0⟩ := h
  obtain ⟨c1, d1, A1, B1, rfl, p1, q1, hA1, hB1, hd1⟩ := q0
  obtain ⟨c2, d2, A2, B2, rfl, p2, q2, hA2, hB2, hd2⟩ := q1
  obtain ⟨c3, d3, A3, B3, rfl, p3, q3, hA3, hB3, hd3⟩ := p2
  obtain ⟨c4, d4, A4, B4, rfl, p4, q4, hA4, hB4, hd4⟩ := q3
  obtain ⟨c5, d5, A5, B5, rfl, p5, q5, hA5, hB5, hd5⟩ := q4
  obtain ⟨rfl, _⟩ := p5
  have l0 := Rep.len _ p0
  have l1 := Rep.len _ p1
  have l3 := Rep.len _ p3
  have l4 := Rep.len _ p4
  change _ = 1 at l0; change _ = 1 at l1; change _ = 1 at l3; change _ = 1 at l4
  have e : ((c0 ++ (c1 ++ ((c3 ++ (c4 ++ ([.int .i64 x.2.2.1.2.2.1] ++ d5))) ++ d2))) : List Value).set 4 (.int .i64 v) = (c0 ++ (c1 ++ ((c3 ++ (c4 ++ ([.int .i64 v] ++ d5))) ++ d2))) := by
    obtain ⟨y0_0, rfl⟩ : ∃ y0_0, c0 = [y0_0] := by match c0, l0 with | [y0_0], _ => exact ⟨_, rfl⟩
    obtain ⟨y1_0, rfl⟩ : ∃ y1_0, c1 = [y1_0] := by match c1, l1 with | [y1_0], _ => exact ⟨_, rfl⟩
    obtain ⟨y3_0, rfl⟩ : ∃ y3_0, c3 = [y3_0] := by match c3, l3 with | [y3_0], _ => exact ⟨_, rfl⟩
    obtain ⟨y4_0, rfl⟩ : ∃ y4_0, c4 = [y4_0] := by match c4, l4 with | [y4_0], _ => exact ⟨_, rfl⟩
    rfl
  rw [e]
  exact ⟨_, _, A0, B0, rfl, p0, ⟨_, _, A1, B1, rfl, p1, ⟨_, _, A2, B2, rfl, ⟨_, _, A3, B3, rfl, p3, ⟨_, _, A4, B4, rfl, p4, ⟨_, _, A5, B5, rfl, ⟨rfl, hv⟩, q5, hA5, hB5, hd5⟩, hA4, hB4, hd4⟩, hA3, hB3, hd3⟩, q2, hA2, hB2, hd2⟩, hA1, hB1, hd1⟩, hA0, hB0, hd0⟩
def setOutgoing_5 (x : LOutgoing) (v : Int) : LOutgoing := (x.1, x.2.1, (x.2.2.1.1, x.2.2.1.2.1, x.2.2.1.2.2.1, v), x.2.2.2)
theorem ROutgoing_set5 {x : LOutgoing} (v : Int) (hv : -9223372036854775808 ≤ v ∧ v ≤ 9223372036854775807) {w : World} {cs : List Value} {S : Nat → Prop} (h : ROutgoing.is true w cs x S) : ROutgoing.is true w (cs.set 5 (.int .i64 v)) (setOutgoing_5 x v) S := by
  obtain ⟨c0, d0, A0, B0, rfl, p0, q0, hA0, hB0, hd0⟩ := h
  obtain ⟨c1, d1, A1, B1, rfl, p1, q1, hA1, hB1, hd1⟩ := q0
  obtain ⟨c2, d2, A2, B2, rfl, p2, q2, hA2, hB2, hd2⟩ := q1
  obtain ⟨c3, d3, A3, B3, rfl, p3, q3, hA3, hB3, hd3⟩ := p2
  obtain ⟨c4, d4, A4, B4, rfl, p4, q4, hA4, hB4, hd4⟩ := q3
  obtain ⟨c5, d5, A5, B5, rfl, p5, q5, hA5, hB5, hd5⟩ := q4
  obtain ⟨rfl, _⟩ := q5
  have l0 := Rep.len _ p0
  have l1 := Rep.len _ p1
  have l3 := Rep.len _ p3
  have l4 := Rep.len _ p4
  have l5 := Rep.len _ p5
  change _ = 1 at l0; change _ = 1 at l1; change _ = 1 at l3; change _ = 1 at l4; change _ = 1 at l5
  have e : ((c0 ++ (c1 ++ ((c3 ++ (c4 ++ (c5 ++ [.int .i64 x.2.2.1.2.2.2]))) ++ d2))) : List Value).set 5 (.int .i64 v) = (c0 ++ (c1 ++ ((c3 ++ (c4 ++ (c5 ++ [.int .i64 v]))) ++ d2))) := by
    obtain ⟨y0_0, rfl⟩ : ∃ y0_0, c0 = [y0_0] := by match c0, l0 with | [y0_0], _ => exact ⟨_, rfl⟩
    obtain ⟨y1_0, rfl⟩ : ∃ y1_0, c1 = [y1_0] := by match c1, l1 with | [y1_0], _ => exact ⟨_, rfl⟩
    obtain ⟨y3_0, rfl⟩ : ∃ y3_0, c3 = [y3_0] := by match c3, l3 with | [y3_0], _ => exact ⟨_, rfl⟩
    obtain ⟨y4_0, rfl⟩ : ∃ y4_0, c4 = [y4_0] := by match c4, l4 with | [y4_0], _ => exact ⟨_, rfl⟩
    obtain ⟨y5_0, rfl⟩ : ∃ y5_0, c5 = [y5_0] := by match c5, l5 with | [y5_0], _ => exact ⟨_, rfl⟩
    rfl
  rw [e]
  exact ⟨_, _, A0, B0, rfl, p0, ⟨_, _, A1, B1, rfl, p1, ⟨_, _, A2, B2, rfl, ⟨_, _, A3, B3, rfl, p3, ⟨_, _, A4, B4, rfl, p4, ⟨_, _, A5, B5, rfl, p5, ⟨rfl, hv⟩, hA5, hB5, hd5⟩, hA4, hB4, hd4⟩, hA3, hB3, hd3⟩, q2, hA2, hB2, hd2⟩, hA1, hB1, hd1⟩, hA0, hB0, hd0⟩
def setOutgoing_9 (x : LOutgoing) (v : Int) : LOutgoing := (x.1, x.2.1, x.2.2.1, (x.2.2.2.1, x.2.2.2.2.1, x.2.2.2.2.2.1, v, x.2.2.2.2.2.2.2))
theorem ROutgoing_set9 {x : LOutgoing} (v : Int) (hv : -9223372036854775808 ≤ v ∧ v ≤ 9223372036854775807) {w : World} {cs : List Value} {S : Nat → Prop} (h : ROutgoing.is true w cs x S) : ROutgoing.is true w (cs.set 9 (.int .i64 v)) (setOutgoing_9 x v) S := by
  obtain ⟨c0, d0, A0, B0, rfl, p0, q0, hA0, hB0, hd0⟩ := h
  obtain ⟨c1, d1, A1, B1, rfl, p1, q1, hA1, hB1, hd1⟩ := q0
  obtain ⟨c2, d2, A2, B2, rfl, p2, q2, hA2, hB2, hd2⟩ := q1
  obtain ⟨c3, d3, A3, B3, rfl, p3, q3, hA3, hB3, hd3⟩ := q2
  obtain ⟨c4, d4, A4, B4, rfl, p4, q4, hA4, hB4, hd4⟩ := q3
  obtain ⟨c5, d5, A5, B5, rfl, p5, q5, hA5, hB5, hd5⟩ := q4
  obtain ⟨c6, d6, A6, B6, rfl, p6, q6, hA6, hB6, hd6⟩ := q5
  obtain ⟨rfl, _⟩ := p6
  have l0 := Rep.len _ p0
  have l1 := Rep.len _ p1
  have l2 := Rep.len _ p2
  have l3 := Rep.len _ p3
  have l4 := Rep.len _ p4
  have l5 := Rep.len _ p5
  change _ = 1 at l0; change _ = 1 at l1; change _ = 4 at l2; change _ = 1 at l3; change _ = 1 at l4; change _ = 1 at l5
  have e : ((c0 ++ (c1 ++ (c2 ++ (c3 ++ (c4 ++ (c5 ++ ([.int .i64 x.2.2.2.2.2.2.1] ++ d6))))))) : List Value).set 9 (.int .i64 v) = (c0 ++ (c1 ++ (c2 ++ (c3 ++ (c4 ++ (c5 ++ ([.int .i64 v] ++ d6))))))) := by
    obtain ⟨y0_0, rfl⟩ : ∃ y0_0, c0 = [y0_0] := by match c0, l0 with | [y0_0], _ => exact ⟨_, rfl⟩
    obtain ⟨y1_0, rfl⟩ : ∃ y1_0, c1 = [y1_0] := by match c1, l1 with | [y1_0], _ => exact ⟨_, rfl⟩
    obtain ⟨y2_0, y2_1, y2_2, y2_3, rfl⟩ : ∃ y2_0 y2_1 y2_2 y2_3, c2 = [y2_0, y2_1, y2_2, y2_3] := by match c2, l2 with | [y2_0, y2_1, y2_2, y2_3], _ => exact ⟨_, _, _, _, rfl⟩
    obtain ⟨y3_0, rfl⟩ : ∃ y3_0, c3 = [y3_0] := by match c3, l3 with | [y3_0], _ => exact ⟨_, rfl⟩
    obtain ⟨y4_0, rfl⟩ : ∃ y4_0, c4 = [y4_0] := by match c4, l4 with | [y4_0], _ => exact ⟨_, rfl⟩
    obtain ⟨y5_0, rfl⟩ : ∃ y5_0, c5 = [y5_0] := by match c5, l5 with | [y5_0], _ => exact ⟨_, rfl⟩
    rfl
  rw [e]
  exact ⟨_, _, A0, B0, rfl, p0, ⟨_, _, A1, B1, rfl, p1, ⟨_, _, A2, B2, rfl, p2, ⟨_, _, A3, B3, rfl, p3, ⟨_, _, A4, B4, rfl, p4, ⟨_, _, A5, B5, rfl, p5, ⟨_, _, A6, B6, rfl, ⟨rfl, hv⟩, q6, hA6, hB6, hd6⟩, hA5, hB5, hd5⟩, hA4, hB4, hd4⟩, hA3, hB3, hd3⟩, hA2, hB2, hd2⟩, hA1, hB1, hd1⟩, hA0, hB0, hd0⟩
def setOutgoing_10 (x : LOutgoing) (v : Int) : LOutgoing := (x.1, x.2.1, x.2.2.1, (x.2.2.2.1, x.2.2.2.2.1, x.2.2.2.2.2.1, x.2.2.2.2.2.2.1, v))
theorem ROutgoing_set10 {x : LOutgoing} (v : Int) (hv : -9223372036854775808 ≤ v ∧ v ≤ 9223372036854775807) {w : World} {cs : List Value} {S : Nat → Prop} (h : ROutgoing.is true w cs x S) : ROutgoing.is true w (cs.set 10 (.int .i64 v)) (setOutgoing_10 x v) S := by
  obtain ⟨c0, d0, A0, B0, rfl, p0, q0, hA0, hB0, hd0⟩ := h
  obtain ⟨c1, d1, A1, B1, rfl, p1, q1, hA1, hB1, hd1⟩ := q0
  obtain ⟨c2, d2, A2, B2, rfl, p2, q2, hA2, hB2, hd2⟩ := q1
  obtain ⟨c3, d3, A3, B3, rfl, p3, q3, hA3, hB3, hd3⟩ := q2
  obtain ⟨c4, d4, A4, B4, rfl, p4, q4, hA4, hB4, hd4⟩ := q3
  obtain ⟨c5, d5, A5, B5, rfl, p5, q5, hA5, hB5, hd5⟩ := q4
  obtain ⟨c6, d6, A6, B6, rfl, p6, q6, hA6, hB6, hd6⟩ := q5
  obtain ⟨rfl, _⟩ := q6
  have l0 := Rep.len _ p0
  have l1 := Rep.len _ p1
  have l2 := Rep.len _ p2
  have l3 := Rep.len _ p3
  have l4 := Rep.len _ p4
  have l5 := Rep.len _ p5
  have l6 := Rep.len _ p6
  change _ = 1 at l0; change _ = 1 at l1; change _ = 4 at l2; change _ = 1 at l3; change _ = 1 at l4; change _ = 1 at l5; change _ = 1 at l6
  have e : ((c0 ++ (c1 ++ (c2 ++ (c3 ++ (c4 ++ (c5 ++ (c6 ++ [.int .i64 x.2.2.2.2.2.2.2]))))))) : List Value).set 10 (.int .i64 v) = (c0 ++ (c1 ++ (c2 ++ (c3 ++ (c4 ++ (c5 ++ (c6 ++ [.int .i64 v]))))))) := by
    obtain ⟨y0_0, rfl⟩ : ∃ y0_0, c0 = [y0_0] := by match c0, l0 with | [y0_0], _ => exact ⟨_, rfl⟩
    obtain ⟨y1_0, rfl⟩ : ∃ y1_0, c1 = [y1_0] := by match c1, l1 with | [y1_0], _ => exact ⟨_, rfl⟩
    obtain ⟨y2_0, y2_1, y2_2, y2_3, rfl⟩ : ∃ y2_0 y2_1 y2_2 y2_3, c2 = [y2_0, y2_1, y2_2, y2_3] := by match c2, l2 with | [y2_0, y2_1, y2_2, y2_3], _ => exact ⟨_, _, _, _, rfl⟩
    obtain ⟨y3_0, rfl⟩ : ∃ y3_0, c3 = [y3_0] := by match c3, l3 with | [y3_0], _ => exact ⟨_, rfl⟩
    obtain ⟨y4_0, rfl⟩ : ∃ y4_0, c4 = [y4_0] := by match c4, l4 with | [y4_0], _ => exact ⟨_, rfl⟩
    obtain ⟨y5_0, rfl⟩ : ∃ y5_0, c5 = [y5_0] := by match c5, l5 with | [y5_0], _ => exact ⟨_, rfl⟩
    obtain ⟨y6_0, rfl⟩ : ∃ y6_0, c6 = [y6_0] := by match c6, l6 with | [y6_0], _ => exact ⟨_, rfl⟩
    rfl
  rw [e]
  exact ⟨_, _, A0, B0, rfl, p0, ⟨_, _, A1, B1, rfl, p1, ⟨_, _, A2, B2, rfl, p2, ⟨_, _, A3, B3, rfl, p3, ⟨_, _, A4, B4, rfl, p4, ⟨_, _, A5, B5, rfl, p5, ⟨_, _, A6, B6, rfl, p6, ⟨rfl, hv⟩, hA6, hB6, hd6⟩, hA5, hB5, hd5⟩, hA4, hB4, hd4⟩, hA3, hB3, hd3⟩, hA2, hB2, hd2⟩, hA1, hB1, hd1⟩, hA0, hB0, hd0⟩
end Go.Proofs.Ytclhapbahkjljaa

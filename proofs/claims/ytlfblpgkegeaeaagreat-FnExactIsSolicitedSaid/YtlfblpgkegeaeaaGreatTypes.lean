/-
  The program's types as plain data, and how their cells are taken apart. Printed by gentypes.py.
-/
import Derived.Test.YtlfblpgkegeaeaaGreatOwn2
namespace Go.Proofs.YtlfblpgkegeaeaaGreat
open Go.RowKit
set_option linter.unusedVariables false
set_option linter.unusedSimpArgs false
set_option linter.unnecessarySimpa false

abbrev LName := (List ByteArray)
instance decName : DecidableEq LName := inferInstanceAs (DecidableEq ((List ByteArray)))
def RName : Rep LName := (.slice 9 .str)
theorem RName_n : RName.n = 1 := rfl
theorem RName_raw {w : World} {cs : List Value} {x : LName} (h : RName.raw w cs x) : ∃ v0, cs = [v0] ∧ (Rep.slice 9 Rep.str).raw w [v0] x := by
  obtain ⟨_, rfl, r_0⟩ := Rep.slice_raw h
  exact ⟨_, rfl, r_0⟩
theorem RName_sub_0 : Rep.Sub RName (Rep.slice 9 Rep.str) (fun x => x) (fun x y => y) 0 := Rep.Sub.refl (Rep.slice 9 Rep.str)
abbrev LMeasurement := LName × Int × Int
instance decMeasurement : DecidableEq LMeasurement := inferInstanceAs (DecidableEq (LName × Int × Int))
def RMeasurement : Rep LMeasurement := .pair RName (.pair .int .int)
theorem RMeasurement_n : RMeasurement.n = 3 := rfl
theorem RMeasurement_raw {w : World} {cs : List Value} {x : LMeasurement} (h : RMeasurement.raw w cs x) : ∃ v0, cs = [v0, .int .i64 x.2.1, .int .i64 x.2.2] ∧ RName.raw w [v0] x.1 ∧ (Rep.slice 9 Rep.str).raw w [v0] x.1 ∧ (-9223372036854775808 ≤ x.2.1 ∧ x.2.1 ≤ 9223372036854775807) ∧ (-9223372036854775808 ≤ x.2.2 ∧ x.2.2 ≤ 9223372036854775807) := by
  obtain ⟨_, _, rfl, a_0, b_0⟩ := Rep.pair_raw h
  have q_0 := RName_raw a_0
  obtain ⟨_, rfl, s_0_0⟩ := q_0
  obtain ⟨_, _, rfl, a_1, b_1⟩ := Rep.pair_raw b_0
  obtain ⟨rfl, r_1⟩ := Rep.int_raw a_1
  obtain ⟨rfl, r_2⟩ := Rep.int_raw b_1
  exact ⟨_, rfl, a_0, s_0_0, r_1, r_2⟩
theorem RMeasurement_sub_0 : Rep.Sub RMeasurement RName (fun x => x.1) (fun x y => (y, x.2.1, x.2.2)) 0 := Rep.Sub.left (Rep.Sub.refl RName) (by decide)
theorem RMeasurement_sub_0_0 : Rep.Sub RMeasurement (Rep.slice 9 Rep.str) (fun x => x.1) (fun x y => (y, x.2.1, x.2.2)) 0 := Rep.Sub.left (Rep.Sub.refl (Rep.slice 9 Rep.str)) (by decide)
def setMeasurement_1 (x : LMeasurement) (v : Int) : LMeasurement := (x.1, v, x.2.2)
theorem RMeasurement_set1 {x : LMeasurement} (v : Int) (hv : -9223372036854775808 ≤ v ∧ v ≤ 9223372036854775807) {w : World} {cs : List Value} {S : Nat → Prop} (h : RMeasurement.is true w cs x S) : RMeasurement.is true w (cs.set 1 (.int .i64 v)) (setMeasurement_1 x v) S := by
  obtain ⟨c0, d0, A0, B0, rfl, p0, q0, hA0, hB0, hd0⟩ := h
  obtain ⟨c1, d1, A1, B1, rfl, p1, q1, hA1, hB1, hd1⟩ := q0
  obtain ⟨rfl, _⟩ := p1
  have l0 := Rep.len _ p0
  change _ = 1 at l0
  have e : ((c0 ++ ([.int .i64 x.2.1] ++ d1)) : List Value).set 1 (.int .i64 v) = (c0 ++ ([.int .i64 v] ++ d1)) := by
    obtain ⟨y0_0, rfl⟩ : ∃ y0_0, c0 = [y0_0] := by match c0, l0 with | [y0_0], _ => exact ⟨_, rfl⟩
    rfl
  rw [e]
  exact ⟨_, _, A0, B0, rfl, p0, ⟨_, _, A1, B1, rfl, ⟨rfl, hv⟩, q1, hA1, hB1, hd1⟩, hA0, hB0, hd0⟩
def setMeasurement_2 (x : LMeasurement) (v : Int) : LMeasurement := (x.1, x.2.1, v)
theorem RMeasurement_set2 {x : LMeasurement} (v : Int) (hv : -9223372036854775808 ≤ v ∧ v ≤ 9223372036854775807) {w : World} {cs : List Value} {S : Nat → Prop} (h : RMeasurement.is true w cs x S) : RMeasurement.is true w (cs.set 2 (.int .i64 v)) (setMeasurement_2 x v) S := by
  obtain ⟨c0, d0, A0, B0, rfl, p0, q0, hA0, hB0, hd0⟩ := h
  obtain ⟨c1, d1, A1, B1, rfl, p1, q1, hA1, hB1, hd1⟩ := q0
  obtain ⟨rfl, _⟩ := q1
  have l0 := Rep.len _ p0
  have l1 := Rep.len _ p1
  change _ = 1 at l0; change _ = 1 at l1
  have e : ((c0 ++ (c1 ++ [.int .i64 x.2.2])) : List Value).set 2 (.int .i64 v) = (c0 ++ (c1 ++ [.int .i64 v])) := by
    obtain ⟨y0_0, rfl⟩ : ∃ y0_0, c0 = [y0_0] := by match c0, l0 with | [y0_0], _ => exact ⟨_, rfl⟩
    obtain ⟨y1_0, rfl⟩ : ∃ y1_0, c1 = [y1_0] := by match c1, l1 with | [y1_0], _ => exact ⟨_, rfl⟩
    rfl
  rw [e]
  exact ⟨_, _, A0, B0, rfl, p0, ⟨_, _, A1, B1, rfl, p1, ⟨rfl, hv⟩, hA1, hB1, hd1⟩, hA0, hB0, hd0⟩
abbrev LRoute := LName × Int × Int
instance decRoute : DecidableEq LRoute := inferInstanceAs (DecidableEq (LName × Int × Int))
def RRoute : Rep LRoute := .pair RName (.pair .int .int)
theorem RRoute_n : RRoute.n = 3 := rfl
theorem RRoute_raw {w : World} {cs : List Value} {x : LRoute} (h : RRoute.raw w cs x) : ∃ v0, cs = [v0, .int .i64 x.2.1, .int .i64 x.2.2] ∧ RName.raw w [v0] x.1 ∧ (Rep.slice 9 Rep.str).raw w [v0] x.1 ∧ (-9223372036854775808 ≤ x.2.1 ∧ x.2.1 ≤ 9223372036854775807) ∧ (-9223372036854775808 ≤ x.2.2 ∧ x.2.2 ≤ 9223372036854775807) := by
  obtain ⟨_, _, rfl, a_0, b_0⟩ := Rep.pair_raw h
  have q_0 := RName_raw a_0
  obtain ⟨_, rfl, s_0_0⟩ := q_0
  obtain ⟨_, _, rfl, a_1, b_1⟩ := Rep.pair_raw b_0
  obtain ⟨rfl, r_1⟩ := Rep.int_raw a_1
  obtain ⟨rfl, r_2⟩ := Rep.int_raw b_1
  exact ⟨_, rfl, a_0, s_0_0, r_1, r_2⟩
theorem RRoute_sub_0 : Rep.Sub RRoute RName (fun x => x.1) (fun x y => (y, x.2.1, x.2.2)) 0 := Rep.Sub.left (Rep.Sub.refl RName) (by decide)
theorem RRoute_sub_0_0 : Rep.Sub RRoute (Rep.slice 9 Rep.str) (fun x => x.1) (fun x y => (y, x.2.1, x.2.2)) 0 := Rep.Sub.left (Rep.Sub.refl (Rep.slice 9 Rep.str)) (by decide)
def setRoute_1 (x : LRoute) (v : Int) : LRoute := (x.1, v, x.2.2)
theorem RRoute_set1 {x : LRoute} (v : Int) (hv : -9223372036854775808 ≤ v ∧ v ≤ 9223372036854775807) {w : World} {cs : List Value} {S : Nat → Prop} (h : RRoute.is true w cs x S) : RRoute.is true w (cs.set 1 (.int .i64 v)) (setRoute_1 x v) S := by
  obtain ⟨c0, d0, A0, B0, rfl, p0, q0, hA0, hB0, hd0⟩ := h
  obtain ⟨c1, d1, A1, B1, rfl, p1, q1, hA1, hB1, hd1⟩ := q0
  obtain ⟨rfl, _⟩ := p1
  have l0 := Rep.len _ p0
  change _ = 1 at l0
  have e : ((c0 ++ ([.int .i64 x.2.1] ++ d1)) : List Value).set 1 (.int .i64 v) = (c0 ++ ([.int .i64 v] ++ d1)) := by
    obtain ⟨y0_0, rfl⟩ : ∃ y0_0, c0 = [y0_0] := by match c0, l0 with | [y0_0], _ => exact ⟨_, rfl⟩
    rfl
  rw [e]
  exact ⟨_, _, A0, B0, rfl, p0, ⟨_, _, A1, B1, rfl, ⟨rfl, hv⟩, q1, hA1, hB1, hd1⟩, hA0, hB0, hd0⟩
def setRoute_2 (x : LRoute) (v : Int) : LRoute := (x.1, x.2.1, v)
theorem RRoute_set2 {x : LRoute} (v : Int) (hv : -9223372036854775808 ≤ v ∧ v ≤ 9223372036854775807) {w : World} {cs : List Value} {S : Nat → Prop} (h : RRoute.is true w cs x S) : RRoute.is true w (cs.set 2 (.int .i64 v)) (setRoute_2 x v) S := by
  obtain ⟨c0, d0, A0, B0, rfl, p0, q0, hA0, hB0, hd0⟩ := h
  obtain ⟨c1, d1, A1, B1, rfl, p1, q1, hA1, hB1, hd1⟩ := q0
  obtain ⟨rfl, _⟩ := q1
  have l0 := Rep.len _ p0
  have l1 := Rep.len _ p1
  change _ = 1 at l0; change _ = 1 at l1
  have e : ((c0 ++ (c1 ++ [.int .i64 x.2.2])) : List Value).set 2 (.int .i64 v) = (c0 ++ (c1 ++ [.int .i64 v])) := by
    obtain ⟨y0_0, rfl⟩ : ∃ y0_0, c0 = [y0_0] := by match c0, l0 with | [y0_0], _ => exact ⟨_, rfl⟩
    obtain ⟨y1_0, rfl⟩ : ∃ y1_0, c1 = [y1_0] := by match c1, l1 with | [y1_0], _ => exact ⟨_, rfl⟩
    rfl
  rw [e]
  exact ⟨_, _, A0, B0, rfl, p0, ⟨_, _, A1, B1, rfl, p1, ⟨rfl, hv⟩, hA1, hB1, hd1⟩, hA0, hB0, hd0⟩
abbrev LRequester := Int × Int × Int
instance decRequester : DecidableEq LRequester := inferInstanceAs (DecidableEq (Int × Int × Int))
def RRequester : Rep LRequester := .pair .int (.pair .int .int)
theorem RRequester_n : RRequester.n = 3 := rfl
theorem RRequester_raw {w : World} {cs : List Value} {x : LRequester} (h : RRequester.raw w cs x) : cs = [.int .i64 x.1, .int .i64 x.2.1, .int .i64 x.2.2] ∧ (-9223372036854775808 ≤ x.1 ∧ x.1 ≤ 9223372036854775807) ∧ (-9223372036854775808 ≤ x.2.1 ∧ x.2.1 ≤ 9223372036854775807) ∧ (-9223372036854775808 ≤ x.2.2 ∧ x.2.2 ≤ 9223372036854775807) := by
  obtain ⟨_, _, rfl, a_0, b_0⟩ := Rep.pair_raw h
  obtain ⟨rfl, r_0⟩ := Rep.int_raw a_0
  obtain ⟨_, _, rfl, a_1, b_1⟩ := Rep.pair_raw b_0
  obtain ⟨rfl, r_1⟩ := Rep.int_raw a_1
  obtain ⟨rfl, r_2⟩ := Rep.int_raw b_1
  exact ⟨rfl, r_0, r_1, r_2⟩
def setRequester_0 (x : LRequester) (v : Int) : LRequester := (v, x.2.1, x.2.2)
theorem RRequester_set0 {x : LRequester} (v : Int) (hv : -9223372036854775808 ≤ v ∧ v ≤ 9223372036854775807) {w : World} {cs : List Value} {S : Nat → Prop} (h : RRequester.is true w cs x S) : RRequester.is true w (cs.set 0 (.int .i64 v)) (setRequester_0 x v) S := by
  obtain ⟨c0, d0, A0, B0, rfl, p0, q0, hA0, hB0, hd0⟩ := h
  obtain ⟨rfl, _⟩ := p0
  have e : (([.int .i64 x.1] ++ d0) : List Value).set 0 (.int .i64 v) = ([.int .i64 v] ++ d0) := by
    rfl
  rw [e]
  exact ⟨_, _, A0, B0, rfl, ⟨rfl, hv⟩, q0, hA0, hB0, hd0⟩
def setRequester_1 (x : LRequester) (v : Int) : LRequester := (x.1, v, x.2.2)
theorem RRequester_set1 {x : LRequester} (v : Int) (hv : -9223372036854775808 ≤ v ∧ v ≤ 9223372036854775807) {w : World} {cs : List Value} {S : Nat → Prop} (h : RRequester.is true w cs x S) : RRequester.is true w (cs.set 1 (.int .i64 v)) (setRequester_1 x v) S := by
  obtain ⟨c0, d0, A0, B0, rfl, p0, q0, hA0, hB0, hd0⟩ := h
  obtain ⟨c1, d1, A1, B1, rfl, p1, q1, hA1, hB1, hd1⟩ := q0
  obtain ⟨rfl, _⟩ := p1
  have l0 := Rep.len _ p0
  change _ = 1 at l0
  have e : ((c0 ++ ([.int .i64 x.2.1] ++ d1)) : List Value).set 1 (.int .i64 v) = (c0 ++ ([.int .i64 v] ++ d1)) := by
    obtain ⟨y0_0, rfl⟩ : ∃ y0_0, c0 = [y0_0] := by match c0, l0 with | [y0_0], _ => exact ⟨_, rfl⟩
    rfl
  rw [e]
  exact ⟨_, _, A0, B0, rfl, p0, ⟨_, _, A1, B1, rfl, ⟨rfl, hv⟩, q1, hA1, hB1, hd1⟩, hA0, hB0, hd0⟩
def setRequester_2 (x : LRequester) (v : Int) : LRequester := (x.1, x.2.1, v)
theorem RRequester_set2 {x : LRequester} (v : Int) (hv : -9223372036854775808 ≤ v ∧ v ≤ 9223372036854775807) {w : World} {cs : List Value} {S : Nat → Prop} (h : RRequester.is true w cs x S) : RRequester.is true w (cs.set 2 (.int .i64 v)) (setRequester_2 x v) S := by
  obtain ⟨c0, d0, A0, B0, rfl, p0, q0, hA0, hB0, hd0⟩ := h
  obtain ⟨c1, d1, A1, B1, rfl, p1, q1, hA1, hB1, hd1⟩ := q0
  obtain ⟨rfl, _⟩ := q1
  have l0 := Rep.len _ p0
  have l1 := Rep.len _ p1
  change _ = 1 at l0; change _ = 1 at l1
  have e : ((c0 ++ (c1 ++ [.int .i64 x.2.2])) : List Value).set 2 (.int .i64 v) = (c0 ++ (c1 ++ [.int .i64 v])) := by
    obtain ⟨y0_0, rfl⟩ : ∃ y0_0, c0 = [y0_0] := by match c0, l0 with | [y0_0], _ => exact ⟨_, rfl⟩
    obtain ⟨y1_0, rfl⟩ : ∃ y1_0, c1 = [y1_0] := by match c1, l1 with | [y1_0], _ => exact ⟨_, rfl⟩
    rfl
  rw [e]
  exact ⟨_, _, A0, B0, rfl, p0, ⟨_, _, A1, B1, rfl, p1, ⟨rfl, hv⟩, hA1, hB1, hd1⟩, hA0, hB0, hd0⟩
abbrev LPendingInterest := LName × (List LRequester) × Int
instance decPendingInterest : DecidableEq LPendingInterest := inferInstanceAs (DecidableEq (LName × (List LRequester) × Int))
def RPendingInterest : Rep LPendingInterest := .pair RName (.pair (.slice 123 RRequester) .int)
theorem RPendingInterest_n : RPendingInterest.n = 3 := rfl
theorem RPendingInterest_raw {w : World} {cs : List Value} {x : LPendingInterest} (h : RPendingInterest.raw w cs x) : ∃ v0 v1, cs = [v0, v1, .int .i64 x.2.2] ∧ RName.raw w [v0] x.1 ∧ (Rep.slice 9 Rep.str).raw w [v0] x.1 ∧ (Rep.slice 123 RRequester).raw w [v1] x.2.1 ∧ (-9223372036854775808 ≤ x.2.2 ∧ x.2.2 ≤ 9223372036854775807) := by
  obtain ⟨_, _, rfl, a_0, b_0⟩ := Rep.pair_raw h
  have q_0 := RName_raw a_0
  obtain ⟨_, rfl, s_0_0⟩ := q_0
  obtain ⟨_, _, rfl, a_1, b_1⟩ := Rep.pair_raw b_0
  obtain ⟨_, rfl, r_1⟩ := Rep.slice_raw a_1
  obtain ⟨rfl, r_2⟩ := Rep.int_raw b_1
  exact ⟨_, _, rfl, a_0, s_0_0, r_1, r_2⟩
theorem RPendingInterest_sub_0 : Rep.Sub RPendingInterest RName (fun x => x.1) (fun x y => (y, x.2.1, x.2.2)) 0 := Rep.Sub.left (Rep.Sub.refl RName) (by decide)
theorem RPendingInterest_sub_0_0 : Rep.Sub RPendingInterest (Rep.slice 9 Rep.str) (fun x => x.1) (fun x y => (y, x.2.1, x.2.2)) 0 := Rep.Sub.left (Rep.Sub.refl (Rep.slice 9 Rep.str)) (by decide)
theorem RPendingInterest_sub_1 : Rep.Sub RPendingInterest (Rep.slice 123 RRequester) (fun x => x.2.1) (fun x y => (x.1, y, x.2.2)) 1 := Rep.Sub.right (Rep.Sub.left (Rep.Sub.refl (Rep.slice 123 RRequester)) (by decide)) rfl
def setPendingInterest_2 (x : LPendingInterest) (v : Int) : LPendingInterest := (x.1, x.2.1, v)
theorem RPendingInterest_set2 {x : LPendingInterest} (v : Int) (hv : -9223372036854775808 ≤ v ∧ v ≤ 9223372036854775807) {w : World} {cs : List Value} {S : Nat → Prop} (h : RPendingInterest.is true w cs x S) : RPendingInterest.is true w (cs.set 2 (.int .i64 v)) (setPendingInterest_2 x v) S := by
  obtain ⟨c0, d0, A0, B0, rfl, p0, q0, hA0, hB0, hd0⟩ := h
  obtain ⟨c1, d1, A1, B1, rfl, p1, q1, hA1, hB1, hd1⟩ := q0
  obtain ⟨rfl, _⟩ := q1
  have l0 := Rep.len _ p0
  have l1 := Rep.len _ p1
  change _ = 1 at l0; change _ = 1 at l1
  have e : ((c0 ++ (c1 ++ [.int .i64 x.2.2])) : List Value).set 2 (.int .i64 v) = (c0 ++ (c1 ++ [.int .i64 v])) := by
    obtain ⟨y0_0, rfl⟩ : ∃ y0_0, c0 = [y0_0] := by match c0, l0 with | [y0_0], _ => exact ⟨_, rfl⟩
    obtain ⟨y1_0, rfl⟩ : ∃ y1_0, c1 = [y1_0] := by match c1, l1 with | [y1_0], _ => exact ⟨_, rfl⟩
    rfl
  rw [e]
  exact ⟨_, _, A0, B0, rfl, p0, ⟨_, _, A1, B1, rfl, p1, ⟨rfl, hv⟩, hA1, hB1, hd1⟩, hA0, hB0, hd0⟩
abbrev LSeenNonce := LName × Int
instance decSeenNonce : DecidableEq LSeenNonce := inferInstanceAs (DecidableEq (LName × Int))
def RSeenNonce : Rep LSeenNonce := .pair RName .int
theorem RSeenNonce_n : RSeenNonce.n = 2 := rfl
theorem RSeenNonce_raw {w : World} {cs : List Value} {x : LSeenNonce} (h : RSeenNonce.raw w cs x) : ∃ v0, cs = [v0, .int .i64 x.2] ∧ RName.raw w [v0] x.1 ∧ (Rep.slice 9 Rep.str).raw w [v0] x.1 ∧ (-9223372036854775808 ≤ x.2 ∧ x.2 ≤ 9223372036854775807) := by
  obtain ⟨_, _, rfl, a_0, b_0⟩ := Rep.pair_raw h
  have q_0 := RName_raw a_0
  obtain ⟨_, rfl, s_0_0⟩ := q_0
  obtain ⟨rfl, r_1⟩ := Rep.int_raw b_0
  exact ⟨_, rfl, a_0, s_0_0, r_1⟩
theorem RSeenNonce_sub_0 : Rep.Sub RSeenNonce RName (fun x => x.1) (fun x y => (y, x.2)) 0 := Rep.Sub.left (Rep.Sub.refl RName) (by decide)
theorem RSeenNonce_sub_0_0 : Rep.Sub RSeenNonce (Rep.slice 9 Rep.str) (fun x => x.1) (fun x y => (y, x.2)) 0 := Rep.Sub.left (Rep.Sub.refl (Rep.slice 9 Rep.str)) (by decide)
def setSeenNonce_1 (x : LSeenNonce) (v : Int) : LSeenNonce := (x.1, v)
theorem RSeenNonce_set1 {x : LSeenNonce} (v : Int) (hv : -9223372036854775808 ≤ v ∧ v ≤ 9223372036854775807) {w : World} {cs : List Value} {S : Nat → Prop} (h : RSeenNonce.is true w cs x S) : RSeenNonce.is true w (cs.set 1 (.int .i64 v)) (setSeenNonce_1 x v) S := by
  obtain ⟨c0, d0, A0, B0, rfl, p0, q0, hA0, hB0, hd0⟩ := h
  obtain ⟨rfl, _⟩ := q0
  have l0 := Rep.len _ p0
  change _ = 1 at l0
  have e : ((c0 ++ [.int .i64 x.2]) : List Value).set 1 (.int .i64 v) = (c0 ++ [.int .i64 v]) := by
    obtain ⟨y0_0, rfl⟩ : ∃ y0_0, c0 = [y0_0] := by match c0, l0 with | [y0_0], _ => exact ⟨_, rfl⟩
    rfl
  rw [e]
  exact ⟨_, _, A0, B0, rfl, p0, ⟨rfl, hv⟩, hA0, hB0, hd0⟩
abbrev LInterest := LName × Int × Int × Int
instance decInterest : DecidableEq LInterest := inferInstanceAs (DecidableEq (LName × Int × Int × Int))
def RInterest : Rep LInterest := .pair RName (.pair .int (.pair .int .int))
theorem RInterest_n : RInterest.n = 4 := rfl
theorem RInterest_raw {w : World} {cs : List Value} {x : LInterest} (h : RInterest.raw w cs x) : ∃ v0, cs = [v0, .int .i64 x.2.1, .int .i64 x.2.2.1, .int .i64 x.2.2.2] ∧ RName.raw w [v0] x.1 ∧ (Rep.slice 9 Rep.str).raw w [v0] x.1 ∧ (-9223372036854775808 ≤ x.2.1 ∧ x.2.1 ≤ 9223372036854775807) ∧ (-9223372036854775808 ≤ x.2.2.1 ∧ x.2.2.1 ≤ 9223372036854775807) ∧ (-9223372036854775808 ≤ x.2.2.2 ∧ x.2.2.2 ≤ 9223372036854775807) := by
  obtain ⟨_, _, rfl, a_0, b_0⟩ := Rep.pair_raw h
  have q_0 := RName_raw a_0
  obtain ⟨_, rfl, s_0_0⟩ := q_0
  obtain ⟨_, _, rfl, a_1, b_1⟩ := Rep.pair_raw b_0
  obtain ⟨rfl, r_1⟩ := Rep.int_raw a_1
  obtain ⟨_, _, rfl, a_2, b_2⟩ := Rep.pair_raw b_1
  obtain ⟨rfl, r_2⟩ := Rep.int_raw a_2
  obtain ⟨rfl, r_3⟩ := Rep.int_raw b_2
  exact ⟨_, rfl, a_0, s_0_0, r_1, r_2, r_3⟩
theorem RInterest_sub_0 : Rep.Sub RInterest RName (fun x => x.1) (fun x y => (y, x.2.1, x.2.2.1, x.2.2.2)) 0 := Rep.Sub.left (Rep.Sub.refl RName) (by decide)
theorem RInterest_sub_0_0 : Rep.Sub RInterest (Rep.slice 9 Rep.str) (fun x => x.1) (fun x y => (y, x.2.1, x.2.2.1, x.2.2.2)) 0 := Rep.Sub.left (Rep.Sub.refl (Rep.slice 9 Rep.str)) (by decide)
def setInterest_1 (x : LInterest) (v : Int) : LInterest := (x.1, v, x.2.2.1, x.2.2.2)
theorem RInterest_set1 {x : LInterest} (v : Int) (hv : -9223372036854775808 ≤ v ∧ v ≤ 9223372036854775807) {w : World} {cs : List Value} {S : Nat → Prop} (h : RInterest.is true w cs x S) : RInterest.is true w (cs.set 1 (.int .i64 v)) (setInterest_1 x v) S := by
  obtain ⟨c0, d0, A0, B0, rfl, p0, q0, hA0, hB0, hd0⟩ := h
  obtain ⟨c1, d1, A1, B1, rfl, p1, q1, hA1, hB1, hd1⟩ := q0
  obtain ⟨rfl, _⟩ := p1
  have l0 := Rep.len _ p0
  change _ = 1 at l0
  have e : ((c0 ++ ([.int .i64 x.2.1] ++ d1)) : List Value).set 1 (.int .i64 v) = (c0 ++ ([.int .i64 v] ++ d1)) := by
    obtain ⟨y0_0, rfl⟩ : ∃ y0_0, c0 = [y0_0] := by match c0, l0 with | [y0_0], _ => exact ⟨_, rfl⟩
    rfl
  rw [e]
  exact ⟨_, _, A0, B0, rfl, p0, ⟨_, _, A1, B1, rfl, ⟨rfl, hv⟩, q1, hA1, hB1, hd1⟩, hA0, hB0, hd0⟩
def setInterest_2 (x : LInterest) (v : Int) : LInterest := (x.1, x.2.1, v, x.2.2.2)
theorem RInterest_set2 {x : LInterest} (v : Int) (hv : -9223372036854775808 ≤ v ∧ v ≤ 9223372036854775807) {w : World} {cs : List Value} {S : Nat → Prop} (h : RInterest.is true w cs x S) : RInterest.is true w (cs.set 2 (.int .i64 v)) (setInterest_2 x v) S := by
  obtain ⟨c0, d0, A0, B0, rfl, p0, q0, hA0, hB0, hd0⟩ := h
  obtain ⟨c1, d1, A1, B1, rfl, p1, q1, hA1, hB1, hd1⟩ := q0
  obtain ⟨c2, d2, A2, B2, rfl, p2, q2, hA2, hB2, hd2⟩ := q1
  obtain ⟨rfl, _⟩ := p2
  have l0 := Rep.len _ p0
  have l1 := Rep.len _ p1
  change _ = 1 at l0; change _ = 1 at l1
  have e : ((c0 ++ (c1 ++ ([.int .i64 x.2.2.1] ++ d2))) : List Value).set 2 (.int .i64 v) = (c0 ++ (c1 ++ ([.int .i64 v] ++ d2))) := by
    obtain ⟨y0_0, rfl⟩ : ∃ y0_0, c0 = [y0_0] := by match c0, l0 with | [y0_0], _ => exact ⟨_, rfl⟩
    obtain ⟨y1_0, rfl⟩ : ∃ y1_0, c1 = [y1_0] := by match c1, l1 with | [y1_0], _ => exact ⟨_, rfl⟩
    rfl
  rw [e]
  exact ⟨_, _, A0, B0, rfl, p0, ⟨_, _, A1, B1, rfl, p1, ⟨_, _, A2, B2, rfl, ⟨rfl, hv⟩, q2, hA2, hB2, hd2⟩, hA1, hB1, hd1⟩, hA0, hB0, hd0⟩
def setInterest_3 (x : LInterest) (v : Int) : LInterest := (x.1, x.2.1, x.2.2.1, v)
theorem RInterest_set3 {x : LInterest} (v : Int) (hv : -9223372036854775808 ≤ v ∧ v ≤ 9223372036854775807) {w : World} {cs : List Value} {S : Nat → Prop} (h : RInterest.is true w cs x S) : RInterest.is true w (cs.set 3 (.int .i64 v)) (setInterest_3 x v) S := by
  obtain ⟨c0, d0, A0, B0, rfl, p0, q0, hA0, hB0, hd0⟩ := h
  obtain ⟨c1, d1, A1, B1, rfl, p1, q1, hA1, hB1, hd1⟩ := q0
  obtain ⟨c2, d2, A2, B2, rfl, p2, q2, hA2, hB2, hd2⟩ := q1
  obtain ⟨rfl, _⟩ := q2
  have l0 := Rep.len _ p0
  have l1 := Rep.len _ p1
  have l2 := Rep.len _ p2
  change _ = 1 at l0; change _ = 1 at l1; change _ = 1 at l2
  have e : ((c0 ++ (c1 ++ (c2 ++ [.int .i64 x.2.2.2]))) : List Value).set 3 (.int .i64 v) = (c0 ++ (c1 ++ (c2 ++ [.int .i64 v]))) := by
    obtain ⟨y0_0, rfl⟩ : ∃ y0_0, c0 = [y0_0] := by match c0, l0 with | [y0_0], _ => exact ⟨_, rfl⟩
    obtain ⟨y1_0, rfl⟩ : ∃ y1_0, c1 = [y1_0] := by match c1, l1 with | [y1_0], _ => exact ⟨_, rfl⟩
    obtain ⟨y2_0, rfl⟩ : ∃ y2_0, c2 = [y2_0] := by match c2, l2 with | [y2_0], _ => exact ⟨_, rfl⟩
    rfl
  rw [e]
  exact ⟨_, _, A0, B0, rfl, p0, ⟨_, _, A1, B1, rfl, p1, ⟨_, _, A2, B2, rfl, p2, ⟨rfl, hv⟩, hA2, hB2, hd2⟩, hA1, hB1, hd1⟩, hA0, hB0, hd0⟩
abbrev LData := LName × (List UInt8) × LName × Int × Int
instance decData : DecidableEq LData := (@instDecidableEqProd _ _ (inferInstanceAs (DecidableEq LName)) (@instDecidableEqProd _ _ (inferInstanceAs (DecidableEq (List UInt8))) (@instDecidableEqProd _ _ (inferInstanceAs (DecidableEq LName)) (@instDecidableEqProd _ _ (inferInstanceAs (DecidableEq Int)) (inferInstanceAs (DecidableEq Int))))))
def RData : Rep LData := .pair RName (.pair (.slice 5 .byte) (.pair RName (.pair .int .int)))
theorem RData_n : RData.n = 5 := rfl
theorem RData_raw {w : World} {cs : List Value} {x : LData} (h : RData.raw w cs x) : ∃ v0 v1 v2, cs = [v0, v1, v2, .int .i64 x.2.2.2.1, .int .i64 x.2.2.2.2] ∧ RName.raw w [v0] x.1 ∧ (Rep.slice 9 Rep.str).raw w [v0] x.1 ∧ (Rep.slice 5 Rep.byte).raw w [v1] x.2.1 ∧ RName.raw w [v2] x.2.2.1 ∧ (Rep.slice 9 Rep.str).raw w [v2] x.2.2.1 ∧ (-9223372036854775808 ≤ x.2.2.2.1 ∧ x.2.2.2.1 ≤ 9223372036854775807) ∧ (-9223372036854775808 ≤ x.2.2.2.2 ∧ x.2.2.2.2 ≤ 9223372036854775807) := by
  obtain ⟨_, _, rfl, a_0, b_0⟩ := Rep.pair_raw h
  have q_0 := RName_raw a_0
  obtain ⟨_, rfl, s_0_0⟩ := q_0
  obtain ⟨_, _, rfl, a_1, b_1⟩ := Rep.pair_raw b_0
  obtain ⟨_, rfl, r_1⟩ := Rep.slice_raw a_1
  obtain ⟨_, _, rfl, a_2, b_2⟩ := Rep.pair_raw b_1
  have q_2 := RName_raw a_2
  obtain ⟨_, rfl, s_2_0⟩ := q_2
  obtain ⟨_, _, rfl, a_3, b_3⟩ := Rep.pair_raw b_2
  obtain ⟨rfl, r_3⟩ := Rep.int_raw a_3
  obtain ⟨rfl, r_4⟩ := Rep.int_raw b_3
  exact ⟨_, _, _, rfl, a_0, s_0_0, r_1, a_2, s_2_0, r_3, r_4⟩
theorem RData_sub_0 : Rep.Sub RData RName (fun x => x.1) (fun x y => (y, x.2.1, x.2.2.1, x.2.2.2.1, x.2.2.2.2)) 0 := Rep.Sub.left (Rep.Sub.refl RName) (by decide)
theorem RData_sub_0_0 : Rep.Sub RData (Rep.slice 9 Rep.str) (fun x => x.1) (fun x y => (y, x.2.1, x.2.2.1, x.2.2.2.1, x.2.2.2.2)) 0 := Rep.Sub.left (Rep.Sub.refl (Rep.slice 9 Rep.str)) (by decide)
theorem RData_sub_1 : Rep.Sub RData (Rep.slice 5 Rep.byte) (fun x => x.2.1) (fun x y => (x.1, y, x.2.2.1, x.2.2.2.1, x.2.2.2.2)) 1 := Rep.Sub.right (Rep.Sub.left (Rep.Sub.refl (Rep.slice 5 Rep.byte)) (by decide)) rfl
theorem RData_sub_2 : Rep.Sub RData RName (fun x => x.2.2.1) (fun x y => (x.1, x.2.1, y, x.2.2.2.1, x.2.2.2.2)) 2 := Rep.Sub.right (Rep.Sub.right (Rep.Sub.left (Rep.Sub.refl RName) (by decide)) rfl) rfl
theorem RData_sub_2_0 : Rep.Sub RData (Rep.slice 9 Rep.str) (fun x => x.2.2.1) (fun x y => (x.1, x.2.1, y, x.2.2.2.1, x.2.2.2.2)) 2 := Rep.Sub.right (Rep.Sub.right (Rep.Sub.left (Rep.Sub.refl (Rep.slice 9 Rep.str)) (by decide)) rfl) rfl
def setData_3 (x : LData) (v : Int) : LData := (x.1, x.2.1, x.2.2.1, v, x.2.2.2.2)
theorem RData_set3 {x : LData} (v : Int) (hv : -9223372036854775808 ≤ v ∧ v ≤ 9223372036854775807) {w : World} {cs : List Value} {S : Nat → Prop} (h : RData.is true w cs x S) : RData.is true w (cs.set 3 (.int .i64 v)) (setData_3 x v) S := by
  obtain ⟨c0, d0, A0, B0, rfl, p0, q0, hA0, hB0, hd0⟩ := h
  obtain ⟨c1, d1, A1, B1, rfl, p1, q1, hA1, hB1, hd1⟩ := q0
  obtain ⟨c2, d2, A2, B2, rfl, p2, q2, hA2, hB2, hd2⟩ := q1
  obtain ⟨c3, d3, A3, B3, rfl, p3, q3, hA3, hB3, hd3⟩ := q2
  obtain ⟨rfl, _⟩ := p3
  have l0 := Rep.len _ p0
  have l1 := Rep.len _ p1
  have l2 := Rep.len _ p2
  change _ = 1 at l0; change _ = 1 at l1; change _ = 1 at l2
  have e : ((c0 ++ (c1 ++ (c2 ++ ([.int .i64 x.2.2.2.1] ++ d3)))) : List Value).set 3 (.int .i64 v) = (c0 ++ (c1 ++ (c2 ++ ([.int .i64 v] ++ d3)))) := by
    obtain ⟨y0_0, rfl⟩ : ∃ y0_0, c0 = [y0_0] := by match c0, l0 with | [y0_0], _ => exact ⟨_, rfl⟩
    obtain ⟨y1_0, rfl⟩ : ∃ y1_0, c1 = [y1_0] := by match c1, l1 with | [y1_0], _ => exact ⟨_, rfl⟩
    obtain ⟨y2_0, rfl⟩ : ∃ y2_0, c2 = [y2_0] := by match c2, l2 with | [y2_0], _ => exact ⟨_, rfl⟩
    rfl
  rw [e]
  exact ⟨_, _, A0, B0, rfl, p0, ⟨_, _, A1, B1, rfl, p1, ⟨_, _, A2, B2, rfl, p2, ⟨_, _, A3, B3, rfl, ⟨rfl, hv⟩, q3, hA3, hB3, hd3⟩, hA2, hB2, hd2⟩, hA1, hB1, hd1⟩, hA0, hB0, hd0⟩
def setData_4 (x : LData) (v : Int) : LData := (x.1, x.2.1, x.2.2.1, x.2.2.2.1, v)
theorem RData_set4 {x : LData} (v : Int) (hv : -9223372036854775808 ≤ v ∧ v ≤ 9223372036854775807) {w : World} {cs : List Value} {S : Nat → Prop} (h : RData.is true w cs x S) : RData.is true w (cs.set 4 (.int .i64 v)) (setData_4 x v) S := by
  obtain ⟨c0, d0, A0, B0, rfl, p0, q0, hA0, hB0, hd0⟩ := h
  obtain ⟨c1, d1, A1, B1, rfl, p1, q1, hA1, hB1, hd1⟩ := q0
  obtain ⟨c2, d2, A2, B2, rfl, p2, q2, hA2, hB2, hd2⟩ := q1
  obtain ⟨c3, d3, A3, B3, rfl, p3, q3, hA3, hB3, hd3⟩ := q2
  obtain ⟨rfl, _⟩ := q3
  have l0 := Rep.len _ p0
  have l1 := Rep.len _ p1
  have l2 := Rep.len _ p2
  have l3 := Rep.len _ p3
  change _ = 1 at l0; change _ = 1 at l1; change _ = 1 at l2; change _ = 1 at l3
  have e : ((c0 ++ (c1 ++ (c2 ++ (c3 ++ [.int .i64 x.2.2.2.2])))) : List Value).set 4 (.int .i64 v) = (c0 ++ (c1 ++ (c2 ++ (c3 ++ [.int .i64 v])))) := by
    obtain ⟨y0_0, rfl⟩ : ∃ y0_0, c0 = [y0_0] := by match c0, l0 with | [y0_0], _ => exact ⟨_, rfl⟩
    obtain ⟨y1_0, rfl⟩ : ∃ y1_0, c1 = [y1_0] := by match c1, l1 with | [y1_0], _ => exact ⟨_, rfl⟩
    obtain ⟨y2_0, rfl⟩ : ∃ y2_0, c2 = [y2_0] := by match c2, l2 with | [y2_0], _ => exact ⟨_, rfl⟩
    obtain ⟨y3_0, rfl⟩ : ∃ y3_0, c3 = [y3_0] := by match c3, l3 with | [y3_0], _ => exact ⟨_, rfl⟩
    rfl
  rw [e]
  exact ⟨_, _, A0, B0, rfl, p0, ⟨_, _, A1, B1, rfl, p1, ⟨_, _, A2, B2, rfl, p2, ⟨_, _, A3, B3, rfl, p3, ⟨rfl, hv⟩, hA3, hB3, hd3⟩, hA2, hB2, hd2⟩, hA1, hB1, hd1⟩, hA0, hB0, hd0⟩
abbrev LCacheEntry := LData × Int
instance decCacheEntry : DecidableEq LCacheEntry := inferInstanceAs (DecidableEq (LData × Int))
def RCacheEntry : Rep LCacheEntry := .pair RData .int
theorem RCacheEntry_n : RCacheEntry.n = 6 := rfl
theorem RCacheEntry_raw {w : World} {cs : List Value} {x : LCacheEntry} (h : RCacheEntry.raw w cs x) : ∃ v0 v1 v2, cs = [v0, v1, v2, .int .i64 x.1.2.2.2.1, .int .i64 x.1.2.2.2.2, .int .i64 x.2] ∧ RData.raw w [v0, v1, v2, .int .i64 x.1.2.2.2.1, .int .i64 x.1.2.2.2.2] x.1 ∧ RName.raw w [v0] x.1.1 ∧ (Rep.slice 9 Rep.str).raw w [v0] x.1.1 ∧ (Rep.slice 5 Rep.byte).raw w [v1] x.1.2.1 ∧ RName.raw w [v2] x.1.2.2.1 ∧ (Rep.slice 9 Rep.str).raw w [v2] x.1.2.2.1 ∧ (-9223372036854775808 ≤ x.1.2.2.2.1 ∧ x.1.2.2.2.1 ≤ 9223372036854775807) ∧ (-9223372036854775808 ≤ x.1.2.2.2.2 ∧ x.1.2.2.2.2 ≤ 9223372036854775807) ∧ (-9223372036854775808 ≤ x.2 ∧ x.2 ≤ 9223372036854775807) := by
  obtain ⟨_, _, rfl, a_0, b_0⟩ := Rep.pair_raw h
  have q_0 := RData_raw a_0
  obtain ⟨_, _, _, rfl, s_0_0, s_0_1, s_0_2, s_0_3, s_0_4, s_0_5, s_0_6⟩ := q_0
  obtain ⟨rfl, r_1⟩ := Rep.int_raw b_0
  exact ⟨_, _, _, rfl, a_0, s_0_0, s_0_1, s_0_2, s_0_3, s_0_4, s_0_5, s_0_6, r_1⟩
theorem RCacheEntry_sub_0 : Rep.Sub RCacheEntry RData (fun x => x.1) (fun x y => (y, x.2)) 0 := Rep.Sub.left (Rep.Sub.refl RData) (by decide)
theorem RCacheEntry_sub_0_0 : Rep.Sub RCacheEntry RName (fun x => x.1.1) (fun x y => ((y, x.1.2.1, x.1.2.2.1, x.1.2.2.2.1, x.1.2.2.2.2), x.2)) 0 := Rep.Sub.left (Rep.Sub.left (Rep.Sub.refl RName) (by decide)) (by decide)
theorem RCacheEntry_sub_0_0_0 : Rep.Sub RCacheEntry (Rep.slice 9 Rep.str) (fun x => x.1.1) (fun x y => ((y, x.1.2.1, x.1.2.2.1, x.1.2.2.2.1, x.1.2.2.2.2), x.2)) 0 := Rep.Sub.left (Rep.Sub.left (Rep.Sub.refl (Rep.slice 9 Rep.str)) (by decide)) (by decide)
theorem RCacheEntry_sub_0_1 : Rep.Sub RCacheEntry (Rep.slice 5 Rep.byte) (fun x => x.1.2.1) (fun x y => ((x.1.1, y, x.1.2.2.1, x.1.2.2.2.1, x.1.2.2.2.2), x.2)) 1 := Rep.Sub.left (Rep.Sub.right (Rep.Sub.left (Rep.Sub.refl (Rep.slice 5 Rep.byte)) (by decide)) rfl) (by decide)
theorem RCacheEntry_sub_0_2 : Rep.Sub RCacheEntry RName (fun x => x.1.2.2.1) (fun x y => ((x.1.1, x.1.2.1, y, x.1.2.2.2.1, x.1.2.2.2.2), x.2)) 2 := Rep.Sub.left (Rep.Sub.right (Rep.Sub.right (Rep.Sub.left (Rep.Sub.refl RName) (by decide)) rfl) rfl) (by decide)
theorem RCacheEntry_sub_0_2_0 : Rep.Sub RCacheEntry (Rep.slice 9 Rep.str) (fun x => x.1.2.2.1) (fun x y => ((x.1.1, x.1.2.1, y, x.1.2.2.2.1, x.1.2.2.2.2), x.2)) 2 := Rep.Sub.left (Rep.Sub.right (Rep.Sub.right (Rep.Sub.left (Rep.Sub.refl (Rep.slice 9 Rep.str)) (by decide)) rfl) rfl) (by decide)
def setCacheEntry_3 (x : LCacheEntry) (v : Int) : LCacheEntry := ((x.1.1, x.1.2.1, x.1.2.2.1, v, x.1.2.2.2.2), x.2)
theorem RCacheEntry_set3 {x : LCacheEntry} (v : Int) (hv : -9223372036854775808 ≤ v ∧ v ≤ 9223372036854775807) {w : World} {cs : List Value} {S : Nat → Prop} (h : RCacheEntry.is true w cs x S) : RCacheEntry.is true w (cs.set 3 (.int .i64 v)) (setCacheEntry_3 x v) S := by
  obtain ⟨c0, d0, A0, B0, rfl, p0, q0, hA0, hB0, hd0⟩ := h
  obtain ⟨c1, d1, A1, B1, rfl, p1, q1, hA1, hB1, hd1⟩ := p0
  obtain ⟨c2, d2, A2, B2, rfl, p2, q2, hA2, hB2, hd2⟩ := q1
  obtain ⟨c3, d3, A3, B3, rfl, p3, q3, hA3, hB3, hd3⟩ := q2
  obtain ⟨c4, d4, A4, B4, rfl, p4, q4, hA4, hB4, hd4⟩ := q3
  obtain ⟨rfl, _⟩ := p4
  have l1 := Rep.len _ p1
  have l2 := Rep.len _ p2
  have l3 := Rep.len _ p3
  change _ = 1 at l1; change _ = 1 at l2; change _ = 1 at l3
  have e : (((c1 ++ (c2 ++ (c3 ++ ([.int .i64 x.1.2.2.2.1] ++ d4)))) ++ d0) : List Value).set 3 (.int .i64 v) = ((c1 ++ (c2 ++ (c3 ++ ([.int .i64 v] ++ d4)))) ++ d0) := by
    obtain ⟨y1_0, rfl⟩ : ∃ y1_0, c1 = [y1_0] := by match c1, l1 with | [y1_0], _ => exact ⟨_, rfl⟩
    obtain ⟨y2_0, rfl⟩ : ∃ y2_0, c2 = [y2_0] := by match c2, l2 with | [y2_0], _ => exact ⟨_, rfl⟩
    obtain ⟨y3_0, rfl⟩ : ∃ y3_0, c3 = [y3_0] := by match c3, l3 with | [y3_0], _ => exact ⟨_, rfl⟩
    rfl
  rw [e]
  exact ⟨_, _, A0, B0, rfl, ⟨_, _, A1, B1, rfl, p1, ⟨_, _, A2, B2, rfl, p2, ⟨_, _, A3, B3, rfl, p3, ⟨_, _, A4, B4, rfl, ⟨rfl, hv⟩, q4, hA4, hB4, hd4⟩, hA3, hB3, hd3⟩, hA2, hB2, hd2⟩, hA1, hB1, hd1⟩, q0, hA0, hB0, hd0⟩
def setCacheEntry_4 (x : LCacheEntry) (v : Int) : LCacheEntry := ((x.1.1, x.1.2.1, x.1.2.2.1, x.1.2.2.2.1, v), x.2)
theorem RCacheEntry_set4 {x : LCacheEntry} (v : Int) (hv : -9223372036854775808 ≤ v ∧ v ≤ 9223372036854775807) {w : World} {cs : List Value} {S : Nat → Prop} (h : RCacheEntry.is true w cs x S) : RCacheEntry.is true w (cs.set 4 (.int .i64 v)) (setCacheEntry_4 x v) S := by
  obtain ⟨c0, d0, A0, B0, rfl, p0, q0, hA0, hB0, hd0⟩ := h
  obtain ⟨c1, d1, A1, B1, rfl, p1, q1, hA1, hB1, hd1⟩ := p0
  obtain ⟨c2, d2, A2, B2, rfl, p2, q2, hA2, hB2, hd2⟩ := q1
  obtain ⟨c3, d3, A3, B3, rfl, p3, q3, hA3, hB3, hd3⟩ := q2
  obtain ⟨c4, d4, A4, B4, rfl, p4, q4, hA4, hB4, hd4⟩ := q3
  obtain ⟨rfl, _⟩ := q4
  have l1 := Rep.len _ p1
  have l2 := Rep.len _ p2
  have l3 := Rep.len _ p3
  have l4 := Rep.len _ p4
  change _ = 1 at l1; change _ = 1 at l2; change _ = 1 at l3; change _ = 1 at l4
  have e : (((c1 ++ (c2 ++ (c3 ++ (c4 ++ [.int .i64 x.1.2.2.2.2])))) ++ d0) : List Value).set 4 (.int .i64 v) = ((c1 ++ (c2 ++ (c3 ++ (c4 ++ [.int .i64 v])))) ++ d0) := by
    obtain ⟨y1_0, rfl⟩ : ∃ y1_0, c1 = [y1_0] := by match c1, l1 with | [y1_0], _ => exact ⟨_, rfl⟩
    obtain ⟨y2_0, rfl⟩ : ∃ y2_0, c2 = [y2_0] := by match c2, l2 with | [y2_0], _ => exact ⟨_, rfl⟩
    obtain ⟨y3_0, rfl⟩ : ∃ y3_0, c3 = [y3_0] := by match c3, l3 with | [y3_0], _ => exact ⟨_, rfl⟩
    obtain ⟨y4_0, rfl⟩ : ∃ y4_0, c4 = [y4_0] := by match c4, l4 with | [y4_0], _ => exact ⟨_, rfl⟩
    rfl
  rw [e]
  exact ⟨_, _, A0, B0, rfl, ⟨_, _, A1, B1, rfl, p1, ⟨_, _, A2, B2, rfl, p2, ⟨_, _, A3, B3, rfl, p3, ⟨_, _, A4, B4, rfl, p4, ⟨rfl, hv⟩, hA4, hB4, hd4⟩, hA3, hB3, hd3⟩, hA2, hB2, hd2⟩, hA1, hB1, hd1⟩, q0, hA0, hB0, hd0⟩
def setCacheEntry_5 (x : LCacheEntry) (v : Int) : LCacheEntry := (x.1, v)
theorem RCacheEntry_set5 {x : LCacheEntry} (v : Int) (hv : -9223372036854775808 ≤ v ∧ v ≤ 9223372036854775807) {w : World} {cs : List Value} {S : Nat → Prop} (h : RCacheEntry.is true w cs x S) : RCacheEntry.is true w (cs.set 5 (.int .i64 v)) (setCacheEntry_5 x v) S := by
  obtain ⟨c0, d0, A0, B0, rfl, p0, q0, hA0, hB0, hd0⟩ := h
  obtain ⟨rfl, _⟩ := q0
  have l0 := Rep.len _ p0
  change _ = 5 at l0
  have e : ((c0 ++ [.int .i64 x.2]) : List Value).set 5 (.int .i64 v) = (c0 ++ [.int .i64 v]) := by
    obtain ⟨y0_0, y0_1, y0_2, y0_3, y0_4, rfl⟩ : ∃ y0_0 y0_1 y0_2 y0_3 y0_4, c0 = [y0_0, y0_1, y0_2, y0_3, y0_4] := by match c0, l0 with | [y0_0, y0_1, y0_2, y0_3, y0_4], _ => exact ⟨_, _, _, _, _, rfl⟩
    rfl
  rw [e]
  exact ⟨_, _, A0, B0, rfl, p0, ⟨rfl, hv⟩, hA0, hB0, hd0⟩
abbrev LContentStore := Int × (List LCacheEntry)
instance decContentStore : DecidableEq LContentStore := inferInstanceAs (DecidableEq (Int × (List LCacheEntry)))
def RContentStore : Rep LContentStore := .pair .int (.slice 212 RCacheEntry)
theorem RContentStore_n : RContentStore.n = 2 := rfl
theorem RContentStore_raw {w : World} {cs : List Value} {x : LContentStore} (h : RContentStore.raw w cs x) : ∃ v1, cs = [.int .i64 x.1, v1] ∧ (-9223372036854775808 ≤ x.1 ∧ x.1 ≤ 9223372036854775807) ∧ (Rep.slice 212 RCacheEntry).raw w [v1] x.2 := by
  obtain ⟨_, _, rfl, a_0, b_0⟩ := Rep.pair_raw h
  obtain ⟨rfl, r_0⟩ := Rep.int_raw a_0
  obtain ⟨_, rfl, r_1⟩ := Rep.slice_raw b_0
  exact ⟨_, rfl, r_0, r_1⟩
theorem RContentStore_sub_1 : Rep.Sub RContentStore (Rep.slice 212 RCacheEntry) (fun x => x.2) (fun x y => (x.1, y)) 1 := Rep.Sub.right (Rep.Sub.refl (Rep.slice 212 RCacheEntry)) rfl
def setContentStore_0 (x : LContentStore) (v : Int) : LContentStore := (v, x.2)
theorem RContentStore_set0 {x : LContentStore} (v : Int) (hv : -9223372036854775808 ≤ v ∧ v ≤ 9223372036854775807) {w : World} {cs : List Value} {S : Nat → Prop} (h : RContentStore.is true w cs x S) : RContentStore.is true w (cs.set 0 (.int .i64 v)) (setContentStore_0 x v) S := by
  obtain ⟨c0, d0, A0, B0, rfl, p0, q0, hA0, hB0, hd0⟩ := h
  obtain ⟨rfl, _⟩ := p0
  have e : (([.int .i64 x.1] ++ d0) : List Value).set 0 (.int .i64 v) = ([.int .i64 v] ++ d0) := by
    rfl
  rw [e]
  exact ⟨_, _, A0, B0, rfl, ⟨rfl, hv⟩, q0, hA0, hB0, hd0⟩
abbrev LNode := (List LData) × LContentStore × (List LPendingInterest) × (List LSeenNonce) × (List LRoute) × (List LMeasurement) × Int
instance decNode : DecidableEq LNode := (@instDecidableEqProd _ _ (inferInstanceAs (DecidableEq (List LData))) (@instDecidableEqProd _ _ (inferInstanceAs (DecidableEq LContentStore)) (@instDecidableEqProd _ _ (inferInstanceAs (DecidableEq (List LPendingInterest))) (@instDecidableEqProd _ _ (inferInstanceAs (DecidableEq (List LSeenNonce))) (@instDecidableEqProd _ _ (inferInstanceAs (DecidableEq (List LRoute))) (@instDecidableEqProd _ _ (inferInstanceAs (DecidableEq (List LMeasurement))) (inferInstanceAs (DecidableEq Int))))))))
def RNode : Rep LNode := .pair (.slice 66 RData) (.pair RContentStore (.pair (.slice 175 RPendingInterest) (.pair (.slice 178 RSeenNonce) (.pair (.slice 181 RRoute) (.pair (.slice 184 RMeasurement) .int)))))
theorem RNode_n : RNode.n = 8 := rfl
theorem RNode_raw {w : World} {cs : List Value} {x : LNode} (h : RNode.raw w cs x) : ∃ v0 v2 v3 v4 v5 v6, cs = [v0, .int .i64 x.2.1.1, v2, v3, v4, v5, v6, .int .i64 x.2.2.2.2.2.2] ∧ (Rep.slice 66 RData).raw w [v0] x.1 ∧ RContentStore.raw w [.int .i64 x.2.1.1, v2] x.2.1 ∧ (-9223372036854775808 ≤ x.2.1.1 ∧ x.2.1.1 ≤ 9223372036854775807) ∧ (Rep.slice 212 RCacheEntry).raw w [v2] x.2.1.2 ∧ (Rep.slice 175 RPendingInterest).raw w [v3] x.2.2.1 ∧ (Rep.slice 178 RSeenNonce).raw w [v4] x.2.2.2.1 ∧ (Rep.slice 181 RRoute).raw w [v5] x.2.2.2.2.1 ∧ (Rep.slice 184 RMeasurement).raw w [v6] x.2.2.2.2.2.1 ∧ (-9223372036854775808 ≤ x.2.2.2.2.2.2 ∧ x.2.2.2.2.2.2 ≤ 9223372036854775807) := by
  obtain ⟨_, _, rfl, a_0, b_0⟩ := Rep.pair_raw h
  obtain ⟨_, rfl, r_0⟩ := Rep.slice_raw a_0
  obtain ⟨_, _, rfl, a_1, b_1⟩ := Rep.pair_raw b_0
  have q_1 := RContentStore_raw a_1
  obtain ⟨_, rfl, s_1_0, s_1_1⟩ := q_1
  obtain ⟨_, _, rfl, a_2, b_2⟩ := Rep.pair_raw b_1
  obtain ⟨_, rfl, r_2⟩ := Rep.slice_raw a_2
  obtain ⟨_, _, rfl, a_3, b_3⟩ := Rep.pair_raw b_2
  obtain ⟨_, rfl, r_3⟩ := Rep.slice_raw a_3
  obtain ⟨_, _, rfl, a_4, b_4⟩ := Rep.pair_raw b_3
  obtain ⟨_, rfl, r_4⟩ := Rep.slice_raw a_4
  obtain ⟨_, _, rfl, a_5, b_5⟩ := Rep.pair_raw b_4
  obtain ⟨_, rfl, r_5⟩ := Rep.slice_raw a_5
  obtain ⟨rfl, r_6⟩ := Rep.int_raw b_5
  exact ⟨_, _, _, _, _, _, rfl, r_0, a_1, s_1_0, s_1_1, r_2, r_3, r_4, r_5, r_6⟩
theorem RNode_sub_0 : Rep.Sub RNode (Rep.slice 66 RData) (fun x => x.1) (fun x y => (y, x.2.1, x.2.2.1, x.2.2.2.1, x.2.2.2.2.1, x.2.2.2.2.2.1, x.2.2.2.2.2.2)) 0 := Rep.Sub.left (Rep.Sub.refl (Rep.slice 66 RData)) (by decide)
theorem RNode_sub_1 : Rep.Sub RNode RContentStore (fun x => x.2.1) (fun x y => (x.1, y, x.2.2.1, x.2.2.2.1, x.2.2.2.2.1, x.2.2.2.2.2.1, x.2.2.2.2.2.2)) 1 := Rep.Sub.right (Rep.Sub.left (Rep.Sub.refl RContentStore) (by decide)) rfl
theorem RNode_sub_1_1 : Rep.Sub RNode (Rep.slice 212 RCacheEntry) (fun x => x.2.1.2) (fun x y => (x.1, (x.2.1.1, y), x.2.2.1, x.2.2.2.1, x.2.2.2.2.1, x.2.2.2.2.2.1, x.2.2.2.2.2.2)) 2 := Rep.Sub.right (Rep.Sub.left (Rep.Sub.right (Rep.Sub.refl (Rep.slice 212 RCacheEntry)) rfl) (by decide)) rfl
theorem RNode_sub_2 : Rep.Sub RNode (Rep.slice 175 RPendingInterest) (fun x => x.2.2.1) (fun x y => (x.1, x.2.1, y, x.2.2.2.1, x.2.2.2.2.1, x.2.2.2.2.2.1, x.2.2.2.2.2.2)) 3 := Rep.Sub.right (Rep.Sub.right (Rep.Sub.left (Rep.Sub.refl (Rep.slice 175 RPendingInterest)) (by decide)) rfl) rfl
theorem RNode_sub_3 : Rep.Sub RNode (Rep.slice 178 RSeenNonce) (fun x => x.2.2.2.1) (fun x y => (x.1, x.2.1, x.2.2.1, y, x.2.2.2.2.1, x.2.2.2.2.2.1, x.2.2.2.2.2.2)) 4 := Rep.Sub.right (Rep.Sub.right (Rep.Sub.right (Rep.Sub.left (Rep.Sub.refl (Rep.slice 178 RSeenNonce)) (by decide)) rfl) rfl) rfl
theorem RNode_sub_4 : Rep.Sub RNode (Rep.slice 181 RRoute) (fun x => x.2.2.2.2.1) (fun x y => (x.1, x.2.1, x.2.2.1, x.2.2.2.1, y, x.2.2.2.2.2.1, x.2.2.2.2.2.2)) 5 := Rep.Sub.right (Rep.Sub.right (Rep.Sub.right (Rep.Sub.right (Rep.Sub.left (Rep.Sub.refl (Rep.slice 181 RRoute)) (by decide)) rfl) rfl) rfl) rfl
theorem RNode_sub_5 : Rep.Sub RNode (Rep.slice 184 RMeasurement) (fun x => x.2.2.2.2.2.1) (fun x y => (x.1, x.2.1, x.2.2.1, x.2.2.2.1, x.2.2.2.2.1, y, x.2.2.2.2.2.2)) 6 := Rep.Sub.right (Rep.Sub.right (Rep.Sub.right (Rep.Sub.right (Rep.Sub.right (Rep.Sub.left (Rep.Sub.refl (Rep.slice 184 RMeasurement)) (by decide)) rfl) rfl) rfl) rfl) rfl
def setNode_1 (x : LNode) (v : Int) : LNode := (x.1, (v, x.2.1.2), x.2.2.1, x.2.2.2.1, x.2.2.2.2.1, x.2.2.2.2.2.1, x.2.2.2.2.2.2)
theorem RNode_set1 {x : LNode} (v : Int) (hv : -9223372036854775808 ≤ v ∧ v ≤ 9223372036854775807) {w : World} {cs : List Value} {S : Nat → Prop} (h : RNode.is true w cs x S) : RNode.is true w (cs.set 1 (.int .i64 v)) (setNode_1 x v) S := by
  obtain ⟨c0, d0, A0, B0, rfl, p0, q0, hA0, hB0, hd0⟩ := h
  obtain ⟨c1, d1, A1, B1, rfl, p1, q1, hA1, hB1, hd1⟩ := q0
  obtain ⟨c2, d2, A2, B2, rfl, p2, q2, hA2, hB2, hd2⟩ := p1
  obtain ⟨rfl, _⟩ := p2
  have l0 := Rep.len _ p0
  change _ = 1 at l0
  have e : ((c0 ++ (([.int .i64 x.2.1.1] ++ d2) ++ d1)) : List Value).set 1 (.int .i64 v) = (c0 ++ (([.int .i64 v] ++ d2) ++ d1)) := by
    obtain ⟨y0_0, rfl⟩ : ∃ y0_0, c0 = [y0_0] := by match c0, l0 with | [y0_0], _ => exact ⟨_, rfl⟩
    rfl
  rw [e]
  exact ⟨_, _, A0, B0, rfl, p0, ⟨_, _, A1, B1, rfl, ⟨_, _, A2, B2, rfl, ⟨rfl, hv⟩, q2, hA2, hB2, hd2⟩, q1, hA1, hB1, hd1⟩, hA0, hB0, hd0⟩
def setNode_7 (x : LNode) (v : Int) : LNode := (x.1, x.2.1, x.2.2.1, x.2.2.2.1, x.2.2.2.2.1, x.2.2.2.2.2.1, v)
theorem RNode_set7 {x : LNode} (v : Int) (hv : -9223372036854775808 ≤ v ∧ v ≤ 9223372036854775807) {w : World} {cs : List Value} {S : Nat → Prop} (h : RNode.is true w cs x S) : RNode.is true w (cs.set 7 (.int .i64 v)) (setNode_7 x v) S := by
  obtain ⟨c0, d0, A0, B0, rfl, p0, q0, hA0, hB0, hd0⟩ := h
  obtain ⟨c1, d1, A1, B1, rfl, p1, q1, hA1, hB1, hd1⟩ := q0
  obtain ⟨c2, d2, A2, B2, rfl, p2, q2, hA2, hB2, hd2⟩ := q1
  obtain ⟨c3, d3, A3, B3, rfl, p3, q3, hA3, hB3, hd3⟩ := q2
  obtain ⟨c4, d4, A4, B4, rfl, p4, q4, hA4, hB4, hd4⟩ := q3
  obtain ⟨c5, d5, A5, B5, rfl, p5, q5, hA5, hB5, hd5⟩ := q4
  obtain ⟨rfl, _⟩ := q5
  have l0 := Rep.len _ p0
  have l1 := Rep.len _ p1
  have l2 := Rep.len _ p2
  have l3 := Rep.len _ p3
  have l4 := Rep.len _ p4
  have l5 := Rep.len _ p5
  change _ = 1 at l0; change _ = 2 at l1; change _ = 1 at l2; change _ = 1 at l3; change _ = 1 at l4; change _ = 1 at l5
  have e : ((c0 ++ (c1 ++ (c2 ++ (c3 ++ (c4 ++ (c5 ++ [.int .i64 x.2.2.2.2.2.2])))))) : List Value).set 7 (.int .i64 v) = (c0 ++ (c1 ++ (c2 ++ (c3 ++ (c4 ++ (c5 ++ [.int .i64 v])))))) := by
    obtain ⟨y0_0, rfl⟩ : ∃ y0_0, c0 = [y0_0] := by match c0, l0 with | [y0_0], _ => exact ⟨_, rfl⟩
    obtain ⟨y1_0, y1_1, rfl⟩ : ∃ y1_0 y1_1, c1 = [y1_0, y1_1] := by match c1, l1 with | [y1_0, y1_1], _ => exact ⟨_, _, rfl⟩
    obtain ⟨y2_0, rfl⟩ : ∃ y2_0, c2 = [y2_0] := by match c2, l2 with | [y2_0], _ => exact ⟨_, rfl⟩
    obtain ⟨y3_0, rfl⟩ : ∃ y3_0, c3 = [y3_0] := by match c3, l3 with | [y3_0], _ => exact ⟨_, rfl⟩
    obtain ⟨y4_0, rfl⟩ : ∃ y4_0, c4 = [y4_0] := by match c4, l4 with | [y4_0], _ => exact ⟨_, rfl⟩
    obtain ⟨y5_0, rfl⟩ : ∃ y5_0, c5 = [y5_0] := by match c5, l5 with | [y5_0], _ => exact ⟨_, rfl⟩
    rfl
  rw [e]
  exact ⟨_, _, A0, B0, rfl, p0, ⟨_, _, A1, B1, rfl, p1, ⟨_, _, A2, B2, rfl, p2, ⟨_, _, A3, B3, rfl, p3, ⟨_, _, A4, B4, rfl, p4, ⟨_, _, A5, B5, rfl, p5, ⟨rfl, hv⟩, hA5, hB5, hd5⟩, hA4, hB4, hd4⟩, hA3, hB3, hd3⟩, hA2, hB2, hd2⟩, hA1, hB1, hd1⟩, hA0, hB0, hd0⟩
abbrev LOutgoing := Int × Bool × LInterest × LData
instance decOutgoing : DecidableEq LOutgoing := inferInstanceAs (DecidableEq (Int × Bool × LInterest × LData))
def ROutgoing : Rep LOutgoing := .pair .int (.pair .bool (.pair RInterest RData))
theorem ROutgoing_n : ROutgoing.n = 11 := rfl
theorem ROutgoing_raw {w : World} {cs : List Value} {x : LOutgoing} (h : ROutgoing.raw w cs x) : ∃ v2 v6 v7 v8, cs = [.int .i64 x.1, .bool x.2.1, v2, .int .i64 x.2.2.1.2.1, .int .i64 x.2.2.1.2.2.1, .int .i64 x.2.2.1.2.2.2, v6, v7, v8, .int .i64 x.2.2.2.2.2.2.1, .int .i64 x.2.2.2.2.2.2.2] ∧ (-9223372036854775808 ≤ x.1 ∧ x.1 ≤ 9223372036854775807) ∧ RInterest.raw w [v2, .int .i64 x.2.2.1.2.1, .int .i64 x.2.2.1.2.2.1, .int .i64 x.2.2.1.2.2.2] x.2.2.1 ∧ RName.raw w [v2] x.2.2.1.1 ∧ (Rep.slice 9 Rep.str).raw w [v2] x.2.2.1.1 ∧ (-9223372036854775808 ≤ x.2.2.1.2.1 ∧ x.2.2.1.2.1 ≤ 9223372036854775807) ∧ (-9223372036854775808 ≤ x.2.2.1.2.2.1 ∧ x.2.2.1.2.2.1 ≤ 9223372036854775807) ∧ (-9223372036854775808 ≤ x.2.2.1.2.2.2 ∧ x.2.2.1.2.2.2 ≤ 9223372036854775807) ∧ RData.raw w [v6, v7, v8, .int .i64 x.2.2.2.2.2.2.1, .int .i64 x.2.2.2.2.2.2.2] x.2.2.2 ∧ RName.raw w [v6] x.2.2.2.1 ∧ (Rep.slice 9 Rep.str).raw w [v6] x.2.2.2.1 ∧ (Rep.slice 5 Rep.byte).raw w [v7] x.2.2.2.2.1 ∧ RName.raw w [v8] x.2.2.2.2.2.1 ∧ (Rep.slice 9 Rep.str).raw w [v8] x.2.2.2.2.2.1 ∧ (-9223372036854775808 ≤ x.2.2.2.2.2.2.1 ∧ x.2.2.2.2.2.2.1 ≤ 9223372036854775807) ∧ (-9223372036854775808 ≤ x.2.2.2.2.2.2.2 ∧ x.2.2.2.2.2.2.2 ≤ 9223372036854775807) := by
  obtain ⟨_, _, rfl, a_0, b_0⟩ := Rep.pair_raw h
  obtain ⟨rfl, r_0⟩ := Rep.int_raw a_0
  obtain ⟨_, _, rfl, a_1, b_1⟩ := Rep.pair_raw b_0
  obtain rfl := Rep.bool_raw a_1
  obtain ⟨_, _, rfl, a_2, b_2⟩ := Rep.pair_raw b_1
  have q_2 := RInterest_raw a_2
  obtain ⟨_, rfl, s_2_0, s_2_1, s_2_2, s_2_3, s_2_4⟩ := q_2
  have q_3 := RData_raw b_2
  obtain ⟨_, _, _, rfl, s_3_0, s_3_1, s_3_2, s_3_3, s_3_4, s_3_5, s_3_6⟩ := q_3
  exact ⟨_, _, _, _, rfl, r_0, a_2, s_2_0, s_2_1, s_2_2, s_2_3, s_2_4, b_2, s_3_0, s_3_1, s_3_2, s_3_3, s_3_4, s_3_5, s_3_6⟩
theorem ROutgoing_sub_2 : Rep.Sub ROutgoing RInterest (fun x => x.2.2.1) (fun x y => (x.1, x.2.1, y, x.2.2.2)) 2 := Rep.Sub.right (Rep.Sub.right (Rep.Sub.left (Rep.Sub.refl RInterest) (by decide)) rfl) rfl
theorem ROutgoing_sub_2_0 : Rep.Sub ROutgoing RName (fun x => x.2.2.1.1) (fun x y => (x.1, x.2.1, (y, x.2.2.1.2.1, x.2.2.1.2.2.1, x.2.2.1.2.2.2), x.2.2.2)) 2 := Rep.Sub.right (Rep.Sub.right (Rep.Sub.left (Rep.Sub.left (Rep.Sub.refl RName) (by decide)) (by decide)) rfl) rfl
theorem ROutgoing_sub_2_0_0 : Rep.Sub ROutgoing (Rep.slice 9 Rep.str) (fun x => x.2.2.1.1) (fun x y => (x.1, x.2.1, (y, x.2.2.1.2.1, x.2.2.1.2.2.1, x.2.2.1.2.2.2), x.2.2.2)) 2 := Rep.Sub.right (Rep.Sub.right (Rep.Sub.left (Rep.Sub.left (Rep.Sub.refl (Rep.slice 9 Rep.str)) (by decide)) (by decide)) rfl) rfl
theorem ROutgoing_sub_3 : Rep.Sub ROutgoing RData (fun x => x.2.2.2) (fun x y => (x.1, x.2.1, x.2.2.1, y)) 6 := Rep.Sub.right (Rep.Sub.right (Rep.Sub.right (Rep.Sub.refl RData) rfl) rfl) rfl
theorem ROutgoing_sub_3_0 : Rep.Sub ROutgoing RName (fun x => x.2.2.2.1) (fun x y => (x.1, x.2.1, x.2.2.1, (y, x.2.2.2.2.1, x.2.2.2.2.2.1, x.2.2.2.2.2.2.1, x.2.2.2.2.2.2.2))) 6 := Rep.Sub.right (Rep.Sub.right (Rep.Sub.right (Rep.Sub.left (Rep.Sub.refl RName) (by decide)) rfl) rfl) rfl
theorem ROutgoing_sub_3_0_0 : Rep.Sub ROutgoing (Rep.slice 9 Rep.str) (fun x => x.2.2.2.1) (fun x y => (x.1, x.2.1, x.2.2.1, (y, x.2.2.2.2.1, x.2.2.2.2.2.1, x.2.2.2.2.2.2.1, x.2.2.2.2.2.2.2))) 6 := Rep.Sub.right (Rep.Sub.right (Rep.Sub.right (Rep.Sub.left (Rep.Sub.refl (Rep.slice 9 Rep.str)) (by decide)) rfl) rfl) rfl
theorem ROutgoing_sub_3_1 : Rep.Sub ROutgoing (Rep.slice 5 Rep.byte) (fun x => x.2.2.2.2.1) (fun x y => (x.1, x.2.1, x.2.2.1, (x.2.2.2.1, y, x.2.2.2.2.2.1, x.2.2.2.2.2.2.1, x.2.2.2.2.2.2.2))) 7 := Rep.Sub.right (Rep.Sub.right (Rep.Sub.right (Rep.Sub.right (Rep.Sub.left (Rep.Sub.refl (Rep.slice 5 Rep.byte)) (by decide)) rfl) rfl) rfl) rfl
theorem ROutgoing_sub_3_2 : Rep.Sub ROutgoing RName (fun x => x.2.2.2.2.2.1) (fun x y => (x.1, x.2.1, x.2.2.1, (x.2.2.2.1, x.2.2.2.2.1, y, x.2.2.2.2.2.2.1, x.2.2.2.2.2.2.2))) 8 := Rep.Sub.right (Rep.Sub.right (Rep.Sub.right (Rep.Sub.right (Rep.Sub.right (Rep.Sub.left (Rep.Sub.refl RName) (by decide)) rfl) rfl) rfl) rfl) rfl
theorem ROutgoing_sub_3_2_0 : Rep.Sub ROutgoing (Rep.slice 9 Rep.str) (fun x => x.2.2.2.2.2.1) (fun x y => (x.1, x.2.1, x.2.2.1, (x.2.2.2.1, x.2.2.2.2.1, y, x.2.2.2.2.2.2.1, x.2.2.2.2.2.2.2))) 8 := Rep.Sub.right (Rep.Sub.right (Rep.Sub.right (Rep.Sub.right (Rep.Sub.right (Rep.Sub.left (Rep.Sub.refl (Rep.slice 9 Rep.str)) (by decide)) rfl) rfl) rfl) rfl) rfl
def setOutgoing_0 (x : LOutgoing) (v : Int) : LOutgoing := (v, x.2.1, x.2.2.1, x.2.2.2)
theorem ROutgoing_set0 {x : LOutgoing} (v : Int) (hv : -9223372036854775808 ≤ v ∧ v ≤ 9223372036854775807) {w : World} {cs : List Value} {S : Nat → Prop} (h : ROutgoing.is true w cs x S) : ROutgoing.is true w (cs.set 0 (.int .i64 v)) (setOutgoing_0 x v) S := by
  obtain ⟨c0, d0, A0, B0, rfl, p0, q0, hA0, hB0, hd0⟩ := h
  obtain ⟨rfl, _⟩ := p0
  have e : (([.int .i64 x.1] ++ d0) : List Value).set 0 (.int .i64 v) = ([.int .i64 v] ++ d0) := by
    rfl
  rw [e]
  exact ⟨_, _, A0, B0, rfl, ⟨rfl, hv⟩, q0, hA0, hB0, hd0⟩
def setOutgoing_1 (x : LOutgoing) (v : Bool) : LOutgoing := (x.1, v, x.2.2.1, x.2.2.2)
theorem ROutgoing_set1 {x : LOutgoing} (v : Bool) {w : World} {cs : List Value} {S : Nat → Prop} (h : ROutgoing.is true w cs x S) : ROutgoing.is true w (cs.set 1 (.bool v)) (setOutgoing_1 x v) S := by
  obtain ⟨c0, d0, A0, B0, rfl, p0, q0, hA0, hB0, hd0⟩ := h
  obtain ⟨c1, d1, A1, B1, rfl, p1, q1, hA1, hB1, hd1⟩ := q0
  obtain rfl := (show _ = _ from p1)
  have l0 := Rep.len _ p0
  change _ = 1 at l0
  have e : ((c0 ++ ([.bool x.2.1] ++ d1)) : List Value).set 1 (.bool v) = (c0 ++ ([.bool v] ++ d1)) := by
    obtain ⟨y0_0, rfl⟩ : ∃ y0_0, c0 = [y0_0] := by match c0, l0 with | [y0_0], _ => exact ⟨_, rfl⟩
    rfl
  rw [e]
  exact ⟨_, _, A0, B0, rfl, p0, ⟨_, _, A1, B1, rfl, rfl, q1, hA1, hB1, hd1⟩, hA0, hB0, hd0⟩
def setOutgoing_3 (x : LOutgoing) (v : Int) : LOutgoing := (x.1, x.2.1, (x.2.2.1.1, v, x.2.2.1.2.2.1, x.2.2.1.2.2.2), x.2.2.2)
theorem ROutgoing_set3 {x : LOutgoing} (v : Int) (hv : -9223372036854775808 ≤ v ∧ v ≤ 9223372036854775807) {w : World} {cs : List Value} {S : Nat → Prop} (h : ROutgoing.is true w cs x S) : ROutgoing.is true w (cs.set 3 (.int .i64 v)) (setOutgoing_3 x v) S := by
  obtain ⟨c0, d0, A0, B0, rfl, p0, q0, hA0, hB0, hd0⟩ := h
  obtain ⟨c1, d1, A1, B1, rfl, p1, q1, hA1, hB1, hd1⟩ := q0
  obtain ⟨c2, d2, A2, B2, rfl, p2, q2, hA2, hB2, hd2⟩ := q1
  obtain ⟨c3, d3, A3, B3, rfl, p3, q3, hA3, hB3, hd3⟩ := p2
  obtain ⟨c4, d4, A4, B4, rfl, p4, q4, hA4, hB4, hd4⟩ := q3
  obtain ⟨rfl, _⟩ := p4
  have l0 := Rep.len _ p0
  have l1 := Rep.len _ p1
  have l3 := Rep.len _ p3
  change _ = 1 at l0; change _ = 1 at l1; change _ = 1 at l3
  have e : ((c0 ++ (c1 ++ ((c3 ++ ([.int .i64 x.2.2.1.2.1] ++ d4)) ++ d2))) : List Value).set 3 (.int .i64 v) = (c0 ++ (c1 ++ ((c3 ++ ([.int .i64 v] ++ d4)) ++ d2))) := by
    obtain ⟨y0_0, rfl⟩ : ∃ y0_0, c0 = [y0_0] := by match c0, l0 with | [y0_0], _ => exact ⟨_, rfl⟩
    obtain ⟨y1_0, rfl⟩ : ∃ y1_0, c1 = [y1_0] := by match c1, l1 with | [y1_0], _ => exact ⟨_, rfl⟩
    obtain ⟨y3_0, rfl⟩ : ∃ y3_0, c3 = [y3_0] := by match c3, l3 with | [y3_0], _ => exact ⟨_, rfl⟩
    rfl
  rw [e]
  exact ⟨_, _, A0, B0, rfl, p0, ⟨_, _, A1, B1, rfl, p1, ⟨_, _, A2, B2, rfl, ⟨_, _, A3, B3, rfl, p3, ⟨_, _, A4, B4, rfl, ⟨rfl, hv⟩, q4, hA4, hB4, hd4⟩, hA3, hB3, hd3⟩, q2, hA2, hB2, hd2⟩, hA1, hB1, hd1⟩, hA0, hB0, hd0⟩
def setOutgoing_4 (x : LOutgoing) (v : Int) : LOutgoing := (x.1, x.2.1, (x.2.2.1.1, x.2.2.1.2.1, v, x.2.2.1.2.2.2), x.2.2.2)
theorem ROutgoing_set4 {x : LOutgoing} (v : Int) (hv : -9223372036854775808 ≤ v ∧ v ≤ 9223372036854775807) {w : World} {cs : List Value} {S : Nat → Prop} (h : ROutgoing.is true w cs x S) : ROutgoing.is true w (cs.set 4 (.int .i64 v)) (setOutgoing_4 x v) S := by
  obtain ⟨c0, d0, A0, B0, rfl, p0, q0, hA0, hB0, hd0⟩ := h
  obtain ⟨c1, d1, A1, B1, rfl, p1, q1, hA1, hB1, hd1⟩ := q0
  obtain ⟨c2, d2, A2, B2, rfl, p2, q2, hA2, hB2, hd2⟩ := q1
  obtain ⟨c3, d3, A3, B3, rfl, p3, q3, hA3, hB3, hd3⟩ := p2
  obtain ⟨c4, d4, A4, B4, rfl, p4, q4, hA4, hB4, hd4⟩ := q3
  obtain ⟨c5, d5, A5, B5, rfl, p5, q5, hA5, hB5, hd5⟩ := q4
  obtain ⟨rfl, _⟩ := p5
  have l0 := Rep.len _ p0
  have l1 := Rep.len _ p1
  have l3 := Rep.len _ p3
  have l4 := Rep.len _ p4
  change _ = 1 at l0; change _ = 1 at l1; change _ = 1 at l3; change _ = 1 at l4
  have e : ((c0 ++ (c1 ++ ((c3 ++ (c4 ++ ([.int .i64 x.2.2.1.2.2.1] ++ d5))) ++ d2))) : List Value).set 4 (.int .i64 v) = (c0 ++ (c1 ++ ((c3 ++ (c4 ++ ([.int .i64 v] ++ d5))) ++ d2))) := by
    obtain ⟨y0_0, rfl⟩ : ∃ y0_0, c0 = [y0_0] := by match c0, l0 with | [y0_0], _ => exact ⟨_, rfl⟩
    obtain ⟨y1_0, rfl⟩ : ∃ y1_0, c1 = [y1_0] := by match c1, l1 with | [y1_0], _ => exact ⟨_, rfl⟩
    obtain ⟨y3_0, rfl⟩ : ∃ y3_0, c3 = [y3_0] := by match c3, l3 with | [y3_0], _ => exact ⟨_, rfl⟩
    obtain ⟨y4_0, rfl⟩ : ∃ y4_0, c4 = [y4_0] := by match c4, l4 with | [y4_0], _ => exact ⟨_, rfl⟩
    rfl
  rw [e]
  exact ⟨_, _, A0, B0, rfl, p0, ⟨_, _, A1, B1, rfl, p1, ⟨_, _, A2, B2, rfl, ⟨_, _, A3, B3, rfl, p3, ⟨_, _, A4, B4, rfl, p4, ⟨_, _, A5, B5, rfl, ⟨rfl, hv⟩, q5, hA5, hB5, hd5⟩, hA4, hB4, hd4⟩, hA3, hB3, hd3⟩, q2, hA2, hB2, hd2⟩, hA1, hB1, hd1⟩, hA0, hB0, hd0⟩
def setOutgoing_5 (x : LOutgoing) (v : Int) : LOutgoing := (x.1, x.2.1, (x.2.2.1.1, x.2.2.1.2.1, x.2.2.1.2.2.1, v), x.2.2.2)
theorem ROutgoing_set5 {x : LOutgoing} (v : Int) (hv : -9223372036854775808 ≤ v ∧ v ≤ 9223372036854775807) {w : World} {cs : List Value} {S : Nat → Prop} (h : ROutgoing.is true w cs x S) : ROutgoing.is true w (cs.set 5 (.int .i64 v)) (setOutgoing_5 x v) S := by
  obtain ⟨c0, d0, A0, B0, rfl, p0, q0, hA0, hB0, hd0⟩ := h
  obtain ⟨c1, d1, A1, B1, rfl, p1, q1, hA1, hB1, hd1⟩ := q0
  obtain ⟨c2, d2, A2, B2, rfl, p2, q2, hA2, hB2, hd2⟩ := q1
  obtain ⟨c3, d3, A3, B3, rfl, p3, q3, hA3, hB3, hd3⟩ := p2
  obtain ⟨c4, d4, A4, B4, rfl, p4, q4, hA4, hB4, hd4⟩ := q3
  obtain ⟨c5, d5, A5, B5, rfl, p5, q5, hA5, hB5, hd5⟩ := q4
  obtain ⟨rfl, _⟩ := q5
  have l0 := Rep.len _ p0
  have l1 := Rep.len _ p1
  have l3 := Rep.len _ p3
  have l4 := Rep.len _ p4
  have l5 := Rep.len _ p5
  change _ = 1 at l0; change _ = 1 at l1; change _ = 1 at l3; change _ = 1 at l4; change _ = 1 at l5
  have e : ((c0 ++ (c1 ++ ((c3 ++ (c4 ++ (c5 ++ [.int .i64 x.2.2.1.2.2.2]))) ++ d2))) : List Value).set 5 (.int .i64 v) = (c0 ++ (c1 ++ ((c3 ++ (c4 ++ (c5 ++ [.int .i64 v]))) ++ d2))) := by
    obtain ⟨y0_0, rfl⟩ : ∃ y0_0, c0 = [y0_0] := by match c0, l0 with | [y0_0], _ => exact ⟨_, rfl⟩
    obtain ⟨y1_0, rfl⟩ : ∃ y1_0, c1 = [y1_0] := by match c1, l1 with | [y1_0], _ => exact ⟨_, rfl⟩
    obtain ⟨y3_0, rfl⟩ : ∃ y3_0, c3 = [y3_0] := by match c3, l3 with | [y3_0], _ => exact ⟨_, rfl⟩
    obtain ⟨y4_0, rfl⟩ : ∃ y4_0, c4 = [y4_0] := by match c4, l4 with | [y4_0], _ => exact ⟨_, rfl⟩
    obtain ⟨y5_0, rfl⟩ : ∃ y5_0, c5 = [y5_0] := by match c5, l5 with | [y5_0], _ => exact ⟨_, rfl⟩
    rfl
  rw [e]
  exact ⟨_, _, A0, B0, rfl, p0, ⟨_, _, A1, B1, rfl, p1, ⟨_, _, A2, B2, rfl, ⟨_, _, A3, B3, rfl, p3, ⟨_, _, A4, B4, rfl, p4, ⟨_, _, A5, B5, rfl, p5, ⟨rfl, hv⟩, hA5, hB5, hd5⟩, hA4, hB4, hd4⟩, hA3, hB3, hd3⟩, q2, hA2, hB2, hd2⟩, hA1, hB1, hd1⟩, hA0, hB0, hd0⟩
def setOutgoing_9 (x : LOutgoing) (v : Int) : LOutgoing := (x.1, x.2.1, x.2.2.1, (x.2.2.2.1, x.2.2.2.2.1, x.2.2.2.2.2.1, v, x.2.2.2.2.2.2.2))
theorem ROutgoing_set9 {x : LOutgoing} (v : Int) (hv : -9223372036854775808 ≤ v ∧ v ≤ 9223372036854775807) {w : World} {cs : List Value} {S : Nat → Prop} (h : ROutgoing.is true w cs x S) : ROutgoing.is true w (cs.set 9 (.int .i64 v)) (setOutgoing_9 x v) S := by
  obtain ⟨c0, d0, A0, B0, rfl, p0, q0, hA0, hB0, hd0⟩ := h
  obtain ⟨c1, d1, A1, B1, rfl, p1, q1, hA1, hB1, hd1⟩ := q0
  obtain ⟨c2, d2, A2, B2, rfl, p2, q2, hA2, hB2, hd2⟩ := q1
  obtain ⟨c3, d3, A3, B3, rfl, p3, q3, hA3, hB3, hd3⟩ := q2
  obtain ⟨c4, d4, A4, B4, rfl, p4, q4, hA4, hB4, hd4⟩ := q3
  obtain ⟨c5, d5, A5, B5, rfl, p5, q5, hA5, hB5, hd5⟩ := q4
  obtain ⟨c6, d6, A6, B6, rfl, p6, q6, hA6, hB6, hd6⟩ := q5
  obtain ⟨rfl, _⟩ := p6
  have l0 := Rep.len _ p0
  have l1 := Rep.len _ p1
  have l2 := Rep.len _ p2
  have l3 := Rep.len _ p3
  have l4 := Rep.len _ p4
  have l5 := Rep.len _ p5
  change _ = 1 at l0; change _ = 1 at l1; change _ = 4 at l2; change _ = 1 at l3; change _ = 1 at l4; change _ = 1 at l5
  have e : ((c0 ++ (c1 ++ (c2 ++ (c3 ++ (c4 ++ (c5 ++ ([.int .i64 x.2.2.2.2.2.2.1] ++ d6))))))) : List Value).set 9 (.int .i64 v) = (c0 ++ (c1 ++ (c2 ++ (c3 ++ (c4 ++ (c5 ++ ([.int .i64 v] ++ d6))))))) := by
    obtain ⟨y0_0, rfl⟩ : ∃ y0_0, c0 = [y0_0] := by match c0, l0 with | [y0_0], _ => exact ⟨_, rfl⟩
    obtain ⟨y1_0, rfl⟩ : ∃ y1_0, c1 = [y1_0] := by match c1, l1 with | [y1_0], _ => exact ⟨_, rfl⟩
    obtain ⟨y2_0, y2_1, y2_2, y2_3, rfl⟩ : ∃ y2_0 y2_1 y2_2 y2_3, c2 = [y2_0, y2_1, y2_2, y2_3] := by match c2, l2 with | [y2_0, y2_1, y2_2, y2_3], _ => exact ⟨_, _, _, _, rfl⟩
    obtain ⟨y3_0, rfl⟩ : ∃ y3_0, c3 = [y3_0] := by match c3, l3 with | [y3_0], _ => exact ⟨_, rfl⟩
    obtain ⟨y4_0, rfl⟩ : ∃ y4_0, c4 = [y4_0] := by match c4, l4 with | [y4_0], _ => exact ⟨_, rfl⟩
    obtain ⟨y5_0, rfl⟩ : ∃ y5_0, c5 = [y5_0] := by match c5, l5 with | [y5_0], _ => exact ⟨_, rfl⟩
    rfl
  rw [e]
  exact ⟨_, _, A0, B0, rfl, p0, ⟨_, _, A1, B1, rfl, p1, ⟨_, _, A2, B2, rfl, p2, ⟨_, _, A3, B3, rfl, p3, ⟨_, _, A4, B4, rfl, p4, ⟨_, _, A5, B5, rfl, p5, ⟨_, _, A6, B6, rfl, ⟨rfl, hv⟩, q6, hA6, hB6, hd6⟩, hA5, hB5, hd5⟩, hA4, hB4, hd4⟩, hA3, hB3, hd3⟩, hA2, hB2, hd2⟩, hA1, hB1, hd1⟩, hA0, hB0, hd0⟩
def setOutgoing_10 (x : LOutgoing) (v : Int) : LOutgoing := (x.1, x.2.1, x.2.2.1, (x.2.2.2.1, x.2.2.2.2.1, x.2.2.2.2.2.1, x.2.2.2.2.2.2.1, v))
theorem ROutgoing_set10 {x : LOutgoing} (v : Int) (hv : -9223372036854775808 ≤ v ∧ v ≤ 9223372036854775807) {w : World} {cs : List Value} {S : Nat → Prop} (h : ROutgoing.is true w cs x S) : ROutgoing.is true w (cs.set 10 (.int .i64 v)) (setOutgoing_10 x v) S := by
  obtain ⟨c0, d0, A0, B0, rfl, p0, q0, hA0, hB0, hd0⟩ := h
  obtain ⟨c1, d1, A1, B1, rfl, p1, q1, hA1, hB1, hd1⟩ := q0
  obtain ⟨c2, d2, A2, B2, rfl, p2, q2, hA2, hB2, hd2⟩ := q1
  obtain ⟨c3, d3, A3, B3, rfl, p3, q3, hA3, hB3, hd3⟩ := q2
  obtain ⟨c4, d4, A4, B4, rfl, p4, q4, hA4, hB4, hd4⟩ := q3
  obtain ⟨c5, d5, A5, B5, rfl, p5, q5, hA5, hB5, hd5⟩ := q4
  obtain ⟨c6, d6, A6, B6, rfl, p6, q6, hA6, hB6, hd6⟩ := q5
  obtain ⟨rfl, _⟩ := q6
  have l0 := Rep.len _ p0
  have l1 := Rep.len _ p1
  have l2 := Rep.len _ p2
  have l3 := Rep.len _ p3
  have l4 := Rep.len _ p4
  have l5 := Rep.len _ p5
  have l6 := Rep.len _ p6
  change _ = 1 at l0; change _ = 1 at l1; change _ = 4 at l2; change _ = 1 at l3; change _ = 1 at l4; change _ = 1 at l5; change _ = 1 at l6
  have e : ((c0 ++ (c1 ++ (c2 ++ (c3 ++ (c4 ++ (c5 ++ (c6 ++ [.int .i64 x.2.2.2.2.2.2.2]))))))) : List Value).set 10 (.int .i64 v) = (c0 ++ (c1 ++ (c2 ++ (c3 ++ (c4 ++ (c5 ++ (c6 ++ [.int .i64 v]))))))) := by
    obtain ⟨y0_0, rfl⟩ : ∃ y0_0, c0 = [y0_0] := by match c0, l0 with | [y0_0], _ => exact ⟨_, rfl⟩
    obtain ⟨y1_0, rfl⟩ : ∃ y1_0, c1 = [y1_0] := by match c1, l1 with | [y1_0], _ => exact ⟨_, rfl⟩
    obtain ⟨y2_0, y2_1, y2_2, y2_3, rfl⟩ : ∃ y2_0 y2_1 y2_2 y2_3, c2 = [y2_0, y2_1, y2_2, y2_3] := by match c2, l2 with | [y2_0, y2_1, y2_2, y2_3], _ => exact ⟨_, _, _, _, rfl⟩
    obtain ⟨y3_0, rfl⟩ : ∃ y3_0, c3 = [y3_0] := by match c3, l3 with | [y3_0], _ => exact ⟨_, rfl⟩
    obtain ⟨y4_0, rfl⟩ : ∃ y4_0, c4 = [y4_0] := by match c4, l4 with | [y4_0], _ => exact ⟨_, rfl⟩
    obtain ⟨y5_0, rfl⟩ : ∃ y5_0, c5 = [y5_0] := by match c5, l5 with | [y5_0], _ => exact ⟨_, rfl⟩
    obtain ⟨y6_0, rfl⟩ : ∃ y6_0, c6 = [y6_0] := by match c6, l6 with | [y6_0], _ => exact ⟨_, rfl⟩
    rfl
  rw [e]
  exact ⟨_, _, A0, B0, rfl, p0, ⟨_, _, A1, B1, rfl, p1, ⟨_, _, A2, B2, rfl, p2, ⟨_, _, A3, B3, rfl, p3, ⟨_, _, A4, B4, rfl, p4, ⟨_, _, A5, B5, rfl, p5, ⟨_, _, A6, B6, rfl, p6, ⟨rfl, hv⟩, hA6, hB6, hd6⟩, hA5, hB5, hd5⟩, hA4, hB4, hd4⟩, hA3, hB3, hd3⟩, hA2, hB2, hd2⟩, hA1, hB1, hd1⟩, hA0, hB0, hd0⟩
abbrev LAction := LNode × (List LOutgoing)
instance decAction : DecidableEq LAction := inferInstanceAs (DecidableEq (LNode × (List LOutgoing)))
def RAction : Rep LAction := .pair RNode (.slice 128 ROutgoing)
theorem RAction_n : RAction.n = 9 := rfl
theorem RAction_raw {w : World} {cs : List Value} {x : LAction} (h : RAction.raw w cs x) : ∃ v0 v2 v3 v4 v5 v6 v8, cs = [v0, .int .i64 x.1.2.1.1, v2, v3, v4, v5, v6, .int .i64 x.1.2.2.2.2.2.2, v8] ∧ RNode.raw w [v0, .int .i64 x.1.2.1.1, v2, v3, v4, v5, v6, .int .i64 x.1.2.2.2.2.2.2] x.1 ∧ (Rep.slice 66 RData).raw w [v0] x.1.1 ∧ RContentStore.raw w [.int .i64 x.1.2.1.1, v2] x.1.2.1 ∧ (-9223372036854775808 ≤ x.1.2.1.1 ∧ x.1.2.1.1 ≤ 9223372036854775807) ∧ (Rep.slice 212 RCacheEntry).raw w [v2] x.1.2.1.2 ∧ (Rep.slice 175 RPendingInterest).raw w [v3] x.1.2.2.1 ∧ (Rep.slice 178 RSeenNonce).raw w [v4] x.1.2.2.2.1 ∧ (Rep.slice 181 RRoute).raw w [v5] x.1.2.2.2.2.1 ∧ (Rep.slice 184 RMeasurement).raw w [v6] x.1.2.2.2.2.2.1 ∧ (-9223372036854775808 ≤ x.1.2.2.2.2.2.2 ∧ x.1.2.2.2.2.2.2 ≤ 9223372036854775807) ∧ (Rep.slice 128 ROutgoing).raw w [v8] x.2 := by
  obtain ⟨_, _, rfl, a_0, b_0⟩ := Rep.pair_raw h
  have q_0 := RNode_raw a_0
  obtain ⟨_, _, _, _, _, _, rfl, s_0_0, s_0_1, s_0_2, s_0_3, s_0_4, s_0_5, s_0_6, s_0_7, s_0_8⟩ := q_0
  obtain ⟨_, rfl, r_1⟩ := Rep.slice_raw b_0
  exact ⟨_, _, _, _, _, _, _, rfl, a_0, s_0_0, s_0_1, s_0_2, s_0_3, s_0_4, s_0_5, s_0_6, s_0_7, s_0_8, r_1⟩
theorem RAction_sub_0 : Rep.Sub RAction RNode (fun x => x.1) (fun x y => (y, x.2)) 0 := Rep.Sub.left (Rep.Sub.refl RNode) (by decide)
theorem RAction_sub_0_0 : Rep.Sub RAction (Rep.slice 66 RData) (fun x => x.1.1) (fun x y => ((y, x.1.2.1, x.1.2.2.1, x.1.2.2.2.1, x.1.2.2.2.2.1, x.1.2.2.2.2.2.1, x.1.2.2.2.2.2.2), x.2)) 0 := Rep.Sub.left (Rep.Sub.left (Rep.Sub.refl (Rep.slice 66 RData)) (by decide)) (by decide)
theorem RAction_sub_0_1 : Rep.Sub RAction RContentStore (fun x => x.1.2.1) (fun x y => ((x.1.1, y, x.1.2.2.1, x.1.2.2.2.1, x.1.2.2.2.2.1, x.1.2.2.2.2.2.1, x.1.2.2.2.2.2.2), x.2)) 1 := Rep.Sub.left (Rep.Sub.right (Rep.Sub.left (Rep.Sub.refl RContentStore) (by decide)) rfl) (by decide)
theorem RAction_sub_0_1_1 : Rep.Sub RAction (Rep.slice 212 RCacheEntry) (fun x => x.1.2.1.2) (fun x y => ((x.1.1, (x.1.2.1.1, y), x.1.2.2.1, x.1.2.2.2.1, x.1.2.2.2.2.1, x.1.2.2.2.2.2.1, x.1.2.2.2.2.2.2), x.2)) 2 := Rep.Sub.left (Rep.Sub.right (Rep.Sub.left (Rep.Sub.right (Rep.Sub.refl (Rep.slice 212 RCacheEntry)) rfl) (by decide)) rfl) (by decide)
theorem RAction_sub_0_2 : Rep.Sub RAction (Rep.slice 175 RPendingInterest) (fun x => x.1.2.2.1) (fun x y => ((x.1.1, x.1.2.1, y, x.1.2.2.2.1, x.1.2.2.2.2.1, x.1.2.2.2.2.2.1, x.1.2.2.2.2.2.2), x.2)) 3 := Rep.Sub.left (Rep.Sub.right (Rep.Sub.right (Rep.Sub.left (Rep.Sub.refl (Rep.slice 175 RPendingInterest)) (by decide)) rfl) rfl) (by decide)
theorem RAction_sub_0_3 : Rep.Sub RAction (Rep.slice 178 RSeenNonce) (fun x => x.1.2.2.2.1) (fun x y => ((x.1.1, x.1.2.1, x.1.2.2.1, y, x.1.2.2.2.2.1, x.1.2.2.2.2.2.1, x.1.2.2.2.2.2.2), x.2)) 4 := Rep.Sub.left (Rep.Sub.right (Rep.Sub.right (Rep.Sub.right (Rep.Sub.left (Rep.Sub.refl (Rep.slice 178 RSeenNonce)) (by decide)) rfl) rfl) rfl) (by decide)
theorem RAction_sub_0_4 : Rep.Sub RAction (Rep.slice 181 RRoute) (fun x => x.1.2.2.2.2.1) (fun x y => ((x.1.1, x.1.2.1, x.1.2.2.1, x.1.2.2.2.1, y, x.1.2.2.2.2.2.1, x.1.2.2.2.2.2.2), x.2)) 5 := Rep.Sub.left (Rep.Sub.right (Rep.Sub.right (Rep.Sub.right (Rep.Sub.right (Rep.Sub.left (Rep.Sub.refl (Rep.slice 181 RRoute)) (by decide)) rfl) rfl) rfl) rfl) (by decide)
theorem RAction_sub_0_5 : Rep.Sub RAction (Rep.slice 184 RMeasurement) (fun x => x.1.2.2.2.2.2.1) (fun x y => ((x.1.1, x.1.2.1, x.1.2.2.1, x.1.2.2.2.1, x.1.2.2.2.2.1, y, x.1.2.2.2.2.2.2), x.2)) 6 := Rep.Sub.left (Rep.Sub.right (Rep.Sub.right (Rep.Sub.right (Rep.Sub.right (Rep.Sub.right (Rep.Sub.left (Rep.Sub.refl (Rep.slice 184 RMeasurement)) (by decide)) rfl) rfl) rfl) rfl) rfl) (by decide)
theorem RAction_sub_1 : Rep.Sub RAction (Rep.slice 128 ROutgoing) (fun x => x.2) (fun x y => (x.1, y)) 8 := Rep.Sub.right (Rep.Sub.refl (Rep.slice 128 ROutgoing)) rfl
def setAction_1 (x : LAction) (v : Int) : LAction := ((x.1.1, (v, x.1.2.1.2), x.1.2.2.1, x.1.2.2.2.1, x.1.2.2.2.2.1, x.1.2.2.2.2.2.1, x.1.2.2.2.2.2.2), x.2)
theorem RAction_set1 {x : LAction} (v : Int) (hv : -9223372036854775808 ≤ v ∧ v ≤ 9223372036854775807) {w : World} {cs : List Value} {S : Nat → Prop} (h : RAction.is true w cs x S) : RAction.is true w (cs.set 1 (.int .i64 v)) (setAction_1 x v) S := by
  obtain ⟨c0, d0, A0, B0, rfl, p0, q0, hA0, hB0, hd0⟩ := h
  obtain ⟨c1, d1, A1, B1, rfl, p1, q1, hA1, hB1, hd1⟩ := p0
  obtain ⟨c2, d2, A2, B2, rfl, p2, q2, hA2, hB2, hd2⟩ := q1
  obtain ⟨c3, d3, A3, B3, rfl, p3, q3, hA3, hB3, hd3⟩ := p2
  obtain ⟨rfl, _⟩ := p3
  have l1 := Rep.len _ p1
  change _ = 1 at l1
  have e : (((c1 ++ (([.int .i64 x.1.2.1.1] ++ d3) ++ d2)) ++ d0) : List Value).set 1 (.int .i64 v) = ((c1 ++ (([.int .i64 v] ++ d3) ++ d2)) ++ d0) := by
    obtain ⟨y1_0, rfl⟩ : ∃ y1_0, c1 = [y1_0] := by match c1, l1 with | [y1_0], _ => exact ⟨_, rfl⟩
    rfl
  rw [e]
  exact ⟨_, _, A0, B0, rfl, ⟨_, _, A1, B1, rfl, p1, ⟨_, _, A2, B2, rfl, ⟨_, _, A3, B3, rfl, ⟨rfl, hv⟩, q3, hA3, hB3, hd3⟩, q2, hA2, hB2, hd2⟩, hA1, hB1, hd1⟩, q0, hA0, hB0, hd0⟩
def setAction_7 (x : LAction) (v : Int) : LAction := ((x.1.1, x.1.2.1, x.1.2.2.1, x.1.2.2.2.1, x.1.2.2.2.2.1, x.1.2.2.2.2.2.1, v), x.2)
theorem RAction_set7 {x : LAction} (v : Int) (hv : -9223372036854775808 ≤ v ∧ v ≤ 9223372036854775807) {w : World} {cs : List Value} {S : Nat → Prop} (h : RAction.is true w cs x S) : RAction.is true w (cs.set 7 (.int .i64 v)) (setAction_7 x v) S := by
  obtain ⟨c0, d0, A0, B0, rfl, p0, q0, hA0, hB0, hd0⟩ := h
  obtain ⟨c1, d1, A1, B1, rfl, p1, q1, hA1, hB1, hd1⟩ := p0
  obtain ⟨c2, d2, A2, B2, rfl, p2, q2, hA2, hB2, hd2⟩ := q1
  obtain ⟨c3, d3, A3, B3, rfl, p3, q3, hA3, hB3, hd3⟩ := q2
  obtain ⟨c4, d4, A4, B4, rfl, p4, q4, hA4, hB4, hd4⟩ := q3
  obtain ⟨c5, d5, A5, B5, rfl, p5, q5, hA5, hB5, hd5⟩ := q4
  obtain ⟨c6, d6, A6, B6, rfl, p6, q6, hA6, hB6, hd6⟩ := q5
  obtain ⟨rfl, _⟩ := q6
  have l1 := Rep.len _ p1
  have l2 := Rep.len _ p2
  have l3 := Rep.len _ p3
  have l4 := Rep.len _ p4
  have l5 := Rep.len _ p5
  have l6 := Rep.len _ p6
  change _ = 1 at l1; change _ = 2 at l2; change _ = 1 at l3; change _ = 1 at l4; change _ = 1 at l5; change _ = 1 at l6
  have e : (((c1 ++ (c2 ++ (c3 ++ (c4 ++ (c5 ++ (c6 ++ [.int .i64 x.1.2.2.2.2.2.2])))))) ++ d0) : List Value).set 7 (.int .i64 v) = ((c1 ++ (c2 ++ (c3 ++ (c4 ++ (c5 ++ (c6 ++ [.int .i64 v])))))) ++ d0) := by
    obtain ⟨y1_0, rfl⟩ : ∃ y1_0, c1 = [y1_0] := by match c1, l1 with | [y1_0], _ => exact ⟨_, rfl⟩
    obtain ⟨y2_0, y2_1, rfl⟩ : ∃ y2_0 y2_1, c2 = [y2_0, y2_1] := by match c2, l2 with | [y2_0, y2_1], _ => exact ⟨_, _, rfl⟩
    obtain ⟨y3_0, rfl⟩ : ∃ y3_0, c3 = [y3_0] := by match c3, l3 with | [y3_0], _ => exact ⟨_, rfl⟩
    obtain ⟨y4_0, rfl⟩ : ∃ y4_0, c4 = [y4_0] := by match c4, l4 with | [y4_0], _ => exact ⟨_, rfl⟩
    obtain ⟨y5_0, rfl⟩ : ∃ y5_0, c5 = [y5_0] := by match c5, l5 with | [y5_0], _ => exact ⟨_, rfl⟩
    obtain ⟨y6_0, rfl⟩ : ∃ y6_0, c6 = [y6_0] := by match c6, l6 with | [y6_0], _ => exact ⟨_, rfl⟩
    rfl
  rw [e]
  exact ⟨_, _, A0, B0, rfl, ⟨_, _, A1, B1, rfl, p1, ⟨_, _, A2, B2, rfl, p2, ⟨_, _, A3, B3, rfl, p3, ⟨_, _, A4, B4, rfl, p4, ⟨_, _, A5, B5, rfl, p5, ⟨_, _, A6, B6, rfl, p6, ⟨rfl, hv⟩, hA6, hB6, hd6⟩, hA5, hB5, hd5⟩, hA4, hB4, hd4⟩, hA3, hB3, hd3⟩, hA2, hB2, hd2⟩, hA1, hB1, hd1⟩, q0, hA0, hB0, hd0⟩
abbrev LKey := LName × Int
instance decKey : DecidableEq LKey := inferInstanceAs (DecidableEq (LName × Int))
def RKey : Rep LKey := .pair RName .int
theorem RKey_n : RKey.n = 2 := rfl
theorem RKey_raw {w : World} {cs : List Value} {x : LKey} (h : RKey.raw w cs x) : ∃ v0, cs = [v0, .int .i64 x.2] ∧ RName.raw w [v0] x.1 ∧ (Rep.slice 9 Rep.str).raw w [v0] x.1 ∧ (-9223372036854775808 ≤ x.2 ∧ x.2 ≤ 9223372036854775807) := by
  obtain ⟨_, _, rfl, a_0, b_0⟩ := Rep.pair_raw h
  have q_0 := RName_raw a_0
  obtain ⟨_, rfl, s_0_0⟩ := q_0
  obtain ⟨rfl, r_1⟩ := Rep.int_raw b_0
  exact ⟨_, rfl, a_0, s_0_0, r_1⟩
theorem RKey_sub_0 : Rep.Sub RKey RName (fun x => x.1) (fun x y => (y, x.2)) 0 := Rep.Sub.left (Rep.Sub.refl RName) (by decide)
theorem RKey_sub_0_0 : Rep.Sub RKey (Rep.slice 9 Rep.str) (fun x => x.1) (fun x y => (y, x.2)) 0 := Rep.Sub.left (Rep.Sub.refl (Rep.slice 9 Rep.str)) (by decide)
def setKey_1 (x : LKey) (v : Int) : LKey := (x.1, v)
theorem RKey_set1 {x : LKey} (v : Int) (hv : -9223372036854775808 ≤ v ∧ v ≤ 9223372036854775807) {w : World} {cs : List Value} {S : Nat → Prop} (h : RKey.is true w cs x S) : RKey.is true w (cs.set 1 (.int .i64 v)) (setKey_1 x v) S := by
  obtain ⟨c0, d0, A0, B0, rfl, p0, q0, hA0, hB0, hd0⟩ := h
  obtain ⟨rfl, _⟩ := q0
  have l0 := Rep.len _ p0
  change _ = 1 at l0
  have e : ((c0 ++ [.int .i64 x.2]) : List Value).set 1 (.int .i64 v) = (c0 ++ [.int .i64 v]) := by
    obtain ⟨y0_0, rfl⟩ : ∃ y0_0, c0 = [y0_0] := by match c0, l0 with | [y0_0], _ => exact ⟨_, rfl⟩
    rfl
  rw [e]
  exact ⟨_, _, A0, B0, rfl, p0, ⟨rfl, hv⟩, hA0, hB0, hd0⟩
abbrev LPattern := (List ByteArray)
instance decPattern : DecidableEq LPattern := inferInstanceAs (DecidableEq ((List ByteArray)))
def RPattern : Rep LPattern := (.slice 9 .str)
theorem RPattern_n : RPattern.n = 1 := rfl
theorem RPattern_raw {w : World} {cs : List Value} {x : LPattern} (h : RPattern.raw w cs x) : ∃ v0, cs = [v0] ∧ (Rep.slice 9 Rep.str).raw w [v0] x := by
  obtain ⟨_, rfl, r_0⟩ := Rep.slice_raw h
  exact ⟨_, rfl, r_0⟩
theorem RPattern_sub_0 : Rep.Sub RPattern (Rep.slice 9 Rep.str) (fun x => x) (fun x y => y) 0 := Rep.Sub.refl (Rep.slice 9 Rep.str)
abbrev LRule := LPattern × LPattern
instance decRule : DecidableEq LRule := inferInstanceAs (DecidableEq (LPattern × LPattern))
def RRule : Rep LRule := .pair RPattern RPattern
theorem RRule_n : RRule.n = 2 := rfl
theorem RRule_raw {w : World} {cs : List Value} {x : LRule} (h : RRule.raw w cs x) : ∃ v0 v1, cs = [v0, v1] ∧ RPattern.raw w [v0] x.1 ∧ (Rep.slice 9 Rep.str).raw w [v0] x.1 ∧ RPattern.raw w [v1] x.2 ∧ (Rep.slice 9 Rep.str).raw w [v1] x.2 := by
  obtain ⟨_, _, rfl, a_0, b_0⟩ := Rep.pair_raw h
  have q_0 := RPattern_raw a_0
  obtain ⟨_, rfl, s_0_0⟩ := q_0
  have q_1 := RPattern_raw b_0
  obtain ⟨_, rfl, s_1_0⟩ := q_1
  exact ⟨_, _, rfl, a_0, s_0_0, b_0, s_1_0⟩
theorem RRule_sub_0 : Rep.Sub RRule RPattern (fun x => x.1) (fun x y => (y, x.2)) 0 := Rep.Sub.left (Rep.Sub.refl RPattern) (by decide)
theorem RRule_sub_0_0 : Rep.Sub RRule (Rep.slice 9 Rep.str) (fun x => x.1) (fun x y => (y, x.2)) 0 := Rep.Sub.left (Rep.Sub.refl (Rep.slice 9 Rep.str)) (by decide)
theorem RRule_sub_1 : Rep.Sub RRule RPattern (fun x => x.2) (fun x y => (x.1, y)) 1 := Rep.Sub.right (Rep.Sub.refl RPattern) rfl
theorem RRule_sub_1_0 : Rep.Sub RRule (Rep.slice 9 Rep.str) (fun x => x.2) (fun x y => (x.1, y)) 1 := Rep.Sub.right (Rep.Sub.refl (Rep.slice 9 Rep.str)) rfl
abbrev LTrustPolicy := (List LKey) × (List LRule) × (List LName) × (List LData)
instance decTrustPolicy : DecidableEq LTrustPolicy := inferInstanceAs (DecidableEq ((List LKey) × (List LRule) × (List LName) × (List LData)))
def RTrustPolicy : Rep LTrustPolicy := .pair (.slice 187 RKey) (.pair (.slice 191 RRule) (.pair (.slice 64 RName) (.slice 66 RData)))
theorem RTrustPolicy_n : RTrustPolicy.n = 4 := rfl
theorem RTrustPolicy_raw {w : World} {cs : List Value} {x : LTrustPolicy} (h : RTrustPolicy.raw w cs x) : ∃ v0 v1 v2 v3, cs = [v0, v1, v2, v3] ∧ (Rep.slice 187 RKey).raw w [v0] x.1 ∧ (Rep.slice 191 RRule).raw w [v1] x.2.1 ∧ (Rep.slice 64 RName).raw w [v2] x.2.2.1 ∧ (Rep.slice 66 RData).raw w [v3] x.2.2.2 := by
  obtain ⟨_, _, rfl, a_0, b_0⟩ := Rep.pair_raw h
  obtain ⟨_, rfl, r_0⟩ := Rep.slice_raw a_0
  obtain ⟨_, _, rfl, a_1, b_1⟩ := Rep.pair_raw b_0
  obtain ⟨_, rfl, r_1⟩ := Rep.slice_raw a_1
  obtain ⟨_, _, rfl, a_2, b_2⟩ := Rep.pair_raw b_1
  obtain ⟨_, rfl, r_2⟩ := Rep.slice_raw a_2
  obtain ⟨_, rfl, r_3⟩ := Rep.slice_raw b_2
  exact ⟨_, _, _, _, rfl, r_0, r_1, r_2, r_3⟩
theorem RTrustPolicy_sub_0 : Rep.Sub RTrustPolicy (Rep.slice 187 RKey) (fun x => x.1) (fun x y => (y, x.2.1, x.2.2.1, x.2.2.2)) 0 := Rep.Sub.left (Rep.Sub.refl (Rep.slice 187 RKey)) (by decide)
theorem RTrustPolicy_sub_1 : Rep.Sub RTrustPolicy (Rep.slice 191 RRule) (fun x => x.2.1) (fun x y => (x.1, y, x.2.2.1, x.2.2.2)) 1 := Rep.Sub.right (Rep.Sub.left (Rep.Sub.refl (Rep.slice 191 RRule)) (by decide)) rfl
theorem RTrustPolicy_sub_2 : Rep.Sub RTrustPolicy (Rep.slice 64 RName) (fun x => x.2.2.1) (fun x y => (x.1, x.2.1, y, x.2.2.2)) 2 := Rep.Sub.right (Rep.Sub.right (Rep.Sub.left (Rep.Sub.refl (Rep.slice 64 RName)) (by decide)) rfl) rfl
theorem RTrustPolicy_sub_3 : Rep.Sub RTrustPolicy (Rep.slice 66 RData) (fun x => x.2.2.2) (fun x y => (x.1, x.2.1, x.2.2.1, y)) 3 := Rep.Sub.right (Rep.Sub.right (Rep.Sub.right (Rep.Sub.refl (Rep.slice 66 RData)) rfl) rfl) rfl
abbrev LBinding := ByteArray × ByteArray
instance decBinding : DecidableEq LBinding := inferInstanceAs (DecidableEq (ByteArray × ByteArray))
def RBinding : Rep LBinding := .pair .str .str
theorem RBinding_n : RBinding.n = 2 := rfl
theorem RBinding_raw {w : World} {cs : List Value} {x : LBinding} (h : RBinding.raw w cs x) : cs = [.string x.1, .string x.2] ∧ x.1.size ≤ maxLen ∧ x.2.size ≤ maxLen := by
  obtain ⟨_, _, rfl, a_0, b_0⟩ := Rep.pair_raw h
  obtain ⟨rfl, r_0⟩ := Rep.str_raw a_0
  obtain ⟨rfl, r_1⟩ := Rep.str_raw b_0
  exact ⟨rfl, r_0, r_1⟩
def setBinding_0 (x : LBinding) (v : ByteArray) : LBinding := (v, x.2)
theorem RBinding_set0 {x : LBinding} (v : ByteArray) (hv : v.size ≤ maxLen) {w : World} {cs : List Value} {S : Nat → Prop} (h : RBinding.is true w cs x S) : RBinding.is true w (cs.set 0 (.string v)) (setBinding_0 x v) S := by
  obtain ⟨c0, d0, A0, B0, rfl, p0, q0, hA0, hB0, hd0⟩ := h
  obtain ⟨rfl, _⟩ := p0
  have e : (([.string x.1] ++ d0) : List Value).set 0 (.string v) = ([.string v] ++ d0) := by
    rfl
  rw [e]
  exact ⟨_, _, A0, B0, rfl, ⟨rfl, hv⟩, q0, hA0, hB0, hd0⟩
def setBinding_1 (x : LBinding) (v : ByteArray) : LBinding := (x.1, v)
theorem RBinding_set1 {x : LBinding} (v : ByteArray) (hv : v.size ≤ maxLen) {w : World} {cs : List Value} {S : Nat → Prop} (h : RBinding.is true w cs x S) : RBinding.is true w (cs.set 1 (.string v)) (setBinding_1 x v) S := by
  obtain ⟨c0, d0, A0, B0, rfl, p0, q0, hA0, hB0, hd0⟩ := h
  obtain ⟨rfl, _⟩ := q0
  have l0 := Rep.len _ p0
  change _ = 1 at l0
  have e : ((c0 ++ [.string x.2]) : List Value).set 1 (.string v) = (c0 ++ [.string v]) := by
    obtain ⟨y0_0, rfl⟩ : ∃ y0_0, c0 = [y0_0] := by match c0, l0 with | [y0_0], _ => exact ⟨_, rfl⟩
    rfl
  rw [e]
  exact ⟨_, _, A0, B0, rfl, p0, ⟨rfl, hv⟩, hA0, hB0, hd0⟩
end Go.Proofs.YtlfblpgkegeaeaaGreat

/-
  The program's types as plain data, and how their cells are taken apart. Printed by gentypes.py.
-/
import Derived.Test.YtikjbdfkdkijkaaOwn2
namespace Go.Proofs.Ytikjbdfkdkijkaa
open Go.RowKit
set_option linter.unusedVariables false
set_option linter.unusedSimpArgs false
set_option linter.unnecessarySimpa false

abbrev LName := (List ByteArray)
instance decName : DecidableEq LName := inferInstanceAs (DecidableEq ((List ByteArray)))
def RName : Rep LName := (.slice 9 .str)
theorem RName_n : RName.n = 1 := rfl
theorem RName_raw {w : World} {cs : List Value} {x : LName} (h : RName.raw w cs x) : ∃ v0, cs = [v0] ∧ (Rep.slice 9 Rep.str).raw w [v0] x := by
  obtain ⟨_, rfl, r_0⟩ := Rep.slice_raw h
  exact ⟨_, rfl, r_0⟩
theorem RName_sub_0 : Rep.Sub RName (Rep.slice 9 Rep.str) (fun x => x) (fun x y => y) 0 := Rep.Sub.refl (Rep.slice 9 Rep.str)
abbrev LMeasurement := LName × Int × Int
instance decMeasurement : DecidableEq LMeasurement := inferInstanceAs (DecidableEq (LName × Int × Int))
def RMeasurement : Rep LMeasurement := .pair RName (.pair .int .int)
theorem RMeasurement_n : RMeasurement.n = 3 := rfl
theorem RMeasurement_raw {w : World} {cs : List Value} {x : LMeasurement} (h : RMeasurement.raw w cs x) : ∃ v0, cs = [v0, .int .i64 x.2.1, .int .i64 x.2.2] ∧ RName.raw w [v0] x.1 ∧ (Rep.slice 9 Rep.str).raw w [v0] x.1 ∧ (-9223372036854775808 ≤ x.2.1 ∧ x.2.1 ≤ 9223372036854775807) ∧ (-9223372036854775808 ≤ x.2.2 ∧ x.2.2 ≤ 9223372036854775807) := by
  obtain ⟨_, _, rfl, a_0, b_0⟩ := Rep.pair_raw h
  have q_0 := RName_raw a_0
  obtain ⟨_, rfl, s_0_0⟩ := q_0
  obtain ⟨_, _, rfl, a_1, b_1⟩ := Rep.pair_raw b_0
  obtain ⟨rfl, r_1⟩ := Rep.int_raw a_1
  obtain ⟨rfl, r_2⟩ := Rep.int_raw b_1
  exact ⟨_, rfl, a_0, s_0_0, r_1, r_2⟩
theorem RMeasurement_sub_0 : Rep.Sub RMeasurement RName (fun x => x.1) (fun x y => (y, x.2.1, x.2.2)) 0 := Rep.Sub.left (Rep.Sub.refl RName) (by decide)
theorem RMeasurement_sub_0_0 : Rep.Sub RMeasurement (Rep.slice 9 Rep.str) (fun x => x.1) (fun x y => (y, x.2.1, x.2.2)) 0 := Rep.Sub.left (Rep.Sub.refl (Rep.slice 9 Rep.str)) (by decide)
def setMeasurement_1 (x : LMeasurement) (v : Int) : LMeasurement := (x.1, v, x.2.2)
theorem RMeasurement_set1 {x : LMeasurement} (v : Int) (hv : -9223372036854775808 ≤ v ∧ v ≤ 9223372036854775807) {w : World} {cs : List Value} {S : Nat → Prop} (h : RMeasurement.is true w cs x S) : RMeasurement.is true w (cs.set 1 (.int .i64 v)) (setMeasurement_1 x v) S := by
  obtain ⟨c0, d0, A0, B0, rfl, p0, q0, hA0, hB0, hd0⟩ := h
  obtain ⟨c1, d1, A1, B1, rfl, p1, q1, hA1, hB1, hd1⟩ := q0
  obtain ⟨rfl, _⟩ := p1
  have l0 := Rep.len _ p0
  change _ = 1 at l0
  have e : ((c0 ++ ([.int .i64 x.2.1] ++ d1)) : List Value).set 1 (.int .i64 v) = (c0 ++ ([.int .i64 v] ++ d1)) := by
    obtain ⟨y0_0, rfl⟩ : ∃ y0_0, c0 = [y0_0] := by match c0, l0 with | [y0_0], _ => exact ⟨_, rfl⟩
    rfl
  rw [e]
  exact ⟨_, _, A0, B0, rfl, p0, ⟨_, _, A1, B1, rfl, ⟨rfl, hv⟩, q1, hA1, hB1, hd1⟩, hA0, hB0, hd0⟩
def setMeasurement_2 (x : LMeasurement) (v : Int) : LMeasurement := (x.1, x.2.1, v)
theorem RMeasurement_set2 {x : LMeasurement} (v : Int) (hv : -9223372036854775808 ≤ v ∧ v ≤ 9223372036854775807) {w : World} {cs : List Value} {S : Nat → Prop} (h : RMeasurement.is true w cs x S) : RMeasurement.is true w (cs.set 2 (.int .i64 v)) (setMeasurement_2 x v) S := by
  obtain ⟨c0, d0, A0, B0, rfl, p0, q0, hA0, hB0, hd0⟩ := h
  obtain ⟨c1, d1, A1, B1, rfl, p1, q1, hA1, hB1, hd1⟩ := q0
  obtain ⟨rfl, _⟩ := q1
  have l0 := Rep.len _ p0
  have l1 := Rep.len _ p1
  change _ = 1 at l0; change _ = 1 at l1
  have e : ((c0 ++ (c1 ++ [.int .i64 x.2.2])) : List Value).set 2 (.int .i64 v) = (c0 ++ (c1 ++ [.int .i64 v])) := by
    obtain ⟨y0_0, rfl⟩ : ∃ y0_0, c0 = [y0_0] := by match c0, l0 with | [y0_0], _ => exact ⟨_, rfl⟩
    obtain ⟨y1_0, rfl⟩ : ∃ y1_0, c1 = [y1_0] := by match c1, l1 with | [y1_0], _ => exact ⟨_, rfl⟩
    rfl
  rw [e]
  exact ⟨_, _, A0, B0, rfl, p0, ⟨_, _, A1, B1, rfl, p1, ⟨rfl, hv⟩, hA1, hB1, hd1⟩, hA0, hB0, hd0⟩
abbrev LRequester := Int × Int × Int
instance decRequester : DecidableEq LRequester := inferInstanceAs (DecidableEq (Int × Int × Int))
def RRequester : Rep LRequester := .pair .int (.pair .int .int)
theorem RRequester_n : RRequester.n = 3 := rfl
theorem RRequester_raw {w : World} {cs : List Value} {x : LRequester} (h : RRequester.raw w cs x) : cs = [.int .i64 x.1, .int .i64 x.2.1, .int .i64 x.2.2] ∧ (-9223372036854775808 ≤ x.1 ∧ x.1 ≤ 9223372036854775807) ∧ (-9223372036854775808 ≤ x.2.1 ∧ x.2.1 ≤ 9223372036854775807) ∧ (-9223372036854775808 ≤ x.2.2 ∧ x.2.2 ≤ 9223372036854775807) := by
  obtain ⟨_, _, rfl, a_0, b_0⟩ := Rep.pair_raw h
  obtain ⟨rfl, r_0⟩ := Rep.int_raw a_0
  obtain ⟨_, _, rfl, a_1, b_1⟩ := Rep.pair_raw b_0
  obtain ⟨rfl, r_1⟩ := Rep.int_raw a_1
  obtain ⟨rfl, r_2⟩ := Rep.int_raw b_1
  exact ⟨rfl, r_0, r_1, r_2⟩
def setRequester_0 (x : LRequester) (v : Int) : LRequester := (v, x.2.1, x.2.2)
theorem RRequester_set0 {x : LRequester} (v : Int) (hv : -9223372036854775808 ≤ v ∧ v ≤ 9223372036854775807) {w : World} {cs : List Value} {S : Nat → Prop} (h : RRequester.is true w cs x S) : RRequester.is true w (cs.set 0 (.int .i64 v)) (setRequester_0 x v) S := by
  obtain ⟨c0, d0, A0, B0, rfl, p0, q0, hA0, hB0, hd0⟩ := h
  obtain ⟨rfl, _⟩ := p0
  have e : (([.int .i64 x.1] ++ d0) : List Value).set 0 (.int .i64 v) = ([.int .i64 v] ++ d0) := by
    rfl
  rw [e]
  exact ⟨_, _, A0, B0, rfl, ⟨rfl, hv⟩, q0, hA0, hB0, hd0⟩
def setRequester_1 (x : LRequester) (v : Int) : LRequester := (x.1, v, x.2.2)
theorem RRequester_set1 {x : LRequester} (v : Int) (hv : -9223372036854775808 ≤ v ∧ v ≤ 9223372036854775807) {w : World} {cs : List Value} {S : Nat → Prop} (h : RRequester.is true w cs x S) : RRequester.is true w (cs.set 1 (.int .i64 v)) (setRequester_1 x v) S := by
  obtain ⟨c0, d0, A0, B0, rfl, p0, q0, hA0, hB0, hd0⟩ := h
  obtain ⟨c1, d1, A1, B1, rfl, p1, q1, hA1, hB1, hd1⟩ := q0
  obtain ⟨rfl, _⟩ := p1
  have l0 := Rep.len _ p0
  change _ = 1 at l0
  have e : ((c0 ++ ([.int .i64 x.2.1] ++ d1)) : List Value).set 1 (.int .i64 v) = (c0 ++ ([.int .i64 v] ++ d1)) := by
    obtain ⟨y0_0, rfl⟩ : ∃ y0_0, c0 = [y0_0] := by match c0, l0 with | [y0_0], _ => exact ⟨_, rfl⟩
    rfl
  rw [e]
  exact ⟨_, _, A0, B0, rfl, p0, ⟨_, _, A1, B1, rfl, ⟨rfl, hv⟩, q1, hA1, hB1, hd1⟩, hA0, hB0, hd0⟩
def setRequester_2 (x : LRequester) (v : Int) : LRequester := (x.1, x.2.1, v)
theorem RRequester_set2 {x : LRequester} (v : Int) (hv : -9223372036854775808 ≤ v ∧ v ≤ 9223372036854775807) {w : World} {cs : List Value} {S : Nat → Prop} (h : RRequester.is true w cs x S) : RRequester.is true w (cs.set 2 (.int .i64 v)) (setRequester_2 x v) S := by
  obtain ⟨c0, d0, A0, B0, rfl, p0, q0, hA0, hB0, hd0⟩ := h
  obtain ⟨c1, d1, A1, B1, rfl, p1, q1, hA1, hB1, hd1⟩ := q0
  obtain ⟨rfl, _⟩ := q1
  have l0 := Rep.len _ p0
  have l1 := Rep.len _ p1
  change _ = 1 at l0; change _ = 1 at l1
  have e : ((c0 ++ (c1 ++ [.int .i64 x.2.2])) : List Value).set 2 (.int .i64 v) = (c0 ++ (c1 ++ [.int .i64 v])) := by
    obtain ⟨y0_0, rfl⟩ : ∃ y0_0, c0 = [y0_0] := by match c0, l0 with | [y0_0], _ => exact ⟨_, rfl⟩
    obtain ⟨y1_0, rfl⟩ : ∃ y1_0, c1 = [y1_0] := by match c1, l1 with | [y1_0], _ => exact ⟨_, rfl⟩
    rfl
  rw [e]
  exact ⟨_, _, A0, B0, rfl, p0, ⟨_, _, A1, B1, rfl, p1, ⟨rfl, hv⟩, hA1, hB1, hd1⟩, hA0, hB0, hd0⟩
abbrev LPendingInterest := LName × (List LRequester) × Int
instance decPendingInterest : DecidableEq LPendingInterest := inferInstanceAs (DecidableEq (LName × (List LRequester) × Int))
def RPendingInterest : Rep LPendingInterest := .pair RName (.pair (.slice 71 RRequester) .int)
theorem RPendingInterest_n : RPendingInterest.n = 3 := rfl
theorem RPendingInterest_raw {w : World} {cs : List Value} {x : LPendingInterest} (h : RPendingInterest.raw w cs x) : ∃ v0 v1, cs = [v0, v1, .int .i64 x.2.2] ∧ RName.raw w [v0] x.1 ∧ (Rep.slice 9 Rep.str).raw w [v0] x.1 ∧ (Rep.slice 71 RRequester).raw w [v1] x.2.1 ∧ (-9223372036854775808 ≤ x.2.2 ∧ x.2.2 ≤ 9223372036854775807) := by
  obtain ⟨_, _, rfl, a_0, b_0⟩ := Rep.pair_raw h
  have q_0 := RName_raw a_0
  obtain ⟨_, rfl, s_0_0⟩ := q_0
  obtain ⟨_, _, rfl, a_1, b_1⟩ := Rep.pair_raw b_0
  obtain ⟨_, rfl, r_1⟩ := Rep.slice_raw a_1
  obtain ⟨rfl, r_2⟩ := Rep.int_raw b_1
  exact ⟨_, _, rfl, a_0, s_0_0, r_1, r_2⟩
theorem RPendingInterest_sub_0 : Rep.Sub RPendingInterest RName (fun x => x.1) (fun x y => (y, x.2.1, x.2.2)) 0 := Rep.Sub.left (Rep.Sub.refl RName) (by decide)
theorem RPendingInterest_sub_0_0 : Rep.Sub RPendingInterest (Rep.slice 9 Rep.str) (fun x => x.1) (fun x y => (y, x.2.1, x.2.2)) 0 := Rep.Sub.left (Rep.Sub.refl (Rep.slice 9 Rep.str)) (by decide)
theorem RPendingInterest_sub_1 : Rep.Sub RPendingInterest (Rep.slice 71 RRequester) (fun x => x.2.1) (fun x y => (x.1, y, x.2.2)) 1 := Rep.Sub.right (Rep.Sub.left (Rep.Sub.refl (Rep.slice 71 RRequester)) (by decide)) rfl
def setPendingInterest_2 (x : LPendingInterest) (v : Int) : LPendingInterest := (x.1, x.2.1, v)
theorem RPendingInterest_set2 {x : LPendingInterest} (v : Int) (hv : -9223372036854775808 ≤ v ∧ v ≤ 9223372036854775807) {w : World} {cs : List Value} {S : Nat → Prop} (h : RPendingInterest.is true w cs x S) : RPendingInterest.is true w (cs.set 2 (.int .i64 v)) (setPendingInterest_2 x v) S := by
  obtain ⟨c0, d0, A0, B0, rfl, p0, q0, hA0, hB0, hd0⟩ := h
  obtain ⟨c1, d1, A1, B1, rfl, p1, q1, hA1, hB1, hd1⟩ := q0
  obtain ⟨rfl, _⟩ := q1
  have l0 := Rep.len _ p0
  have l1 := Rep.len _ p1
  change _ = 1 at l0; change _ = 1 at l1
  have e : ((c0 ++ (c1 ++ [.int .i64 x.2.2])) : List Value).set 2 (.int .i64 v) = (c0 ++ (c1 ++ [.int .i64 v])) := by
    obtain ⟨y0_0, rfl⟩ : ∃ y0_0, c0 = [y0_0] := by match c0, l0 with | [y0_0], _ => exact ⟨_, rfl⟩
    obtain ⟨y1_0, rfl⟩ : ∃ y1_0, c1 = [y1_0] := by match c1, l1 with | [y1_0], _ => exact ⟨_, rfl⟩
    rfl
  rw [e]
  exact ⟨_, _, A0, B0, rfl, p0, ⟨_, _, A1, B1, rfl, p1, ⟨rfl, hv⟩, hA1, hB1, hd1⟩, hA0, hB0, hd0⟩
abbrev LSeenNonce := LName × Int
instance decSeenNonce : DecidableEq LSeenNonce := inferInstanceAs (DecidableEq (LName × Int))
def RSeenNonce : Rep LSeenNonce := .pair RName .int
theorem RSeenNonce_n : RSeenNonce.n = 2 := rfl
theorem RSeenNonce_raw {w : World} {cs : List Value} {x : LSeenNonce} (h : RSeenNonce.raw w cs x) : ∃ v0, cs = [v0, .int .i64 x.2] ∧ RName.raw w [v0] x.1 ∧ (Rep.slice 9 Rep.str).raw w [v0] x.1 ∧ (-9223372036854775808 ≤ x.2 ∧ x.2 ≤ 9223372036854775807) := by
  obtain ⟨_, _, rfl, a_0, b_0⟩ := Rep.pair_raw h
  have q_0 := RName_raw a_0
  obtain ⟨_, rfl, s_0_0⟩ := q_0
  obtain ⟨rfl, r_1⟩ := Rep.int_raw b_0
  exact ⟨_, rfl, a_0, s_0_0, r_1⟩
theorem RSeenNonce_sub_0 : Rep.Sub RSeenNonce RName (fun x => x.1) (fun x y => (y, x.2)) 0 := Rep.Sub.left (Rep.Sub.refl RName) (by decide)
theorem RSeenNonce_sub_0_0 : Rep.Sub RSeenNonce (Rep.slice 9 Rep.str) (fun x => x.1) (fun x y => (y, x.2)) 0 := Rep.Sub.left (Rep.Sub.refl (Rep.slice 9 Rep.str)) (by decide)
def setSeenNonce_1 (x : LSeenNonce) (v : Int) : LSeenNonce := (x.1, v)
theorem RSeenNonce_set1 {x : LSeenNonce} (v : Int) (hv : -9223372036854775808 ≤ v ∧ v ≤ 9223372036854775807) {w : World} {cs : List Value} {S : Nat → Prop} (h : RSeenNonce.is true w cs x S) : RSeenNonce.is true w (cs.set 1 (.int .i64 v)) (setSeenNonce_1 x v) S := by
  obtain ⟨c0, d0, A0, B0, rfl, p0, q0, hA0, hB0, hd0⟩ := h
  obtain ⟨rfl, _⟩ := q0
  have l0 := Rep.len _ p0
  change _ = 1 at l0
  have e : ((c0 ++ [.int .i64 x.2]) : List Value).set 1 (.int .i64 v) = (c0 ++ [.int .i64 v]) := by
    obtain ⟨y0_0, rfl⟩ : ∃ y0_0, c0 = [y0_0] := by match c0, l0 with | [y0_0], _ => exact ⟨_, rfl⟩
    rfl
  rw [e]
  exact ⟨_, _, A0, B0, rfl, p0, ⟨rfl, hv⟩, hA0, hB0, hd0⟩
abbrev LInterest := LName × Int × Int × Int
instance decInterest : DecidableEq LInterest := inferInstanceAs (DecidableEq (LName × Int × Int × Int))
def RInterest : Rep LInterest := .pair RName (.pair .int (.pair .int .int))
theorem RInterest_n : RInterest.n = 4 := rfl
theorem RInterest_raw {w : World} {cs : List Value} {x : LInterest} (h : RInterest.raw w cs x) : ∃ v0, cs = [v0, .int .i64 x.2.1, .int .i64 x.2.2.1, .int .i64 x.2.2.2] ∧ RName.raw w [v0] x.1 ∧ (Rep.slice 9 Rep.str).raw w [v0] x.1 ∧ (-9223372036854775808 ≤ x.2.1 ∧ x.2.1 ≤ 9223372036854775807) ∧ (-9223372036854775808 ≤ x.2.2.1 ∧ x.2.2.1 ≤ 9223372036854775807) ∧ (-9223372036854775808 ≤ x.2.2.2 ∧ x.2.2.2 ≤ 9223372036854775807) := by
  obtain ⟨_, _, rfl, a_0, b_0⟩ := Rep.pair_raw h
  have q_0 := RName_raw a_0
  obtain ⟨_, rfl, s_0_0⟩ := q_0
  obtain ⟨_, _, rfl, a_1, b_1⟩ := Rep.pair_raw b_0
  obtain ⟨rfl, r_1⟩ := Rep.int_raw a_1
  obtain ⟨_, _, rfl, a_2, b_2⟩ := Rep.pair_raw b_1
  obtain ⟨rfl, r_2⟩ := Rep.int_raw a_2
  obtain ⟨rfl, r_3⟩ := Rep.int_raw b_2
  exact ⟨_, rfl, a_0, s_0_0, r_1, r_2, r_3⟩
theorem RInterest_sub_0 : Rep.Sub RInterest RName (fun x => x.1) (fun x y => (y, x.2.1, x.2.2.1, x.2.2.2)) 0 := Rep.Sub.left (Rep.Sub.refl RName) (by decide)
theorem RInterest_sub_0_0 : Rep.Sub RInterest (Rep.slice 9 Rep.str) (fun x => x.1) (fun x y => (y, x.2.1, x.2.2.1, x.2.2.2)) 0 := Rep.Sub.left (Rep.Sub.refl (Rep.slice 9 Rep.str)) (by decide)
def setInterest_1 (x : LInterest) (v : Int) : LInterest := (x.1, v, x.2.2.1, x.2.2.2)
theorem RInterest_set1 {x : LInterest} (v : Int) (hv : -9223372036854775808 ≤ v ∧ v ≤ 9223372036854775807) {w : World} {cs : List Value} {S : Nat → Prop} (h : RInterest.is true w cs x S) : RInterest.is true w (cs.set 1 (.int .i64 v)) (setInterest_1 x v) S := by
  obtain ⟨c0, d0, A0, B0, rfl, p0, q0, hA0, hB0, hd0⟩ := h
  obtain ⟨c1, d1, A1, B1, rfl, p1, q1, hA1, hB1, hd1⟩ := q0
  obtain ⟨rfl, _⟩ := p1
  have l0 := Rep.len _ p0
  change _ = 1 at l0
  have e : ((c0 ++ ([.int .i64 x.2.1] ++ d1)) : List Value).set 1 (.int .i64 v) = (c0 ++ ([.int .i64 v] ++ d1)) := by
    obtain ⟨y0_0, rfl⟩ : ∃ y0_0, c0 = [y0_0] := by match c0, l0 with | [y0_0], _ => exact ⟨_, rfl⟩
    rfl
  rw [e]
  exact ⟨_, _, A0, B0, rfl, p0, ⟨_, _, A1, B1, rfl, ⟨rfl, hv⟩, q1, hA1, hB1, hd1⟩, hA0, hB0, hd0⟩
def setInterest_2 (x : LInterest) (v : Int) : LInterest := (x.1, x.2.1, v, x.2.2.2)
theorem RInterest_set2 {x : LInterest} (v : Int) (hv : -9223372036854775808 ≤ v ∧ v ≤ 9223372036854775807) {w : World} {cs : List Value} {S : Nat → Prop} (h : RInterest.is true w cs x S) : RInterest.is true w (cs.set 2 (.int .i64 v)) (setInterest_2 x v) S := by
  obtain ⟨c0, d0, A0, B0, rfl, p0, q0, hA0, hB0, hd0⟩ := h
  obtain ⟨c1, d1, A1, B1, rfl, p1, q1, hA1, hB1, hd1⟩ := q0
  obtain ⟨c2, d2, A2, B2, rfl, p2, q2, hA2, hB2, hd2⟩ := q1
  obtain ⟨rfl, _⟩ := p2
  have l0 := Rep.len _ p0
  have l1 := Rep.len _ p1
  change _ = 1 at l0; change _ = 1 at l1
  have e : ((c0 ++ (c1 ++ ([.int .i64 x.2.2.1] ++ d2))) : List Value).set 2 (.int .i64 v) = (c0 ++ (c1 ++ ([.int .i64 v] ++ d2))) := by
    obtain ⟨y0_0, rfl⟩ : ∃ y0_0, c0 = [y0_0] := by match c0, l0 with | [y0_0], _ => exact ⟨_, rfl⟩
    obtain ⟨y1_0, rfl⟩ : ∃ y1_0, c1 = [y1_0] := by match c1, l1 with | [y1_0], _ => exact ⟨_, rfl⟩
    rfl
  rw [e]
  exact ⟨_, _, A0, B0, rfl, p0, ⟨_, _, A1, B1, rfl, p1, ⟨_, _, A2, B2, rfl, ⟨rfl, hv⟩, q2, hA2, hB2, hd2⟩, hA1, hB1, hd1⟩, hA0, hB0, hd0⟩
def setInterest_3 (x : LInterest) (v : Int) : LInterest := (x.1, x.2.1, x.2.2.1, v)
theorem RInterest_set3 {x : LInterest} (v : Int) (hv : -9223372036854775808 ≤ v ∧ v ≤ 9223372036854775807) {w : World} {cs : List Value} {S : Nat → Prop} (h : RInterest.is true w cs x S) : RInterest.is true w (cs.set 3 (.int .i64 v)) (setInterest_3 x v) S := by
  obtain ⟨c0, d0, A0, B0, rfl, p0, q0, hA0, hB0, hd0⟩ := h
  obtain ⟨c1, d1, A1, B1, rfl, p1, q1, hA1, hB1, hd1⟩ := q0
  obtain ⟨c2, d2, A2, B2, rfl, p2, q2, hA2, hB2, hd2⟩ := q1
  obtain ⟨rfl, _⟩ := q2
  have l0 := Rep.len _ p0
  have l1 := Rep.len _ p1
  have l2 := Rep.len _ p2
  change _ = 1 at l0; change _ = 1 at l1; change _ = 1 at l2
  have e : ((c0 ++ (c1 ++ (c2 ++ [.int .i64 x.2.2.2]))) : List Value).set 3 (.int .i64 v) = (c0 ++ (c1 ++ (c2 ++ [.int .i64 v]))) := by
    obtain ⟨y0_0, rfl⟩ : ∃ y0_0, c0 = [y0_0] := by match c0, l0 with | [y0_0], _ => exact ⟨_, rfl⟩
    obtain ⟨y1_0, rfl⟩ : ∃ y1_0, c1 = [y1_0] := by match c1, l1 with | [y1_0], _ => exact ⟨_, rfl⟩
    obtain ⟨y2_0, rfl⟩ : ∃ y2_0, c2 = [y2_0] := by match c2, l2 with | [y2_0], _ => exact ⟨_, rfl⟩
    rfl
  rw [e]
  exact ⟨_, _, A0, B0, rfl, p0, ⟨_, _, A1, B1, rfl, p1, ⟨_, _, A2, B2, rfl, p2, ⟨rfl, hv⟩, hA2, hB2, hd2⟩, hA1, hB1, hd1⟩, hA0, hB0, hd0⟩
end Go.Proofs.Ytikjbdfkdkijkaa

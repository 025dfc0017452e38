/-
  Whether a name is pending.
-/
import Derived.Test.YtlfblpgkegeaeaaGreatPend
import Derived.IntWalk
namespace Go.Proofs.YtlfblpgkegeaeaaGreat
open Go.RowKit
set_option linter.unusedVariables false
set_option linter.unusedSimpArgs false
set_option linter.unnecessarySimpa false
set_option maxHeartbeats 1000000 in
theorem specHasPending_c {w : World} {vl : Value} {l : List LPendingInterest} (hl : (Rep.slice 175 RPendingInterest).raw w [vl] l) {cn : List Value} {n : LName} (hn : RName.raw w cn n) :
    Calls Tryz.prog 35 #[vl, .agg cn.toArray] w fun e w' => e = .returned (.bool (decide (0 ≤ idxOf (isPend n) l))) ∧ Below w.heap.size w w' := by
  have HL := Lib.hid hl
  have HN := Lib.hid hn
  obtain ⟨la, lp, lh, ll⟩ := Rep.len_raw hl; obtain rfl : vl = _ := by simpa using lh
  obtain ⟨av, rfl, a_0⟩ := RName_raw hn
  obtain ⟨na, np, nh, _⟩ := Rep.len_raw a_0; obtain rfl : av = _ := by simpa using nh
  clear lh hl hn nh a_0
  go_enter Tryz.func35, Tryz.ntmps35
  go_wp2_with fail
  refine (specl13Find_c (HL.out.below (by repeat (first | (with_reducible exact Below.refl _ _) | refine Below.alloc ?_ (by simp; try omega) _ | refine Below.drew ?_ | refine Below.setCell ?_ (by simp; try omega) _))) (HN.out.below (by repeat (first | (with_reducible exact Below.refl _ _) | refine Below.alloc ?_ (by simp; try omega) _ | refine Below.drew ?_ | refine Below.setCell ?_ (by simp; try omega) _)))).mono ?_
  rintro e w1 ⟨rfl, hb1⟩
  have EF : Below w.heap.size w w1 := Below.trans (by repeat (first | (with_reducible exact Below.refl _ _) | refine Below.alloc ?_ (by simp; try omega) _ | refine Below.drew ?_ | refine Below.setCell ?_ (by simp; try omega) _)) (hb1.mono (by simp))
  clear hb1
  go_wp2
  go_ret
  exact ⟨ret_bool (by simp), EF⟩
set_option maxHeartbeats 1000000 in
theorem implHasPending_c {w : World} {vl : Value} {l : List LPendingInterest} (hl : (Rep.slice 175 RPendingInterest).raw w [vl] l) {cn : List Value} {n : LName} (hn : RName.raw w cn n) :
    Calls Tryz.prog 48 #[vl, .agg cn.toArray] w fun e w' => e = .returned (.bool (decide (0 ≤ idxOf (isPend n) l))) ∧ Below w.heap.size w w' := by
  have HL := Lib.hid hl
  have HN := Lib.hid hn
  obtain ⟨la, lp, lh, ll⟩ := Rep.len_raw hl; obtain rfl : vl = _ := by simpa using lh
  obtain ⟨av, rfl, a_0⟩ := RName_raw hn
  obtain ⟨na, np, nh, _⟩ := Rep.len_raw a_0; obtain rfl : av = _ := by simpa using nh
  clear lh hl hn nh a_0
  go_enter Tryz.func48, Tryz.ntmps48
  go_wp2_with fail
  refine (implpendingAt_c (HL.out.below (by repeat (first | (with_reducible exact Below.refl _ _) | refine Below.alloc ?_ (by simp; try omega) _ | refine Below.drew ?_ | refine Below.setCell ?_ (by simp; try omega) _))) (HN.out.below (by repeat (first | (with_reducible exact Below.refl _ _) | refine Below.alloc ?_ (by simp; try omega) _ | refine Below.drew ?_ | refine Below.setCell ?_ (by simp; try omega) _)))).mono ?_
  rintro e w1 ⟨rfl, hb1⟩
  have EF : Below w.heap.size w w1 := Below.trans (by repeat (first | (with_reducible exact Below.refl _ _) | refine Below.alloc ?_ (by simp; try omega) _ | refine Below.drew ?_ | refine Below.setCell ?_ (by simp; try omega) _)) (hb1.mono (by simp))
  clear hb1
  go_wp2
  go_ret
  exact ⟨ret_bool (by simp), EF⟩
end Go.Proofs.YtlfblpgkegeaeaaGreat

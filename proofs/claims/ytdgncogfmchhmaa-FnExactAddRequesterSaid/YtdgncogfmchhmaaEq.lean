/-
  The laws' comparisons: each answers whether its two arguments are the same data. Printed by geneq.py.
-/
import Derived.Test.YtdgncogfmchhmaaProg
import Derived.Test.YtdgncogfmchhmaaTypes
import Derived.WalkKit
import Derived.WalkSpells
import Derived.WalkLawsBesides
import Derived.BigQuiet
import Derived.Deep.QuietTactic
import Derived.StillTailTactics
namespace Go.Proofs.Ytdgncogfmchhmaa
open Go.RowKit
set_option linter.unusedVariables false

set_option maxRecDepth 100000 in
set_option maxHeartbeats 400000 in
theorem eqStringS_c {w : World} {va vb : Value} {x y : List ByteArray} (ha : (Rep.slice 9 Rep.str).raw w [va] x) (hb : (Rep.slice 9 Rep.str).raw w [vb] y) :
    Calls Try.prog 57 #[va, vb] w fun e w' => e = .returned (.bool (decide (x = y))) ∧ Below w.heap.size w w' := by
  obtain ⟨aa, capa, hva, la⟩ := Rep.len_raw ha; obtain rfl : va = _ := by simpa using hva
  clear hva
  obtain ⟨ab, capb, hvb, lb⟩ := Rep.len_raw hb; obtain rfl : vb = _ := by simpa using hvb
  clear hvb
  go_enter Try.func57, Try.ntmps57
  by_cases hab : x.length = y.length
  · have hab' : ((x.length : Int) != (y.length : Int)) = false := by simp [hab]
    have HAB := Lib.hid hab; clear hab
    go_wp2
    go_loopw [5] (fun i wr => ∃ k : Nat, k ≤ x.length ∧ i = .int .i64 k ∧ x.take k = y.take k ∧ Below w.heap.size w wr) (fun i _ => x.length - (intOf i).toNat)
    case atStart => exact ⟨0, Nat.zero_le _, rfl, rfl, Below.refl _ _⟩
    case round =>
      obtain ⟨k, hk, rfl, htk, hbel⟩ := hrel
      by_cases hlt : k < x.length
      · have hlt2 : k < y.length := by have := HAB.out; omega
        obtain ⟨ba, offa, rfl, c0, hr, A0⟩ := Rep.get1 (ha.below hbel) hlt rfl
        obtain ⟨bb, offb, rfl, d0, hr2, B0⟩ := Rep.get1 (hb.below hbel) hlt2 rfl
        obtain ⟨he, _⟩ := Rep.str_raw hr
        obtain rfl : c0 = _ := by simpa using he
        obtain ⟨he2, _⟩ := Rep.str_raw hr2
        obtain rfl : d0 = _ := by simpa using he2
        clear he he2 hr hr2
        by_cases hxy : x[k] = y[k]
        · have hne : (!x[k].toList == y[k].toList) = false := by rw [ba_beq]; simp [hxy]
          have HT := Lib.hid (take_eq_succ htk hlt hlt2 hxy); clear hxy htk
          go_wp2
          go_quiet (fail)
          go_wp2
          go_roundw
          case rel => exact ⟨k + 1, by omega, by go_num, HT.out, below_drewN hbel _⟩
          case measure => simp [intOf]; omega
        · have hne : (!x[k].toList == y[k].toList) = true := by rw [ba_beq]; simp [hxy]
          have HT := Lib.hid (ne_of_get hlt hlt2 hxy); clear hxy htk
          go_wp2
          go_quiet (fail)
          go_wp2
          go_ret
          exact ⟨ret_bool (by simp [HT.out]), below_drewN hbel _⟩
      · have HT := Lib.hid (eq_of_take htk hlt HAB.out); clear htk
        go_wp2
        go_ret
        exact ⟨ret_bool (by simp [HT.out]), hbel⟩
  · have hab' : ((x.length : Int) != (y.length : Int)) = true := by simp; omega
    have HT : Hid (x ≠ y) := Lib.hid (fun q => hab (by rw [q])); clear hab
    go_wp2
    go_ret
    exact ⟨ret_bool (by simp [HT.out]), Below.refl _ _⟩
set_option maxRecDepth 100000 in
set_option maxHeartbeats 400000 in
theorem eqName_c {w : World} {ca cb : List Value} {x y : LName} (ha : RName.raw w ca x) (hb : RName.raw w cb y) :
    Calls Try.prog 36 #[.agg ca.toArray, .agg cb.toArray] w fun e w' => e = .returned (.bool (decide (x = y))) ∧ Below w.heap.size w w' := by
  obtain ⟨av0, rfl, a_0⟩ := RName_raw ha
  obtain ⟨bv0, rfl, b_0⟩ := RName_raw hb
  obtain ⟨x0, rfl⟩ : ∃ x0, x0 = x := ⟨_, rfl⟩
  obtain ⟨y0, rfl⟩ : ∃ y0, y0 = y := ⟨_, rfl⟩
  clear ha hb
  go_enter Try.func36, Try.ntmps36
  go_wp2_with fail
  refine (eqStringS_c ((a_0.alloc _).alloc _) ((b_0.alloc _).alloc _)).mono ?_
  rintro e w1 ⟨rfl, hb1⟩
  have D1 := hb1
  have E1 : Below w.heap.size w w1 := (((Below.refl _ _).alloc (Nat.le_refl _) _).alloc (by simp) _).trans (hb1.mono (by simp; omega))
  obtain ⟨hc1, hf1⟩ := bcell D1; clear hb1
  go_wp2
  · go_ret
    exact ⟨ret_bool (by have q : (!decide (x0 = y0)) = true := ‹_›; simp at q; simp [q]), E1⟩
  · go_ret
    exact ⟨ret_bool (by have q0 : (!decide (x0 = y0)) = false := ‹_›; simp at q0; simp [q0]), E1⟩
set_option maxRecDepth 100000 in
set_option maxHeartbeats 400000 in
theorem eqRequester_c {w : World} {ca cb : List Value} {x y : LRequester} (ha : RRequester.raw w ca x) (hb : RRequester.raw w cb y) :
    Calls Try.prog 67 #[.agg ca.toArray, .agg cb.toArray] w fun e w' => e = .returned (.bool (decide (x = y))) ∧ Below w.heap.size w w' := by
  obtain ⟨rfl, a_0, a_1, a_2⟩ := RRequester_raw ha
  obtain ⟨rfl, b_0, b_1, b_2⟩ := RRequester_raw hb
  obtain ⟨x0, x1, x2⟩ := x
  obtain ⟨y0, y1, y2⟩ := y
  clear ha hb a_0 b_0 a_1 b_1 a_2 b_2
  go_enter Try.func67, Try.ntmps67
  go_wp2
  · go_ret
    exact ⟨ret_bool (by have q : (x0 != y0) = true := ‹_›; simp at q; simp [q]), ((Below.refl _ _).alloc (Nat.le_refl _) _).alloc (by simp) _⟩
  · go_ret
    exact ⟨ret_bool (by have q : (x1 != y1) = true := ‹_›; simp at q; simp [q]), ((Below.refl _ _).alloc (Nat.le_refl _) _).alloc (by simp) _⟩
  · go_ret
    exact ⟨ret_bool (by have q : (x2 != y2) = true := ‹_›; simp at q; simp [q]), ((Below.refl _ _).alloc (Nat.le_refl _) _).alloc (by simp) _⟩
  · go_ret
    exact ⟨ret_bool (by have q0 : (x0 != y0) = false := ‹_›; simp at q0; have q1 : (x1 != y1) = false := ‹_›; simp at q1; have q2 : (x2 != y2) = false := ‹_›; simp at q2; simp [q0, q1, q2]), ((Below.refl _ _).alloc (Nat.le_refl _) _).alloc (by simp) _⟩
set_option maxRecDepth 100000 in
set_option maxHeartbeats 400000 in
theorem eqRequesterS_c {w : World} {va vb : Value} {x y : List LRequester} (ha : (Rep.slice 53 RRequester).raw w [va] x) (hb : (Rep.slice 53 RRequester).raw w [vb] y) :
    Calls Try.prog 56 #[va, vb] w fun e w' => e = .returned (.bool (decide (x = y))) ∧ Below w.heap.size w w' := by
  obtain ⟨aa, capa, hva, la⟩ := Rep.len_raw ha; obtain rfl : va = _ := by simpa using hva
  clear hva
  obtain ⟨ab, capb, hvb, lb⟩ := Rep.len_raw hb; obtain rfl : vb = _ := by simpa using hvb
  clear hvb
  go_enter Try.func56, Try.ntmps56
  by_cases hab : x.length = y.length
  · have hab' : ((x.length : Int) != (y.length : Int)) = false := by simp [hab]
    have HAB := Lib.hid hab; clear hab
    go_wp2
    go_loopw [5] (fun i wr => ∃ k : Nat, k ≤ x.length ∧ i = .int .i64 k ∧ x.take k = y.take k ∧ Below w.heap.size w wr) (fun i _ => x.length - (intOf i).toNat)
    case atStart => exact ⟨0, Nat.zero_le _, rfl, rfl, Below.refl _ _⟩
    case round =>
      obtain ⟨k, hk, rfl, htk, hbel⟩ := hrel
      by_cases hlt : k < x.length
      · have hlt2 : k < y.length := by have := HAB.out; omega
        obtain ⟨ba, offa, rfl, c0, c1, c2, hr, A0, A1, A2⟩ := Rep.get3 (ha.below hbel) hlt rfl
        obtain ⟨bb, offb, rfl, d0, d1, d2, hr2, B0, B1, B2⟩ := Rep.get3 (hb.below hbel) hlt2 rfl
        go_wp2
        go_still_tail 8, (by kernel_rfl)
        change wpList _ _ _ _ _ wr.drew
        clear A0 A1 A2 B0 B1 B2
        by_cases hxy : x[k] = y[k]
        · have hde : decide (x[k] = y[k]) = true := by simp [hxy]
          have HT := Lib.hid (take_eq_succ htk hlt hlt2 hxy); clear hxy htk
          have C := eqRequester_c hr.drew hr2.drew
          rw [hde] at C
          have HC := Lib.hid C; clear C hde hr hr2
          go_wp2_with (go_at_call 67; refine HC.out.mono ?_; rintro e w' ⟨rfl, hb2⟩)
          go_roundw
          case rel => exact ⟨k + 1, by omega, by go_num, HT.out, hbel.trans ((Below.refl _ _).drew.trans (hb2.mono hbel.size))⟩
          case measure => simp [intOf]; omega
        · have hde : decide (x[k] = y[k]) = false := by simp [hxy]
          have HT := Lib.hid (ne_of_get hlt hlt2 hxy); clear hxy htk
          have C := eqRequester_c hr.drew hr2.drew
          rw [hde] at C
          have HC := Lib.hid C; clear C hde hr hr2
          go_wp2_with (go_at_call 67; refine HC.out.mono ?_; rintro e w' ⟨rfl, hb2⟩)
          go_ret
          exact ⟨ret_bool (by simp [HT.out]), hbel.trans ((Below.refl _ _).drew.trans (hb2.mono hbel.size))⟩
      · have HT := Lib.hid (eq_of_take htk hlt HAB.out); clear htk
        go_wp2
        go_ret
        exact ⟨ret_bool (by simp [HT.out]), hbel⟩
  · have hab' : ((x.length : Int) != (y.length : Int)) = true := by simp; omega
    have HT : Hid (x ≠ y) := Lib.hid (fun q => hab (by rw [q])); clear hab
    go_wp2
    go_ret
    exact ⟨ret_bool (by simp [HT.out]), Below.refl _ _⟩
set_option maxRecDepth 100000 in
set_option maxHeartbeats 400000 in
theorem eqPendingInterest_c {w : World} {ca cb : List Value} {x y : LPendingInterest} (ha : RPendingInterest.raw w ca x) (hb : RPendingInterest.raw w cb y) :
    Calls Try.prog 35 #[.agg ca.toArray, .agg cb.toArray] w fun e w' => e = .returned (.bool (decide (x = y))) ∧ Below w.heap.size w w' := by
  obtain ⟨av0, av1, rfl, a_0, a_1, a_2, a_3⟩ := RPendingInterest_raw ha
  obtain ⟨bv0, bv1, rfl, b_0, b_1, b_2, b_3⟩ := RPendingInterest_raw hb
  obtain ⟨x0, x1, x2⟩ := x
  obtain ⟨y0, y1, y2⟩ := y
  clear ha hb a_1 b_1 a_3 b_3
  go_enter Try.func35, Try.ntmps35
  go_wp2_with fail
  refine (eqName_c ((a_0.alloc _).alloc _) ((b_0.alloc _).alloc _)).mono ?_
  rintro e w1 ⟨rfl, hb1⟩
  have D1 := hb1
  have E1 : Below w.heap.size w w1 := (((Below.refl _ _).alloc (Nat.le_refl _) _).alloc (by simp) _).trans (hb1.mono (by simp; omega))
  obtain ⟨hc1, hf1⟩ := bcell D1; clear hb1
  go_wp2_with fail
  · go_ret
    exact ⟨ret_bool (by have q : (!decide (x0 = y0)) = true := ‹_›; simp at q; simp [q]), E1⟩
  refine (eqRequesterS_c (a_2.below E1) (b_2.below E1)).mono ?_
  rintro e w2 ⟨rfl, hb2⟩
  have D2 := D1.trans (hb2.mono D1.size)
  have E2 := E1.trans (hb2.mono E1.size)
  clear hc1 hf1 hb2
  obtain ⟨hc2, hf2⟩ := bcell D2
  go_wp2
  · go_ret
    exact ⟨ret_bool (by have q : (!decide (x1 = y1)) = true := ‹_›; simp at q; simp [q]), E2⟩
  · go_ret
    exact ⟨ret_bool (by have q : (x2 != y2) = true := ‹_›; simp at q; simp [q]), E2⟩
  · go_ret
    exact ⟨ret_bool (by have q0 : (!decide (x0 = y0)) = false := ‹_›; simp at q0; have q1 : (!decide (x1 = y1)) = false := ‹_›; simp at q1; have q2 : (x2 != y2) = false := ‹_›; simp at q2; simp [q0, q1, q2]), E2⟩
set_option maxRecDepth 100000 in
set_option maxHeartbeats 400000 in
theorem eqPendingInterestS_c {w : World} {va vb : Value} {x y : List LPendingInterest} (ha : (Rep.slice 57 RPendingInterest).raw w [va] x) (hb : (Rep.slice 57 RPendingInterest).raw w [vb] y) :
    Calls Try.prog 10 #[va, vb] w fun e w' => e = .returned (.bool (decide (x = y))) ∧ Below w.heap.size w w' := by
  obtain ⟨aa, capa, hva, la⟩ := Rep.len_raw ha; obtain rfl : va = _ := by simpa using hva
  clear hva
  obtain ⟨ab, capb, hvb, lb⟩ := Rep.len_raw hb; obtain rfl : vb = _ := by simpa using hvb
  clear hvb
  go_enter Try.func10, Try.ntmps10
  by_cases hab : x.length = y.length
  · have hab' : ((x.length : Int) != (y.length : Int)) = false := by simp [hab]
    have HAB := Lib.hid hab; clear hab
    go_wp2
    go_loopw [5] (fun i wr => ∃ k : Nat, k ≤ x.length ∧ i = .int .i64 k ∧ x.take k = y.take k ∧ Below w.heap.size w wr) (fun i _ => x.length - (intOf i).toNat)
    case atStart => exact ⟨0, Nat.zero_le _, rfl, rfl, Below.refl _ _⟩
    case round =>
      obtain ⟨k, hk, rfl, htk, hbel⟩ := hrel
      by_cases hlt : k < x.length
      · have hlt2 : k < y.length := by have := HAB.out; omega
        obtain ⟨ba, offa, rfl, c0, c1, c2, hr, A0, A1, A2⟩ := Rep.get3 (ha.below hbel) hlt rfl
        obtain ⟨bb, offb, rfl, d0, d1, d2, hr2, B0, B1, B2⟩ := Rep.get3 (hb.below hbel) hlt2 rfl
        go_wp2
        go_still_tail 8, (by kernel_rfl)
        change wpList _ _ _ _ _ wr.drew
        clear A0 A1 A2 B0 B1 B2
        by_cases hxy : x[k] = y[k]
        · have hde : decide (x[k] = y[k]) = true := by simp [hxy]
          have HT := Lib.hid (take_eq_succ htk hlt hlt2 hxy); clear hxy htk
          have C := eqPendingInterest_c hr.drew hr2.drew
          rw [hde] at C
          have HC := Lib.hid C; clear C hde hr hr2
          go_wp2_with (go_at_call 35; refine HC.out.mono ?_; rintro e w' ⟨rfl, hb2⟩)
          go_roundw
          case rel => exact ⟨k + 1, by omega, by go_num, HT.out, hbel.trans ((Below.refl _ _).drew.trans (hb2.mono hbel.size))⟩
          case measure => simp [intOf]; omega
        · have hde : decide (x[k] = y[k]) = false := by simp [hxy]
          have HT := Lib.hid (ne_of_get hlt hlt2 hxy); clear hxy htk
          have C := eqPendingInterest_c hr.drew hr2.drew
          rw [hde] at C
          have HC := Lib.hid C; clear C hde hr hr2
          go_wp2_with (go_at_call 35; refine HC.out.mono ?_; rintro e w' ⟨rfl, hb2⟩)
          go_ret
          exact ⟨ret_bool (by simp [HT.out]), hbel.trans ((Below.refl _ _).drew.trans (hb2.mono hbel.size))⟩
      · have HT := Lib.hid (eq_of_take htk hlt HAB.out); clear htk
        go_wp2
        go_ret
        exact ⟨ret_bool (by simp [HT.out]), hbel⟩
  · have hab' : ((x.length : Int) != (y.length : Int)) = true := by simp; omega
    have HT : Hid (x ≠ y) := Lib.hid (fun q => hab (by rw [q])); clear hab
    go_wp2
    go_ret
    exact ⟨ret_bool (by simp [HT.out]), Below.refl _ _⟩
set_option maxRecDepth 100000 in
set_option maxHeartbeats 400000 in
theorem eqInterest_c {w : World} {ca cb : List Value} {x y : LInterest} (ha : RInterest.raw w ca x) (hb : RInterest.raw w cb y) :
    Calls Try.prog 11 #[.agg ca.toArray, .agg cb.toArray] w fun e w' => e = .returned (.bool (decide (x = y))) ∧ Below w.heap.size w w' := by
  obtain ⟨av0, rfl, a_0, a_1, a_2, a_3, a_4⟩ := RInterest_raw ha
  obtain ⟨bv0, rfl, b_0, b_1, b_2, b_3, b_4⟩ := RInterest_raw hb
  obtain ⟨x0, x1, x2, x3⟩ := x
  obtain ⟨y0, y1, y2, y3⟩ := y
  clear ha hb a_1 b_1 a_2 b_2 a_3 b_3 a_4 b_4
  go_enter Try.func11, Try.ntmps11
  go_wp2_with fail
  refine (eqName_c ((a_0.alloc _).alloc _) ((b_0.alloc _).alloc _)).mono ?_
  rintro e w1 ⟨rfl, hb1⟩
  have D1 := hb1
  have E1 : Below w.heap.size w w1 := (((Below.refl _ _).alloc (Nat.le_refl _) _).alloc (by simp) _).trans (hb1.mono (by simp; omega))
  obtain ⟨hc1, hf1⟩ := bcell D1; clear hb1
  go_wp2
  · go_ret
    exact ⟨ret_bool (by have q : (!decide (x0 = y0)) = true := ‹_›; simp at q; simp [q]), E1⟩
  · go_ret
    exact ⟨ret_bool (by have q : (x1 != y1) = true := ‹_›; simp at q; simp [q]), E1⟩
  · go_ret
    exact ⟨ret_bool (by have q : (x2 != y2) = true := ‹_›; simp at q; simp [q]), E1⟩
  · go_ret
    exact ⟨ret_bool (by have q : (x3 != y3) = true := ‹_›; simp at q; simp [q]), E1⟩
  · go_ret
    exact ⟨ret_bool (by have q0 : (!decide (x0 = y0)) = false := ‹_›; simp at q0; have q1 : (x1 != y1) = false := ‹_›; simp at q1; have q2 : (x2 != y2) = false := ‹_›; simp at q2; have q3 : (x3 != y3) = false := ‹_›; simp at q3; simp [q0, q1, q2, q3]), E1⟩
end Go.Proofs.Ytdgncogfmchhmaa

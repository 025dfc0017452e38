/-
  The laws' comparisons: each answers whether its two arguments are the same data. Printed by geneq.py.
-/
import Derived.Test.YtlfblpgkegeaeaaGreatProg
import Derived.Test.YtlfblpgkegeaeaaGreatTypes
import Derived.WalkKit
import Derived.WalkSpells
import Derived.WalkLawsBesides
import Derived.BigQuiet
import Derived.Deep.QuietTactic
import Derived.StillTailTactics
namespace Go.Proofs.YtlfblpgkegeaeaaGreat
open Go.RowKit
set_option linter.unusedVariables false

set_option maxRecDepth 100000 in
set_option maxHeartbeats 400000 in
theorem eqStringS_c {w : World} {va vb : Value} {x y : List ByteArray} (ha : (Rep.slice 9 Rep.str).raw w [va] x) (hb : (Rep.slice 9 Rep.str).raw w [vb] y) :
    Calls Tryz.prog 122 #[va, vb] w fun e w' => e = .returned (.bool (decide (x = y))) ∧ Below w.heap.size w w' := by
  obtain ⟨aa, capa, hva, la⟩ := Rep.len_raw ha; obtain rfl : va = _ := by simpa using hva
  clear hva
  obtain ⟨ab, capb, hvb, lb⟩ := Rep.len_raw hb; obtain rfl : vb = _ := by simpa using hvb
  clear hvb
  go_enter Tryz.func122, Tryz.ntmps122
  by_cases hab : x.length = y.length
  · have hab' : ((x.length : Int) != (y.length : Int)) = false := by simp [hab]
    have HAB := Lib.hid hab; clear hab
    go_wp2
    go_loopw [5] (fun i wr => ∃ k : Nat, k ≤ x.length ∧ i = .int .i64 k ∧ x.take k = y.take k ∧ Below w.heap.size w wr) (fun i _ => x.length - (intOf i).toNat)
    case atStart => exact ⟨0, Nat.zero_le _, rfl, rfl, Below.refl _ _⟩
    case round =>
      obtain ⟨k, hk, rfl, htk, hbel⟩ := hrel
      by_cases hlt : k < x.length
      · have hlt2 : k < y.length := by have := HAB.out; omega
        obtain ⟨ba, offa, rfl, c0, hr, A0⟩ := Rep.get1 (ha.below hbel) hlt rfl
        obtain ⟨bb, offb, rfl, d0, hr2, B0⟩ := Rep.get1 (hb.below hbel) hlt2 rfl
        obtain ⟨he, _⟩ := Rep.str_raw hr
        obtain rfl : c0 = _ := by simpa using he
        obtain ⟨he2, _⟩ := Rep.str_raw hr2
        obtain rfl : d0 = _ := by simpa using he2
        clear he he2 hr hr2
        by_cases hxy : x[k] = y[k]
        · have hne : (!x[k].toList == y[k].toList) = false := by rw [ba_beq]; simp [hxy]
          have HT := Lib.hid (take_eq_succ htk hlt hlt2 hxy); clear hxy htk
          go_wp2
          go_quiet (fail)
          go_wp2
          go_roundw
          case rel => exact ⟨k + 1, by omega, by go_num, HT.out, below_drewN hbel _⟩
          case measure => simp [intOf]; omega
        · have hne : (!x[k].toList == y[k].toList) = true := by rw [ba_beq]; simp [hxy]
          have HT := Lib.hid (ne_of_get hlt hlt2 hxy); clear hxy htk
          go_wp2
          go_quiet (fail)
          go_wp2
          go_ret
          exact ⟨ret_bool (by simp [HT.out]), below_drewN hbel _⟩
      · have HT := Lib.hid (eq_of_take htk hlt HAB.out); clear htk
        go_wp2
        go_ret
        exact ⟨ret_bool (by simp [HT.out]), hbel⟩
  · have hab' : ((x.length : Int) != (y.length : Int)) = true := by simp; omega
    have HT : Hid (x ≠ y) := Lib.hid (fun q => hab (by rw [q])); clear hab
    go_wp2
    go_ret
    exact ⟨ret_bool (by simp [HT.out]), Below.refl _ _⟩
set_option maxRecDepth 100000 in
set_option maxHeartbeats 400000 in
theorem eqByteS_c {w : World} {va vb : Value} {x y : List UInt8} (ha : (Rep.slice 5 Rep.byte).raw w [va] x) (hb : (Rep.slice 5 Rep.byte).raw w [vb] y) :
    Calls Tryz.prog 60 #[va, vb] w fun e w' => e = .returned (.bool (decide (x = y))) ∧ Below w.heap.size w w' := by
  obtain ⟨aa, capa, hva, la⟩ := Rep.len_raw ha; obtain rfl : va = _ := by simpa using hva
  clear hva
  obtain ⟨ab, capb, hvb, lb⟩ := Rep.len_raw hb; obtain rfl : vb = _ := by simpa using hvb
  clear hvb
  go_enter Tryz.func60, Tryz.ntmps60
  by_cases hab : x.length = y.length
  · have hab' : ((x.length : Int) != (y.length : Int)) = false := by simp [hab]
    have HAB := Lib.hid hab; clear hab
    go_wp2
    go_loopw [5] (fun i wr => ∃ k : Nat, k ≤ x.length ∧ i = .int .i64 k ∧ x.take k = y.take k ∧ Below w.heap.size w wr) (fun i _ => x.length - (intOf i).toNat)
    case atStart => exact ⟨0, Nat.zero_le _, rfl, rfl, Below.refl _ _⟩
    case round =>
      obtain ⟨k, hk, rfl, htk, hbel⟩ := hrel
      by_cases hlt : k < x.length
      · have hlt2 : k < y.length := by have := HAB.out; omega
        obtain ⟨ba, offa, rfl, c0, hr, A0⟩ := Rep.get1 (ha.below hbel) hlt rfl
        obtain ⟨bb, offb, rfl, d0, hr2, B0⟩ := Rep.get1 (hb.below hbel) hlt2 rfl
        obtain he := Rep.byte_raw hr
        obtain rfl : c0 = _ := by simpa using he
        obtain he2 := Rep.byte_raw hr2
        obtain rfl : d0 = _ := by simpa using he2
        clear he he2 hr hr2
        by_cases hxy : x[k] = y[k]
        · have hne : ((x[k].toNat : Int) != (y[k].toNat : Int)) = false := by simp [hxy]
          have HT := Lib.hid (take_eq_succ htk hlt hlt2 hxy); clear hxy htk
          go_wp2
          go_quiet (fail)
          go_wp2
          go_roundw
          case rel => exact ⟨k + 1, by omega, by go_num, HT.out, below_drewN hbel _⟩
          case measure => simp [intOf]; omega
        · have hne : ((x[k].toNat : Int) != (y[k].toNat : Int)) = true := by simp only [bne_iff_ne, ne_eq]; exact fun q => hxy (u8_inj q)
          have HT := Lib.hid (ne_of_get hlt hlt2 hxy); clear hxy htk
          go_wp2
          go_quiet (fail)
          go_wp2
          go_ret
          exact ⟨ret_bool (by simp [HT.out]), below_drewN hbel _⟩
      · have HT := Lib.hid (eq_of_take htk hlt HAB.out); clear htk
        go_wp2
        go_ret
        exact ⟨ret_bool (by simp [HT.out]), hbel⟩
  · have hab' : ((x.length : Int) != (y.length : Int)) = true := by simp; omega
    have HT : Hid (x ≠ y) := Lib.hid (fun q => hab (by rw [q])); clear hab
    go_wp2
    go_ret
    exact ⟨ret_bool (by simp [HT.out]), Below.refl _ _⟩
set_option maxRecDepth 100000 in
set_option maxHeartbeats 400000 in
theorem eqName_c {w : World} {ca cb : List Value} {x y : LName} (ha : RName.raw w ca x) (hb : RName.raw w cb y) :
    Calls Tryz.prog 59 #[.agg ca.toArray, .agg cb.toArray] w fun e w' => e = .returned (.bool (decide (x = y))) ∧ Below w.heap.size w w' := by
  obtain ⟨av0, rfl, a_0⟩ := RName_raw ha
  obtain ⟨bv0, rfl, b_0⟩ := RName_raw hb
  obtain ⟨x0, rfl⟩ : ∃ x0, x0 = x := ⟨_, rfl⟩
  obtain ⟨y0, rfl⟩ : ∃ y0, y0 = y := ⟨_, rfl⟩
  clear ha hb
  go_enter Tryz.func59, Tryz.ntmps59
  go_wp2_with fail
  refine (eqStringS_c ((a_0.alloc _).alloc _) ((b_0.alloc _).alloc _)).mono ?_
  rintro e w1 ⟨rfl, hb1⟩
  have D1 := hb1
  have E1 : Below w.heap.size w w1 := (((Below.refl _ _).alloc (Nat.le_refl _) _).alloc (by simp) _).trans (hb1.mono (by simp; omega))
  obtain ⟨hc1, hf1⟩ := bcell D1; clear hb1
  go_wp2
  · go_ret
    exact ⟨ret_bool (by have q : (!decide (x0 = y0)) = true := ‹_›; simp at q; simp [q]), E1⟩
  · go_ret
    exact ⟨ret_bool (by have q0 : (!decide (x0 = y0)) = false := ‹_›; simp at q0; simp [q0]), E1⟩
set_option maxRecDepth 100000 in
set_option maxHeartbeats 400000 in
theorem eqNameS_c {w : World} {va vb : Value} {x y : List LName} (ha : (Rep.slice 64 RName).raw w [va] x) (hb : (Rep.slice 64 RName).raw w [vb] y) :
    Calls Tryz.prog 58 #[va, vb] w fun e w' => e = .returned (.bool (decide (x = y))) ∧ Below w.heap.size w w' := by
  obtain ⟨aa, capa, hva, la⟩ := Rep.len_raw ha; obtain rfl : va = _ := by simpa using hva
  clear hva
  obtain ⟨ab, capb, hvb, lb⟩ := Rep.len_raw hb; obtain rfl : vb = _ := by simpa using hvb
  clear hvb
  go_enter Tryz.func58, Tryz.ntmps58
  by_cases hab : x.length = y.length
  · have hab' : ((x.length : Int) != (y.length : Int)) = false := by simp [hab]
    have HAB := Lib.hid hab; clear hab
    go_wp2
    go_loopw [5] (fun i wr => ∃ k : Nat, k ≤ x.length ∧ i = .int .i64 k ∧ x.take k = y.take k ∧ Below w.heap.size w wr) (fun i _ => x.length - (intOf i).toNat)
    case atStart => exact ⟨0, Nat.zero_le _, rfl, rfl, Below.refl _ _⟩
    case round =>
      obtain ⟨k, hk, rfl, htk, hbel⟩ := hrel
      by_cases hlt : k < x.length
      · have hlt2 : k < y.length := by have := HAB.out; omega
        obtain ⟨ba, offa, rfl, c0, hr, A0⟩ := Rep.get1 (ha.below hbel) hlt rfl
        obtain ⟨bb, offb, rfl, d0, hr2, B0⟩ := Rep.get1 (hb.below hbel) hlt2 rfl
        go_wp2
        go_still_tail 8, (by kernel_rfl)
        change wpList _ _ _ _ _ wr.drew
        clear A0 B0
        by_cases hxy : x[k] = y[k]
        · have hde : decide (x[k] = y[k]) = true := by simp [hxy]
          have HT := Lib.hid (take_eq_succ htk hlt hlt2 hxy); clear hxy htk
          have C := eqName_c hr.drew hr2.drew
          rw [hde] at C
          have HC := Lib.hid C; clear C hde hr hr2
          go_wp2_with (go_at_call 59; refine HC.out.mono ?_; rintro e w' ⟨rfl, hb2⟩)
          go_roundw
          case rel => exact ⟨k + 1, by omega, by go_num, HT.out, hbel.trans ((Below.refl _ _).drew.trans (hb2.mono hbel.size))⟩
          case measure => simp [intOf]; omega
        · have hde : decide (x[k] = y[k]) = false := by simp [hxy]
          have HT := Lib.hid (ne_of_get hlt hlt2 hxy); clear hxy htk
          have C := eqName_c hr.drew hr2.drew
          rw [hde] at C
          have HC := Lib.hid C; clear C hde hr hr2
          go_wp2_with (go_at_call 59; refine HC.out.mono ?_; rintro e w' ⟨rfl, hb2⟩)
          go_ret
          exact ⟨ret_bool (by simp [HT.out]), hbel.trans ((Below.refl _ _).drew.trans (hb2.mono hbel.size))⟩
      · have HT := Lib.hid (eq_of_take htk hlt HAB.out); clear htk
        go_wp2
        go_ret
        exact ⟨ret_bool (by simp [HT.out]), hbel⟩
  · have hab' : ((x.length : Int) != (y.length : Int)) = true := by simp; omega
    have HT : Hid (x ≠ y) := Lib.hid (fun q => hab (by rw [q])); clear hab
    go_wp2
    go_ret
    exact ⟨ret_bool (by simp [HT.out]), Below.refl _ _⟩
set_option maxRecDepth 100000 in
set_option maxHeartbeats 400000 in
theorem eqMeasurement_c {w : World} {ca cb : List Value} {x y : LMeasurement} (ha : RMeasurement.raw w ca x) (hb : RMeasurement.raw w cb y) :
    Calls Tryz.prog 119 #[.agg ca.toArray, .agg cb.toArray] w fun e w' => e = .returned (.bool (decide (x = y))) ∧ Below w.heap.size w w' := by
  obtain ⟨av0, rfl, a_0, a_1, a_2, a_3⟩ := RMeasurement_raw ha
  obtain ⟨bv0, rfl, b_0, b_1, b_2, b_3⟩ := RMeasurement_raw hb
  obtain ⟨x0, x1, x2⟩ := x
  obtain ⟨y0, y1, y2⟩ := y
  clear ha hb a_1 b_1 a_2 b_2 a_3 b_3
  go_enter Tryz.func119, Tryz.ntmps119
  go_wp2_with fail
  refine (eqName_c ((a_0.alloc _).alloc _) ((b_0.alloc _).alloc _)).mono ?_
  rintro e w1 ⟨rfl, hb1⟩
  have D1 := hb1
  have E1 : Below w.heap.size w w1 := (((Below.refl _ _).alloc (Nat.le_refl _) _).alloc (by simp) _).trans (hb1.mono (by simp; omega))
  obtain ⟨hc1, hf1⟩ := bcell D1; clear hb1
  go_wp2
  · go_ret
    exact ⟨ret_bool (by have q : (!decide (x0 = y0)) = true := ‹_›; simp at q; simp [q]), E1⟩
  · go_ret
    exact ⟨ret_bool (by have q : (x1 != y1) = true := ‹_›; simp at q; simp [q]), E1⟩
  · go_ret
    exact ⟨ret_bool (by have q : (x2 != y2) = true := ‹_›; simp at q; simp [q]), E1⟩
  · go_ret
    exact ⟨ret_bool (by have q0 : (!decide (x0 = y0)) = false := ‹_›; simp at q0; have q1 : (x1 != y1) = false := ‹_›; simp at q1; have q2 : (x2 != y2) = false := ‹_›; simp at q2; simp [q0, q1, q2]), E1⟩
set_option maxRecDepth 100000 in
set_option maxHeartbeats 400000 in
theorem eqMeasurementS_c {w : World} {va vb : Value} {x y : List LMeasurement} (ha : (Rep.slice 184 RMeasurement).raw w [va] x) (hb : (Rep.slice 184 RMeasurement).raw w [vb] y) :
    Calls Tryz.prog 55 #[va, vb] w fun e w' => e = .returned (.bool (decide (x = y))) ∧ Below w.heap.size w w' := by
  obtain ⟨aa, capa, hva, la⟩ := Rep.len_raw ha; obtain rfl : va = _ := by simpa using hva
  clear hva
  obtain ⟨ab, capb, hvb, lb⟩ := Rep.len_raw hb; obtain rfl : vb = _ := by simpa using hvb
  clear hvb
  go_enter Tryz.func55, Tryz.ntmps55
  by_cases hab : x.length = y.length
  · have hab' : ((x.length : Int) != (y.length : Int)) = false := by simp [hab]
    have HAB := Lib.hid hab; clear hab
    go_wp2
    go_loopw [5] (fun i wr => ∃ k : Nat, k ≤ x.length ∧ i = .int .i64 k ∧ x.take k = y.take k ∧ Below w.heap.size w wr) (fun i _ => x.length - (intOf i).toNat)
    case atStart => exact ⟨0, Nat.zero_le _, rfl, rfl, Below.refl _ _⟩
    case round =>
      obtain ⟨k, hk, rfl, htk, hbel⟩ := hrel
      by_cases hlt : k < x.length
      · have hlt2 : k < y.length := by have := HAB.out; omega
        obtain ⟨ba, offa, rfl, c0, c1, c2, hr, A0, A1, A2⟩ := Rep.get3 (ha.below hbel) hlt rfl
        obtain ⟨bb, offb, rfl, d0, d1, d2, hr2, B0, B1, B2⟩ := Rep.get3 (hb.below hbel) hlt2 rfl
        go_wp2
        go_still_tail 8, (by kernel_rfl)
        change wpList _ _ _ _ _ wr.drew
        clear A0 A1 A2 B0 B1 B2
        by_cases hxy : x[k] = y[k]
        · have hde : decide (x[k] = y[k]) = true := by simp [hxy]
          have HT := Lib.hid (take_eq_succ htk hlt hlt2 hxy); clear hxy htk
          have C := eqMeasurement_c hr.drew hr2.drew
          rw [hde] at C
          have HC := Lib.hid C; clear C hde hr hr2
          go_wp2_with (go_at_call 119; refine HC.out.mono ?_; rintro e w' ⟨rfl, hb2⟩)
          go_roundw
          case rel => exact ⟨k + 1, by omega, by go_num, HT.out, hbel.trans ((Below.refl _ _).drew.trans (hb2.mono hbel.size))⟩
          case measure => simp [intOf]; omega
        · have hde : decide (x[k] = y[k]) = false := by simp [hxy]
          have HT := Lib.hid (ne_of_get hlt hlt2 hxy); clear hxy htk
          have C := eqMeasurement_c hr.drew hr2.drew
          rw [hde] at C
          have HC := Lib.hid C; clear C hde hr hr2
          go_wp2_with (go_at_call 119; refine HC.out.mono ?_; rintro e w' ⟨rfl, hb2⟩)
          go_ret
          exact ⟨ret_bool (by simp [HT.out]), hbel.trans ((Below.refl _ _).drew.trans (hb2.mono hbel.size))⟩
      · have HT := Lib.hid (eq_of_take htk hlt HAB.out); clear htk
        go_wp2
        go_ret
        exact ⟨ret_bool (by simp [HT.out]), hbel⟩
  · have hab' : ((x.length : Int) != (y.length : Int)) = true := by simp; omega
    have HT : Hid (x ≠ y) := Lib.hid (fun q => hab (by rw [q])); clear hab
    go_wp2
    go_ret
    exact ⟨ret_bool (by simp [HT.out]), Below.refl _ _⟩
set_option maxRecDepth 100000 in
set_option maxHeartbeats 400000 in
theorem eqRoute_c {w : World} {ca cb : List Value} {x y : LRoute} (ha : RRoute.raw w ca x) (hb : RRoute.raw w cb y) :
    Calls Tryz.prog 118 #[.agg ca.toArray, .agg cb.toArray] w fun e w' => e = .returned (.bool (decide (x = y))) ∧ Below w.heap.size w w' := by
  obtain ⟨av0, rfl, a_0, a_1, a_2, a_3⟩ := RRoute_raw ha
  obtain ⟨bv0, rfl, b_0, b_1, b_2, b_3⟩ := RRoute_raw hb
  obtain ⟨x0, x1, x2⟩ := x
  obtain ⟨y0, y1, y2⟩ := y
  clear ha hb a_1 b_1 a_2 b_2 a_3 b_3
  go_enter Tryz.func118, Tryz.ntmps118
  go_wp2_with fail
  refine (eqName_c ((a_0.alloc _).alloc _) ((b_0.alloc _).alloc _)).mono ?_
  rintro e w1 ⟨rfl, hb1⟩
  have D1 := hb1
  have E1 : Below w.heap.size w w1 := (((Below.refl _ _).alloc (Nat.le_refl _) _).alloc (by simp) _).trans (hb1.mono (by simp; omega))
  obtain ⟨hc1, hf1⟩ := bcell D1; clear hb1
  go_wp2
  · go_ret
    exact ⟨ret_bool (by have q : (!decide (x0 = y0)) = true := ‹_›; simp at q; simp [q]), E1⟩
  · go_ret
    exact ⟨ret_bool (by have q : (x1 != y1) = true := ‹_›; simp at q; simp [q]), E1⟩
  · go_ret
    exact ⟨ret_bool (by have q : (x2 != y2) = true := ‹_›; simp at q; simp [q]), E1⟩
  · go_ret
    exact ⟨ret_bool (by have q0 : (!decide (x0 = y0)) = false := ‹_›; simp at q0; have q1 : (x1 != y1) = false := ‹_›; simp at q1; have q2 : (x2 != y2) = false := ‹_›; simp at q2; simp [q0, q1, q2]), E1⟩
set_option maxRecDepth 100000 in
set_option maxHeartbeats 400000 in
theorem eqRouteS_c {w : World} {va vb : Value} {x y : List LRoute} (ha : (Rep.slice 181 RRoute).raw w [va] x) (hb : (Rep.slice 181 RRoute).raw w [vb] y) :
    Calls Tryz.prog 54 #[va, vb] w fun e w' => e = .returned (.bool (decide (x = y))) ∧ Below w.heap.size w w' := by
  obtain ⟨aa, capa, hva, la⟩ := Rep.len_raw ha; obtain rfl : va = _ := by simpa using hva
  clear hva
  obtain ⟨ab, capb, hvb, lb⟩ := Rep.len_raw hb; obtain rfl : vb = _ := by simpa using hvb
  clear hvb
  go_enter Tryz.func54, Tryz.ntmps54
  by_cases hab : x.length = y.length
  · have hab' : ((x.length : Int) != (y.length : Int)) = false := by simp [hab]
    have HAB := Lib.hid hab; clear hab
    go_wp2
    go_loopw [5] (fun i wr => ∃ k : Nat, k ≤ x.length ∧ i = .int .i64 k ∧ x.take k = y.take k ∧ Below w.heap.size w wr) (fun i _ => x.length - (intOf i).toNat)
    case atStart => exact ⟨0, Nat.zero_le _, rfl, rfl, Below.refl _ _⟩
    case round =>
      obtain ⟨k, hk, rfl, htk, hbel⟩ := hrel
      by_cases hlt : k < x.length
      · have hlt2 : k < y.length := by have := HAB.out; omega
        obtain ⟨ba, offa, rfl, c0, c1, c2, hr, A0, A1, A2⟩ := Rep.get3 (ha.below hbel) hlt rfl
        obtain ⟨bb, offb, rfl, d0, d1, d2, hr2, B0, B1, B2⟩ := Rep.get3 (hb.below hbel) hlt2 rfl
        go_wp2
        go_still_tail 8, (by kernel_rfl)
        change wpList _ _ _ _ _ wr.drew
        clear A0 A1 A2 B0 B1 B2
        by_cases hxy : x[k] = y[k]
        · have hde : decide (x[k] = y[k]) = true := by simp [hxy]
          have HT := Lib.hid (take_eq_succ htk hlt hlt2 hxy); clear hxy htk
          have C := eqRoute_c hr.drew hr2.drew
          rw [hde] at C
          have HC := Lib.hid C; clear C hde hr hr2
          go_wp2_with (go_at_call 118; refine HC.out.mono ?_; rintro e w' ⟨rfl, hb2⟩)
          go_roundw
          case rel => exact ⟨k + 1, by omega, by go_num, HT.out, hbel.trans ((Below.refl _ _).drew.trans (hb2.mono hbel.size))⟩
          case measure => simp [intOf]; omega
        · have hde : decide (x[k] = y[k]) = false := by simp [hxy]
          have HT := Lib.hid (ne_of_get hlt hlt2 hxy); clear hxy htk
          have C := eqRoute_c hr.drew hr2.drew
          rw [hde] at C
          have HC := Lib.hid C; clear C hde hr hr2
          go_wp2_with (go_at_call 118; refine HC.out.mono ?_; rintro e w' ⟨rfl, hb2⟩)
          go_ret
          exact ⟨ret_bool (by simp [HT.out]), hbel.trans ((Below.refl _ _).drew.trans (hb2.mono hbel.size))⟩
      · have HT := Lib.hid (eq_of_take htk hlt HAB.out); clear htk
        go_wp2
        go_ret
        exact ⟨ret_bool (by simp [HT.out]), hbel⟩
  · have hab' : ((x.length : Int) != (y.length : Int)) = true := by simp; omega
    have HT : Hid (x ≠ y) := Lib.hid (fun q => hab (by rw [q])); clear hab
    go_wp2
    go_ret
    exact ⟨ret_bool (by simp [HT.out]), Below.refl _ _⟩
set_option maxRecDepth 100000 in
set_option maxHeartbeats 400000 in
theorem eqRequester_c {w : World} {ca cb : List Value} {x y : LRequester} (ha : RRequester.raw w ca x) (hb : RRequester.raw w cb y) :
    Calls Tryz.prog 220 #[.agg ca.toArray, .agg cb.toArray] w fun e w' => e = .returned (.bool (decide (x = y))) ∧ Below w.heap.size w w' := by
  obtain ⟨rfl, a_0, a_1, a_2⟩ := RRequester_raw ha
  obtain ⟨rfl, b_0, b_1, b_2⟩ := RRequester_raw hb
  obtain ⟨x0, x1, x2⟩ := x
  obtain ⟨y0, y1, y2⟩ := y
  clear ha hb a_0 b_0 a_1 b_1 a_2 b_2
  go_enter Tryz.func220, Tryz.ntmps220
  go_wp2
  · go_ret
    exact ⟨ret_bool (by have q : (x0 != y0) = true := ‹_›; simp at q; simp [q]), ((Below.refl _ _).alloc (Nat.le_refl _) _).alloc (by simp) _⟩
  · go_ret
    exact ⟨ret_bool (by have q : (x1 != y1) = true := ‹_›; simp at q; simp [q]), ((Below.refl _ _).alloc (Nat.le_refl _) _).alloc (by simp) _⟩
  · go_ret
    exact ⟨ret_bool (by have q : (x2 != y2) = true := ‹_›; simp at q; simp [q]), ((Below.refl _ _).alloc (Nat.le_refl _) _).alloc (by simp) _⟩
  · go_ret
    exact ⟨ret_bool (by have q0 : (x0 != y0) = false := ‹_›; simp at q0; have q1 : (x1 != y1) = false := ‹_›; simp at q1; have q2 : (x2 != y2) = false := ‹_›; simp at q2; simp [q0, q1, q2]), ((Below.refl _ _).alloc (Nat.le_refl _) _).alloc (by simp) _⟩
set_option maxRecDepth 100000 in
set_option maxHeartbeats 400000 in
theorem eqRequesterS_c {w : World} {va vb : Value} {x y : List LRequester} (ha : (Rep.slice 123 RRequester).raw w [va] x) (hb : (Rep.slice 123 RRequester).raw w [vb] y) :
    Calls Tryz.prog 186 #[va, vb] w fun e w' => e = .returned (.bool (decide (x = y))) ∧ Below w.heap.size w w' := by
  obtain ⟨aa, capa, hva, la⟩ := Rep.len_raw ha; obtain rfl : va = _ := by simpa using hva
  clear hva
  obtain ⟨ab, capb, hvb, lb⟩ := Rep.len_raw hb; obtain rfl : vb = _ := by simpa using hvb
  clear hvb
  go_enter Tryz.func186, Tryz.ntmps186
  by_cases hab : x.length = y.length
  · have hab' : ((x.length : Int) != (y.length : Int)) = false := by simp [hab]
    have HAB := Lib.hid hab; clear hab
    go_wp2
    go_loopw [5] (fun i wr => ∃ k : Nat, k ≤ x.length ∧ i = .int .i64 k ∧ x.take k = y.take k ∧ Below w.heap.size w wr) (fun i _ => x.length - (intOf i).toNat)
    case atStart => exact ⟨0, Nat.zero_le _, rfl, rfl, Below.refl _ _⟩
    case round =>
      obtain ⟨k, hk, rfl, htk, hbel⟩ := hrel
      by_cases hlt : k < x.length
      · have hlt2 : k < y.length := by have := HAB.out; omega
        obtain ⟨ba, offa, rfl, c0, c1, c2, hr, A0, A1, A2⟩ := Rep.get3 (ha.below hbel) hlt rfl
        obtain ⟨bb, offb, rfl, d0, d1, d2, hr2, B0, B1, B2⟩ := Rep.get3 (hb.below hbel) hlt2 rfl
        go_wp2
        go_still_tail 8, (by kernel_rfl)
        change wpList _ _ _ _ _ wr.drew
        clear A0 A1 A2 B0 B1 B2
        by_cases hxy : x[k] = y[k]
        · have hde : decide (x[k] = y[k]) = true := by simp [hxy]
          have HT := Lib.hid (take_eq_succ htk hlt hlt2 hxy); clear hxy htk
          have C := eqRequester_c hr.drew hr2.drew
          rw [hde] at C
          have HC := Lib.hid C; clear C hde hr hr2
          go_wp2_with (go_at_call 220; refine HC.out.mono ?_; rintro e w' ⟨rfl, hb2⟩)
          go_roundw
          case rel => exact ⟨k + 1, by omega, by go_num, HT.out, hbel.trans ((Below.refl _ _).drew.trans (hb2.mono hbel.size))⟩
          case measure => simp [intOf]; omega
        · have hde : decide (x[k] = y[k]) = false := by simp [hxy]
          have HT := Lib.hid (ne_of_get hlt hlt2 hxy); clear hxy htk
          have C := eqRequester_c hr.drew hr2.drew
          rw [hde] at C
          have HC := Lib.hid C; clear C hde hr hr2
          go_wp2_with (go_at_call 220; refine HC.out.mono ?_; rintro e w' ⟨rfl, hb2⟩)
          go_ret
          exact ⟨ret_bool (by simp [HT.out]), hbel.trans ((Below.refl _ _).drew.trans (hb2.mono hbel.size))⟩
      · have HT := Lib.hid (eq_of_take htk hlt HAB.out); clear htk
        go_wp2
        go_ret
        exact ⟨ret_bool (by simp [HT.out]), hbel⟩
  · have hab' : ((x.length : Int) != (y.length : Int)) = true := by simp; omega
    have HT : Hid (x ≠ y) := Lib.hid (fun q => hab (by rw [q])); clear hab
    go_wp2
    go_ret
    exact ⟨ret_bool (by simp [HT.out]), Below.refl _ _⟩
set_option maxRecDepth 100000 in
set_option maxHeartbeats 400000 in
theorem eqPendingInterest_c {w : World} {ca cb : List Value} {x y : LPendingInterest} (ha : RPendingInterest.raw w ca x) (hb : RPendingInterest.raw w cb y) :
    Calls Tryz.prog 116 #[.agg ca.toArray, .agg cb.toArray] w fun e w' => e = .returned (.bool (decide (x = y))) ∧ Below w.heap.size w w' := by
  obtain ⟨av0, av1, rfl, a_0, a_1, a_2, a_3⟩ := RPendingInterest_raw ha
  obtain ⟨bv0, bv1, rfl, b_0, b_1, b_2, b_3⟩ := RPendingInterest_raw hb
  obtain ⟨x0, x1, x2⟩ := x
  obtain ⟨y0, y1, y2⟩ := y
  clear ha hb a_1 b_1 a_3 b_3
  go_enter Tryz.func116, Tryz.ntmps116
  go_wp2_with fail
  refine (eqName_c ((a_0.alloc _).alloc _) ((b_0.alloc _).alloc _)).mono ?_
  rintro e w1 ⟨rfl, hb1⟩
  have D1 := hb1
  have E1 : Below w.heap.size w w1 := (((Below.refl _ _).alloc (Nat.le_refl _) _).alloc (by simp) _).trans (hb1.mono (by simp; omega))
  obtain ⟨hc1, hf1⟩ := bcell D1; clear hb1
  go_wp2_with fail
  · go_ret
    exact ⟨ret_bool (by have q : (!decide (x0 = y0)) = true := ‹_›; simp at q; simp [q]), E1⟩
  refine (eqRequesterS_c (a_2.below E1) (b_2.below E1)).mono ?_
  rintro e w2 ⟨rfl, hb2⟩
  have D2 := D1.trans (hb2.mono D1.size)
  have E2 := E1.trans (hb2.mono E1.size)
  clear hc1 hf1 hb2
  obtain ⟨hc2, hf2⟩ := bcell D2
  go_wp2
  · go_ret
    exact ⟨ret_bool (by have q : (!decide (x1 = y1)) = true := ‹_›; simp at q; simp [q]), E2⟩
  · go_ret
    exact ⟨ret_bool (by have q : (x2 != y2) = true := ‹_›; simp at q; simp [q]), E2⟩
  · go_ret
    exact ⟨ret_bool (by have q0 : (!decide (x0 = y0)) = false := ‹_›; simp at q0; have q1 : (!decide (x1 = y1)) = false := ‹_›; simp at q1; have q2 : (x2 != y2) = false := ‹_›; simp at q2; simp [q0, q1, q2]), E2⟩
set_option maxRecDepth 100000 in
set_option maxHeartbeats 400000 in
theorem eqPendingInterestS_c {w : World} {va vb : Value} {x y : List LPendingInterest} (ha : (Rep.slice 175 RPendingInterest).raw w [va] x) (hb : (Rep.slice 175 RPendingInterest).raw w [vb] y) :
    Calls Tryz.prog 52 #[va, vb] w fun e w' => e = .returned (.bool (decide (x = y))) ∧ Below w.heap.size w w' := by
  obtain ⟨aa, capa, hva, la⟩ := Rep.len_raw ha; obtain rfl : va = _ := by simpa using hva
  clear hva
  obtain ⟨ab, capb, hvb, lb⟩ := Rep.len_raw hb; obtain rfl : vb = _ := by simpa using hvb
  clear hvb
  go_enter Tryz.func52, Tryz.ntmps52
  by_cases hab : x.length = y.length
  · have hab' : ((x.length : Int) != (y.length : Int)) = false := by simp [hab]
    have HAB := Lib.hid hab; clear hab
    go_wp2
    go_loopw [5] (fun i wr => ∃ k : Nat, k ≤ x.length ∧ i = .int .i64 k ∧ x.take k = y.take k ∧ Below w.heap.size w wr) (fun i _ => x.length - (intOf i).toNat)
    case atStart => exact ⟨0, Nat.zero_le _, rfl, rfl, Below.refl _ _⟩
    case round =>
      obtain ⟨k, hk, rfl, htk, hbel⟩ := hrel
      by_cases hlt : k < x.length
      · have hlt2 : k < y.length := by have := HAB.out; omega
        obtain ⟨ba, offa, rfl, c0, c1, c2, hr, A0, A1, A2⟩ := Rep.get3 (ha.below hbel) hlt rfl
        obtain ⟨bb, offb, rfl, d0, d1, d2, hr2, B0, B1, B2⟩ := Rep.get3 (hb.below hbel) hlt2 rfl
        go_wp2
        go_still_tail 8, (by kernel_rfl)
        change wpList _ _ _ _ _ wr.drew
        clear A0 A1 A2 B0 B1 B2
        by_cases hxy : x[k] = y[k]
        · have hde : decide (x[k] = y[k]) = true := by simp [hxy]
          have HT := Lib.hid (take_eq_succ htk hlt hlt2 hxy); clear hxy htk
          have C := eqPendingInterest_c hr.drew hr2.drew
          rw [hde] at C
          have HC := Lib.hid C; clear C hde hr hr2
          go_wp2_with (go_at_call 116; refine HC.out.mono ?_; rintro e w' ⟨rfl, hb2⟩)
          go_roundw
          case rel => exact ⟨k + 1, by omega, by go_num, HT.out, hbel.trans ((Below.refl _ _).drew.trans (hb2.mono hbel.size))⟩
          case measure => simp [intOf]; omega
        · have hde : decide (x[k] = y[k]) = false := by simp [hxy]
          have HT := Lib.hid (ne_of_get hlt hlt2 hxy); clear hxy htk
          have C := eqPendingInterest_c hr.drew hr2.drew
          rw [hde] at C
          have HC := Lib.hid C; clear C hde hr hr2
          go_wp2_with (go_at_call 116; refine HC.out.mono ?_; rintro e w' ⟨rfl, hb2⟩)
          go_ret
          exact ⟨ret_bool (by simp [HT.out]), hbel.trans ((Below.refl _ _).drew.trans (hb2.mono hbel.size))⟩
      · have HT := Lib.hid (eq_of_take htk hlt HAB.out); clear htk
        go_wp2
        go_ret
        exact ⟨ret_bool (by simp [HT.out]), hbel⟩
  · have hab' : ((x.length : Int) != (y.length : Int)) = true := by simp; omega
    have HT : Hid (x ≠ y) := Lib.hid (fun q => hab (by rw [q])); clear hab
    go_wp2
    go_ret
    exact ⟨ret_bool (by simp [HT.out]), Below.refl _ _⟩
set_option maxRecDepth 100000 in
set_option maxHeartbeats 400000 in
theorem eqSeenNonce_c {w : World} {ca cb : List Value} {x y : LSeenNonce} (ha : RSeenNonce.raw w ca x) (hb : RSeenNonce.raw w cb y) :
    Calls Tryz.prog 117 #[.agg ca.toArray, .agg cb.toArray] w fun e w' => e = .returned (.bool (decide (x = y))) ∧ Below w.heap.size w w' := by
  obtain ⟨av0, rfl, a_0, a_1, a_2⟩ := RSeenNonce_raw ha
  obtain ⟨bv0, rfl, b_0, b_1, b_2⟩ := RSeenNonce_raw hb
  obtain ⟨x0, x1⟩ := x
  obtain ⟨y0, y1⟩ := y
  clear ha hb a_1 b_1 a_2 b_2
  go_enter Tryz.func117, Tryz.ntmps117
  go_wp2_with fail
  refine (eqName_c ((a_0.alloc _).alloc _) ((b_0.alloc _).alloc _)).mono ?_
  rintro e w1 ⟨rfl, hb1⟩
  have D1 := hb1
  have E1 : Below w.heap.size w w1 := (((Below.refl _ _).alloc (Nat.le_refl _) _).alloc (by simp) _).trans (hb1.mono (by simp; omega))
  obtain ⟨hc1, hf1⟩ := bcell D1; clear hb1
  go_wp2
  · go_ret
    exact ⟨ret_bool (by have q : (!decide (x0 = y0)) = true := ‹_›; simp at q; simp [q]), E1⟩
  · go_ret
    exact ⟨ret_bool (by have q : (x1 != y1) = true := ‹_›; simp at q; simp [q]), E1⟩
  · go_ret
    exact ⟨ret_bool (by have q0 : (!decide (x0 = y0)) = false := ‹_›; simp at q0; have q1 : (x1 != y1) = false := ‹_›; simp at q1; simp [q0, q1]), E1⟩
set_option maxRecDepth 100000 in
set_option maxHeartbeats 400000 in
theorem eqSeenNonceS_c {w : World} {va vb : Value} {x y : List LSeenNonce} (ha : (Rep.slice 178 RSeenNonce).raw w [va] x) (hb : (Rep.slice 178 RSeenNonce).raw w [vb] y) :
    Calls Tryz.prog 53 #[va, vb] w fun e w' => e = .returned (.bool (decide (x = y))) ∧ Below w.heap.size w w' := by
  obtain ⟨aa, capa, hva, la⟩ := Rep.len_raw ha; obtain rfl : va = _ := by simpa using hva
  clear hva
  obtain ⟨ab, capb, hvb, lb⟩ := Rep.len_raw hb; obtain rfl : vb = _ := by simpa using hvb
  clear hvb
  go_enter Tryz.func53, Tryz.ntmps53
  by_cases hab : x.length = y.length
  · have hab' : ((x.length : Int) != (y.length : Int)) = false := by simp [hab]
    have HAB := Lib.hid hab; clear hab
    go_wp2
    go_loopw [5] (fun i wr => ∃ k : Nat, k ≤ x.length ∧ i = .int .i64 k ∧ x.take k = y.take k ∧ Below w.heap.size w wr) (fun i _ => x.length - (intOf i).toNat)
    case atStart => exact ⟨0, Nat.zero_le _, rfl, rfl, Below.refl _ _⟩
    case round =>
      obtain ⟨k, hk, rfl, htk, hbel⟩ := hrel
      by_cases hlt : k < x.length
      · have hlt2 : k < y.length := by have := HAB.out; omega
        obtain ⟨ba, offa, rfl, c0, c1, hr, A0, A1⟩ := Rep.get2 (ha.below hbel) hlt rfl
        obtain ⟨bb, offb, rfl, d0, d1, hr2, B0, B1⟩ := Rep.get2 (hb.below hbel) hlt2 rfl
        go_wp2
        go_still_tail 8, (by kernel_rfl)
        change wpList _ _ _ _ _ wr.drew
        clear A0 A1 B0 B1
        by_cases hxy : x[k] = y[k]
        · have hde : decide (x[k] = y[k]) = true := by simp [hxy]
          have HT := Lib.hid (take_eq_succ htk hlt hlt2 hxy); clear hxy htk
          have C := eqSeenNonce_c hr.drew hr2.drew
          rw [hde] at C
          have HC := Lib.hid C; clear C hde hr hr2
          go_wp2_with (go_at_call 117; refine HC.out.mono ?_; rintro e w' ⟨rfl, hb2⟩)
          go_roundw
          case rel => exact ⟨k + 1, by omega, by go_num, HT.out, hbel.trans ((Below.refl _ _).drew.trans (hb2.mono hbel.size))⟩
          case measure => simp [intOf]; omega
        · have hde : decide (x[k] = y[k]) = false := by simp [hxy]
          have HT := Lib.hid (ne_of_get hlt hlt2 hxy); clear hxy htk
          have C := eqSeenNonce_c hr.drew hr2.drew
          rw [hde] at C
          have HC := Lib.hid C; clear C hde hr hr2
          go_wp2_with (go_at_call 117; refine HC.out.mono ?_; rintro e w' ⟨rfl, hb2⟩)
          go_ret
          exact ⟨ret_bool (by simp [HT.out]), hbel.trans ((Below.refl _ _).drew.trans (hb2.mono hbel.size))⟩
      · have HT := Lib.hid (eq_of_take htk hlt HAB.out); clear htk
        go_wp2
        go_ret
        exact ⟨ret_bool (by simp [HT.out]), hbel⟩
  · have hab' : ((x.length : Int) != (y.length : Int)) = true := by simp; omega
    have HT : Hid (x ≠ y) := Lib.hid (fun q => hab (by rw [q])); clear hab
    go_wp2
    go_ret
    exact ⟨ret_bool (by simp [HT.out]), Below.refl _ _⟩
set_option maxRecDepth 100000 in
set_option maxHeartbeats 400000 in
theorem eqInterest_c {w : World} {ca cb : List Value} {x y : LInterest} (ha : RInterest.raw w ca x) (hb : RInterest.raw w cb y) :
    Calls Tryz.prog 196 #[.agg ca.toArray, .agg cb.toArray] w fun e w' => e = .returned (.bool (decide (x = y))) ∧ Below w.heap.size w w' := by
  obtain ⟨av0, rfl, a_0, a_1, a_2, a_3, a_4⟩ := RInterest_raw ha
  obtain ⟨bv0, rfl, b_0, b_1, b_2, b_3, b_4⟩ := RInterest_raw hb
  obtain ⟨x0, x1, x2, x3⟩ := x
  obtain ⟨y0, y1, y2, y3⟩ := y
  clear ha hb a_1 b_1 a_2 b_2 a_3 b_3 a_4 b_4
  go_enter Tryz.func196, Tryz.ntmps196
  go_wp2_with fail
  refine (eqName_c ((a_0.alloc _).alloc _) ((b_0.alloc _).alloc _)).mono ?_
  rintro e w1 ⟨rfl, hb1⟩
  have D1 := hb1
  have E1 : Below w.heap.size w w1 := (((Below.refl _ _).alloc (Nat.le_refl _) _).alloc (by simp) _).trans (hb1.mono (by simp; omega))
  obtain ⟨hc1, hf1⟩ := bcell D1; clear hb1
  go_wp2
  · go_ret
    exact ⟨ret_bool (by have q : (!decide (x0 = y0)) = true := ‹_›; simp at q; simp [q]), E1⟩
  · go_ret
    exact ⟨ret_bool (by have q : (x1 != y1) = true := ‹_›; simp at q; simp [q]), E1⟩
  · go_ret
    exact ⟨ret_bool (by have q : (x2 != y2) = true := ‹_›; simp at q; simp [q]), E1⟩
  · go_ret
    exact ⟨ret_bool (by have q : (x3 != y3) = true := ‹_›; simp at q; simp [q]), E1⟩
  · go_ret
    exact ⟨ret_bool (by have q0 : (!decide (x0 = y0)) = false := ‹_›; simp at q0; have q1 : (x1 != y1) = false := ‹_›; simp at q1; have q2 : (x2 != y2) = false := ‹_›; simp at q2; have q3 : (x3 != y3) = false := ‹_›; simp at q3; simp [q0, q1, q2, q3]), E1⟩
set_option maxRecDepth 100000 in
set_option maxHeartbeats 400000 in
theorem eqData_c {w : World} {ca cb : List Value} {x y : LData} (ha : RData.raw w ca x) (hb : RData.raw w cb y) :
    Calls Tryz.prog 15 #[.agg ca.toArray, .agg cb.toArray] w fun e w' => e = .returned (.bool (decide (x = y))) ∧ Below w.heap.size w w' := by
  obtain ⟨av0, av1, av2, rfl, a_0, a_1, a_2, a_3, a_4, a_5, a_6⟩ := RData_raw ha
  obtain ⟨bv0, bv1, bv2, rfl, b_0, b_1, b_2, b_3, b_4, b_5, b_6⟩ := RData_raw hb
  obtain ⟨x0, x1, x2, x3, x4⟩ := x
  obtain ⟨y0, y1, y2, y3, y4⟩ := y
  clear ha hb a_1 b_1 a_4 b_4 a_5 b_5 a_6 b_6
  go_enter Tryz.func15, Tryz.ntmps15
  go_wp2_with fail
  refine (eqName_c ((a_0.alloc _).alloc _) ((b_0.alloc _).alloc _)).mono ?_
  rintro e w1 ⟨rfl, hb1⟩
  have D1 := hb1
  have E1 : Below w.heap.size w w1 := (((Below.refl _ _).alloc (Nat.le_refl _) _).alloc (by simp) _).trans (hb1.mono (by simp; omega))
  obtain ⟨hc1, hf1⟩ := bcell D1; clear hb1
  go_wp2_with fail
  · go_ret
    exact ⟨ret_bool (by have q : (!decide (x0 = y0)) = true := ‹_›; simp at q; simp [q]), E1⟩
  refine (eqByteS_c (a_2.below E1) (b_2.below E1)).mono ?_
  rintro e w2 ⟨rfl, hb2⟩
  have D2 := D1.trans (hb2.mono D1.size)
  have E2 := E1.trans (hb2.mono E1.size)
  clear hc1 hf1 hb2
  obtain ⟨hc2, hf2⟩ := bcell D2
  go_wp2_with fail
  · go_ret
    exact ⟨ret_bool (by have q : (!decide (x1 = y1)) = true := ‹_›; simp at q; simp [q]), E2⟩
  refine (eqName_c (a_3.below E2) (b_3.below E2)).mono ?_
  rintro e w3 ⟨rfl, hb3⟩
  have D3 := D2.trans (hb3.mono D2.size)
  have E3 := E2.trans (hb3.mono E2.size)
  clear hc2 hf2 hb3
  obtain ⟨hc3, hf3⟩ := bcell D3
  go_wp2
  · go_ret
    exact ⟨ret_bool (by have q : (!decide (x2 = y2)) = true := ‹_›; simp at q; simp [q]), E3⟩
  · go_ret
    exact ⟨ret_bool (by have q : (x3 != y3) = true := ‹_›; simp at q; simp [q]), E3⟩
  · go_ret
    exact ⟨ret_bool (by have q : (x4 != y4) = true := ‹_›; simp at q; simp [q]), E3⟩
  · go_ret
    exact ⟨ret_bool (by have q0 : (!decide (x0 = y0)) = false := ‹_›; simp at q0; have q1 : (!decide (x1 = y1)) = false := ‹_›; simp at q1; have q2 : (!decide (x2 = y2)) = false := ‹_›; simp at q2; have q3 : (x3 != y3) = false := ‹_›; simp at q3; have q4 : (x4 != y4) = false := ‹_›; simp at q4; simp [q0, q1, q2, q3, q4]), E3⟩
set_option maxRecDepth 100000 in
set_option maxHeartbeats 400000 in
theorem eqDataS_c {w : World} {va vb : Value} {x y : List LData} (ha : (Rep.slice 66 RData).raw w [va] x) (hb : (Rep.slice 66 RData).raw w [vb] y) :
    Calls Tryz.prog 50 #[va, vb] w fun e w' => e = .returned (.bool (decide (x = y))) ∧ Below w.heap.size w w' := by
  obtain ⟨aa, capa, hva, la⟩ := Rep.len_raw ha; obtain rfl : va = _ := by simpa using hva
  clear hva
  obtain ⟨ab, capb, hvb, lb⟩ := Rep.len_raw hb; obtain rfl : vb = _ := by simpa using hvb
  clear hvb
  go_enter Tryz.func50, Tryz.ntmps50
  by_cases hab : x.length = y.length
  · have hab' : ((x.length : Int) != (y.length : Int)) = false := by simp [hab]
    have HAB := Lib.hid hab; clear hab
    go_wp2
    go_loopw [5] (fun i wr => ∃ k : Nat, k ≤ x.length ∧ i = .int .i64 k ∧ x.take k = y.take k ∧ Below w.heap.size w wr) (fun i _ => x.length - (intOf i).toNat)
    case atStart => exact ⟨0, Nat.zero_le _, rfl, rfl, Below.refl _ _⟩
    case round =>
      obtain ⟨k, hk, rfl, htk, hbel⟩ := hrel
      by_cases hlt : k < x.length
      · have hlt2 : k < y.length := by have := HAB.out; omega
        obtain ⟨ba, offa, rfl, c0, c1, c2, c3, c4, hr, A0, A1, A2, A3, A4⟩ := Rep.get5 (ha.below hbel) hlt rfl
        obtain ⟨bb, offb, rfl, d0, d1, d2, d3, d4, hr2, B0, B1, B2, B3, B4⟩ := Rep.get5 (hb.below hbel) hlt2 rfl
        go_wp2
        go_still_tail 8, (by kernel_rfl)
        change wpList _ _ _ _ _ wr.drew
        clear A0 A1 A2 A3 A4 B0 B1 B2 B3 B4
        by_cases hxy : x[k] = y[k]
        · have hde : decide (x[k] = y[k]) = true := by simp [hxy]
          have HT := Lib.hid (take_eq_succ htk hlt hlt2 hxy); clear hxy htk
          have C := eqData_c hr.drew hr2.drew
          rw [hde] at C
          have HC := Lib.hid C; clear C hde hr hr2
          go_wp2_with (go_at_call 15; refine HC.out.mono ?_; rintro e w' ⟨rfl, hb2⟩)
          go_roundw
          case rel => exact ⟨k + 1, by omega, by go_num, HT.out, hbel.trans ((Below.refl _ _).drew.trans (hb2.mono hbel.size))⟩
          case measure => simp [intOf]; omega
        · have hde : decide (x[k] = y[k]) = false := by simp [hxy]
          have HT := Lib.hid (ne_of_get hlt hlt2 hxy); clear hxy htk
          have C := eqData_c hr.drew hr2.drew
          rw [hde] at C
          have HC := Lib.hid C; clear C hde hr hr2
          go_wp2_with (go_at_call 15; refine HC.out.mono ?_; rintro e w' ⟨rfl, hb2⟩)
          go_ret
          exact ⟨ret_bool (by simp [HT.out]), hbel.trans ((Below.refl _ _).drew.trans (hb2.mono hbel.size))⟩
      · have HT := Lib.hid (eq_of_take htk hlt HAB.out); clear htk
        go_wp2
        go_ret
        exact ⟨ret_bool (by simp [HT.out]), hbel⟩
  · have hab' : ((x.length : Int) != (y.length : Int)) = true := by simp; omega
    have HT : Hid (x ≠ y) := Lib.hid (fun q => hab (by rw [q])); clear hab
    go_wp2
    go_ret
    exact ⟨ret_bool (by simp [HT.out]), Below.refl _ _⟩
set_option maxRecDepth 100000 in
set_option maxHeartbeats 400000 in
theorem eqCacheEntry_c {w : World} {ca cb : List Value} {x y : LCacheEntry} (ha : RCacheEntry.raw w ca x) (hb : RCacheEntry.raw w cb y) :
    Calls Tryz.prog 185 #[.agg ca.toArray, .agg cb.toArray] w fun e w' => e = .returned (.bool (decide (x = y))) ∧ Below w.heap.size w w' := by
  obtain ⟨av0, av1, av2, rfl, a_0, a_1, a_2, a_3, a_4, a_5, a_6, a_7, a_8⟩ := RCacheEntry_raw ha
  obtain ⟨bv0, bv1, bv2, rfl, b_0, b_1, b_2, b_3, b_4, b_5, b_6, b_7, b_8⟩ := RCacheEntry_raw hb
  obtain ⟨x0, x1⟩ := x
  obtain ⟨y0, y1⟩ := y
  clear ha hb a_1 b_1 a_2 b_2 a_3 b_3 a_4 b_4 a_5 b_5 a_6 b_6 a_7 b_7 a_8 b_8
  go_enter Tryz.func185, Tryz.ntmps185
  go_wp2_with fail
  refine (eqData_c ((a_0.alloc _).alloc _) ((b_0.alloc _).alloc _)).mono ?_
  rintro e w1 ⟨rfl, hb1⟩
  have D1 := hb1
  have E1 : Below w.heap.size w w1 := (((Below.refl _ _).alloc (Nat.le_refl _) _).alloc (by simp) _).trans (hb1.mono (by simp; omega))
  obtain ⟨hc1, hf1⟩ := bcell D1; clear hb1
  go_wp2
  · go_ret
    exact ⟨ret_bool (by have q : (!decide (x0 = y0)) = true := ‹_›; simp at q; simp [q]), E1⟩
  · go_ret
    exact ⟨ret_bool (by have q : (x1 != y1) = true := ‹_›; simp at q; simp [q]), E1⟩
  · go_ret
    exact ⟨ret_bool (by have q0 : (!decide (x0 = y0)) = false := ‹_›; simp at q0; have q1 : (x1 != y1) = false := ‹_›; simp at q1; simp [q0, q1]), E1⟩
set_option maxRecDepth 100000 in
set_option maxHeartbeats 400000 in
theorem eqCacheEntryS_c {w : World} {va vb : Value} {x y : List LCacheEntry} (ha : (Rep.slice 212 RCacheEntry).raw w [va] x) (hb : (Rep.slice 212 RCacheEntry).raw w [vb] y) :
    Calls Tryz.prog 115 #[va, vb] w fun e w' => e = .returned (.bool (decide (x = y))) ∧ Below w.heap.size w w' := by
  obtain ⟨aa, capa, hva, la⟩ := Rep.len_raw ha; obtain rfl : va = _ := by simpa using hva
  clear hva
  obtain ⟨ab, capb, hvb, lb⟩ := Rep.len_raw hb; obtain rfl : vb = _ := by simpa using hvb
  clear hvb
  go_enter Tryz.func115, Tryz.ntmps115
  by_cases hab : x.length = y.length
  · have hab' : ((x.length : Int) != (y.length : Int)) = false := by simp [hab]
    have HAB := Lib.hid hab; clear hab
    go_wp2
    go_loopw [5] (fun i wr => ∃ k : Nat, k ≤ x.length ∧ i = .int .i64 k ∧ x.take k = y.take k ∧ Below w.heap.size w wr) (fun i _ => x.length - (intOf i).toNat)
    case atStart => exact ⟨0, Nat.zero_le _, rfl, rfl, Below.refl _ _⟩
    case round =>
      obtain ⟨k, hk, rfl, htk, hbel⟩ := hrel
      by_cases hlt : k < x.length
      · have hlt2 : k < y.length := by have := HAB.out; omega
        obtain ⟨ba, offa, rfl, c0, c1, c2, c3, c4, c5, hr, A0, A1, A2, A3, A4, A5⟩ := Rep.get6 (ha.below hbel) hlt rfl
        obtain ⟨bb, offb, rfl, d0, d1, d2, d3, d4, d5, hr2, B0, B1, B2, B3, B4, B5⟩ := Rep.get6 (hb.below hbel) hlt2 rfl
        go_wp2
        go_still_tail 8, (by kernel_rfl)
        change wpList _ _ _ _ _ wr.drew
        clear A0 A1 A2 A3 A4 A5 B0 B1 B2 B3 B4 B5
        by_cases hxy : x[k] = y[k]
        · have hde : decide (x[k] = y[k]) = true := by simp [hxy]
          have HT := Lib.hid (take_eq_succ htk hlt hlt2 hxy); clear hxy htk
          have C := eqCacheEntry_c hr.drew hr2.drew
          rw [hde] at C
          have HC := Lib.hid C; clear C hde hr hr2
          go_wp2_with (go_at_call 185; refine HC.out.mono ?_; rintro e w' ⟨rfl, hb2⟩)
          go_roundw
          case rel => exact ⟨k + 1, by omega, by go_num, HT.out, hbel.trans ((Below.refl _ _).drew.trans (hb2.mono hbel.size))⟩
          case measure => simp [intOf]; omega
        · have hde : decide (x[k] = y[k]) = false := by simp [hxy]
          have HT := Lib.hid (ne_of_get hlt hlt2 hxy); clear hxy htk
          have C := eqCacheEntry_c hr.drew hr2.drew
          rw [hde] at C
          have HC := Lib.hid C; clear C hde hr hr2
          go_wp2_with (go_at_call 185; refine HC.out.mono ?_; rintro e w' ⟨rfl, hb2⟩)
          go_ret
          exact ⟨ret_bool (by simp [HT.out]), hbel.trans ((Below.refl _ _).drew.trans (hb2.mono hbel.size))⟩
      · have HT := Lib.hid (eq_of_take htk hlt HAB.out); clear htk
        go_wp2
        go_ret
        exact ⟨ret_bool (by simp [HT.out]), hbel⟩
  · have hab' : ((x.length : Int) != (y.length : Int)) = true := by simp; omega
    have HT : Hid (x ≠ y) := Lib.hid (fun q => hab (by rw [q])); clear hab
    go_wp2
    go_ret
    exact ⟨ret_bool (by simp [HT.out]), Below.refl _ _⟩
set_option maxRecDepth 100000 in
set_option maxHeartbeats 400000 in
theorem eqContentStore_c {w : World} {ca cb : List Value} {x y : LContentStore} (ha : RContentStore.raw w ca x) (hb : RContentStore.raw w cb y) :
    Calls Tryz.prog 51 #[.agg ca.toArray, .agg cb.toArray] w fun e w' => e = .returned (.bool (decide (x = y))) ∧ Below w.heap.size w w' := by
  obtain ⟨av0, rfl, a_0, a_1⟩ := RContentStore_raw ha
  obtain ⟨bv0, rfl, b_0, b_1⟩ := RContentStore_raw hb
  obtain ⟨x0, x1⟩ := x
  obtain ⟨y0, y1⟩ := y
  clear ha hb a_0 b_0
  go_enter Tryz.func51, Tryz.ntmps51
  go_wp2_with fail
  · go_ret
    exact ⟨ret_bool (by have q : (x0 != y0) = true := ‹_›; simp at q; simp [q]), ((Below.refl _ _).alloc (Nat.le_refl _) _).alloc (by simp) _⟩
  refine (eqCacheEntryS_c ((a_1.alloc _).alloc _) ((b_1.alloc _).alloc _)).mono ?_
  rintro e w1 ⟨rfl, hb1⟩
  have D1 := hb1
  have E1 : Below w.heap.size w w1 := (((Below.refl _ _).alloc (Nat.le_refl _) _).alloc (by simp) _).trans (hb1.mono (by simp; omega))
  obtain ⟨hc1, hf1⟩ := bcell D1; clear hb1
  go_wp2
  · go_ret
    exact ⟨ret_bool (by have q : (!decide (x1 = y1)) = true := ‹_›; simp at q; simp [q]), E1⟩
  · go_ret
    exact ⟨ret_bool (by have q0 : (x0 != y0) = false := ‹_›; simp at q0; have q1 : (!decide (x1 = y1)) = false := ‹_›; simp at q1; simp [q0, q1]), E1⟩
set_option maxRecDepth 100000 in
set_option maxHeartbeats 400000 in
theorem eqNode_c {w : World} {ca cb : List Value} {x y : LNode} (ha : RNode.raw w ca x) (hb : RNode.raw w cb y) :
    Calls Tryz.prog 13 #[.agg ca.toArray, .agg cb.toArray] w fun e w' => e = .returned (.bool (decide (x = y))) ∧ Below w.heap.size w w' := by
  obtain ⟨av0, av1, av2, av3, av4, av5, rfl, a_0, a_1, a_2, a_3, a_4, a_5, a_6, a_7, a_8⟩ := RNode_raw ha
  obtain ⟨bv0, bv1, bv2, bv3, bv4, bv5, rfl, b_0, b_1, b_2, b_3, b_4, b_5, b_6, b_7, b_8⟩ := RNode_raw hb
  obtain ⟨x0, x1, x2, x3, x4, x5, x6⟩ := x
  obtain ⟨y0, y1, y2, y3, y4, y5, y6⟩ := y
  clear ha hb a_2 b_2 a_3 b_3 a_8 b_8
  go_enter Tryz.func13, Tryz.ntmps13
  go_wp2_with fail
  refine (eqDataS_c ((a_0.alloc _).alloc _) ((b_0.alloc _).alloc _)).mono ?_
  rintro e w1 ⟨rfl, hb1⟩
  have D1 := hb1
  have E1 : Below w.heap.size w w1 := (((Below.refl _ _).alloc (Nat.le_refl _) _).alloc (by simp) _).trans (hb1.mono (by simp; omega))
  obtain ⟨hc1, hf1⟩ := bcell D1; clear hb1
  go_wp2_with fail
  · go_ret
    exact ⟨ret_bool (by have q : (!decide (x0 = y0)) = true := ‹_›; simp at q; simp [q]), E1⟩
  refine (eqContentStore_c (a_1.below E1) (b_1.below E1)).mono ?_
  rintro e w2 ⟨rfl, hb2⟩
  have D2 := D1.trans (hb2.mono D1.size)
  have E2 := E1.trans (hb2.mono E1.size)
  clear hc1 hf1 hb2
  obtain ⟨hc2, hf2⟩ := bcell D2
  go_wp2_with fail
  · go_ret
    exact ⟨ret_bool (by have q : (!decide (x1 = y1)) = true := ‹_›; simp at q; simp [q]), E2⟩
  refine (eqPendingInterestS_c (a_4.below E2) (b_4.below E2)).mono ?_
  rintro e w3 ⟨rfl, hb3⟩
  have D3 := D2.trans (hb3.mono D2.size)
  have E3 := E2.trans (hb3.mono E2.size)
  clear hc2 hf2 hb3
  obtain ⟨hc3, hf3⟩ := bcell D3
  go_wp2_with fail
  · go_ret
    exact ⟨ret_bool (by have q : (!decide (x2 = y2)) = true := ‹_›; simp at q; simp [q]), E3⟩
  refine (eqSeenNonceS_c (a_5.below E3) (b_5.below E3)).mono ?_
  rintro e w4 ⟨rfl, hb4⟩
  have D4 := D3.trans (hb4.mono D3.size)
  have E4 := E3.trans (hb4.mono E3.size)
  clear hc3 hf3 hb4
  obtain ⟨hc4, hf4⟩ := bcell D4
  go_wp2_with fail
  · go_ret
    exact ⟨ret_bool (by have q : (!decide (x3 = y3)) = true := ‹_›; simp at q; simp [q]), E4⟩
  refine (eqRouteS_c (a_6.below E4) (b_6.below E4)).mono ?_
  rintro e w5 ⟨rfl, hb5⟩
  have D5 := D4.trans (hb5.mono D4.size)
  have E5 := E4.trans (hb5.mono E4.size)
  clear hc4 hf4 hb5
  obtain ⟨hc5, hf5⟩ := bcell D5
  go_wp2_with fail
  · go_ret
    exact ⟨ret_bool (by have q : (!decide (x4 = y4)) = true := ‹_›; simp at q; simp [q]), E5⟩
  refine (eqMeasurementS_c (a_7.below E5) (b_7.below E5)).mono ?_
  rintro e w6 ⟨rfl, hb6⟩
  have D6 := D5.trans (hb6.mono D5.size)
  have E6 := E5.trans (hb6.mono E5.size)
  clear hc5 hf5 hb6
  obtain ⟨hc6, hf6⟩ := bcell D6
  go_wp2
  · go_ret
    exact ⟨ret_bool (by have q : (!decide (x5 = y5)) = true := ‹_›; simp at q; simp [q]), E6⟩
  · go_ret
    exact ⟨ret_bool (by have q : (x6 != y6) = true := ‹_›; simp at q; simp [q]), E6⟩
  · go_ret
    exact ⟨ret_bool (by have q0 : (!decide (x0 = y0)) = false := ‹_›; simp at q0; have q1 : (!decide (x1 = y1)) = false := ‹_›; simp at q1; have q2 : (!decide (x2 = y2)) = false := ‹_›; simp at q2; have q3 : (!decide (x3 = y3)) = false := ‹_›; simp at q3; have q4 : (!decide (x4 = y4)) = false := ‹_›; simp at q4; have q5 : (!decide (x5 = y5)) = false := ‹_›; simp at q5; have q6 : (x6 != y6) = false := ‹_›; simp at q6; simp [q0, q1, q2, q3, q4, q5, q6]), E6⟩
set_option maxRecDepth 100000 in
set_option maxHeartbeats 400000 in
theorem eqOutgoing_c {w : World} {ca cb : List Value} {x y : LOutgoing} (ha : ROutgoing.raw w ca x) (hb : ROutgoing.raw w cb y) :
    Calls Tryz.prog 153 #[.agg ca.toArray, .agg cb.toArray] w fun e w' => e = .returned (.bool (decide (x = y))) ∧ Below w.heap.size w w' := by
  obtain ⟨av0, av1, av2, av3, rfl, a_0, a_1, a_2, a_3, a_4, a_5, a_6, a_7, a_8, a_9, a_10, a_11, a_12, a_13, a_14⟩ := ROutgoing_raw ha
  obtain ⟨bv0, bv1, bv2, bv3, rfl, b_0, b_1, b_2, b_3, b_4, b_5, b_6, b_7, b_8, b_9, b_10, b_11, b_12, b_13, b_14⟩ := ROutgoing_raw hb
  obtain ⟨x0, x1, x2, x3⟩ := x
  obtain ⟨y0, y1, y2, y3⟩ := y
  clear ha hb a_0 b_0 a_2 b_2 a_3 b_3 a_4 b_4 a_5 b_5 a_6 b_6 a_8 b_8 a_9 b_9 a_10 b_10 a_11 b_11 a_12 b_12 a_13 b_13 a_14 b_14
  go_enter Tryz.func153, Tryz.ntmps153
  go_wp2_with fail
  · go_ret
    exact ⟨ret_bool (by have q : (x0 != y0) = true := ‹_›; simp at q; simp [q]), ((Below.refl _ _).alloc (Nat.le_refl _) _).alloc (by simp) _⟩
  · go_ret
    exact ⟨ret_bool (by have q : (x1 != y1) = true := ‹_›; simp at q; simp [q]), ((Below.refl _ _).alloc (Nat.le_refl _) _).alloc (by simp) _⟩
  refine (eqInterest_c ((a_1.alloc _).alloc _) ((b_1.alloc _).alloc _)).mono ?_
  rintro e w1 ⟨rfl, hb1⟩
  have D1 := hb1
  have E1 : Below w.heap.size w w1 := (((Below.refl _ _).alloc (Nat.le_refl _) _).alloc (by simp) _).trans (hb1.mono (by simp; omega))
  obtain ⟨hc1, hf1⟩ := bcell D1; clear hb1
  go_wp2_with fail
  · go_ret
    exact ⟨ret_bool (by have q : (!decide (x2 = y2)) = true := ‹_›; simp at q; simp [q]), E1⟩
  refine (eqData_c (a_7.below E1) (b_7.below E1)).mono ?_
  rintro e w2 ⟨rfl, hb2⟩
  have D2 := D1.trans (hb2.mono D1.size)
  have E2 := E1.trans (hb2.mono E1.size)
  clear hc1 hf1 hb2
  obtain ⟨hc2, hf2⟩ := bcell D2
  go_wp2
  · go_ret
    exact ⟨ret_bool (by have q : (!decide (x3 = y3)) = true := ‹_›; simp at q; simp [q]), E2⟩
  · go_ret
    exact ⟨ret_bool (by have q0 : (x0 != y0) = false := ‹_›; simp at q0; have q1 : (x1 != y1) = false := ‹_›; simp at q1; have q2 : (!decide (x2 = y2)) = false := ‹_›; simp at q2; have q3 : (!decide (x3 = y3)) = false := ‹_›; simp at q3; simp [q0, q1, q2, q3]), E2⟩
set_option maxRecDepth 100000 in
set_option maxHeartbeats 400000 in
theorem eqOutgoingS_c {w : World} {va vb : Value} {x y : List LOutgoing} (ha : (Rep.slice 128 ROutgoing).raw w [va] x) (hb : (Rep.slice 128 ROutgoing).raw w [vb] y) :
    Calls Tryz.prog 78 #[va, vb] w fun e w' => e = .returned (.bool (decide (x = y))) ∧ Below w.heap.size w w' := by
  obtain ⟨aa, capa, hva, la⟩ := Rep.len_raw ha; obtain rfl : va = _ := by simpa using hva
  clear hva
  obtain ⟨ab, capb, hvb, lb⟩ := Rep.len_raw hb; obtain rfl : vb = _ := by simpa using hvb
  clear hvb
  go_enter Tryz.func78, Tryz.ntmps78
  by_cases hab : x.length = y.length
  · have hab' : ((x.length : Int) != (y.length : Int)) = false := by simp [hab]
    have HAB := Lib.hid hab; clear hab
    go_wp2
    go_loopw [5] (fun i wr => ∃ k : Nat, k ≤ x.length ∧ i = .int .i64 k ∧ x.take k = y.take k ∧ Below w.heap.size w wr) (fun i _ => x.length - (intOf i).toNat)
    case atStart => exact ⟨0, Nat.zero_le _, rfl, rfl, Below.refl _ _⟩
    case round =>
      obtain ⟨k, hk, rfl, htk, hbel⟩ := hrel
      by_cases hlt : k < x.length
      · have hlt2 : k < y.length := by have := HAB.out; omega
        obtain ⟨ba, offa, rfl, c0, c1, c2, c3, c4, c5, c6, c7, c8, c9, c10, hr, A0, A1, A2, A3, A4, A5, A6, A7, A8, A9, A10⟩ := Rep.get11 (ha.below hbel) hlt rfl
        obtain ⟨bb, offb, rfl, d0, d1, d2, d3, d4, d5, d6, d7, d8, d9, d10, hr2, B0, B1, B2, B3, B4, B5, B6, B7, B8, B9, B10⟩ := Rep.get11 (hb.below hbel) hlt2 rfl
        go_wp2
        go_still_tail 8, (by kernel_rfl)
        change wpList _ _ _ _ _ wr.drew
        clear A0 A1 A2 A3 A4 A5 A6 A7 A8 A9 A10 B0 B1 B2 B3 B4 B5 B6 B7 B8 B9 B10
        by_cases hxy : x[k] = y[k]
        · have hde : decide (x[k] = y[k]) = true := by simp [hxy]
          have HT := Lib.hid (take_eq_succ htk hlt hlt2 hxy); clear hxy htk
          have C := eqOutgoing_c hr.drew hr2.drew
          rw [hde] at C
          have HC := Lib.hid C; clear C hde hr hr2
          go_wp2_with (go_at_call 153; refine HC.out.mono ?_; rintro e w' ⟨rfl, hb2⟩)
          go_roundw
          case rel => exact ⟨k + 1, by omega, by go_num, HT.out, hbel.trans ((Below.refl _ _).drew.trans (hb2.mono hbel.size))⟩
          case measure => simp [intOf]; omega
        · have hde : decide (x[k] = y[k]) = false := by simp [hxy]
          have HT := Lib.hid (ne_of_get hlt hlt2 hxy); clear hxy htk
          have C := eqOutgoing_c hr.drew hr2.drew
          rw [hde] at C
          have HC := Lib.hid C; clear C hde hr hr2
          go_wp2_with (go_at_call 153; refine HC.out.mono ?_; rintro e w' ⟨rfl, hb2⟩)
          go_ret
          exact ⟨ret_bool (by simp [HT.out]), hbel.trans ((Below.refl _ _).drew.trans (hb2.mono hbel.size))⟩
      · have HT := Lib.hid (eq_of_take htk hlt HAB.out); clear htk
        go_wp2
        go_ret
        exact ⟨ret_bool (by simp [HT.out]), hbel⟩
  · have hab' : ((x.length : Int) != (y.length : Int)) = true := by simp; omega
    have HT : Hid (x ≠ y) := Lib.hid (fun q => hab (by rw [q])); clear hab
    go_wp2
    go_ret
    exact ⟨ret_bool (by simp [HT.out]), Below.refl _ _⟩
set_option maxRecDepth 100000 in
set_option maxHeartbeats 400000 in
theorem eqAction_c {w : World} {ca cb : List Value} {x y : LAction} (ha : RAction.raw w ca x) (hb : RAction.raw w cb y) :
    Calls Tryz.prog 18 #[.agg ca.toArray, .agg cb.toArray] w fun e w' => e = .returned (.bool (decide (x = y))) ∧ Below w.heap.size w w' := by
  obtain ⟨av0, av1, av2, av3, av4, av5, av6, rfl, a_0, a_1, a_2, a_3, a_4, a_5, a_6, a_7, a_8, a_9, a_10⟩ := RAction_raw ha
  obtain ⟨bv0, bv1, bv2, bv3, bv4, bv5, bv6, rfl, b_0, b_1, b_2, b_3, b_4, b_5, b_6, b_7, b_8, b_9, b_10⟩ := RAction_raw hb
  obtain ⟨x0, x1⟩ := x
  obtain ⟨y0, y1⟩ := y
  clear ha hb a_1 b_1 a_2 b_2 a_3 b_3 a_4 b_4 a_5 b_5 a_6 b_6 a_7 b_7 a_8 b_8 a_9 b_9
  go_enter Tryz.func18, Tryz.ntmps18
  go_wp2_with fail
  refine (eqNode_c ((a_0.alloc _).alloc _) ((b_0.alloc _).alloc _)).mono ?_
  rintro e w1 ⟨rfl, hb1⟩
  have D1 := hb1
  have E1 : Below w.heap.size w w1 := (((Below.refl _ _).alloc (Nat.le_refl _) _).alloc (by simp) _).trans (hb1.mono (by simp; omega))
  obtain ⟨hc1, hf1⟩ := bcell D1; clear hb1
  go_wp2_with fail
  · go_ret
    exact ⟨ret_bool (by have q : (!decide (x0 = y0)) = true := ‹_›; simp at q; simp [q]), E1⟩
  refine (eqOutgoingS_c (a_10.below E1) (b_10.below E1)).mono ?_
  rintro e w2 ⟨rfl, hb2⟩
  have D2 := D1.trans (hb2.mono D1.size)
  have E2 := E1.trans (hb2.mono E1.size)
  clear hc1 hf1 hb2
  obtain ⟨hc2, hf2⟩ := bcell D2
  go_wp2
  · go_ret
    exact ⟨ret_bool (by have q : (!decide (x1 = y1)) = true := ‹_›; simp at q; simp [q]), E2⟩
  · go_ret
    exact ⟨ret_bool (by have q0 : (!decide (x0 = y0)) = false := ‹_›; simp at q0; have q1 : (!decide (x1 = y1)) = false := ‹_›; simp at q1; simp [q0, q1]), E2⟩
set_option maxRecDepth 100000 in
set_option maxHeartbeats 400000 in
theorem eqKey_c {w : World} {ca cb : List Value} {x y : LKey} (ha : RKey.raw w ca x) (hb : RKey.raw w cb y) :
    Calls Tryz.prog 120 #[.agg ca.toArray, .agg cb.toArray] w fun e w' => e = .returned (.bool (decide (x = y))) ∧ Below w.heap.size w w' := by
  obtain ⟨av0, rfl, a_0, a_1, a_2⟩ := RKey_raw ha
  obtain ⟨bv0, rfl, b_0, b_1, b_2⟩ := RKey_raw hb
  obtain ⟨x0, x1⟩ := x
  obtain ⟨y0, y1⟩ := y
  clear ha hb a_1 b_1 a_2 b_2
  go_enter Tryz.func120, Tryz.ntmps120
  go_wp2_with fail
  refine (eqName_c ((a_0.alloc _).alloc _) ((b_0.alloc _).alloc _)).mono ?_
  rintro e w1 ⟨rfl, hb1⟩
  have D1 := hb1
  have E1 : Below w.heap.size w w1 := (((Below.refl _ _).alloc (Nat.le_refl _) _).alloc (by simp) _).trans (hb1.mono (by simp; omega))
  obtain ⟨hc1, hf1⟩ := bcell D1; clear hb1
  go_wp2
  · go_ret
    exact ⟨ret_bool (by have q : (!decide (x0 = y0)) = true := ‹_›; simp at q; simp [q]), E1⟩
  · go_ret
    exact ⟨ret_bool (by have q : (x1 != y1) = true := ‹_›; simp at q; simp [q]), E1⟩
  · go_ret
    exact ⟨ret_bool (by have q0 : (!decide (x0 = y0)) = false := ‹_›; simp at q0; have q1 : (x1 != y1) = false := ‹_›; simp at q1; simp [q0, q1]), E1⟩
set_option maxRecDepth 100000 in
set_option maxHeartbeats 400000 in
theorem eqKeyS_c {w : World} {va vb : Value} {x y : List LKey} (ha : (Rep.slice 187 RKey).raw w [va] x) (hb : (Rep.slice 187 RKey).raw w [vb] y) :
    Calls Tryz.prog 56 #[va, vb] w fun e w' => e = .returned (.bool (decide (x = y))) ∧ Below w.heap.size w w' := by
  obtain ⟨aa, capa, hva, la⟩ := Rep.len_raw ha; obtain rfl : va = _ := by simpa using hva
  clear hva
  obtain ⟨ab, capb, hvb, lb⟩ := Rep.len_raw hb; obtain rfl : vb = _ := by simpa using hvb
  clear hvb
  go_enter Tryz.func56, Tryz.ntmps56
  by_cases hab : x.length = y.length
  · have hab' : ((x.length : Int) != (y.length : Int)) = false := by simp [hab]
    have HAB := Lib.hid hab; clear hab
    go_wp2
    go_loopw [5] (fun i wr => ∃ k : Nat, k ≤ x.length ∧ i = .int .i64 k ∧ x.take k = y.take k ∧ Below w.heap.size w wr) (fun i _ => x.length - (intOf i).toNat)
    case atStart => exact ⟨0, Nat.zero_le _, rfl, rfl, Below.refl _ _⟩
    case round =>
      obtain ⟨k, hk, rfl, htk, hbel⟩ := hrel
      by_cases hlt : k < x.length
      · have hlt2 : k < y.length := by have := HAB.out; omega
        obtain ⟨ba, offa, rfl, c0, c1, hr, A0, A1⟩ := Rep.get2 (ha.below hbel) hlt rfl
        obtain ⟨bb, offb, rfl, d0, d1, hr2, B0, B1⟩ := Rep.get2 (hb.below hbel) hlt2 rfl
        go_wp2
        go_still_tail 8, (by kernel_rfl)
        change wpList _ _ _ _ _ wr.drew
        clear A0 A1 B0 B1
        by_cases hxy : x[k] = y[k]
        · have hde : decide (x[k] = y[k]) = true := by simp [hxy]
          have HT := Lib.hid (take_eq_succ htk hlt hlt2 hxy); clear hxy htk
          have C := eqKey_c hr.drew hr2.drew
          rw [hde] at C
          have HC := Lib.hid C; clear C hde hr hr2
          go_wp2_with (go_at_call 120; refine HC.out.mono ?_; rintro e w' ⟨rfl, hb2⟩)
          go_roundw
          case rel => exact ⟨k + 1, by omega, by go_num, HT.out, hbel.trans ((Below.refl _ _).drew.trans (hb2.mono hbel.size))⟩
          case measure => simp [intOf]; omega
        · have hde : decide (x[k] = y[k]) = false := by simp [hxy]
          have HT := Lib.hid (ne_of_get hlt hlt2 hxy); clear hxy htk
          have C := eqKey_c hr.drew hr2.drew
          rw [hde] at C
          have HC := Lib.hid C; clear C hde hr hr2
          go_wp2_with (go_at_call 120; refine HC.out.mono ?_; rintro e w' ⟨rfl, hb2⟩)
          go_ret
          exact ⟨ret_bool (by simp [HT.out]), hbel.trans ((Below.refl _ _).drew.trans (hb2.mono hbel.size))⟩
      · have HT := Lib.hid (eq_of_take htk hlt HAB.out); clear htk
        go_wp2
        go_ret
        exact ⟨ret_bool (by simp [HT.out]), hbel⟩
  · have hab' : ((x.length : Int) != (y.length : Int)) = true := by simp; omega
    have HT : Hid (x ≠ y) := Lib.hid (fun q => hab (by rw [q])); clear hab
    go_wp2
    go_ret
    exact ⟨ret_bool (by simp [HT.out]), Below.refl _ _⟩
set_option maxRecDepth 100000 in
set_option maxHeartbeats 400000 in
theorem eqPattern_c {w : World} {ca cb : List Value} {x y : LPattern} (ha : RPattern.raw w ca x) (hb : RPattern.raw w cb y) :
    Calls Tryz.prog 187 #[.agg ca.toArray, .agg cb.toArray] w fun e w' => e = .returned (.bool (decide (x = y))) ∧ Below w.heap.size w w' := by
  obtain ⟨av0, rfl, a_0⟩ := RPattern_raw ha
  obtain ⟨bv0, rfl, b_0⟩ := RPattern_raw hb
  obtain ⟨x0, rfl⟩ : ∃ x0, x0 = x := ⟨_, rfl⟩
  obtain ⟨y0, rfl⟩ : ∃ y0, y0 = y := ⟨_, rfl⟩
  clear ha hb
  go_enter Tryz.func187, Tryz.ntmps187
  go_wp2_with fail
  refine (eqStringS_c ((a_0.alloc _).alloc _) ((b_0.alloc _).alloc _)).mono ?_
  rintro e w1 ⟨rfl, hb1⟩
  have D1 := hb1
  have E1 : Below w.heap.size w w1 := (((Below.refl _ _).alloc (Nat.le_refl _) _).alloc (by simp) _).trans (hb1.mono (by simp; omega))
  obtain ⟨hc1, hf1⟩ := bcell D1; clear hb1
  go_wp2
  · go_ret
    exact ⟨ret_bool (by have q : (!decide (x0 = y0)) = true := ‹_›; simp at q; simp [q]), E1⟩
  · go_ret
    exact ⟨ret_bool (by have q0 : (!decide (x0 = y0)) = false := ‹_›; simp at q0; simp [q0]), E1⟩
set_option maxRecDepth 100000 in
set_option maxHeartbeats 400000 in
theorem eqRule_c {w : World} {ca cb : List Value} {x y : LRule} (ha : RRule.raw w ca x) (hb : RRule.raw w cb y) :
    Calls Tryz.prog 121 #[.agg ca.toArray, .agg cb.toArray] w fun e w' => e = .returned (.bool (decide (x = y))) ∧ Below w.heap.size w w' := by
  obtain ⟨av0, av1, rfl, a_0, a_1, a_2, a_3⟩ := RRule_raw ha
  obtain ⟨bv0, bv1, rfl, b_0, b_1, b_2, b_3⟩ := RRule_raw hb
  obtain ⟨x0, x1⟩ := x
  obtain ⟨y0, y1⟩ := y
  clear ha hb a_1 b_1 a_3 b_3
  go_enter Tryz.func121, Tryz.ntmps121
  go_wp2_with fail
  refine (eqPattern_c ((a_0.alloc _).alloc _) ((b_0.alloc _).alloc _)).mono ?_
  rintro e w1 ⟨rfl, hb1⟩
  have D1 := hb1
  have E1 : Below w.heap.size w w1 := (((Below.refl _ _).alloc (Nat.le_refl _) _).alloc (by simp) _).trans (hb1.mono (by simp; omega))
  obtain ⟨hc1, hf1⟩ := bcell D1; clear hb1
  go_wp2_with fail
  · go_ret
    exact ⟨ret_bool (by have q : (!decide (x0 = y0)) = true := ‹_›; simp at q; simp [q]), E1⟩
  refine (eqPattern_c (a_2.below E1) (b_2.below E1)).mono ?_
  rintro e w2 ⟨rfl, hb2⟩
  have D2 := D1.trans (hb2.mono D1.size)
  have E2 := E1.trans (hb2.mono E1.size)
  clear hc1 hf1 hb2
  obtain ⟨hc2, hf2⟩ := bcell D2
  go_wp2
  · go_ret
    exact ⟨ret_bool (by have q : (!decide (x1 = y1)) = true := ‹_›; simp at q; simp [q]), E2⟩
  · go_ret
    exact ⟨ret_bool (by have q0 : (!decide (x0 = y0)) = false := ‹_›; simp at q0; have q1 : (!decide (x1 = y1)) = false := ‹_›; simp at q1; simp [q0, q1]), E2⟩
set_option maxRecDepth 100000 in
set_option maxHeartbeats 400000 in
theorem eqRuleS_c {w : World} {va vb : Value} {x y : List LRule} (ha : (Rep.slice 191 RRule).raw w [va] x) (hb : (Rep.slice 191 RRule).raw w [vb] y) :
    Calls Tryz.prog 57 #[va, vb] w fun e w' => e = .returned (.bool (decide (x = y))) ∧ Below w.heap.size w w' := by
  obtain ⟨aa, capa, hva, la⟩ := Rep.len_raw ha; obtain rfl : va = _ := by simpa using hva
  clear hva
  obtain ⟨ab, capb, hvb, lb⟩ := Rep.len_raw hb; obtain rfl : vb = _ := by simpa using hvb
  clear hvb
  go_enter Tryz.func57, Tryz.ntmps57
  by_cases hab : x.length = y.length
  · have hab' : ((x.length : Int) != (y.length : Int)) = false := by simp [hab]
    have HAB := Lib.hid hab; clear hab
    go_wp2
    go_loopw [5] (fun i wr => ∃ k : Nat, k ≤ x.length ∧ i = .int .i64 k ∧ x.take k = y.take k ∧ Below w.heap.size w wr) (fun i _ => x.length - (intOf i).toNat)
    case atStart => exact ⟨0, Nat.zero_le _, rfl, rfl, Below.refl _ _⟩
    case round =>
      obtain ⟨k, hk, rfl, htk, hbel⟩ := hrel
      by_cases hlt : k < x.length
      · have hlt2 : k < y.length := by have := HAB.out; omega
        obtain ⟨ba, offa, rfl, c0, c1, hr, A0, A1⟩ := Rep.get2 (ha.below hbel) hlt rfl
        obtain ⟨bb, offb, rfl, d0, d1, hr2, B0, B1⟩ := Rep.get2 (hb.below hbel) hlt2 rfl
        go_wp2
        go_still_tail 8, (by kernel_rfl)
        change wpList _ _ _ _ _ wr.drew
        clear A0 A1 B0 B1
        by_cases hxy : x[k] = y[k]
        · have hde : decide (x[k] = y[k]) = true := by simp [hxy]
          have HT := Lib.hid (take_eq_succ htk hlt hlt2 hxy); clear hxy htk
          have C := eqRule_c hr.drew hr2.drew
          rw [hde] at C
          have HC := Lib.hid C; clear C hde hr hr2
          go_wp2_with (go_at_call 121; refine HC.out.mono ?_; rintro e w' ⟨rfl, hb2⟩)
          go_roundw
          case rel => exact ⟨k + 1, by omega, by go_num, HT.out, hbel.trans ((Below.refl _ _).drew.trans (hb2.mono hbel.size))⟩
          case measure => simp [intOf]; omega
        · have hde : decide (x[k] = y[k]) = false := by simp [hxy]
          have HT := Lib.hid (ne_of_get hlt hlt2 hxy); clear hxy htk
          have C := eqRule_c hr.drew hr2.drew
          rw [hde] at C
          have HC := Lib.hid C; clear C hde hr hr2
          go_wp2_with (go_at_call 121; refine HC.out.mono ?_; rintro e w' ⟨rfl, hb2⟩)
          go_ret
          exact ⟨ret_bool (by simp [HT.out]), hbel.trans ((Below.refl _ _).drew.trans (hb2.mono hbel.size))⟩
      · have HT := Lib.hid (eq_of_take htk hlt HAB.out); clear htk
        go_wp2
        go_ret
        exact ⟨ret_bool (by simp [HT.out]), hbel⟩
  · have hab' : ((x.length : Int) != (y.length : Int)) = true := by simp; omega
    have HT : Hid (x ≠ y) := Lib.hid (fun q => hab (by rw [q])); clear hab
    go_wp2
    go_ret
    exact ⟨ret_bool (by simp [HT.out]), Below.refl _ _⟩
set_option maxRecDepth 100000 in
set_option maxHeartbeats 400000 in
theorem eqTrustPolicy_c {w : World} {ca cb : List Value} {x y : LTrustPolicy} (ha : RTrustPolicy.raw w ca x) (hb : RTrustPolicy.raw w cb y) :
    Calls Tryz.prog 14 #[.agg ca.toArray, .agg cb.toArray] w fun e w' => e = .returned (.bool (decide (x = y))) ∧ Below w.heap.size w w' := by
  obtain ⟨av0, av1, av2, av3, rfl, a_0, a_1, a_2, a_3⟩ := RTrustPolicy_raw ha
  obtain ⟨bv0, bv1, bv2, bv3, rfl, b_0, b_1, b_2, b_3⟩ := RTrustPolicy_raw hb
  obtain ⟨x0, x1, x2, x3⟩ := x
  obtain ⟨y0, y1, y2, y3⟩ := y
  clear ha hb
  go_enter Tryz.func14, Tryz.ntmps14
  go_wp2_with fail
  refine (eqKeyS_c ((a_0.alloc _).alloc _) ((b_0.alloc _).alloc _)).mono ?_
  rintro e w1 ⟨rfl, hb1⟩
  have D1 := hb1
  have E1 : Below w.heap.size w w1 := (((Below.refl _ _).alloc (Nat.le_refl _) _).alloc (by simp) _).trans (hb1.mono (by simp; omega))
  obtain ⟨hc1, hf1⟩ := bcell D1; clear hb1
  go_wp2_with fail
  · go_ret
    exact ⟨ret_bool (by have q : (!decide (x0 = y0)) = true := ‹_›; simp at q; simp [q]), E1⟩
  refine (eqRuleS_c (a_1.below E1) (b_1.below E1)).mono ?_
  rintro e w2 ⟨rfl, hb2⟩
  have D2 := D1.trans (hb2.mono D1.size)
  have E2 := E1.trans (hb2.mono E1.size)
  clear hc1 hf1 hb2
  obtain ⟨hc2, hf2⟩ := bcell D2
  go_wp2_with fail
  · go_ret
    exact ⟨ret_bool (by have q : (!decide (x1 = y1)) = true := ‹_›; simp at q; simp [q]), E2⟩
  refine (eqNameS_c (a_2.below E2) (b_2.below E2)).mono ?_
  rintro e w3 ⟨rfl, hb3⟩
  have D3 := D2.trans (hb3.mono D2.size)
  have E3 := E2.trans (hb3.mono E2.size)
  clear hc2 hf2 hb3
  obtain ⟨hc3, hf3⟩ := bcell D3
  go_wp2_with fail
  · go_ret
    exact ⟨ret_bool (by have q : (!decide (x2 = y2)) = true := ‹_›; simp at q; simp [q]), E3⟩
  refine (eqDataS_c (a_3.below E3) (b_3.below E3)).mono ?_
  rintro e w4 ⟨rfl, hb4⟩
  have D4 := D3.trans (hb4.mono D3.size)
  have E4 := E3.trans (hb4.mono E3.size)
  clear hc3 hf3 hb4
  obtain ⟨hc4, hf4⟩ := bcell D4
  go_wp2
  · go_ret
    exact ⟨ret_bool (by have q : (!decide (x3 = y3)) = true := ‹_›; simp at q; simp [q]), E4⟩
  · go_ret
    exact ⟨ret_bool (by have q0 : (!decide (x0 = y0)) = false := ‹_›; simp at q0; have q1 : (!decide (x1 = y1)) = false := ‹_›; simp at q1; have q2 : (!decide (x2 = y2)) = false := ‹_›; simp at q2; have q3 : (!decide (x3 = y3)) = false := ‹_›; simp at q3; simp [q0, q1, q2, q3]), E4⟩
end Go.Proofs.YtlfblpgkegeaeaaGreat

/-
  The laws' comparisons: each answers whether its two arguments are the same data. Printed by geneq.py.
-/
import Derived.Test.YtclhapbahkjljaaProg
import Derived.Test.YtclhapbahkjljaaTypes
import Derived.WalkKit
import Derived.WalkSpells
import Derived.WalkLawsBesides
import Derived.BigQuiet
import Derived.Deep.QuietTactic
import Derived.StillTailTactics
namespace Go.Proofs.Ytclhapbahkjljaa
open Go.RowKit
set_option linter.unusedVariables false

set_option maxRecDepth 100000 in
set_option maxHeartbeats 400000 in
theorem eqIntS_c {w : World} {va vb : Value} {x y : List Int} (ha : (Rep.slice 3 Rep.int).raw w [va] x) (hb : (Rep.slice 3 Rep.int).raw w [vb] y) :
    Calls Try.prog 55 #[va, vb] w fun e w' => e = .returned (.bool (decide (x = y))) ∧ Below w.heap.size w w' := by
  obtain ⟨aa, capa, hva, la⟩ := Rep.len_raw ha; obtain rfl : va = _ := by simpa using hva
  clear hva
  obtain ⟨ab, capb, hvb, lb⟩ := Rep.len_raw hb; obtain rfl : vb = _ := by simpa using hvb
  clear hvb
  go_enter Try.func55, Try.ntmps55
  by_cases hab : x.length = y.length
  · have hab' : ((x.length : Int) != (y.length : Int)) = false := by simp [hab]
    have HAB := Lib.hid hab; clear hab
    go_wp2
    go_loopw [5] (fun i wr => ∃ k : Nat, k ≤ x.length ∧ i = .int .i64 k ∧ x.take k = y.take k ∧ Below w.heap.size w wr) (fun i _ => x.length - (intOf i).toNat)
    case atStart => exact ⟨0, Nat.zero_le _, rfl, rfl, Below.refl _ _⟩
    case round =>
      obtain ⟨k, hk, rfl, htk, hbel⟩ := hrel
      by_cases hlt : k < x.length
      · have hlt2 : k < y.length := by have := HAB.out; omega
        obtain ⟨ba, offa, rfl, c0, hr, A0⟩ := Rep.get1 (ha.below hbel) hlt rfl
        obtain ⟨bb, offb, rfl, d0, hr2, B0⟩ := Rep.get1 (hb.below hbel) hlt2 rfl
        obtain ⟨he, _⟩ := Rep.int_raw hr
        obtain rfl : c0 = _ := by simpa using he
        obtain ⟨he2, _⟩ := Rep.int_raw hr2
        obtain rfl : d0 = _ := by simpa using he2
        clear he he2 hr hr2
        by_cases hxy : x[k] = y[k]
        · have hne : (x[k] != y[k]) = false := by simp [hxy]
          have HT := Lib.hid (take_eq_succ htk hlt hlt2 hxy); clear hxy htk
          go_wp2
          go_quiet (fail)
          go_wp2
          go_roundw
          case rel => exact ⟨k + 1, by omega, by go_num, HT.out, below_drewN hbel _⟩
          case measure => simp [intOf]; omega
        · have hne : (x[k] != y[k]) = true := by simpa using hxy
          have HT := Lib.hid (ne_of_get hlt hlt2 hxy); clear hxy htk
          go_wp2
          go_quiet (fail)
          go_wp2
          go_ret
          exact ⟨ret_bool (by simp [HT.out]), below_drewN hbel _⟩
      · have HT := Lib.hid (eq_of_take htk hlt HAB.out); clear htk
        go_wp2
        go_ret
        exact ⟨ret_bool (by simp [HT.out]), hbel⟩
  · have hab' : ((x.length : Int) != (y.length : Int)) = true := by simp; omega
    have HT : Hid (x ≠ y) := Lib.hid (fun q => hab (by rw [q])); clear hab
    go_wp2
    go_ret
    exact ⟨ret_bool (by simp [HT.out]), Below.refl _ _⟩
set_option maxRecDepth 100000 in
set_option maxHeartbeats 400000 in
theorem eqStringS_c {w : World} {va vb : Value} {x y : List ByteArray} (ha : (Rep.slice 9 Rep.str).raw w [va] x) (hb : (Rep.slice 9 Rep.str).raw w [vb] y) :
    Calls Try.prog 65 #[va, vb] w fun e w' => e = .returned (.bool (decide (x = y))) ∧ Below w.heap.size w w' := by
  obtain ⟨aa, capa, hva, la⟩ := Rep.len_raw ha; obtain rfl : va = _ := by simpa using hva
  clear hva
  obtain ⟨ab, capb, hvb, lb⟩ := Rep.len_raw hb; obtain rfl : vb = _ := by simpa using hvb
  clear hvb
  go_enter Try.func65, Try.ntmps65
  by_cases hab : x.length = y.length
  · have hab' : ((x.length : Int) != (y.length : Int)) = false := by simp [hab]
    have HAB := Lib.hid hab; clear hab
    go_wp2
    go_loopw [5] (fun i wr => ∃ k : Nat, k ≤ x.length ∧ i = .int .i64 k ∧ x.take k = y.take k ∧ Below w.heap.size w wr) (fun i _ => x.length - (intOf i).toNat)
    case atStart => exact ⟨0, Nat.zero_le _, rfl, rfl, Below.refl _ _⟩
    case round =>
      obtain ⟨k, hk, rfl, htk, hbel⟩ := hrel
      by_cases hlt : k < x.length
      · have hlt2 : k < y.length := by have := HAB.out; omega
        obtain ⟨ba, offa, rfl, c0, hr, A0⟩ := Rep.get1 (ha.below hbel) hlt rfl
        obtain ⟨bb, offb, rfl, d0, hr2, B0⟩ := Rep.get1 (hb.below hbel) hlt2 rfl
        obtain ⟨he, _⟩ := Rep.str_raw hr
        obtain rfl : c0 = _ := by simpa using he
        obtain ⟨he2, _⟩ := Rep.str_raw hr2
        obtain rfl : d0 = _ := by simpa using he2
        clear he he2 hr hr2
        by_cases hxy : x[k] = y[k]
        · have hne : (!x[k].toList == y[k].toList) = false := by rw [ba_beq]; simp [hxy]
          have HT := Lib.hid (take_eq_succ htk hlt hlt2 hxy); clear hxy htk
          go_wp2
          go_quiet (fail)
          go_wp2
          go_roundw
          case rel => exact ⟨k + 1, by omega, by go_num, HT.out, below_drewN hbel _⟩
          case measure => simp [intOf]; omega
        · have hne : (!x[k].toList == y[k].toList) = true := by rw [ba_beq]; simp [hxy]
          have HT := Lib.hid (ne_of_get hlt hlt2 hxy); clear hxy htk
          go_wp2
          go_quiet (fail)
          go_wp2
          go_ret
          exact ⟨ret_bool (by simp [HT.out]), below_drewN hbel _⟩
      · have HT := Lib.hid (eq_of_take htk hlt HAB.out); clear htk
        go_wp2
        go_ret
        exact ⟨ret_bool (by simp [HT.out]), hbel⟩
  · have hab' : ((x.length : Int) != (y.length : Int)) = true := by simp; omega
    have HT : Hid (x ≠ y) := Lib.hid (fun q => hab (by rw [q])); clear hab
    go_wp2
    go_ret
    exact ⟨ret_bool (by simp [HT.out]), Below.refl _ _⟩
set_option maxRecDepth 100000 in
set_option maxHeartbeats 400000 in
theorem eqByteS_c {w : World} {va vb : Value} {x y : List UInt8} (ha : (Rep.slice 5 Rep.byte).raw w [va] x) (hb : (Rep.slice 5 Rep.byte).raw w [vb] y) :
    Calls Try.prog 117 #[va, vb] w fun e w' => e = .returned (.bool (decide (x = y))) ∧ Below w.heap.size w w' := by
  obtain ⟨aa, capa, hva, la⟩ := Rep.len_raw ha; obtain rfl : va = _ := by simpa using hva
  clear hva
  obtain ⟨ab, capb, hvb, lb⟩ := Rep.len_raw hb; obtain rfl : vb = _ := by simpa using hvb
  clear hvb
  go_enter Try.func117, Try.ntmps117
  by_cases hab : x.length = y.length
  · have hab' : ((x.length : Int) != (y.length : Int)) = false := by simp [hab]
    have HAB := Lib.hid hab; clear hab
    go_wp2
    go_loopw [5] (fun i wr => ∃ k : Nat, k ≤ x.length ∧ i = .int .i64 k ∧ x.take k = y.take k ∧ Below w.heap.size w wr) (fun i _ => x.length - (intOf i).toNat)
    case atStart => exact ⟨0, Nat.zero_le _, rfl, rfl, Below.refl _ _⟩
    case round =>
      obtain ⟨k, hk, rfl, htk, hbel⟩ := hrel
      by_cases hlt : k < x.length
      · have hlt2 : k < y.length := by have := HAB.out; omega
        obtain ⟨ba, offa, rfl, c0, hr, A0⟩ := Rep.get1 (ha.below hbel) hlt rfl
        obtain ⟨bb, offb, rfl, d0, hr2, B0⟩ := Rep.get1 (hb.below hbel) hlt2 rfl
        obtain he := Rep.byte_raw hr
        obtain rfl : c0 = _ := by simpa using he
        obtain he2 := Rep.byte_raw hr2
        obtain rfl : d0 = _ := by simpa using he2
        clear he he2 hr hr2
        by_cases hxy : x[k] = y[k]
        · have hne : ((x[k].toNat : Int) != (y[k].toNat : Int)) = false := by simp [hxy]
          have HT := Lib.hid (take_eq_succ htk hlt hlt2 hxy); clear hxy htk
          go_wp2
          go_quiet (fail)
          go_wp2
          go_roundw
          case rel => exact ⟨k + 1, by omega, by go_num, HT.out, below_drewN hbel _⟩
          case measure => simp [intOf]; omega
        · have hne : ((x[k].toNat : Int) != (y[k].toNat : Int)) = true := by simp only [bne_iff_ne, ne_eq]; exact fun q => hxy (u8_inj q)
          have HT := Lib.hid (ne_of_get hlt hlt2 hxy); clear hxy htk
          go_wp2
          go_quiet (fail)
          go_wp2
          go_ret
          exact ⟨ret_bool (by simp [HT.out]), below_drewN hbel _⟩
      · have HT := Lib.hid (eq_of_take htk hlt HAB.out); clear htk
        go_wp2
        go_ret
        exact ⟨ret_bool (by simp [HT.out]), hbel⟩
  · have hab' : ((x.length : Int) != (y.length : Int)) = true := by simp; omega
    have HT : Hid (x ≠ y) := Lib.hid (fun q => hab (by rw [q])); clear hab
    go_wp2
    go_ret
    exact ⟨ret_bool (by simp [HT.out]), Below.refl _ _⟩
set_option maxRecDepth 100000 in
set_option maxHeartbeats 400000 in
theorem eqName_c {w : World} {ca cb : List Value} {x y : LName} (ha : RName.raw w ca x) (hb : RName.raw w cb y) :
    Calls Try.prog 20 #[.agg ca.toArray, .agg cb.toArray] w fun e w' => e = .returned (.bool (decide (x = y))) ∧ Below w.heap.size w w' := by
  obtain ⟨av0, rfl, a_0⟩ := RName_raw ha
  obtain ⟨bv0, rfl, b_0⟩ := RName_raw hb
  obtain ⟨x0, rfl⟩ : ∃ x0, x0 = x := ⟨_, rfl⟩
  obtain ⟨y0, rfl⟩ : ∃ y0, y0 = y := ⟨_, rfl⟩
  clear ha hb
  go_enter Try.func20, Try.ntmps20
  go_wp2_with fail
  refine (eqStringS_c ((a_0.alloc _).alloc _) ((b_0.alloc _).alloc _)).mono ?_
  rintro e w1 ⟨rfl, hb1⟩
  have D1 := hb1
  have E1 : Below w.heap.size w w1 := (((Below.refl _ _).alloc (Nat.le_refl _) _).alloc (by simp) _).trans (hb1.mono (by simp; omega))
  obtain ⟨hc1, hf1⟩ := bcell D1; clear hb1
  go_wp2
  · go_ret
    exact ⟨ret_bool (by have q : (!decide (x0 = y0)) = true := ‹_›; simp at q; simp [q]), E1⟩
  · go_ret
    exact ⟨ret_bool (by have q0 : (!decide (x0 = y0)) = false := ‹_›; simp at q0; simp [q0]), E1⟩
set_option maxRecDepth 100000 in
set_option maxHeartbeats 400000 in
theorem eqNameS_c {w : World} {va vb : Value} {x y : List LName} (ha : (Rep.slice 40 RName).raw w [va] x) (hb : (Rep.slice 40 RName).raw w [vb] y) :
    Calls Try.prog 56 #[va, vb] w fun e w' => e = .returned (.bool (decide (x = y))) ∧ Below w.heap.size w w' := by
  obtain ⟨aa, capa, hva, la⟩ := Rep.len_raw ha; obtain rfl : va = _ := by simpa using hva
  clear hva
  obtain ⟨ab, capb, hvb, lb⟩ := Rep.len_raw hb; obtain rfl : vb = _ := by simpa using hvb
  clear hvb
  go_enter Try.func56, Try.ntmps56
  by_cases hab : x.length = y.length
  · have hab' : ((x.length : Int) != (y.length : Int)) = false := by simp [hab]
    have HAB := Lib.hid hab; clear hab
    go_wp2
    go_loopw [5] (fun i wr => ∃ k : Nat, k ≤ x.length ∧ i = .int .i64 k ∧ x.take k = y.take k ∧ Below w.heap.size w wr) (fun i _ => x.length - (intOf i).toNat)
    case atStart => exact ⟨0, Nat.zero_le _, rfl, rfl, Below.refl _ _⟩
    case round =>
      obtain ⟨k, hk, rfl, htk, hbel⟩ := hrel
      by_cases hlt : k < x.length
      · have hlt2 : k < y.length := by have := HAB.out; omega
        obtain ⟨ba, offa, rfl, c0, hr, A0⟩ := Rep.get1 (ha.below hbel) hlt rfl
        obtain ⟨bb, offb, rfl, d0, hr2, B0⟩ := Rep.get1 (hb.below hbel) hlt2 rfl
        go_wp2
        go_still_tail 8, (by kernel_rfl)
        change wpList _ _ _ _ _ wr.drew
        clear A0 B0
        by_cases hxy : x[k] = y[k]
        · have hde : decide (x[k] = y[k]) = true := by simp [hxy]
          have HT := Lib.hid (take_eq_succ htk hlt hlt2 hxy); clear hxy htk
          have C := eqName_c hr.drew hr2.drew
          rw [hde] at C
          have HC := Lib.hid C; clear C hde hr hr2
          go_wp2_with (go_at_call 20; refine HC.out.mono ?_; rintro e w' ⟨rfl, hb2⟩)
          go_roundw
          case rel => exact ⟨k + 1, by omega, by go_num, HT.out, hbel.trans ((Below.refl _ _).drew.trans (hb2.mono hbel.size))⟩
          case measure => simp [intOf]; omega
        · have hde : decide (x[k] = y[k]) = false := by simp [hxy]
          have HT := Lib.hid (ne_of_get hlt hlt2 hxy); clear hxy htk
          have C := eqName_c hr.drew hr2.drew
          rw [hde] at C
          have HC := Lib.hid C; clear C hde hr hr2
          go_wp2_with (go_at_call 20; refine HC.out.mono ?_; rintro e w' ⟨rfl, hb2⟩)
          go_ret
          exact ⟨ret_bool (by simp [HT.out]), hbel.trans ((Below.refl _ _).drew.trans (hb2.mono hbel.size))⟩
      · have HT := Lib.hid (eq_of_take htk hlt HAB.out); clear htk
        go_wp2
        go_ret
        exact ⟨ret_bool (by simp [HT.out]), hbel⟩
  · have hab' : ((x.length : Int) != (y.length : Int)) = true := by simp; omega
    have HT : Hid (x ≠ y) := Lib.hid (fun q => hab (by rw [q])); clear hab
    go_wp2
    go_ret
    exact ⟨ret_bool (by simp [HT.out]), Below.refl _ _⟩
set_option maxRecDepth 100000 in
set_option maxHeartbeats 400000 in
theorem eqMeasurement_c {w : World} {ca cb : List Value} {x y : LMeasurement} (ha : RMeasurement.raw w ca x) (hb : RMeasurement.raw w cb y) :
    Calls Try.prog 79 #[.agg ca.toArray, .agg cb.toArray] w fun e w' => e = .returned (.bool (decide (x = y))) ∧ Below w.heap.size w w' := by
  obtain ⟨av0, rfl, a_0, a_1, a_2, a_3⟩ := RMeasurement_raw ha
  obtain ⟨bv0, rfl, b_0, b_1, b_2, b_3⟩ := RMeasurement_raw hb
  obtain ⟨x0, x1, x2⟩ := x
  obtain ⟨y0, y1, y2⟩ := y
  clear ha hb a_1 b_1 a_2 b_2 a_3 b_3
  go_enter Try.func79, Try.ntmps79
  go_wp2_with fail
  refine (eqName_c ((a_0.alloc _).alloc _) ((b_0.alloc _).alloc _)).mono ?_
  rintro e w1 ⟨rfl, hb1⟩
  have D1 := hb1
  have E1 : Below w.heap.size w w1 := (((Below.refl _ _).alloc (Nat.le_refl _) _).alloc (by simp) _).trans (hb1.mono (by simp; omega))
  obtain ⟨hc1, hf1⟩ := bcell D1; clear hb1
  go_wp2
  · go_ret
    exact ⟨ret_bool (by have q : (!decide (x0 = y0)) = true := ‹_›; simp at q; simp [q]), E1⟩
  · go_ret
    exact ⟨ret_bool (by have q : (x1 != y1) = true := ‹_›; simp at q; simp [q]), E1⟩
  · go_ret
    exact ⟨ret_bool (by have q : (x2 != y2) = true := ‹_›; simp at q; simp [q]), E1⟩
  · go_ret
    exact ⟨ret_bool (by have q0 : (!decide (x0 = y0)) = false := ‹_›; simp at q0; have q1 : (x1 != y1) = false := ‹_›; simp at q1; have q2 : (x2 != y2) = false := ‹_›; simp at q2; simp [q0, q1, q2]), E1⟩
set_option maxRecDepth 100000 in
set_option maxHeartbeats 400000 in
theorem eqMeasurementS_c {w : World} {va vb : Value} {x y : List LMeasurement} (ha : (Rep.slice 103 RMeasurement).raw w [va] x) (hb : (Rep.slice 103 RMeasurement).raw w [vb] y) :
    Calls Try.prog 37 #[va, vb] w fun e w' => e = .returned (.bool (decide (x = y))) ∧ Below w.heap.size w w' := by
  obtain ⟨aa, capa, hva, la⟩ := Rep.len_raw ha; obtain rfl : va = _ := by simpa using hva
  clear hva
  obtain ⟨ab, capb, hvb, lb⟩ := Rep.len_raw hb; obtain rfl : vb = _ := by simpa using hvb
  clear hvb
  go_enter Try.func37, Try.ntmps37
  by_cases hab : x.length = y.length
  · have hab' : ((x.length : Int) != (y.length : Int)) = false := by simp [hab]
    have HAB := Lib.hid hab; clear hab
    go_wp2
    go_loopw [5] (fun i wr => ∃ k : Nat, k ≤ x.length ∧ i = .int .i64 k ∧ x.take k = y.take k ∧ Below w.heap.size w wr) (fun i _ => x.length - (intOf i).toNat)
    case atStart => exact ⟨0, Nat.zero_le _, rfl, rfl, Below.refl _ _⟩
    case round =>
      obtain ⟨k, hk, rfl, htk, hbel⟩ := hrel
      by_cases hlt : k < x.length
      · have hlt2 : k < y.length := by have := HAB.out; omega
        obtain ⟨ba, offa, rfl, c0, c1, c2, hr, A0, A1, A2⟩ := Rep.get3 (ha.below hbel) hlt rfl
        obtain ⟨bb, offb, rfl, d0, d1, d2, hr2, B0, B1, B2⟩ := Rep.get3 (hb.below hbel) hlt2 rfl
        go_wp2
        go_still_tail 8, (by kernel_rfl)
        change wpList _ _ _ _ _ wr.drew
        clear A0 A1 A2 B0 B1 B2
        by_cases hxy : x[k] = y[k]
        · have hde : decide (x[k] = y[k]) = true := by simp [hxy]
          have HT := Lib.hid (take_eq_succ htk hlt hlt2 hxy); clear hxy htk
          have C := eqMeasurement_c hr.drew hr2.drew
          rw [hde] at C
          have HC := Lib.hid C; clear C hde hr hr2
          go_wp2_with (go_at_call 79; refine HC.out.mono ?_; rintro e w' ⟨rfl, hb2⟩)
          go_roundw
          case rel => exact ⟨k + 1, by omega, by go_num, HT.out, hbel.trans ((Below.refl _ _).drew.trans (hb2.mono hbel.size))⟩
          case measure => simp [intOf]; omega
        · have hde : decide (x[k] = y[k]) = false := by simp [hxy]
          have HT := Lib.hid (ne_of_get hlt hlt2 hxy); clear hxy htk
          have C := eqMeasurement_c hr.drew hr2.drew
          rw [hde] at C
          have HC := Lib.hid C; clear C hde hr hr2
          go_wp2_with (go_at_call 79; refine HC.out.mono ?_; rintro e w' ⟨rfl, hb2⟩)
          go_ret
          exact ⟨ret_bool (by simp [HT.out]), hbel.trans ((Below.refl _ _).drew.trans (hb2.mono hbel.size))⟩
      · have HT := Lib.hid (eq_of_take htk hlt HAB.out); clear htk
        go_wp2
        go_ret
        exact ⟨ret_bool (by simp [HT.out]), hbel⟩
  · have hab' : ((x.length : Int) != (y.length : Int)) = true := by simp; omega
    have HT : Hid (x ≠ y) := Lib.hid (fun q => hab (by rw [q])); clear hab
    go_wp2
    go_ret
    exact ⟨ret_bool (by simp [HT.out]), Below.refl _ _⟩
set_option maxRecDepth 100000 in
set_option maxHeartbeats 400000 in
theorem eqRoute_c {w : World} {ca cb : List Value} {x y : LRoute} (ha : RRoute.raw w ca x) (hb : RRoute.raw w cb y) :
    Calls Try.prog 66 #[.agg ca.toArray, .agg cb.toArray] w fun e w' => e = .returned (.bool (decide (x = y))) ∧ Below w.heap.size w w' := by
  obtain ⟨av0, rfl, a_0, a_1, a_2, a_3⟩ := RRoute_raw ha
  obtain ⟨bv0, rfl, b_0, b_1, b_2, b_3⟩ := RRoute_raw hb
  obtain ⟨x0, x1, x2⟩ := x
  obtain ⟨y0, y1, y2⟩ := y
  clear ha hb a_1 b_1 a_2 b_2 a_3 b_3
  go_enter Try.func66, Try.ntmps66
  go_wp2_with fail
  refine (eqName_c ((a_0.alloc _).alloc _) ((b_0.alloc _).alloc _)).mono ?_
  rintro e w1 ⟨rfl, hb1⟩
  have D1 := hb1
  have E1 : Below w.heap.size w w1 := (((Below.refl _ _).alloc (Nat.le_refl _) _).alloc (by simp) _).trans (hb1.mono (by simp; omega))
  obtain ⟨hc1, hf1⟩ := bcell D1; clear hb1
  go_wp2
  · go_ret
    exact ⟨ret_bool (by have q : (!decide (x0 = y0)) = true := ‹_›; simp at q; simp [q]), E1⟩
  · go_ret
    exact ⟨ret_bool (by have q : (x1 != y1) = true := ‹_›; simp at q; simp [q]), E1⟩
  · go_ret
    exact ⟨ret_bool (by have q : (x2 != y2) = true := ‹_›; simp at q; simp [q]), E1⟩
  · go_ret
    exact ⟨ret_bool (by have q0 : (!decide (x0 = y0)) = false := ‹_›; simp at q0; have q1 : (x1 != y1) = false := ‹_›; simp at q1; have q2 : (x2 != y2) = false := ‹_›; simp at q2; simp [q0, q1, q2]), E1⟩
set_option maxRecDepth 100000 in
set_option maxHeartbeats 400000 in
theorem eqRouteS_c {w : World} {va vb : Value} {x y : List LRoute} (ha : (Rep.slice 88 RRoute).raw w [va] x) (hb : (Rep.slice 88 RRoute).raw w [vb] y) :
    Calls Try.prog 21 #[va, vb] w fun e w' => e = .returned (.bool (decide (x = y))) ∧ Below w.heap.size w w' := by
  obtain ⟨aa, capa, hva, la⟩ := Rep.len_raw ha; obtain rfl : va = _ := by simpa using hva
  clear hva
  obtain ⟨ab, capb, hvb, lb⟩ := Rep.len_raw hb; obtain rfl : vb = _ := by simpa using hvb
  clear hvb
  go_enter Try.func21, Try.ntmps21
  by_cases hab : x.length = y.length
  · have hab' : ((x.length : Int) != (y.length : Int)) = false := by simp [hab]
    have HAB := Lib.hid hab; clear hab
    go_wp2
    go_loopw [5] (fun i wr => ∃ k : Nat, k ≤ x.length ∧ i = .int .i64 k ∧ x.take k = y.take k ∧ Below w.heap.size w wr) (fun i _ => x.length - (intOf i).toNat)
    case atStart => exact ⟨0, Nat.zero_le _, rfl, rfl, Below.refl _ _⟩
    case round =>
      obtain ⟨k, hk, rfl, htk, hbel⟩ := hrel
      by_cases hlt : k < x.length
      · have hlt2 : k < y.length := by have := HAB.out; omega
        obtain ⟨ba, offa, rfl, c0, c1, c2, hr, A0, A1, A2⟩ := Rep.get3 (ha.below hbel) hlt rfl
        obtain ⟨bb, offb, rfl, d0, d1, d2, hr2, B0, B1, B2⟩ := Rep.get3 (hb.below hbel) hlt2 rfl
        go_wp2
        go_still_tail 8, (by kernel_rfl)
        change wpList _ _ _ _ _ wr.drew
        clear A0 A1 A2 B0 B1 B2
        by_cases hxy : x[k] = y[k]
        · have hde : decide (x[k] = y[k]) = true := by simp [hxy]
          have HT := Lib.hid (take_eq_succ htk hlt hlt2 hxy); clear hxy htk
          have C := eqRoute_c hr.drew hr2.drew
          rw [hde] at C
          have HC := Lib.hid C; clear C hde hr hr2
          go_wp2_with (go_at_call 66; refine HC.out.mono ?_; rintro e w' ⟨rfl, hb2⟩)
          go_roundw
          case rel => exact ⟨k + 1, by omega, by go_num, HT.out, hbel.trans ((Below.refl _ _).drew.trans (hb2.mono hbel.size))⟩
          case measure => simp [intOf]; omega
        · have hde : decide (x[k] = y[k]) = false := by simp [hxy]
          have HT := Lib.hid (ne_of_get hlt hlt2 hxy); clear hxy htk
          have C := eqRoute_c hr.drew hr2.drew
          rw [hde] at C
          have HC := Lib.hid C; clear C hde hr hr2
          go_wp2_with (go_at_call 66; refine HC.out.mono ?_; rintro e w' ⟨rfl, hb2⟩)
          go_ret
          exact ⟨ret_bool (by simp [HT.out]), hbel.trans ((Below.refl _ _).drew.trans (hb2.mono hbel.size))⟩
      · have HT := Lib.hid (eq_of_take htk hlt HAB.out); clear htk
        go_wp2
        go_ret
        exact ⟨ret_bool (by simp [HT.out]), hbel⟩
  · have hab' : ((x.length : Int) != (y.length : Int)) = true := by simp; omega
    have HT : Hid (x ≠ y) := Lib.hid (fun q => hab (by rw [q])); clear hab
    go_wp2
    go_ret
    exact ⟨ret_bool (by simp [HT.out]), Below.refl _ _⟩
set_option maxRecDepth 100000 in
set_option maxHeartbeats 400000 in
theorem eqAdvertisement_c {w : World} {ca cb : List Value} {x y : LAdvertisement} (ha : RAdvertisement.raw w ca x) (hb : RAdvertisement.raw w cb y) :
    Calls Try.prog 13 #[.agg ca.toArray, .agg cb.toArray] w fun e w' => e = .returned (.bool (decide (x = y))) ∧ Below w.heap.size w w' := by
  obtain ⟨av0, av1, rfl, a_0, a_1, a_2, a_3⟩ := RAdvertisement_raw ha
  obtain ⟨bv0, bv1, rfl, b_0, b_1, b_2, b_3⟩ := RAdvertisement_raw hb
  obtain ⟨x0, x1, x2, x3⟩ := x
  obtain ⟨y0, y1, y2, y3⟩ := y
  clear ha hb a_0 b_0 a_1 b_1
  go_enter Try.func13, Try.ntmps13
  go_wp2_with fail
  · go_ret
    exact ⟨ret_bool (by have q : (x0 != y0) = true := ‹_›; simp at q; simp [q]), ((Below.refl _ _).alloc (Nat.le_refl _) _).alloc (by simp) _⟩
  · go_ret
    exact ⟨ret_bool (by have q : (x1 != y1) = true := ‹_›; simp at q; simp [q]), ((Below.refl _ _).alloc (Nat.le_refl _) _).alloc (by simp) _⟩
  refine (eqIntS_c ((a_2.alloc _).alloc _) ((b_2.alloc _).alloc _)).mono ?_
  rintro e w1 ⟨rfl, hb1⟩
  have D1 := hb1
  have E1 : Below w.heap.size w w1 := (((Below.refl _ _).alloc (Nat.le_refl _) _).alloc (by simp) _).trans (hb1.mono (by simp; omega))
  obtain ⟨hc1, hf1⟩ := bcell D1; clear hb1
  go_wp2_with fail
  · go_ret
    exact ⟨ret_bool (by have q : (!decide (x2 = y2)) = true := ‹_›; simp at q; simp [q]), E1⟩
  refine (eqNameS_c (a_3.below E1) (b_3.below E1)).mono ?_
  rintro e w2 ⟨rfl, hb2⟩
  have D2 := D1.trans (hb2.mono D1.size)
  have E2 := E1.trans (hb2.mono E1.size)
  clear hc1 hf1 hb2
  obtain ⟨hc2, hf2⟩ := bcell D2
  go_wp2
  · go_ret
    exact ⟨ret_bool (by have q : (!decide (x3 = y3)) = true := ‹_›; simp at q; simp [q]), E2⟩
  · go_ret
    exact ⟨ret_bool (by have q0 : (x0 != y0) = false := ‹_›; simp at q0; have q1 : (x1 != y1) = false := ‹_›; simp at q1; have q2 : (!decide (x2 = y2)) = false := ‹_›; simp at q2; have q3 : (!decide (x3 = y3)) = false := ‹_›; simp at q3; simp [q0, q1, q2, q3]), E2⟩
set_option maxRecDepth 100000 in
set_option maxHeartbeats 400000 in
theorem eqAdvertisementS_c {w : World} {va vb : Value} {x y : List LAdvertisement} (ha : (Rep.slice 30 RAdvertisement).raw w [va] x) (hb : (Rep.slice 30 RAdvertisement).raw w [vb] y) :
    Calls Try.prog 32 #[va, vb] w fun e w' => e = .returned (.bool (decide (x = y))) ∧ Below w.heap.size w w' := by
  obtain ⟨aa, capa, hva, la⟩ := Rep.len_raw ha; obtain rfl : va = _ := by simpa using hva
  clear hva
  obtain ⟨ab, capb, hvb, lb⟩ := Rep.len_raw hb; obtain rfl : vb = _ := by simpa using hvb
  clear hvb
  go_enter Try.func32, Try.ntmps32
  by_cases hab : x.length = y.length
  · have hab' : ((x.length : Int) != (y.length : Int)) = false := by simp [hab]
    have HAB := Lib.hid hab; clear hab
    go_wp2
    go_loopw [5] (fun i wr => ∃ k : Nat, k ≤ x.length ∧ i = .int .i64 k ∧ x.take k = y.take k ∧ Below w.heap.size w wr) (fun i _ => x.length - (intOf i).toNat)
    case atStart => exact ⟨0, Nat.zero_le _, rfl, rfl, Below.refl _ _⟩
    case round =>
      obtain ⟨k, hk, rfl, htk, hbel⟩ := hrel
      by_cases hlt : k < x.length
      · have hlt2 : k < y.length := by have := HAB.out; omega
        obtain ⟨ba, offa, rfl, c0, c1, c2, c3, hr, A0, A1, A2, A3⟩ := Rep.get4 (ha.below hbel) hlt rfl
        obtain ⟨bb, offb, rfl, d0, d1, d2, d3, hr2, B0, B1, B2, B3⟩ := Rep.get4 (hb.below hbel) hlt2 rfl
        go_wp2
        go_still_tail 8, (by kernel_rfl)
        change wpList _ _ _ _ _ wr.drew
        clear A0 A1 A2 A3 B0 B1 B2 B3
        by_cases hxy : x[k] = y[k]
        · have hde : decide (x[k] = y[k]) = true := by simp [hxy]
          have HT := Lib.hid (take_eq_succ htk hlt hlt2 hxy); clear hxy htk
          have C := eqAdvertisement_c hr.drew hr2.drew
          rw [hde] at C
          have HC := Lib.hid C; clear C hde hr hr2
          go_wp2_with (go_at_call 13; refine HC.out.mono ?_; rintro e w' ⟨rfl, hb2⟩)
          go_roundw
          case rel => exact ⟨k + 1, by omega, by go_num, HT.out, hbel.trans ((Below.refl _ _).drew.trans (hb2.mono hbel.size))⟩
          case measure => simp [intOf]; omega
        · have hde : decide (x[k] = y[k]) = false := by simp [hxy]
          have HT := Lib.hid (ne_of_get hlt hlt2 hxy); clear hxy htk
          have C := eqAdvertisement_c hr.drew hr2.drew
          rw [hde] at C
          have HC := Lib.hid C; clear C hde hr hr2
          go_wp2_with (go_at_call 13; refine HC.out.mono ?_; rintro e w' ⟨rfl, hb2⟩)
          go_ret
          exact ⟨ret_bool (by simp [HT.out]), hbel.trans ((Below.refl _ _).drew.trans (hb2.mono hbel.size))⟩
      · have HT := Lib.hid (eq_of_take htk hlt HAB.out); clear htk
        go_wp2
        go_ret
        exact ⟨ret_bool (by simp [HT.out]), hbel⟩
  · have hab' : ((x.length : Int) != (y.length : Int)) = true := by simp; omega
    have HT : Hid (x ≠ y) := Lib.hid (fun q => hab (by rw [q])); clear hab
    go_wp2
    go_ret
    exact ⟨ret_bool (by simp [HT.out]), Below.refl _ _⟩
set_option maxRecDepth 100000 in
set_option maxHeartbeats 400000 in
theorem eqInterest_c {w : World} {ca cb : List Value} {x y : LInterest} (ha : RInterest.raw w ca x) (hb : RInterest.raw w cb y) :
    Calls Try.prog 109 #[.agg ca.toArray, .agg cb.toArray] w fun e w' => e = .returned (.bool (decide (x = y))) ∧ Below w.heap.size w w' := by
  obtain ⟨av0, rfl, a_0, a_1, a_2, a_3, a_4⟩ := RInterest_raw ha
  obtain ⟨bv0, rfl, b_0, b_1, b_2, b_3, b_4⟩ := RInterest_raw hb
  obtain ⟨x0, x1, x2, x3⟩ := x
  obtain ⟨y0, y1, y2, y3⟩ := y
  clear ha hb a_1 b_1 a_2 b_2 a_3 b_3 a_4 b_4
  go_enter Try.func109, Try.ntmps109
  go_wp2_with fail
  refine (eqName_c ((a_0.alloc _).alloc _) ((b_0.alloc _).alloc _)).mono ?_
  rintro e w1 ⟨rfl, hb1⟩
  have D1 := hb1
  have E1 : Below w.heap.size w w1 := (((Below.refl _ _).alloc (Nat.le_refl _) _).alloc (by simp) _).trans (hb1.mono (by simp; omega))
  obtain ⟨hc1, hf1⟩ := bcell D1; clear hb1
  go_wp2
  · go_ret
    exact ⟨ret_bool (by have q : (!decide (x0 = y0)) = true := ‹_›; simp at q; simp [q]), E1⟩
  · go_ret
    exact ⟨ret_bool (by have q : (x1 != y1) = true := ‹_›; simp at q; simp [q]), E1⟩
  · go_ret
    exact ⟨ret_bool (by have q : (x2 != y2) = true := ‹_›; simp at q; simp [q]), E1⟩
  · go_ret
    exact ⟨ret_bool (by have q : (x3 != y3) = true := ‹_›; simp at q; simp [q]), E1⟩
  · go_ret
    exact ⟨ret_bool (by have q0 : (!decide (x0 = y0)) = false := ‹_›; simp at q0; have q1 : (x1 != y1) = false := ‹_›; simp at q1; have q2 : (x2 != y2) = false := ‹_›; simp at q2; have q3 : (x3 != y3) = false := ‹_›; simp at q3; simp [q0, q1, q2, q3]), E1⟩
set_option maxRecDepth 100000 in
set_option maxHeartbeats 400000 in
theorem eqData_c {w : World} {ca cb : List Value} {x y : LData} (ha : RData.raw w ca x) (hb : RData.raw w cb y) :
    Calls Try.prog 110 #[.agg ca.toArray, .agg cb.toArray] w fun e w' => e = .returned (.bool (decide (x = y))) ∧ Below w.heap.size w w' := by
  obtain ⟨av0, av1, av2, rfl, a_0, a_1, a_2, a_3, a_4, a_5, a_6⟩ := RData_raw ha
  obtain ⟨bv0, bv1, bv2, rfl, b_0, b_1, b_2, b_3, b_4, b_5, b_6⟩ := RData_raw hb
  obtain ⟨x0, x1, x2, x3, x4⟩ := x
  obtain ⟨y0, y1, y2, y3, y4⟩ := y
  clear ha hb a_1 b_1 a_4 b_4 a_5 b_5 a_6 b_6
  go_enter Try.func110, Try.ntmps110
  go_wp2_with fail
  refine (eqName_c ((a_0.alloc _).alloc _) ((b_0.alloc _).alloc _)).mono ?_
  rintro e w1 ⟨rfl, hb1⟩
  have D1 := hb1
  have E1 : Below w.heap.size w w1 := (((Below.refl _ _).alloc (Nat.le_refl _) _).alloc (by simp) _).trans (hb1.mono (by simp; omega))
  obtain ⟨hc1, hf1⟩ := bcell D1; clear hb1
  go_wp2_with fail
  · go_ret
    exact ⟨ret_bool (by have q : (!decide (x0 = y0)) = true := ‹_›; simp at q; simp [q]), E1⟩
  refine (eqByteS_c (a_2.below E1) (b_2.below E1)).mono ?_
  rintro e w2 ⟨rfl, hb2⟩
  have D2 := D1.trans (hb2.mono D1.size)
  have E2 := E1.trans (hb2.mono E1.size)
  clear hc1 hf1 hb2
  obtain ⟨hc2, hf2⟩ := bcell D2
  go_wp2_with fail
  · go_ret
    exact ⟨ret_bool (by have q : (!decide (x1 = y1)) = true := ‹_›; simp at q; simp [q]), E2⟩
  refine (eqName_c (a_3.below E2) (b_3.below E2)).mono ?_
  rintro e w3 ⟨rfl, hb3⟩
  have D3 := D2.trans (hb3.mono D2.size)
  have E3 := E2.trans (hb3.mono E2.size)
  clear hc2 hf2 hb3
  obtain ⟨hc3, hf3⟩ := bcell D3
  go_wp2
  · go_ret
    exact ⟨ret_bool (by have q : (!decide (x2 = y2)) = true := ‹_›; simp at q; simp [q]), E3⟩
  · go_ret
    exact ⟨ret_bool (by have q : (x3 != y3) = true := ‹_›; simp at q; simp [q]), E3⟩
  · go_ret
    exact ⟨ret_bool (by have q : (x4 != y4) = true := ‹_›; simp at q; simp [q]), E3⟩
  · go_ret
    exact ⟨ret_bool (by have q0 : (!decide (x0 = y0)) = false := ‹_›; simp at q0; have q1 : (!decide (x1 = y1)) = false := ‹_›; simp at q1; have q2 : (!decide (x2 = y2)) = false := ‹_›; simp at q2; have q3 : (x3 != y3) = false := ‹_›; simp at q3; have q4 : (x4 != y4) = false := ‹_›; simp at q4; simp [q0, q1, q2, q3, q4]), E3⟩
set_option maxRecDepth 100000 in
set_option maxHeartbeats 400000 in
theorem eqOutgoing_c {w : World} {ca cb : List Value} {x y : LOutgoing} (ha : ROutgoing.raw w ca x) (hb : ROutgoing.raw w cb y) :
    Calls Try.prog 88 #[.agg ca.toArray, .agg cb.toArray] w fun e w' => e = .returned (.bool (decide (x = y))) ∧ Below w.heap.size w w' := by
  obtain ⟨av0, av1, av2, av3, rfl, a_0, a_1, a_2, a_3, a_4, a_5, a_6, a_7, a_8, a_9, a_10, a_11, a_12, a_13, a_14⟩ := ROutgoing_raw ha
  obtain ⟨bv0, bv1, bv2, bv3, rfl, b_0, b_1, b_2, b_3, b_4, b_5, b_6, b_7, b_8, b_9, b_10, b_11, b_12, b_13, b_14⟩ := ROutgoing_raw hb
  obtain ⟨x0, x1, x2, x3⟩ := x
  obtain ⟨y0, y1, y2, y3⟩ := y
  clear ha hb a_0 b_0 a_2 b_2 a_3 b_3 a_4 b_4 a_5 b_5 a_6 b_6 a_8 b_8 a_9 b_9 a_10 b_10 a_11 b_11 a_12 b_12 a_13 b_13 a_14 b_14
  go_enter Try.func88, Try.ntmps88
  go_wp2_with fail
  · go_ret
    exact ⟨ret_bool (by have q : (x0 != y0) = true := ‹_›; simp at q; simp [q]), ((Below.refl _ _).alloc (Nat.le_refl _) _).alloc (by simp) _⟩
  · go_ret
    exact ⟨ret_bool (by have q : (x1 != y1) = true := ‹_›; simp at q; simp [q]), ((Below.refl _ _).alloc (Nat.le_refl _) _).alloc (by simp) _⟩
  refine (eqInterest_c ((a_1.alloc _).alloc _) ((b_1.alloc _).alloc _)).mono ?_
  rintro e w1 ⟨rfl, hb1⟩
  have D1 := hb1
  have E1 : Below w.heap.size w w1 := (((Below.refl _ _).alloc (Nat.le_refl _) _).alloc (by simp) _).trans (hb1.mono (by simp; omega))
  obtain ⟨hc1, hf1⟩ := bcell D1; clear hb1
  go_wp2_with fail
  · go_ret
    exact ⟨ret_bool (by have q : (!decide (x2 = y2)) = true := ‹_›; simp at q; simp [q]), E1⟩
  refine (eqData_c (a_7.below E1) (b_7.below E1)).mono ?_
  rintro e w2 ⟨rfl, hb2⟩
  have D2 := D1.trans (hb2.mono D1.size)
  have E2 := E1.trans (hb2.mono E1.size)
  clear hc1 hf1 hb2
  obtain ⟨hc2, hf2⟩ := bcell D2
  go_wp2
  · go_ret
    exact ⟨ret_bool (by have q : (!decide (x3 = y3)) = true := ‹_›; simp at q; simp [q]), E2⟩
  · go_ret
    exact ⟨ret_bool (by have q0 : (x0 != y0) = false := ‹_›; simp at q0; have q1 : (x1 != y1) = false := ‹_›; simp at q1; have q2 : (!decide (x2 = y2)) = false := ‹_›; simp at q2; have q3 : (!decide (x3 = y3)) = false := ‹_›; simp at q3; simp [q0, q1, q2, q3]), E2⟩
set_option maxRecDepth 100000 in
set_option maxHeartbeats 400000 in
theorem eqOutgoingS_c {w : World} {va vb : Value} {x y : List LOutgoing} (ha : (Rep.slice 121 ROutgoing).raw w [va] x) (hb : (Rep.slice 121 ROutgoing).raw w [vb] y) :
    Calls Try.prog 44 #[va, vb] w fun e w' => e = .returned (.bool (decide (x = y))) ∧ Below w.heap.size w w' := by
  obtain ⟨aa, capa, hva, la⟩ := Rep.len_raw ha; obtain rfl : va = _ := by simpa using hva
  clear hva
  obtain ⟨ab, capb, hvb, lb⟩ := Rep.len_raw hb; obtain rfl : vb = _ := by simpa using hvb
  clear hvb
  go_enter Try.func44, Try.ntmps44
  by_cases hab : x.length = y.length
  · have hab' : ((x.length : Int) != (y.length : Int)) = false := by simp [hab]
    have HAB := Lib.hid hab; clear hab
    go_wp2
    go_loopw [5] (fun i wr => ∃ k : Nat, k ≤ x.length ∧ i = .int .i64 k ∧ x.take k = y.take k ∧ Below w.heap.size w wr) (fun i _ => x.length - (intOf i).toNat)
    case atStart => exact ⟨0, Nat.zero_le _, rfl, rfl, Below.refl _ _⟩
    case round =>
      obtain ⟨k, hk, rfl, htk, hbel⟩ := hrel
      by_cases hlt : k < x.length
      · have hlt2 : k < y.length := by have := HAB.out; omega
        obtain ⟨ba, offa, rfl, c0, c1, c2, c3, c4, c5, c6, c7, c8, c9, c10, hr, A0, A1, A2, A3, A4, A5, A6, A7, A8, A9, A10⟩ := Rep.get11 (ha.below hbel) hlt rfl
        obtain ⟨bb, offb, rfl, d0, d1, d2, d3, d4, d5, d6, d7, d8, d9, d10, hr2, B0, B1, B2, B3, B4, B5, B6, B7, B8, B9, B10⟩ := Rep.get11 (hb.below hbel) hlt2 rfl
        go_wp2
        go_still_tail 8, (by kernel_rfl)
        change wpList _ _ _ _ _ wr.drew
        clear A0 A1 A2 A3 A4 A5 A6 A7 A8 A9 A10 B0 B1 B2 B3 B4 B5 B6 B7 B8 B9 B10
        by_cases hxy : x[k] = y[k]
        · have hde : decide (x[k] = y[k]) = true := by simp [hxy]
          have HT := Lib.hid (take_eq_succ htk hlt hlt2 hxy); clear hxy htk
          have C := eqOutgoing_c hr.drew hr2.drew
          rw [hde] at C
          have HC := Lib.hid C; clear C hde hr hr2
          go_wp2_with (go_at_call 88; refine HC.out.mono ?_; rintro e w' ⟨rfl, hb2⟩)
          go_roundw
          case rel => exact ⟨k + 1, by omega, by go_num, HT.out, hbel.trans ((Below.refl _ _).drew.trans (hb2.mono hbel.size))⟩
          case measure => simp [intOf]; omega
        · have hde : decide (x[k] = y[k]) = false := by simp [hxy]
          have HT := Lib.hid (ne_of_get hlt hlt2 hxy); clear hxy htk
          have C := eqOutgoing_c hr.drew hr2.drew
          rw [hde] at C
          have HC := Lib.hid C; clear C hde hr hr2
          go_wp2_with (go_at_call 88; refine HC.out.mono ?_; rintro e w' ⟨rfl, hb2⟩)
          go_ret
          exact ⟨ret_bool (by simp [HT.out]), hbel.trans ((Below.refl _ _).drew.trans (hb2.mono hbel.size))⟩
      · have HT := Lib.hid (eq_of_take htk hlt HAB.out); clear htk
        go_wp2
        go_ret
        exact ⟨ret_bool (by simp [HT.out]), hbel⟩
  · have hab' : ((x.length : Int) != (y.length : Int)) = true := by simp; omega
    have HT : Hid (x ≠ y) := Lib.hid (fun q => hab (by rw [q])); clear hab
    go_wp2
    go_ret
    exact ⟨ret_bool (by simp [HT.out]), Below.refl _ _⟩
end Go.Proofs.Ytclhapbahkjljaa

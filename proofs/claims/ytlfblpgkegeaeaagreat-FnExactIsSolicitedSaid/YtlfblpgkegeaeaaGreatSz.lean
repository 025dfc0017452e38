/-
  The laws' measures of size: what they let pass is bounded. Printed by gensz.py.
-/
import Derived.Test.YtlfblpgkegeaeaaGreatProg
import Derived.Test.YtlfblpgkegeaeaaGreatTypes
import Derived.WalkKit
import Derived.WalkSpells
import Derived.WalkLawsBesides
import Derived.BigQuiet
import Derived.Deep.QuietTactic
import Derived.StillTailTactics
namespace Go.Proofs.YtlfblpgkegeaeaaGreat
open Go.RowKit
set_option linter.unusedVariables false

def SzPost (bd : Prop) (left : Int) (w : World) (e : Ending) (w' : World) : Prop := ∃ r : Int, e = .returned (.int .i64 r) ∧ -1 ≤ r ∧ r ≤ left ∧ (0 ≤ r → bd) ∧ Below w.heap.size w w'
theorem sz_minus {bd : Prop} {left : Int} {w w' : World} (hl : 0 ≤ left) (h : Below w.heap.size w w') : SzPost bd left w (.returned (.int .i64 (-1))) w' := ⟨-1, rfl, by omega, by omega, by omega, h⟩
theorem all_take_succ {α : Type} {P : α → Prop} {x : List α} {k : Nat} (h : ∀ y ∈ x.take k, P y) (hk : k < x.length) (hy : P x[k]) : ∀ y ∈ x.take (k + 1), P y := by
  rw [List.take_succ_eq_append_getElem hk]
  intro y hm
  rcases List.mem_append.1 hm with hm | hm
  · exact h y hm
  · rw [List.mem_singleton.1 hm]; exact hy
theorem all_take_full {α : Type} {P : α → Prop} {x : List α} {k : Nat} (h : ∀ y ∈ x.take k, P y) (hk : ¬ k < x.length) : ∀ y ∈ x, P y := by
  rwa [List.take_of_length_le (by omega)] at h

set_option maxRecDepth 100000 in
set_option maxHeartbeats 400000 in
theorem szStringS_c {w : World} {va : Value} {x : List ByteArray} {left : Int} (ha : (Rep.slice 9 Rep.str).raw w [va] x) (hl0 : 0 ≤ left) (hl1 : left ≤ 1048576) :
    Calls Tryz.prog 100 #[va, .int .i64 left] w (SzPost ((Rep.slice 9 Rep.str).bdd 1048576 x) left w) := by
  obtain ⟨aa, capa, hva, la⟩ := Rep.len_raw ha; obtain rfl : va = _ := by simpa using hva
  clear hva
  go_enter Tryz.func100, Tryz.ntmps100
  by_cases hb : left < (x.length : Int)
  · have hb1 : left - (x.length : Int) < 0 := by omega
    have hb2 : -9223372036854775808 ≤ left - (x.length : Int) := by omega
    go_wp2
    go_ret
    exact sz_minus hl0 (Below.refl _ _)
  · have hb1 : 0 ≤ left - (x.length : Int) := by omega
    have hb2 : ¬ left - (x.length : Int) < 0 := by omega
    go_wp2
    go_loopw [1, 5] (fun l i wr => ∃ (k : Nat) (r : Int), k ≤ x.length ∧ i = .int .i64 k ∧ l = .int .i64 r ∧ 0 ≤ r ∧ r ≤ left ∧ (∀ y ∈ x.take k, Rep.str.bdd 1048576 y) ∧ Below w.heap.size w wr) (fun _ i _ => x.length - (intOf i).toNat)
    case atStart => exact ⟨0, _, Nat.zero_le _, rfl, rfl, hb1, by omega, by simp, Below.refl _ _⟩
    case round =>
      obtain ⟨k, r, hk, rfl, rfl, hr0, hr1, hall, hbel⟩ := hrel
      have HA := Lib.hid hall; clear hall
      by_cases hlt : k < x.length
      · obtain ⟨ba, offa, rfl, c0, hr, A0⟩ := Rep.get1 (ha.below hbel) hlt rfl
        obtain ⟨he, hz⟩ := Rep.str_raw hr
        obtain rfl : c0 = _ := by simpa using he
        unfold maxLen at hz
        clear he hr
        by_cases hs : r < (x[k].size : Int)
        · have h1 : r - (x[k].size : Int) < 0 := by omega
          have h2 : -9223372036854775808 ≤ r - (x[k].size : Int) := by omega
          go_wp2
          go_ret
          exact sz_minus hl0 hbel
        · have h1 : 0 ≤ r - (x[k].size : Int) := by omega
          have h2 : ¬ r - (x[k].size : Int) < 0 := by omega
          go_wp2
          go_roundw
          case rel => exact ⟨k + 1, _, by omega, by go_num, rfl, h1, by omega, all_take_succ HA.out hlt (by show x[k].size ≤ 1048576; omega), hbel⟩
          case measure => simp [intOf]; omega
      · go_wp2
        go_ret
        exact ⟨_, rfl, by omega, by omega, fun _ => ⟨by omega, all_take_full HA.out hlt⟩, hbel⟩
set_option maxRecDepth 100000 in
set_option maxHeartbeats 400000 in
theorem szByteS_c {w : World} {va : Value} {x : List UInt8} {left : Int} (ha : (Rep.slice 5 Rep.byte).raw w [va] x) (hl0 : 0 ≤ left) (hl1 : left ≤ 1048576) :
    Calls Tryz.prog 34 #[va, .int .i64 left] w (SzPost ((Rep.slice 5 Rep.byte).bdd 1048576 x) left w) := by
  obtain ⟨aa, capa, hva, la⟩ := Rep.len_raw ha; obtain rfl : va = _ := by simpa using hva
  clear hva
  go_enter Tryz.func34, Tryz.ntmps34
  by_cases hb : left < (x.length : Int)
  · have hb1 : left - (x.length : Int) < 0 := by omega
    have hb2 : -9223372036854775808 ≤ left - (x.length : Int) := by omega
    go_wp2
    go_ret
    exact sz_minus hl0 (Below.refl _ _)
  · have hb1 : 0 ≤ left - (x.length : Int) := by omega
    have hb2 : ¬ left - (x.length : Int) < 0 := by omega
    go_wp2
    go_ret
    exact ⟨_, rfl, by omega, by omega, fun _ => ⟨by omega, fun _ _ => by first | trivial | exact ⟨trivial, trivial⟩ | exact ⟨trivial, trivial, trivial⟩ | exact ⟨trivial, trivial, trivial, trivial⟩⟩, Below.refl _ _⟩
set_option maxRecDepth 100000 in
set_option maxHeartbeats 400000 in
theorem szName_c {w : World} {ca : List Value} {x : LName} {left : Int} (ha : RName.raw w ca x) (hl0 : 0 ≤ left) (hl1 : left ≤ 1048576) :
    Calls Tryz.prog 33 #[.agg ca.toArray, .int .i64 left] w (SzPost (RName.bdd 1048576 x) left w) := by
  obtain ⟨av0, rfl, a_0⟩ := RName_raw ha
  obtain ⟨x0, rfl⟩ : ∃ x0, x0 = x := ⟨_, rfl⟩
  clear ha
  go_enter Tryz.func33, Tryz.ntmps33
  go_wp2_with fail
  refine (szStringS_c (a_0.alloc _) hl0 hl1).mono ?_
  rintro e w1 ⟨r1, rfl, p1, q1, s1, hb1⟩
  have S1 := Lib.hid s1; clear s1
  have D1 := hb1
  have E1 : Below w.heap.size w w1 := ((Below.refl _ _).alloc (Nat.le_refl _) _).trans (hb1.mono (by simp))
  obtain ⟨hc1, hf1⟩ := bcell D1; clear hb1
  by_cases m1 : r1 < 0
  · go_wp2
    go_ret
    exact sz_minus hl0 E1
  have n1 : 0 ≤ r1 := by omega
  go_wp2
  go_ret
  exact ⟨_, rfl, by omega, by omega, fun _ => S1.out n1, E1⟩
set_option maxRecDepth 100000 in
set_option maxHeartbeats 400000 in
theorem szNameS_c {w : World} {va : Value} {x : List LName} {left : Int} (ha : (Rep.slice 64 RName).raw w [va] x) (hl0 : 0 ≤ left) (hl1 : left ≤ 1048576) :
    Calls Tryz.prog 32 #[va, .int .i64 left] w (SzPost ((Rep.slice 64 RName).bdd 1048576 x) left w) := by
  obtain ⟨aa, capa, hva, la⟩ := Rep.len_raw ha; obtain rfl : va = _ := by simpa using hva
  clear hva
  go_enter Tryz.func32, Tryz.ntmps32
  by_cases hb : left < (x.length : Int)
  · have hb1 : left - (x.length : Int) < 0 := by omega
    have hb2 : -9223372036854775808 ≤ left - (x.length : Int) := by omega
    go_wp2
    go_ret
    exact sz_minus hl0 (Below.refl _ _)
  · have hb1 : 0 ≤ left - (x.length : Int) := by omega
    have hb2 : ¬ left - (x.length : Int) < 0 := by omega
    go_wp2
    go_loopw [1, 5] (fun l i wr => ∃ (k : Nat) (r : Int), k ≤ x.length ∧ i = .int .i64 k ∧ l = .int .i64 r ∧ 0 ≤ r ∧ r ≤ left ∧ (∀ y ∈ x.take k, RName.bdd 1048576 y) ∧ Below w.heap.size w wr) (fun _ i _ => x.length - (intOf i).toNat)
    case atStart => exact ⟨0, _, Nat.zero_le _, rfl, rfl, hb1, by omega, by simp, Below.refl _ _⟩
    case round =>
      obtain ⟨k, r, hk, rfl, rfl, hr0, hr1, hall, hbel⟩ := hrel
      have HA := Lib.hid hall; clear hall
      by_cases hlt : k < x.length
      · obtain ⟨ba, offa, rfl, c0, hr, A0⟩ := Rep.get1 (ha.below hbel) hlt rfl
        go_wp2_with fail
        refine (szName_c hr hr0 (by omega)).mono ?_
        rintro e w' ⟨r', rfl, h1, h2, h3, hb3⟩
        have HB := Lib.hid h3; clear h3 hr
        have hbel2 := hbel.trans (hb3.mono hbel.size)
        by_cases hs : r' < 0
        · go_wp2
          go_ret
          exact sz_minus hl0 hbel2
        · have h4 : 0 ≤ r' := by omega
          go_wp2
          go_roundw
          case rel => exact ⟨k + 1, _, by omega, by go_num, rfl, h4, by omega, all_take_succ HA.out hlt (HB.out h4), hbel2⟩
          case measure => simp [intOf]; omega
      · go_wp2
        go_ret
        exact ⟨_, rfl, by omega, by omega, fun _ => ⟨by omega, all_take_full HA.out hlt⟩, hbel⟩
set_option maxRecDepth 100000 in
set_option maxHeartbeats 400000 in
theorem szMeasurement_c {w : World} {ca : List Value} {x : LMeasurement} {left : Int} (ha : RMeasurement.raw w ca x) (hl0 : 0 ≤ left) (hl1 : left ≤ 1048576) :
    Calls Tryz.prog 97 #[.agg ca.toArray, .int .i64 left] w (SzPost (RMeasurement.bdd 1048576 x) left w) := by
  obtain ⟨av0, rfl, a_0, a_1, a_2, a_3⟩ := RMeasurement_raw ha
  obtain ⟨x0, x1, x2⟩ := x
  clear ha a_1 a_2 a_3
  go_enter Tryz.func97, Tryz.ntmps97
  go_wp2_with fail
  refine (szName_c (a_0.alloc _) hl0 hl1).mono ?_
  rintro e w1 ⟨r1, rfl, p1, q1, s1, hb1⟩
  have S1 := Lib.hid s1; clear s1
  have D1 := hb1
  have E1 : Below w.heap.size w w1 := ((Below.refl _ _).alloc (Nat.le_refl _) _).trans (hb1.mono (by simp))
  obtain ⟨hc1, hf1⟩ := bcell D1; clear hb1
  by_cases m1 : r1 < 0
  · go_wp2
    go_ret
    exact sz_minus hl0 E1
  have n1 : 0 ≤ r1 := by omega
  go_wp2
  go_ret
  exact ⟨_, rfl, by omega, by omega, fun _ => ⟨S1.out n1, trivial, trivial⟩, E1⟩
set_option maxRecDepth 100000 in
set_option maxHeartbeats 400000 in
theorem szMeasurementS_c {w : World} {va : Value} {x : List LMeasurement} {left : Int} (ha : (Rep.slice 184 RMeasurement).raw w [va] x) (hl0 : 0 ≤ left) (hl1 : left ≤ 1048576) :
    Calls Tryz.prog 29 #[va, .int .i64 left] w (SzPost ((Rep.slice 184 RMeasurement).bdd 1048576 x) left w) := by
  obtain ⟨aa, capa, hva, la⟩ := Rep.len_raw ha; obtain rfl : va = _ := by simpa using hva
  clear hva
  go_enter Tryz.func29, Tryz.ntmps29
  by_cases hb : left < (x.length : Int)
  · have hb1 : left - (x.length : Int) < 0 := by omega
    have hb2 : -9223372036854775808 ≤ left - (x.length : Int) := by omega
    go_wp2
    go_ret
    exact sz_minus hl0 (Below.refl _ _)
  · have hb1 : 0 ≤ left - (x.length : Int) := by omega
    have hb2 : ¬ left - (x.length : Int) < 0 := by omega
    go_wp2
    go_loopw [1, 5] (fun l i wr => ∃ (k : Nat) (r : Int), k ≤ x.length ∧ i = .int .i64 k ∧ l = .int .i64 r ∧ 0 ≤ r ∧ r ≤ left ∧ (∀ y ∈ x.take k, RMeasurement.bdd 1048576 y) ∧ Below w.heap.size w wr) (fun _ i _ => x.length - (intOf i).toNat)
    case atStart => exact ⟨0, _, Nat.zero_le _, rfl, rfl, hb1, by omega, by simp, Below.refl _ _⟩
    case round =>
      obtain ⟨k, r, hk, rfl, rfl, hr0, hr1, hall, hbel⟩ := hrel
      have HA := Lib.hid hall; clear hall
      by_cases hlt : k < x.length
      · obtain ⟨ba, offa, rfl, c0, c1, c2, hr, A0, A1, A2⟩ := Rep.get3 (ha.below hbel) hlt rfl
        go_wp2_with fail
        refine (szMeasurement_c hr hr0 (by omega)).mono ?_
        rintro e w' ⟨r', rfl, h1, h2, h3, hb3⟩
        have HB := Lib.hid h3; clear h3 hr
        have hbel2 := hbel.trans (hb3.mono hbel.size)
        by_cases hs : r' < 0
        · go_wp2
          go_ret
          exact sz_minus hl0 hbel2
        · have h4 : 0 ≤ r' := by omega
          go_wp2
          go_roundw
          case rel => exact ⟨k + 1, _, by omega, by go_num, rfl, h4, by omega, all_take_succ HA.out hlt (HB.out h4), hbel2⟩
          case measure => simp [intOf]; omega
      · go_wp2
        go_ret
        exact ⟨_, rfl, by omega, by omega, fun _ => ⟨by omega, all_take_full HA.out hlt⟩, hbel⟩
set_option maxRecDepth 100000 in
set_option maxHeartbeats 400000 in
theorem szRoute_c {w : World} {ca : List Value} {x : LRoute} {left : Int} (ha : RRoute.raw w ca x) (hl0 : 0 ≤ left) (hl1 : left ≤ 1048576) :
    Calls Tryz.prog 96 #[.agg ca.toArray, .int .i64 left] w (SzPost (RRoute.bdd 1048576 x) left w) := by
  obtain ⟨av0, rfl, a_0, a_1, a_2, a_3⟩ := RRoute_raw ha
  obtain ⟨x0, x1, x2⟩ := x
  clear ha a_1 a_2 a_3
  go_enter Tryz.func96, Tryz.ntmps96
  go_wp2_with fail
  refine (szName_c (a_0.alloc _) hl0 hl1).mono ?_
  rintro e w1 ⟨r1, rfl, p1, q1, s1, hb1⟩
  have S1 := Lib.hid s1; clear s1
  have D1 := hb1
  have E1 : Below w.heap.size w w1 := ((Below.refl _ _).alloc (Nat.le_refl _) _).trans (hb1.mono (by simp))
  obtain ⟨hc1, hf1⟩ := bcell D1; clear hb1
  by_cases m1 : r1 < 0
  · go_wp2
    go_ret
    exact sz_minus hl0 E1
  have n1 : 0 ≤ r1 := by omega
  go_wp2
  go_ret
  exact ⟨_, rfl, by omega, by omega, fun _ => ⟨S1.out n1, trivial, trivial⟩, E1⟩
set_option maxRecDepth 100000 in
set_option maxHeartbeats 400000 in
theorem szRouteS_c {w : World} {va : Value} {x : List LRoute} {left : Int} (ha : (Rep.slice 181 RRoute).raw w [va] x) (hl0 : 0 ≤ left) (hl1 : left ≤ 1048576) :
    Calls Tryz.prog 28 #[va, .int .i64 left] w (SzPost ((Rep.slice 181 RRoute).bdd 1048576 x) left w) := by
  obtain ⟨aa, capa, hva, la⟩ := Rep.len_raw ha; obtain rfl : va = _ := by simpa using hva
  clear hva
  go_enter Tryz.func28, Tryz.ntmps28
  by_cases hb : left < (x.length : Int)
  · have hb1 : left - (x.length : Int) < 0 := by omega
    have hb2 : -9223372036854775808 ≤ left - (x.length : Int) := by omega
    go_wp2
    go_ret
    exact sz_minus hl0 (Below.refl _ _)
  · have hb1 : 0 ≤ left - (x.length : Int) := by omega
    have hb2 : ¬ left - (x.length : Int) < 0 := by omega
    go_wp2
    go_loopw [1, 5] (fun l i wr => ∃ (k : Nat) (r : Int), k ≤ x.length ∧ i = .int .i64 k ∧ l = .int .i64 r ∧ 0 ≤ r ∧ r ≤ left ∧ (∀ y ∈ x.take k, RRoute.bdd 1048576 y) ∧ Below w.heap.size w wr) (fun _ i _ => x.length - (intOf i).toNat)
    case atStart => exact ⟨0, _, Nat.zero_le _, rfl, rfl, hb1, by omega, by simp, Below.refl _ _⟩
    case round =>
      obtain ⟨k, r, hk, rfl, rfl, hr0, hr1, hall, hbel⟩ := hrel
      have HA := Lib.hid hall; clear hall
      by_cases hlt : k < x.length
      · obtain ⟨ba, offa, rfl, c0, c1, c2, hr, A0, A1, A2⟩ := Rep.get3 (ha.below hbel) hlt rfl
        go_wp2_with fail
        refine (szRoute_c hr hr0 (by omega)).mono ?_
        rintro e w' ⟨r', rfl, h1, h2, h3, hb3⟩
        have HB := Lib.hid h3; clear h3 hr
        have hbel2 := hbel.trans (hb3.mono hbel.size)
        by_cases hs : r' < 0
        · go_wp2
          go_ret
          exact sz_minus hl0 hbel2
        · have h4 : 0 ≤ r' := by omega
          go_wp2
          go_roundw
          case rel => exact ⟨k + 1, _, by omega, by go_num, rfl, h4, by omega, all_take_succ HA.out hlt (HB.out h4), hbel2⟩
          case measure => simp [intOf]; omega
      · go_wp2
        go_ret
        exact ⟨_, rfl, by omega, by omega, fun _ => ⟨by omega, all_take_full HA.out hlt⟩, hbel⟩
set_option maxRecDepth 100000 in
set_option maxHeartbeats 400000 in
theorem szRequesterS_c {w : World} {va : Value} {x : List LRequester} {left : Int} (ha : (Rep.slice 123 RRequester).raw w [va] x) (hl0 : 0 ≤ left) (hl1 : left ≤ 1048576) :
    Calls Tryz.prog 166 #[va, .int .i64 left] w (SzPost ((Rep.slice 123 RRequester).bdd 1048576 x) left w) := by
  obtain ⟨aa, capa, hva, la⟩ := Rep.len_raw ha; obtain rfl : va = _ := by simpa using hva
  clear hva
  go_enter Tryz.func166, Tryz.ntmps166
  by_cases hb : left < (x.length : Int)
  · have hb1 : left - (x.length : Int) < 0 := by omega
    have hb2 : -9223372036854775808 ≤ left - (x.length : Int) := by omega
    go_wp2
    go_ret
    exact sz_minus hl0 (Below.refl _ _)
  · have hb1 : 0 ≤ left - (x.length : Int) := by omega
    have hb2 : ¬ left - (x.length : Int) < 0 := by omega
    go_wp2
    go_ret
    exact ⟨_, rfl, by omega, by omega, fun _ => ⟨by omega, fun _ _ => by first | trivial | exact ⟨trivial, trivial⟩ | exact ⟨trivial, trivial, trivial⟩ | exact ⟨trivial, trivial, trivial, trivial⟩⟩, Below.refl _ _⟩
set_option maxRecDepth 100000 in
set_option maxHeartbeats 400000 in
theorem szPendingInterest_c {w : World} {ca : List Value} {x : LPendingInterest} {left : Int} (ha : RPendingInterest.raw w ca x) (hl0 : 0 ≤ left) (hl1 : left ≤ 1048576) :
    Calls Tryz.prog 94 #[.agg ca.toArray, .int .i64 left] w (SzPost (RPendingInterest.bdd 1048576 x) left w) := by
  obtain ⟨av0, av1, rfl, a_0, a_1, a_2, a_3⟩ := RPendingInterest_raw ha
  obtain ⟨x0, x1, x2⟩ := x
  clear ha a_1 a_3
  go_enter Tryz.func94, Tryz.ntmps94
  go_wp2_with fail
  refine (szName_c (a_0.alloc _) hl0 hl1).mono ?_
  rintro e w1 ⟨r1, rfl, p1, q1, s1, hb1⟩
  have S1 := Lib.hid s1; clear s1
  have D1 := hb1
  have E1 : Below w.heap.size w w1 := ((Below.refl _ _).alloc (Nat.le_refl _) _).trans (hb1.mono (by simp))
  obtain ⟨hc1, hf1⟩ := bcell D1; clear hb1
  by_cases m1 : r1 < 0
  · go_wp2
    go_ret
    exact sz_minus hl0 E1
  have n1 : 0 ≤ r1 := by omega
  go_wp2_with fail
  refine (szRequesterS_c (a_2.below E1) n1 (by omega)).mono ?_
  rintro e w2 ⟨r2, rfl, p2, q2, s2, hb2⟩
  have S2 := Lib.hid s2; clear s2
  have D2 := D1.trans (hb2.mono D1.size)
  have E2 := E1.trans (hb2.mono E1.size)
  clear hc1 hf1 hb2
  obtain ⟨hc2, hf2⟩ := bcell D2
  by_cases m2 : r2 < 0
  · go_wp2
    go_ret
    exact sz_minus hl0 E2
  have n2 : 0 ≤ r2 := by omega
  go_wp2
  go_ret
  exact ⟨_, rfl, by omega, by omega, fun _ => ⟨S1.out n1, S2.out n2, trivial⟩, E2⟩
set_option maxRecDepth 100000 in
set_option maxHeartbeats 400000 in
theorem szPendingInterestS_c {w : World} {va : Value} {x : List LPendingInterest} {left : Int} (ha : (Rep.slice 175 RPendingInterest).raw w [va] x) (hl0 : 0 ≤ left) (hl1 : left ≤ 1048576) :
    Calls Tryz.prog 26 #[va, .int .i64 left] w (SzPost ((Rep.slice 175 RPendingInterest).bdd 1048576 x) left w) := by
  obtain ⟨aa, capa, hva, la⟩ := Rep.len_raw ha; obtain rfl : va = _ := by simpa using hva
  clear hva
  go_enter Tryz.func26, Tryz.ntmps26
  by_cases hb : left < (x.length : Int)
  · have hb1 : left - (x.length : Int) < 0 := by omega
    have hb2 : -9223372036854775808 ≤ left - (x.length : Int) := by omega
    go_wp2
    go_ret
    exact sz_minus hl0 (Below.refl _ _)
  · have hb1 : 0 ≤ left - (x.length : Int) := by omega
    have hb2 : ¬ left - (x.length : Int) < 0 := by omega
    go_wp2
    go_loopw [1, 5] (fun l i wr => ∃ (k : Nat) (r : Int), k ≤ x.length ∧ i = .int .i64 k ∧ l = .int .i64 r ∧ 0 ≤ r ∧ r ≤ left ∧ (∀ y ∈ x.take k, RPendingInterest.bdd 1048576 y) ∧ Below w.heap.size w wr) (fun _ i _ => x.length - (intOf i).toNat)
    case atStart => exact ⟨0, _, Nat.zero_le _, rfl, rfl, hb1, by omega, by simp, Below.refl _ _⟩
    case round =>
      obtain ⟨k, r, hk, rfl, rfl, hr0, hr1, hall, hbel⟩ := hrel
      have HA := Lib.hid hall; clear hall
      by_cases hlt : k < x.length
      · obtain ⟨ba, offa, rfl, c0, c1, c2, hr, A0, A1, A2⟩ := Rep.get3 (ha.below hbel) hlt rfl
        go_wp2_with fail
        refine (szPendingInterest_c hr hr0 (by omega)).mono ?_
        rintro e w' ⟨r', rfl, h1, h2, h3, hb3⟩
        have HB := Lib.hid h3; clear h3 hr
        have hbel2 := hbel.trans (hb3.mono hbel.size)
        by_cases hs : r' < 0
        · go_wp2
          go_ret
          exact sz_minus hl0 hbel2
        · have h4 : 0 ≤ r' := by omega
          go_wp2
          go_roundw
          case rel => exact ⟨k + 1, _, by omega, by go_num, rfl, h4, by omega, all_take_succ HA.out hlt (HB.out h4), hbel2⟩
          case measure => simp [intOf]; omega
      · go_wp2
        go_ret
        exact ⟨_, rfl, by omega, by omega, fun _ => ⟨by omega, all_take_full HA.out hlt⟩, hbel⟩
set_option maxRecDepth 100000 in
set_option maxHeartbeats 400000 in
theorem szSeenNonce_c {w : World} {ca : List Value} {x : LSeenNonce} {left : Int} (ha : RSeenNonce.raw w ca x) (hl0 : 0 ≤ left) (hl1 : left ≤ 1048576) :
    Calls Tryz.prog 95 #[.agg ca.toArray, .int .i64 left] w (SzPost (RSeenNonce.bdd 1048576 x) left w) := by
  obtain ⟨av0, rfl, a_0, a_1, a_2⟩ := RSeenNonce_raw ha
  obtain ⟨x0, x1⟩ := x
  clear ha a_1 a_2
  go_enter Tryz.func95, Tryz.ntmps95
  go_wp2_with fail
  refine (szName_c (a_0.alloc _) hl0 hl1).mono ?_
  rintro e w1 ⟨r1, rfl, p1, q1, s1, hb1⟩
  have S1 := Lib.hid s1; clear s1
  have D1 := hb1
  have E1 : Below w.heap.size w w1 := ((Below.refl _ _).alloc (Nat.le_refl _) _).trans (hb1.mono (by simp))
  obtain ⟨hc1, hf1⟩ := bcell D1; clear hb1
  by_cases m1 : r1 < 0
  · go_wp2
    go_ret
    exact sz_minus hl0 E1
  have n1 : 0 ≤ r1 := by omega
  go_wp2
  go_ret
  exact ⟨_, rfl, by omega, by omega, fun _ => ⟨S1.out n1, trivial⟩, E1⟩
set_option maxRecDepth 100000 in
set_option maxHeartbeats 400000 in
theorem szSeenNonceS_c {w : World} {va : Value} {x : List LSeenNonce} {left : Int} (ha : (Rep.slice 178 RSeenNonce).raw w [va] x) (hl0 : 0 ≤ left) (hl1 : left ≤ 1048576) :
    Calls Tryz.prog 27 #[va, .int .i64 left] w (SzPost ((Rep.slice 178 RSeenNonce).bdd 1048576 x) left w) := by
  obtain ⟨aa, capa, hva, la⟩ := Rep.len_raw ha; obtain rfl : va = _ := by simpa using hva
  clear hva
  go_enter Tryz.func27, Tryz.ntmps27
  by_cases hb : left < (x.length : Int)
  · have hb1 : left - (x.length : Int) < 0 := by omega
    have hb2 : -9223372036854775808 ≤ left - (x.length : Int) := by omega
    go_wp2
    go_ret
    exact sz_minus hl0 (Below.refl _ _)
  · have hb1 : 0 ≤ left - (x.length : Int) := by omega
    have hb2 : ¬ left - (x.length : Int) < 0 := by omega
    go_wp2
    go_loopw [1, 5] (fun l i wr => ∃ (k : Nat) (r : Int), k ≤ x.length ∧ i = .int .i64 k ∧ l = .int .i64 r ∧ 0 ≤ r ∧ r ≤ left ∧ (∀ y ∈ x.take k, RSeenNonce.bdd 1048576 y) ∧ Below w.heap.size w wr) (fun _ i _ => x.length - (intOf i).toNat)
    case atStart => exact ⟨0, _, Nat.zero_le _, rfl, rfl, hb1, by omega, by simp, Below.refl _ _⟩
    case round =>
      obtain ⟨k, r, hk, rfl, rfl, hr0, hr1, hall, hbel⟩ := hrel
      have HA := Lib.hid hall; clear hall
      by_cases hlt : k < x.length
      · obtain ⟨ba, offa, rfl, c0, c1, hr, A0, A1⟩ := Rep.get2 (ha.below hbel) hlt rfl
        go_wp2_with fail
        refine (szSeenNonce_c hr hr0 (by omega)).mono ?_
        rintro e w' ⟨r', rfl, h1, h2, h3, hb3⟩
        have HB := Lib.hid h3; clear h3 hr
        have hbel2 := hbel.trans (hb3.mono hbel.size)
        by_cases hs : r' < 0
        · go_wp2
          go_ret
          exact sz_minus hl0 hbel2
        · have h4 : 0 ≤ r' := by omega
          go_wp2
          go_roundw
          case rel => exact ⟨k + 1, _, by omega, by go_num, rfl, h4, by omega, all_take_succ HA.out hlt (HB.out h4), hbel2⟩
          case measure => simp [intOf]; omega
      · go_wp2
        go_ret
        exact ⟨_, rfl, by omega, by omega, fun _ => ⟨by omega, all_take_full HA.out hlt⟩, hbel⟩
set_option maxRecDepth 100000 in
set_option maxHeartbeats 400000 in
theorem szData_c {w : World} {ca : List Value} {x : LData} {left : Int} (ha : RData.raw w ca x) (hl0 : 0 ≤ left) (hl1 : left ≤ 1048576) :
    Calls Tryz.prog 7 #[.agg ca.toArray, .int .i64 left] w (SzPost (RData.bdd 1048576 x) left w) := by
  obtain ⟨av0, av1, av2, rfl, a_0, a_1, a_2, a_3, a_4, a_5, a_6⟩ := RData_raw ha
  obtain ⟨x0, x1, x2, x3, x4⟩ := x
  clear ha a_1 a_4 a_5 a_6
  go_enter Tryz.func7, Tryz.ntmps7
  go_wp2_with fail
  refine (szName_c (a_0.alloc _) hl0 hl1).mono ?_
  rintro e w1 ⟨r1, rfl, p1, q1, s1, hb1⟩
  have S1 := Lib.hid s1; clear s1
  have D1 := hb1
  have E1 : Below w.heap.size w w1 := ((Below.refl _ _).alloc (Nat.le_refl _) _).trans (hb1.mono (by simp))
  obtain ⟨hc1, hf1⟩ := bcell D1; clear hb1
  by_cases m1 : r1 < 0
  · go_wp2
    go_ret
    exact sz_minus hl0 E1
  have n1 : 0 ≤ r1 := by omega
  go_wp2_with fail
  refine (szByteS_c (a_2.below E1) n1 (by omega)).mono ?_
  rintro e w2 ⟨r2, rfl, p2, q2, s2, hb2⟩
  have S2 := Lib.hid s2; clear s2
  have D2 := D1.trans (hb2.mono D1.size)
  have E2 := E1.trans (hb2.mono E1.size)
  clear hc1 hf1 hb2
  obtain ⟨hc2, hf2⟩ := bcell D2
  by_cases m2 : r2 < 0
  · go_wp2
    go_ret
    exact sz_minus hl0 E2
  have n2 : 0 ≤ r2 := by omega
  go_wp2_with fail
  refine (szName_c (a_3.below E2) n2 (by omega)).mono ?_
  rintro e w3 ⟨r3, rfl, p3, q3, s3, hb3⟩
  have S3 := Lib.hid s3; clear s3
  have D3 := D2.trans (hb3.mono D2.size)
  have E3 := E2.trans (hb3.mono E2.size)
  clear hc2 hf2 hb3
  obtain ⟨hc3, hf3⟩ := bcell D3
  by_cases m3 : r3 < 0
  · go_wp2
    go_ret
    exact sz_minus hl0 E3
  have n3 : 0 ≤ r3 := by omega
  go_wp2
  go_ret
  exact ⟨_, rfl, by omega, by omega, fun _ => ⟨S1.out n1, S2.out n2, S3.out n3, trivial, trivial⟩, E3⟩
set_option maxRecDepth 100000 in
set_option maxHeartbeats 400000 in
theorem szDataS_c {w : World} {va : Value} {x : List LData} {left : Int} (ha : (Rep.slice 66 RData).raw w [va] x) (hl0 : 0 ≤ left) (hl1 : left ≤ 1048576) :
    Calls Tryz.prog 24 #[va, .int .i64 left] w (SzPost ((Rep.slice 66 RData).bdd 1048576 x) left w) := by
  obtain ⟨aa, capa, hva, la⟩ := Rep.len_raw ha; obtain rfl : va = _ := by simpa using hva
  clear hva
  go_enter Tryz.func24, Tryz.ntmps24
  by_cases hb : left < (x.length : Int)
  · have hb1 : left - (x.length : Int) < 0 := by omega
    have hb2 : -9223372036854775808 ≤ left - (x.length : Int) := by omega
    go_wp2
    go_ret
    exact sz_minus hl0 (Below.refl _ _)
  · have hb1 : 0 ≤ left - (x.length : Int) := by omega
    have hb2 : ¬ left - (x.length : Int) < 0 := by omega
    go_wp2
    go_loopw [1, 5] (fun l i wr => ∃ (k : Nat) (r : Int), k ≤ x.length ∧ i = .int .i64 k ∧ l = .int .i64 r ∧ 0 ≤ r ∧ r ≤ left ∧ (∀ y ∈ x.take k, RData.bdd 1048576 y) ∧ Below w.heap.size w wr) (fun _ i _ => x.length - (intOf i).toNat)
    case atStart => exact ⟨0, _, Nat.zero_le _, rfl, rfl, hb1, by omega, by simp, Below.refl _ _⟩
    case round =>
      obtain ⟨k, r, hk, rfl, rfl, hr0, hr1, hall, hbel⟩ := hrel
      have HA := Lib.hid hall; clear hall
      by_cases hlt : k < x.length
      · obtain ⟨ba, offa, rfl, c0, c1, c2, c3, c4, hr, A0, A1, A2, A3, A4⟩ := Rep.get5 (ha.below hbel) hlt rfl
        go_wp2_with fail
        refine (szData_c hr hr0 (by omega)).mono ?_
        rintro e w' ⟨r', rfl, h1, h2, h3, hb3⟩
        have HB := Lib.hid h3; clear h3 hr
        have hbel2 := hbel.trans (hb3.mono hbel.size)
        by_cases hs : r' < 0
        · go_wp2
          go_ret
          exact sz_minus hl0 hbel2
        · have h4 : 0 ≤ r' := by omega
          go_wp2
          go_roundw
          case rel => exact ⟨k + 1, _, by omega, by go_num, rfl, h4, by omega, all_take_succ HA.out hlt (HB.out h4), hbel2⟩
          case measure => simp [intOf]; omega
      · go_wp2
        go_ret
        exact ⟨_, rfl, by omega, by omega, fun _ => ⟨by omega, all_take_full HA.out hlt⟩, hbel⟩
set_option maxRecDepth 100000 in
set_option maxHeartbeats 400000 in
theorem szCacheEntry_c {w : World} {ca : List Value} {x : LCacheEntry} {left : Int} (ha : RCacheEntry.raw w ca x) (hl0 : 0 ≤ left) (hl1 : left ≤ 1048576) :
    Calls Tryz.prog 165 #[.agg ca.toArray, .int .i64 left] w (SzPost (RCacheEntry.bdd 1048576 x) left w) := by
  obtain ⟨av0, av1, av2, rfl, a_0, a_1, a_2, a_3, a_4, a_5, a_6, a_7, a_8⟩ := RCacheEntry_raw ha
  obtain ⟨x0, x1⟩ := x
  clear ha a_1 a_2 a_3 a_4 a_5 a_6 a_7 a_8
  go_enter Tryz.func165, Tryz.ntmps165
  go_wp2_with fail
  refine (szData_c (a_0.alloc _) hl0 hl1).mono ?_
  rintro e w1 ⟨r1, rfl, p1, q1, s1, hb1⟩
  have S1 := Lib.hid s1; clear s1
  have D1 := hb1
  have E1 : Below w.heap.size w w1 := ((Below.refl _ _).alloc (Nat.le_refl _) _).trans (hb1.mono (by simp))
  obtain ⟨hc1, hf1⟩ := bcell D1; clear hb1
  by_cases m1 : r1 < 0
  · go_wp2
    go_ret
    exact sz_minus hl0 E1
  have n1 : 0 ≤ r1 := by omega
  go_wp2
  go_ret
  exact ⟨_, rfl, by omega, by omega, fun _ => ⟨S1.out n1, trivial⟩, E1⟩
set_option maxRecDepth 100000 in
set_option maxHeartbeats 400000 in
theorem szCacheEntryS_c {w : World} {va : Value} {x : List LCacheEntry} {left : Int} (ha : (Rep.slice 212 RCacheEntry).raw w [va] x) (hl0 : 0 ≤ left) (hl1 : left ≤ 1048576) :
    Calls Tryz.prog 93 #[va, .int .i64 left] w (SzPost ((Rep.slice 212 RCacheEntry).bdd 1048576 x) left w) := by
  obtain ⟨aa, capa, hva, la⟩ := Rep.len_raw ha; obtain rfl : va = _ := by simpa using hva
  clear hva
  go_enter Tryz.func93, Tryz.ntmps93
  by_cases hb : left < (x.length : Int)
  · have hb1 : left - (x.length : Int) < 0 := by omega
    have hb2 : -9223372036854775808 ≤ left - (x.length : Int) := by omega
    go_wp2
    go_ret
    exact sz_minus hl0 (Below.refl _ _)
  · have hb1 : 0 ≤ left - (x.length : Int) := by omega
    have hb2 : ¬ left - (x.length : Int) < 0 := by omega
    go_wp2
    go_loopw [1, 5] (fun l i wr => ∃ (k : Nat) (r : Int), k ≤ x.length ∧ i = .int .i64 k ∧ l = .int .i64 r ∧ 0 ≤ r ∧ r ≤ left ∧ (∀ y ∈ x.take k, RCacheEntry.bdd 1048576 y) ∧ Below w.heap.size w wr) (fun _ i _ => x.length - (intOf i).toNat)
    case atStart => exact ⟨0, _, Nat.zero_le _, rfl, rfl, hb1, by omega, by simp, Below.refl _ _⟩
    case round =>
      obtain ⟨k, r, hk, rfl, rfl, hr0, hr1, hall, hbel⟩ := hrel
      have HA := Lib.hid hall; clear hall
      by_cases hlt : k < x.length
      · obtain ⟨ba, offa, rfl, c0, c1, c2, c3, c4, c5, hr, A0, A1, A2, A3, A4, A5⟩ := Rep.get6 (ha.below hbel) hlt rfl
        go_wp2_with fail
        refine (szCacheEntry_c hr hr0 (by omega)).mono ?_
        rintro e w' ⟨r', rfl, h1, h2, h3, hb3⟩
        have HB := Lib.hid h3; clear h3 hr
        have hbel2 := hbel.trans (hb3.mono hbel.size)
        by_cases hs : r' < 0
        · go_wp2
          go_ret
          exact sz_minus hl0 hbel2
        · have h4 : 0 ≤ r' := by omega
          go_wp2
          go_roundw
          case rel => exact ⟨k + 1, _, by omega, by go_num, rfl, h4, by omega, all_take_succ HA.out hlt (HB.out h4), hbel2⟩
          case measure => simp [intOf]; omega
      · go_wp2
        go_ret
        exact ⟨_, rfl, by omega, by omega, fun _ => ⟨by omega, all_take_full HA.out hlt⟩, hbel⟩
set_option maxRecDepth 100000 in
set_option maxHeartbeats 400000 in
theorem szContentStore_c {w : World} {ca : List Value} {x : LContentStore} {left : Int} (ha : RContentStore.raw w ca x) (hl0 : 0 ≤ left) (hl1 : left ≤ 1048576) :
    Calls Tryz.prog 25 #[.agg ca.toArray, .int .i64 left] w (SzPost (RContentStore.bdd 1048576 x) left w) := by
  obtain ⟨av0, rfl, a_0, a_1⟩ := RContentStore_raw ha
  obtain ⟨x0, x1⟩ := x
  clear ha a_0
  go_enter Tryz.func25, Tryz.ntmps25
  go_wp2_with fail
  refine (szCacheEntryS_c (a_1.alloc _) hl0 hl1).mono ?_
  rintro e w1 ⟨r1, rfl, p1, q1, s1, hb1⟩
  have S1 := Lib.hid s1; clear s1
  have D1 := hb1
  have E1 : Below w.heap.size w w1 := ((Below.refl _ _).alloc (Nat.le_refl _) _).trans (hb1.mono (by simp))
  obtain ⟨hc1, hf1⟩ := bcell D1; clear hb1
  by_cases m1 : r1 < 0
  · go_wp2
    go_ret
    exact sz_minus hl0 E1
  have n1 : 0 ≤ r1 := by omega
  go_wp2
  go_ret
  exact ⟨_, rfl, by omega, by omega, fun _ => ⟨trivial, S1.out n1⟩, E1⟩
set_option maxRecDepth 100000 in
set_option maxHeartbeats 400000 in
theorem szNode_c {w : World} {ca : List Value} {x : LNode} {left : Int} (ha : RNode.raw w ca x) (hl0 : 0 ≤ left) (hl1 : left ≤ 1048576) :
    Calls Tryz.prog 5 #[.agg ca.toArray, .int .i64 left] w (SzPost (RNode.bdd 1048576 x) left w) := by
  obtain ⟨av0, av1, av2, av3, av4, av5, rfl, a_0, a_1, a_2, a_3, a_4, a_5, a_6, a_7, a_8⟩ := RNode_raw ha
  obtain ⟨x0, x1, x2, x3, x4, x5, x6⟩ := x
  clear ha a_2 a_3 a_8
  go_enter Tryz.func5, Tryz.ntmps5
  go_wp2_with fail
  refine (szDataS_c (a_0.alloc _) hl0 hl1).mono ?_
  rintro e w1 ⟨r1, rfl, p1, q1, s1, hb1⟩
  have S1 := Lib.hid s1; clear s1
  have D1 := hb1
  have E1 : Below w.heap.size w w1 := ((Below.refl _ _).alloc (Nat.le_refl _) _).trans (hb1.mono (by simp))
  obtain ⟨hc1, hf1⟩ := bcell D1; clear hb1
  by_cases m1 : r1 < 0
  · go_wp2
    go_ret
    exact sz_minus hl0 E1
  have n1 : 0 ≤ r1 := by omega
  go_wp2_with fail
  refine (szContentStore_c (a_1.below E1) n1 (by omega)).mono ?_
  rintro e w2 ⟨r2, rfl, p2, q2, s2, hb2⟩
  have S2 := Lib.hid s2; clear s2
  have D2 := D1.trans (hb2.mono D1.size)
  have E2 := E1.trans (hb2.mono E1.size)
  clear hc1 hf1 hb2
  obtain ⟨hc2, hf2⟩ := bcell D2
  by_cases m2 : r2 < 0
  · go_wp2
    go_ret
    exact sz_minus hl0 E2
  have n2 : 0 ≤ r2 := by omega
  go_wp2_with fail
  refine (szPendingInterestS_c (a_4.below E2) n2 (by omega)).mono ?_
  rintro e w3 ⟨r3, rfl, p3, q3, s3, hb3⟩
  have S3 := Lib.hid s3; clear s3
  have D3 := D2.trans (hb3.mono D2.size)
  have E3 := E2.trans (hb3.mono E2.size)
  clear hc2 hf2 hb3
  obtain ⟨hc3, hf3⟩ := bcell D3
  by_cases m3 : r3 < 0
  · go_wp2
    go_ret
    exact sz_minus hl0 E3
  have n3 : 0 ≤ r3 := by omega
  go_wp2_with fail
  refine (szSeenNonceS_c (a_5.below E3) n3 (by omega)).mono ?_
  rintro e w4 ⟨r4, rfl, p4, q4, s4, hb4⟩
  have S4 := Lib.hid s4; clear s4
  have D4 := D3.trans (hb4.mono D3.size)
  have E4 := E3.trans (hb4.mono E3.size)
  clear hc3 hf3 hb4
  obtain ⟨hc4, hf4⟩ := bcell D4
  by_cases m4 : r4 < 0
  · go_wp2
    go_ret
    exact sz_minus hl0 E4
  have n4 : 0 ≤ r4 := by omega
  go_wp2_with fail
  refine (szRouteS_c (a_6.below E4) n4 (by omega)).mono ?_
  rintro e w5 ⟨r5, rfl, p5, q5, s5, hb5⟩
  have S5 := Lib.hid s5; clear s5
  have D5 := D4.trans (hb5.mono D4.size)
  have E5 := E4.trans (hb5.mono E4.size)
  clear hc4 hf4 hb5
  obtain ⟨hc5, hf5⟩ := bcell D5
  by_cases m5 : r5 < 0
  · go_wp2
    go_ret
    exact sz_minus hl0 E5
  have n5 : 0 ≤ r5 := by omega
  go_wp2_with fail
  refine (szMeasurementS_c (a_7.below E5) n5 (by omega)).mono ?_
  rintro e w6 ⟨r6, rfl, p6, q6, s6, hb6⟩
  have S6 := Lib.hid s6; clear s6
  have D6 := D5.trans (hb6.mono D5.size)
  have E6 := E5.trans (hb6.mono E5.size)
  clear hc5 hf5 hb6
  obtain ⟨hc6, hf6⟩ := bcell D6
  by_cases m6 : r6 < 0
  · go_wp2
    go_ret
    exact sz_minus hl0 E6
  have n6 : 0 ≤ r6 := by omega
  go_wp2
  go_ret
  exact ⟨_, rfl, by omega, by omega, fun _ => ⟨S1.out n1, S2.out n2, S3.out n3, S4.out n4, S5.out n5, S6.out n6, trivial⟩, E6⟩
set_option maxRecDepth 100000 in
set_option maxHeartbeats 400000 in
theorem szKey_c {w : World} {ca : List Value} {x : LKey} {left : Int} (ha : RKey.raw w ca x) (hl0 : 0 ≤ left) (hl1 : left ≤ 1048576) :
    Calls Tryz.prog 98 #[.agg ca.toArray, .int .i64 left] w (SzPost (RKey.bdd 1048576 x) left w) := by
  obtain ⟨av0, rfl, a_0, a_1, a_2⟩ := RKey_raw ha
  obtain ⟨x0, x1⟩ := x
  clear ha a_1 a_2
  go_enter Tryz.func98, Tryz.ntmps98
  go_wp2_with fail
  refine (szName_c (a_0.alloc _) hl0 hl1).mono ?_
  rintro e w1 ⟨r1, rfl, p1, q1, s1, hb1⟩
  have S1 := Lib.hid s1; clear s1
  have D1 := hb1
  have E1 : Below w.heap.size w w1 := ((Below.refl _ _).alloc (Nat.le_refl _) _).trans (hb1.mono (by simp))
  obtain ⟨hc1, hf1⟩ := bcell D1; clear hb1
  by_cases m1 : r1 < 0
  · go_wp2
    go_ret
    exact sz_minus hl0 E1
  have n1 : 0 ≤ r1 := by omega
  go_wp2
  go_ret
  exact ⟨_, rfl, by omega, by omega, fun _ => ⟨S1.out n1, trivial⟩, E1⟩
set_option maxRecDepth 100000 in
set_option maxHeartbeats 400000 in
theorem szKeyS_c {w : World} {va : Value} {x : List LKey} {left : Int} (ha : (Rep.slice 187 RKey).raw w [va] x) (hl0 : 0 ≤ left) (hl1 : left ≤ 1048576) :
    Calls Tryz.prog 30 #[va, .int .i64 left] w (SzPost ((Rep.slice 187 RKey).bdd 1048576 x) left w) := by
  obtain ⟨aa, capa, hva, la⟩ := Rep.len_raw ha; obtain rfl : va = _ := by simpa using hva
  clear hva
  go_enter Tryz.func30, Tryz.ntmps30
  by_cases hb : left < (x.length : Int)
  · have hb1 : left - (x.length : Int) < 0 := by omega
    have hb2 : -9223372036854775808 ≤ left - (x.length : Int) := by omega
    go_wp2
    go_ret
    exact sz_minus hl0 (Below.refl _ _)
  · have hb1 : 0 ≤ left - (x.length : Int) := by omega
    have hb2 : ¬ left - (x.length : Int) < 0 := by omega
    go_wp2
    go_loopw [1, 5] (fun l i wr => ∃ (k : Nat) (r : Int), k ≤ x.length ∧ i = .int .i64 k ∧ l = .int .i64 r ∧ 0 ≤ r ∧ r ≤ left ∧ (∀ y ∈ x.take k, RKey.bdd 1048576 y) ∧ Below w.heap.size w wr) (fun _ i _ => x.length - (intOf i).toNat)
    case atStart => exact ⟨0, _, Nat.zero_le _, rfl, rfl, hb1, by omega, by simp, Below.refl _ _⟩
    case round =>
      obtain ⟨k, r, hk, rfl, rfl, hr0, hr1, hall, hbel⟩ := hrel
      have HA := Lib.hid hall; clear hall
      by_cases hlt : k < x.length
      · obtain ⟨ba, offa, rfl, c0, c1, hr, A0, A1⟩ := Rep.get2 (ha.below hbel) hlt rfl
        go_wp2_with fail
        refine (szKey_c hr hr0 (by omega)).mono ?_
        rintro e w' ⟨r', rfl, h1, h2, h3, hb3⟩
        have HB := Lib.hid h3; clear h3 hr
        have hbel2 := hbel.trans (hb3.mono hbel.size)
        by_cases hs : r' < 0
        · go_wp2
          go_ret
          exact sz_minus hl0 hbel2
        · have h4 : 0 ≤ r' := by omega
          go_wp2
          go_roundw
          case rel => exact ⟨k + 1, _, by omega, by go_num, rfl, h4, by omega, all_take_succ HA.out hlt (HB.out h4), hbel2⟩
          case measure => simp [intOf]; omega
      · go_wp2
        go_ret
        exact ⟨_, rfl, by omega, by omega, fun _ => ⟨by omega, all_take_full HA.out hlt⟩, hbel⟩
set_option maxRecDepth 100000 in
set_option maxHeartbeats 400000 in
theorem szPattern_c {w : World} {ca : List Value} {x : LPattern} {left : Int} (ha : RPattern.raw w ca x) (hl0 : 0 ≤ left) (hl1 : left ≤ 1048576) :
    Calls Tryz.prog 167 #[.agg ca.toArray, .int .i64 left] w (SzPost (RPattern.bdd 1048576 x) left w) := by
  obtain ⟨av0, rfl, a_0⟩ := RPattern_raw ha
  obtain ⟨x0, rfl⟩ : ∃ x0, x0 = x := ⟨_, rfl⟩
  clear ha
  go_enter Tryz.func167, Tryz.ntmps167
  go_wp2_with fail
  refine (szStringS_c (a_0.alloc _) hl0 hl1).mono ?_
  rintro e w1 ⟨r1, rfl, p1, q1, s1, hb1⟩
  have S1 := Lib.hid s1; clear s1
  have D1 := hb1
  have E1 : Below w.heap.size w w1 := ((Below.refl _ _).alloc (Nat.le_refl _) _).trans (hb1.mono (by simp))
  obtain ⟨hc1, hf1⟩ := bcell D1; clear hb1
  by_cases m1 : r1 < 0
  · go_wp2
    go_ret
    exact sz_minus hl0 E1
  have n1 : 0 ≤ r1 := by omega
  go_wp2
  go_ret
  exact ⟨_, rfl, by omega, by omega, fun _ => S1.out n1, E1⟩
set_option maxRecDepth 100000 in
set_option maxHeartbeats 400000 in
theorem szRule_c {w : World} {ca : List Value} {x : LRule} {left : Int} (ha : RRule.raw w ca x) (hl0 : 0 ≤ left) (hl1 : left ≤ 1048576) :
    Calls Tryz.prog 99 #[.agg ca.toArray, .int .i64 left] w (SzPost (RRule.bdd 1048576 x) left w) := by
  obtain ⟨av0, av1, rfl, a_0, a_1, a_2, a_3⟩ := RRule_raw ha
  obtain ⟨x0, x1⟩ := x
  clear ha a_1 a_3
  go_enter Tryz.func99, Tryz.ntmps99
  go_wp2_with fail
  refine (szPattern_c (a_0.alloc _) hl0 hl1).mono ?_
  rintro e w1 ⟨r1, rfl, p1, q1, s1, hb1⟩
  have S1 := Lib.hid s1; clear s1
  have D1 := hb1
  have E1 : Below w.heap.size w w1 := ((Below.refl _ _).alloc (Nat.le_refl _) _).trans (hb1.mono (by simp))
  obtain ⟨hc1, hf1⟩ := bcell D1; clear hb1
  by_cases m1 : r1 < 0
  · go_wp2
    go_ret
    exact sz_minus hl0 E1
  have n1 : 0 ≤ r1 := by omega
  go_wp2_with fail
  refine (szPattern_c (a_2.below E1) n1 (by omega)).mono ?_
  rintro e w2 ⟨r2, rfl, p2, q2, s2, hb2⟩
  have S2 := Lib.hid s2; clear s2
  have D2 := D1.trans (hb2.mono D1.size)
  have E2 := E1.trans (hb2.mono E1.size)
  clear hc1 hf1 hb2
  obtain ⟨hc2, hf2⟩ := bcell D2
  by_cases m2 : r2 < 0
  · go_wp2
    go_ret
    exact sz_minus hl0 E2
  have n2 : 0 ≤ r2 := by omega
  go_wp2
  go_ret
  exact ⟨_, rfl, by omega, by omega, fun _ => ⟨S1.out n1, S2.out n2⟩, E2⟩
set_option maxRecDepth 100000 in
set_option maxHeartbeats 400000 in
theorem szRuleS_c {w : World} {va : Value} {x : List LRule} {left : Int} (ha : (Rep.slice 191 RRule).raw w [va] x) (hl0 : 0 ≤ left) (hl1 : left ≤ 1048576) :
    Calls Tryz.prog 31 #[va, .int .i64 left] w (SzPost ((Rep.slice 191 RRule).bdd 1048576 x) left w) := by
  obtain ⟨aa, capa, hva, la⟩ := Rep.len_raw ha; obtain rfl : va = _ := by simpa using hva
  clear hva
  go_enter Tryz.func31, Tryz.ntmps31
  by_cases hb : left < (x.length : Int)
  · have hb1 : left - (x.length : Int) < 0 := by omega
    have hb2 : -9223372036854775808 ≤ left - (x.length : Int) := by omega
    go_wp2
    go_ret
    exact sz_minus hl0 (Below.refl _ _)
  · have hb1 : 0 ≤ left - (x.length : Int) := by omega
    have hb2 : ¬ left - (x.length : Int) < 0 := by omega
    go_wp2
    go_loopw [1, 5] (fun l i wr => ∃ (k : Nat) (r : Int), k ≤ x.length ∧ i = .int .i64 k ∧ l = .int .i64 r ∧ 0 ≤ r ∧ r ≤ left ∧ (∀ y ∈ x.take k, RRule.bdd 1048576 y) ∧ Below w.heap.size w wr) (fun _ i _ => x.length - (intOf i).toNat)
    case atStart => exact ⟨0, _, Nat.zero_le _, rfl, rfl, hb1, by omega, by simp, Below.refl _ _⟩
    case round =>
      obtain ⟨k, r, hk, rfl, rfl, hr0, hr1, hall, hbel⟩ := hrel
      have HA := Lib.hid hall; clear hall
      by_cases hlt : k < x.length
      · obtain ⟨ba, offa, rfl, c0, c1, hr, A0, A1⟩ := Rep.get2 (ha.below hbel) hlt rfl
        go_wp2_with fail
        refine (szRule_c hr hr0 (by omega)).mono ?_
        rintro e w' ⟨r', rfl, h1, h2, h3, hb3⟩
        have HB := Lib.hid h3; clear h3 hr
        have hbel2 := hbel.trans (hb3.mono hbel.size)
        by_cases hs : r' < 0
        · go_wp2
          go_ret
          exact sz_minus hl0 hbel2
        · have h4 : 0 ≤ r' := by omega
          go_wp2
          go_roundw
          case rel => exact ⟨k + 1, _, by omega, by go_num, rfl, h4, by omega, all_take_succ HA.out hlt (HB.out h4), hbel2⟩
          case measure => simp [intOf]; omega
      · go_wp2
        go_ret
        exact ⟨_, rfl, by omega, by omega, fun _ => ⟨by omega, all_take_full HA.out hlt⟩, hbel⟩
set_option maxRecDepth 100000 in
set_option maxHeartbeats 400000 in
theorem szTrustPolicy_c {w : World} {ca : List Value} {x : LTrustPolicy} {left : Int} (ha : RTrustPolicy.raw w ca x) (hl0 : 0 ≤ left) (hl1 : left ≤ 1048576) :
    Calls Tryz.prog 6 #[.agg ca.toArray, .int .i64 left] w (SzPost (RTrustPolicy.bdd 1048576 x) left w) := by
  obtain ⟨av0, av1, av2, av3, rfl, a_0, a_1, a_2, a_3⟩ := RTrustPolicy_raw ha
  obtain ⟨x0, x1, x2, x3⟩ := x
  clear ha
  go_enter Tryz.func6, Tryz.ntmps6
  go_wp2_with fail
  refine (szKeyS_c (a_0.alloc _) hl0 hl1).mono ?_
  rintro e w1 ⟨r1, rfl, p1, q1, s1, hb1⟩
  have S1 := Lib.hid s1; clear s1
  have D1 := hb1
  have E1 : Below w.heap.size w w1 := ((Below.refl _ _).alloc (Nat.le_refl _) _).trans (hb1.mono (by simp))
  obtain ⟨hc1, hf1⟩ := bcell D1; clear hb1
  by_cases m1 : r1 < 0
  · go_wp2
    go_ret
    exact sz_minus hl0 E1
  have n1 : 0 ≤ r1 := by omega
  go_wp2_with fail
  refine (szRuleS_c (a_1.below E1) n1 (by omega)).mono ?_
  rintro e w2 ⟨r2, rfl, p2, q2, s2, hb2⟩
  have S2 := Lib.hid s2; clear s2
  have D2 := D1.trans (hb2.mono D1.size)
  have E2 := E1.trans (hb2.mono E1.size)
  clear hc1 hf1 hb2
  obtain ⟨hc2, hf2⟩ := bcell D2
  by_cases m2 : r2 < 0
  · go_wp2
    go_ret
    exact sz_minus hl0 E2
  have n2 : 0 ≤ r2 := by omega
  go_wp2_with fail
  refine (szNameS_c (a_2.below E2) n2 (by omega)).mono ?_
  rintro e w3 ⟨r3, rfl, p3, q3, s3, hb3⟩
  have S3 := Lib.hid s3; clear s3
  have D3 := D2.trans (hb3.mono D2.size)
  have E3 := E2.trans (hb3.mono E2.size)
  clear hc2 hf2 hb3
  obtain ⟨hc3, hf3⟩ := bcell D3
  by_cases m3 : r3 < 0
  · go_wp2
    go_ret
    exact sz_minus hl0 E3
  have n3 : 0 ≤ r3 := by omega
  go_wp2_with fail
  refine (szDataS_c (a_3.below E3) n3 (by omega)).mono ?_
  rintro e w4 ⟨r4, rfl, p4, q4, s4, hb4⟩
  have S4 := Lib.hid s4; clear s4
  have D4 := D3.trans (hb4.mono D3.size)
  have E4 := E3.trans (hb4.mono E3.size)
  clear hc3 hf3 hb4
  obtain ⟨hc4, hf4⟩ := bcell D4
  by_cases m4 : r4 < 0
  · go_wp2
    go_ret
    exact sz_minus hl0 E4
  have n4 : 0 ≤ r4 := by omega
  go_wp2
  go_ret
  exact ⟨_, rfl, by omega, by omega, fun _ => ⟨S1.out n1, S2.out n2, S3.out n3, S4.out n4⟩, E4⟩
end Go.Proofs.YtlfblpgkegeaeaaGreat

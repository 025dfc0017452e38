/-
  The laws' measures of size: what they let pass is bounded. Printed by gensz.py.
-/
import Derived.Test.YtdgncogfmchhmaaProg
import Derived.Test.YtdgncogfmchhmaaTypes
import Derived.WalkKit
import Derived.WalkSpells
import Derived.WalkLawsBesides
import Derived.BigQuiet
import Derived.Deep.QuietTactic
import Derived.StillTailTactics
namespace Go.Proofs.Ytdgncogfmchhmaa
open Go.RowKit
set_option linter.unusedVariables false

def SzPost (bd : Prop) (left : Int) (w : World) (e : Ending) (w' : World) : Prop := ∃ r : Int, e = .returned (.int .i64 r) ∧ -1 ≤ r ∧ r ≤ left ∧ (0 ≤ r → bd) ∧ Below w.heap.size w w'
theorem sz_minus {bd : Prop} {left : Int} {w w' : World} (hl : 0 ≤ left) (h : Below w.heap.size w w') : SzPost bd left w (.returned (.int .i64 (-1))) w' := ⟨-1, rfl, by omega, by omega, by omega, h⟩
theorem all_take_succ {α : Type} {P : α → Prop} {x : List α} {k : Nat} (h : ∀ y ∈ x.take k, P y) (hk : k < x.length) (hy : P x[k]) : ∀ y ∈ x.take (k + 1), P y := by
  rw [List.take_succ_eq_append_getElem hk]
  intro y hm
  rcases List.mem_append.1 hm with hm | hm
  · exact h y hm
  · rw [List.mem_singleton.1 hm]; exact hy
theorem all_take_full {α : Type} {P : α → Prop} {x : List α} {k : Nat} (h : ∀ y ∈ x.take k, P y) (hk : ¬ k < x.length) : ∀ y ∈ x, P y := by
  rwa [List.take_of_length_le (by omega)] at h

set_option maxRecDepth 100000 in
set_option maxHeartbeats 400000 in
theorem szStringS_c {w : World} {va : Value} {x : List ByteArray} {left : Int} (ha : (Rep.slice 9 Rep.str).raw w [va] x) (hl0 : 0 ≤ left) (hl1 : left ≤ 1048576) :
    Calls Try.prog 43 #[va, .int .i64 left] w (SzPost ((Rep.slice 9 Rep.str).bdd 1048576 x) left w) := by
  obtain ⟨aa, capa, hva, la⟩ := Rep.len_raw ha; obtain rfl : va = _ := by simpa using hva
  clear hva
  go_enter Try.func43, Try.ntmps43
  by_cases hb : left < (x.length : Int)
  · have hb1 : left - (x.length : Int) < 0 := by omega
    have hb2 : -9223372036854775808 ≤ left - (x.length : Int) := by omega
    go_wp2
    go_ret
    exact sz_minus hl0 (Below.refl _ _)
  · have hb1 : 0 ≤ left - (x.length : Int) := by omega
    have hb2 : ¬ left - (x.length : Int) < 0 := by omega
    go_wp2
    go_loopw [1, 5] (fun l i wr => ∃ (k : Nat) (r : Int), k ≤ x.length ∧ i = .int .i64 k ∧ l = .int .i64 r ∧ 0 ≤ r ∧ r ≤ left ∧ (∀ y ∈ x.take k, Rep.str.bdd 1048576 y) ∧ Below w.heap.size w wr) (fun _ i _ => x.length - (intOf i).toNat)
    case atStart => exact ⟨0, _, Nat.zero_le _, rfl, rfl, hb1, by omega, by simp, Below.refl _ _⟩
    case round =>
      obtain ⟨k, r, hk, rfl, rfl, hr0, hr1, hall, hbel⟩ := hrel
      have HA := Lib.hid hall; clear hall
      by_cases hlt : k < x.length
      · obtain ⟨ba, offa, rfl, c0, hr, A0⟩ := Rep.get1 (ha.below hbel) hlt rfl
        obtain ⟨he, hz⟩ := Rep.str_raw hr
        obtain rfl : c0 = _ := by simpa using he
        unfold maxLen at hz
        clear he hr
        by_cases hs : r < (x[k].size : Int)
        · have h1 : r - (x[k].size : Int) < 0 := by omega
          have h2 : -9223372036854775808 ≤ r - (x[k].size : Int) := by omega
          go_wp2
          go_ret
          exact sz_minus hl0 hbel
        · have h1 : 0 ≤ r - (x[k].size : Int) := by omega
          have h2 : ¬ r - (x[k].size : Int) < 0 := by omega
          go_wp2
          go_roundw
          case rel => exact ⟨k + 1, _, by omega, by go_num, rfl, h1, by omega, all_take_succ HA.out hlt (by show x[k].size ≤ 1048576; omega), hbel⟩
          case measure => simp [intOf]; omega
      · go_wp2
        go_ret
        exact ⟨_, rfl, by omega, by omega, fun _ => ⟨by omega, all_take_full HA.out hlt⟩, hbel⟩
set_option maxRecDepth 100000 in
set_option maxHeartbeats 400000 in
theorem szName_c {w : World} {ca : List Value} {x : LName} {left : Int} (ha : RName.raw w ca x) (hl0 : 0 ≤ left) (hl1 : left ≤ 1048576) :
    Calls Try.prog 16 #[.agg ca.toArray, .int .i64 left] w (SzPost (RName.bdd 1048576 x) left w) := by
  obtain ⟨av0, rfl, a_0⟩ := RName_raw ha
  obtain ⟨x0, rfl⟩ : ∃ x0, x0 = x := ⟨_, rfl⟩
  clear ha
  go_enter Try.func16, Try.ntmps16
  go_wp2_with fail
  refine (szStringS_c (a_0.alloc _) hl0 hl1).mono ?_
  rintro e w1 ⟨r1, rfl, p1, q1, s1, hb1⟩
  have S1 := Lib.hid s1; clear s1
  have D1 := hb1
  have E1 : Below w.heap.size w w1 := ((Below.refl _ _).alloc (Nat.le_refl _) _).trans (hb1.mono (by simp))
  obtain ⟨hc1, hf1⟩ := bcell D1; clear hb1
  by_cases m1 : r1 < 0
  · go_wp2
    go_ret
    exact sz_minus hl0 E1
  have n1 : 0 ≤ r1 := by omega
  go_wp2
  go_ret
  exact ⟨_, rfl, by omega, by omega, fun _ => S1.out n1, E1⟩
set_option maxRecDepth 100000 in
set_option maxHeartbeats 400000 in
theorem szRequesterS_c {w : World} {va : Value} {x : List LRequester} {left : Int} (ha : (Rep.slice 53 RRequester).raw w [va] x) (hl0 : 0 ≤ left) (hl1 : left ≤ 1048576) :
    Calls Try.prog 42 #[va, .int .i64 left] w (SzPost ((Rep.slice 53 RRequester).bdd 1048576 x) left w) := by
  obtain ⟨aa, capa, hva, la⟩ := Rep.len_raw ha; obtain rfl : va = _ := by simpa using hva
  clear hva
  go_enter Try.func42, Try.ntmps42
  by_cases hb : left < (x.length : Int)
  · have hb1 : left - (x.length : Int) < 0 := by omega
    have hb2 : -9223372036854775808 ≤ left - (x.length : Int) := by omega
    go_wp2
    go_ret
    exact sz_minus hl0 (Below.refl _ _)
  · have hb1 : 0 ≤ left - (x.length : Int) := by omega
    have hb2 : ¬ left - (x.length : Int) < 0 := by omega
    go_wp2
    go_ret
    exact ⟨_, rfl, by omega, by omega, fun _ => ⟨by omega, fun _ _ => by first | trivial | exact ⟨trivial, trivial⟩ | exact ⟨trivial, trivial, trivial⟩ | exact ⟨trivial, trivial, trivial, trivial⟩⟩, Below.refl _ _⟩
set_option maxRecDepth 100000 in
set_option maxHeartbeats 400000 in
theorem szPendingInterest_c {w : World} {ca : List Value} {x : LPendingInterest} {left : Int} (ha : RPendingInterest.raw w ca x) (hl0 : 0 ≤ left) (hl1 : left ≤ 1048576) :
    Calls Try.prog 15 #[.agg ca.toArray, .int .i64 left] w (SzPost (RPendingInterest.bdd 1048576 x) left w) := by
  obtain ⟨av0, av1, rfl, a_0, a_1, a_2, a_3⟩ := RPendingInterest_raw ha
  obtain ⟨x0, x1, x2⟩ := x
  clear ha a_1 a_3
  go_enter Try.func15, Try.ntmps15
  go_wp2_with fail
  refine (szName_c (a_0.alloc _) hl0 hl1).mono ?_
  rintro e w1 ⟨r1, rfl, p1, q1, s1, hb1⟩
  have S1 := Lib.hid s1; clear s1
  have D1 := hb1
  have E1 : Below w.heap.size w w1 := ((Below.refl _ _).alloc (Nat.le_refl _) _).trans (hb1.mono (by simp))
  obtain ⟨hc1, hf1⟩ := bcell D1; clear hb1
  by_cases m1 : r1 < 0
  · go_wp2
    go_ret
    exact sz_minus hl0 E1
  have n1 : 0 ≤ r1 := by omega
  go_wp2_with fail
  refine (szRequesterS_c (a_2.below E1) n1 (by omega)).mono ?_
  rintro e w2 ⟨r2, rfl, p2, q2, s2, hb2⟩
  have S2 := Lib.hid s2; clear s2
  have D2 := D1.trans (hb2.mono D1.size)
  have E2 := E1.trans (hb2.mono E1.size)
  clear hc1 hf1 hb2
  obtain ⟨hc2, hf2⟩ := bcell D2
  by_cases m2 : r2 < 0
  · go_wp2
    go_ret
    exact sz_minus hl0 E2
  have n2 : 0 ≤ r2 := by omega
  go_wp2
  go_ret
  exact ⟨_, rfl, by omega, by omega, fun _ => ⟨S1.out n1, S2.out n2, trivial⟩, E2⟩
set_option maxRecDepth 100000 in
set_option maxHeartbeats 400000 in
theorem szPendingInterestS_c {w : World} {va : Value} {x : List LPendingInterest} {left : Int} (ha : (Rep.slice 57 RPendingInterest).raw w [va] x) (hl0 : 0 ≤ left) (hl1 : left ≤ 1048576) :
    Calls Try.prog 4 #[va, .int .i64 left] w (SzPost ((Rep.slice 57 RPendingInterest).bdd 1048576 x) left w) := by
  obtain ⟨aa, capa, hva, la⟩ := Rep.len_raw ha; obtain rfl : va = _ := by simpa using hva
  clear hva
  go_enter Try.func4, Try.ntmps4
  by_cases hb : left < (x.length : Int)
  · have hb1 : left - (x.length : Int) < 0 := by omega
    have hb2 : -9223372036854775808 ≤ left - (x.length : Int) := by omega
    go_wp2
    go_ret
    exact sz_minus hl0 (Below.refl _ _)
  · have hb1 : 0 ≤ left - (x.length : Int) := by omega
    have hb2 : ¬ left - (x.length : Int) < 0 := by omega
    go_wp2
    go_loopw [1, 5] (fun l i wr => ∃ (k : Nat) (r : Int), k ≤ x.length ∧ i = .int .i64 k ∧ l = .int .i64 r ∧ 0 ≤ r ∧ r ≤ left ∧ (∀ y ∈ x.take k, RPendingInterest.bdd 1048576 y) ∧ Below w.heap.size w wr) (fun _ i _ => x.length - (intOf i).toNat)
    case atStart => exact ⟨0, _, Nat.zero_le _, rfl, rfl, hb1, by omega, by simp, Below.refl _ _⟩
    case round =>
      obtain ⟨k, r, hk, rfl, rfl, hr0, hr1, hall, hbel⟩ := hrel
      have HA := Lib.hid hall; clear hall
      by_cases hlt : k < x.length
      · obtain ⟨ba, offa, rfl, c0, c1, c2, hr, A0, A1, A2⟩ := Rep.get3 (ha.below hbel) hlt rfl
        go_wp2_with fail
        refine (szPendingInterest_c hr hr0 (by omega)).mono ?_
        rintro e w' ⟨r', rfl, h1, h2, h3, hb3⟩
        have HB := Lib.hid h3; clear h3 hr
        have hbel2 := hbel.trans (hb3.mono hbel.size)
        by_cases hs : r' < 0
        · go_wp2
          go_ret
          exact sz_minus hl0 hbel2
        · have h4 : 0 ≤ r' := by omega
          go_wp2
          go_roundw
          case rel => exact ⟨k + 1, _, by omega, by go_num, rfl, h4, by omega, all_take_succ HA.out hlt (HB.out h4), hbel2⟩
          case measure => simp [intOf]; omega
      · go_wp2
        go_ret
        exact ⟨_, rfl, by omega, by omega, fun _ => ⟨by omega, all_take_full HA.out hlt⟩, hbel⟩
set_option maxRecDepth 100000 in
set_option maxHeartbeats 400000 in
theorem szInterest_c {w : World} {ca : List Value} {x : LInterest} {left : Int} (ha : RInterest.raw w ca x) (hl0 : 0 ≤ left) (hl1 : left ≤ 1048576) :
    Calls Try.prog 5 #[.agg ca.toArray, .int .i64 left] w (SzPost (RInterest.bdd 1048576 x) left w) := by
  obtain ⟨av0, rfl, a_0, a_1, a_2, a_3, a_4⟩ := RInterest_raw ha
  obtain ⟨x0, x1, x2, x3⟩ := x
  clear ha a_1 a_2 a_3 a_4
  go_enter Try.func5, Try.ntmps5
  go_wp2_with fail
  refine (szName_c (a_0.alloc _) hl0 hl1).mono ?_
  rintro e w1 ⟨r1, rfl, p1, q1, s1, hb1⟩
  have S1 := Lib.hid s1; clear s1
  have D1 := hb1
  have E1 : Below w.heap.size w w1 := ((Below.refl _ _).alloc (Nat.le_refl _) _).trans (hb1.mono (by simp))
  obtain ⟨hc1, hf1⟩ := bcell D1; clear hb1
  by_cases m1 : r1 < 0
  · go_wp2
    go_ret
    exact sz_minus hl0 E1
  have n1 : 0 ≤ r1 := by omega
  go_wp2
  go_ret
  exact ⟨_, rfl, by omega, by omega, fun _ => ⟨S1.out n1, trivial, trivial, trivial⟩, E1⟩
end Go.Proofs.Ytdgncogfmchhmaa

/-
  The laws measure of size of routes: the sum of all.
-/
import Derived.Test.YtadneiijklnccaaDoorSz
import Derived.WalkKit
import Derived.WalkSpells
import Derived.WalkLawsBesides
namespace Go.Proofs.YtadneiijklnccaaDoor
open Go.RowKit
set_option linter.unusedVariables false
set_option linter.unusedSimpArgs false
set_option linter.unnecessarySimpa false
def sumL {α : Type} (f : α → Nat) (l : List α) : Nat := (l.map f).sum
theorem sumL_succ {α : Type} {f : α → Nat} {l : List α} {k : Nat} (h : k < l.length) : sumL f (l.take (k + 1)) = sumL f (l.take k) + f l[k] := by
  unfold sumL
  rw [List.take_succ_eq_append_getElem h, List.map_append, List.sum_append]
  simp
theorem sumL_split {α : Type} (f : α → Nat) (l : List α) (k : Nat) : sumL f l = sumL f (l.take k) + sumL f (l.drop k) := by
  unfold sumL; rw [← List.sum_append, ← List.map_append, List.take_append_drop]
theorem sumL_full {α : Type} {f : α → Nat} {l : List α} {k : Nat} (h : ¬ k < l.length) : sumL f (l.take k) = sumL f l := by rw [List.take_of_length_le (by omega)]
theorem sumL_mem {α : Type} {f : α → Nat} : ∀ {l : List α} {x : α}, x ∈ l → f x ≤ sumL f l
  | y :: l, x, h => by
    have e : sumL f (y :: l) = f y + sumL f l := by simp [sumL]
    rw [e]
    rcases List.mem_cons.1 h with rfl | h
    · omega
    · have := sumL_mem (f := f) h; omega
def wN (n : LName) : Nat := n.length + sumL ByteArray.size n
def wRs (l : List LRoute) : Nat := l.length + sumL (fun r => wN r.1) l
def SzW (wt : Nat) (left : Int) (w : World) (e : Ending) (w' : World) : Prop := ∃ r : Int, e = .returned (.int .i64 r) ∧ -1 ≤ r ∧ r ≤ left ∧ (0 ≤ r → r + wt ≤ left) ∧ Below w.heap.size w w'
theorem szw_minus {wt : Nat} {left : Int} {w w' : World} (hl : 0 ≤ left) (h : Below w.heap.size w w') : SzW wt left w (.returned (.int .i64 (-1))) w' := ⟨-1, rfl, by omega, by omega, by omega, h⟩
set_option maxRecDepth 100000 in
set_option maxHeartbeats 1000000 in
theorem szStringS_w {w : World} {va : Value} {x : List ByteArray} {left : Int} (ha : (Rep.slice 9 Rep.str).raw w [va] x) (hl0 : 0 ≤ left) (hl1 : left ≤ 1048576) :
    Calls Tryd.prog 35 #[va, .int .i64 left] w (SzW (x.length + sumL ByteArray.size x) left w) := by
  obtain ⟨aa, capa, hva, la⟩ := Rep.len_raw ha; obtain rfl : va = _ := by simpa using hva
  clear hva
  go_enter Tryd.func35, Tryd.ntmps35
  by_cases hb : left < (x.length : Int)
  · have hb1 : left - (x.length : Int) < 0 := by omega
    have hb2 : -9223372036854775808 ≤ left - (x.length : Int) := by omega
    go_wp2
    go_ret
    exact szw_minus hl0 (Below.refl _ _)
  · have hb1 : 0 ≤ left - (x.length : Int) := by omega
    have hb2 : ¬ left - (x.length : Int) < 0 := by omega
    go_wp2
    go_loopw [1, 5] (fun l i wr => ∃ (k : Nat) (r : Int), k ≤ x.length ∧ i = .int .i64 k ∧ l = .int .i64 r ∧ 0 ≤ r ∧ r ≤ left ∧ Hid (r + (x.length : Int) + sumL ByteArray.size (x.take k) ≤ left) ∧ Below w.heap.size w wr) (fun _ i _ => x.length - (intOf i).toNat)
    case atStart => exact ⟨0, _, Nat.zero_le _, rfl, rfl, hb1, by omega, Lib.hid (by simp [sumL]), Below.refl _ _⟩
    case round =>
      obtain ⟨k, r, hk, rfl, rfl, hr0, hr1, HA, hbel⟩ := hrel
      by_cases hlt : k < x.length
      · have HSU := Lib.hid (sumL_succ (f := ByteArray.size) hlt)
        obtain ⟨ba, offa, rfl, c0, hr, A0⟩ := Rep.get1 (ha.below hbel) hlt rfl
        obtain ⟨he, hz⟩ := Rep.str_raw hr
        obtain rfl : c0 = _ := by simpa using he
        unfold maxLen at hz
        clear he hr
        generalize x[k] = s at *
        by_cases hs : r < (s.size : Int)
        · have h1 : r - (s.size : Int) < 0 := by omega
          have h2 : -9223372036854775808 ≤ r - (s.size : Int) := by omega
          go_wp2
          go_ret
          exact szw_minus hl0 hbel
        · have h1 : 0 ≤ r - (s.size : Int) := by omega
          have h2 : ¬ r - (s.size : Int) < 0 := by omega
          go_wp2
          go_roundw
          case rel => exact ⟨k + 1, _, by omega, by go_num, rfl, h1, by omega, Lib.hid (by have h3 := HA.out; rw [HSU.out]; push_cast; omega), hbel⟩
          case measure => simp [intOf]; omega
      · have HF := Lib.hid (sumL_full (f := ByteArray.size) hlt)
        go_wp2
        go_ret
        exact ⟨_, rfl, by omega, by omega, fun _ => by have h1 := HA.out; rw [HF.out] at h1; push_cast; omega, hbel⟩
set_option maxRecDepth 100000 in
set_option maxHeartbeats 400000 in
theorem szName_w {w : World} {ca : List Value} {x : LName} {left : Int} (ha : RName.raw w ca x) (hl0 : 0 ≤ left) (hl1 : left ≤ 1048576) :
    Calls Tryd.prog 29 #[.agg ca.toArray, .int .i64 left] w (SzW (wN x) left w) := by
  obtain ⟨av0, rfl, a_0⟩ := RName_raw ha
  clear ha
  go_enter Tryd.func29, Tryd.ntmps29
  go_wp2_with fail
  generalize hwB : World.alloc w _ = wB
  have EB : Below w.heap.size w wB := by rw [← hwB]; exact (by repeat (first | (with_reducible exact Below.refl _ _) | refine Below.alloc ?_ (by simp; try omega) _ | refine Below.drew ?_ | refine Below.setCell ?_ (by simp; try omega) _))
  clear hwB
  refine (szStringS_w (a_0.below EB) hl0 hl1).mono ?_
  rintro e w1 ⟨r, rfl, h1, h2, h3, hb⟩
  have H3 := Lib.hid h3; clear h3
  have EG := EB.trans (hb.mono EB.size)
  by_cases hr : r < 0
  · go_wp2
    go_ret
    exact szw_minus hl0 EG
  · have hr' : 0 ≤ r := by omega
    go_wp2
    go_ret
    exact ⟨_, rfl, h1, h2, fun q => by have := H3.out q; unfold wN; exact this, EG⟩
set_option maxRecDepth 100000 in
set_option maxHeartbeats 400000 in
theorem szRoute_w {w : World} {ca : List Value} {x : LRoute} {left : Int} (ha : RRoute.raw w ca x) (hl0 : 0 ≤ left) (hl1 : left ≤ 1048576) :
    Calls Tryd.prog 20 #[.agg ca.toArray, .int .i64 left] w (SzW (wN x.1) left w) := by
  obtain ⟨av0, rfl, a_0, a_1, a_2, a_3⟩ := RRoute_raw ha
  clear ha
  go_enter Tryd.func20, Tryd.ntmps20
  go_wp2_with fail
  generalize hwB : World.alloc w _ = wB
  have EB : Below w.heap.size w wB := by rw [← hwB]; exact (by repeat (first | (with_reducible exact Below.refl _ _) | refine Below.alloc ?_ (by simp; try omega) _ | refine Below.drew ?_ | refine Below.setCell ?_ (by simp; try omega) _))
  clear hwB
  refine (szName_w (a_0.below EB) hl0 hl1).mono ?_
  rintro e w1 ⟨r, rfl, h1, h2, h3, hb⟩
  have H3 := Lib.hid h3; clear h3
  have EG := EB.trans (hb.mono EB.size)
  by_cases hr : r < 0
  · go_wp2
    go_ret
    exact szw_minus hl0 EG
  · have hr' : 0 ≤ r := by omega
    go_wp2
    go_ret
    exact ⟨_, rfl, h1, h2, fun q => H3.out q, EG⟩
set_option maxRecDepth 100000 in
set_option maxHeartbeats 1000000 in
theorem szRouteS_w {w : World} {va : Value} {x : List LRoute} {left : Int} (ha : (Rep.slice 55 RRoute).raw w [va] x) (hl0 : 0 ≤ left) (hl1 : left ≤ 1048576) :
    Calls Tryd.prog 10 #[va, .int .i64 left] w (SzW (x.length + sumL (fun r => wN r.1) x) left w) := by
  obtain ⟨aa, capa, hva, la⟩ := Rep.len_raw ha; obtain rfl : va = _ := by simpa using hva
  clear hva
  go_enter Tryd.func10, Tryd.ntmps10
  by_cases hb : left < (x.length : Int)
  · have hb1 : left - (x.length : Int) < 0 := by omega
    have hb2 : -9223372036854775808 ≤ left - (x.length : Int) := by omega
    go_wp2
    go_ret
    exact szw_minus hl0 (Below.refl _ _)
  · have hb1 : 0 ≤ left - (x.length : Int) := by omega
    have hb2 : ¬ left - (x.length : Int) < 0 := by omega
    go_wp2
    go_loopw [1, 5] (fun l i wr => ∃ (k : Nat) (r : Int), k ≤ x.length ∧ i = .int .i64 k ∧ l = .int .i64 r ∧ 0 ≤ r ∧ r ≤ left ∧ Hid (r + (x.length : Int) + sumL (fun r => wN r.1) (x.take k) ≤ left) ∧ Below w.heap.size w wr) (fun _ i _ => x.length - (intOf i).toNat)
    case atStart => exact ⟨0, _, Nat.zero_le _, rfl, rfl, hb1, by omega, Lib.hid (by simp [sumL]), Below.refl _ _⟩
    case round =>
      obtain ⟨k, r, hk, rfl, rfl, hr0, hr1, HA, hbel⟩ := hrel
      by_cases hlt : k < x.length
      · have HSU := Lib.hid (sumL_succ (f := (fun r => wN r.1)) hlt)
        obtain ⟨ba, offa, rfl, c0, c1, c2, hr, A0, A1, A2⟩ := Rep.get3 (ha.below hbel) hlt rfl
        generalize x[k] = s at *
        go_wp2_with fail
        refine (szRoute_w hr hr0 (by omega)).mono ?_
        rintro e w1 ⟨q, rfl, q1, q2, q3, hb1⟩
        have Q3 := Lib.hid q3; clear q3
        have EG := hbel.trans (hb1.mono hbel.size)
        by_cases hq : q < 0
        · go_wp2
          go_ret
          exact szw_minus hl0 EG
        · have hq' : 0 ≤ q := by omega
          have hq2 : ¬ q < 0 := hq
          go_wp2
          go_roundw
          case rel => exact ⟨k + 1, _, by omega, by go_num, rfl, hq', by omega, Lib.hid (by have h3 := HA.out; have h4 := Q3.out hq'; rw [HSU.out]; push_cast at *; omega), EG⟩
          case measure => simp [intOf]; omega
      · have HF := Lib.hid (sumL_full (f := (fun r => wN r.1)) hlt)
        go_wp2
        go_ret
        exact ⟨_, rfl, by omega, by omega, fun _ => by have h1 := HA.out; rw [HF.out] at h1; push_cast; omega, hbel⟩
theorem bdd_name {n : LName} {B : Nat} (h : wN n ≤ B) : RName.bdd B n := by
  unfold wN at h
  exact ⟨by omega, fun s hs => by have := sumL_mem (f := ByteArray.size) hs; show s.size ≤ B; omega⟩
theorem szRouteS_d {w : World} {va : Value} {x : List LRoute} {left : Int} (ha : (Rep.slice 55 RRoute).raw w [va] x) (hl0 : 0 ≤ left) (hl1 : left ≤ 1048576) :
    Calls Tryd.prog 10 #[va, .int .i64 left] w (SzPost ((Rep.slice 55 RRoute).bdd 1048576 x ∧ wRs x ≤ 1048576) left w) :=
  (szRouteS_w ha hl0 hl1).mono fun e w' ⟨r, he, h1, h2, h3, hb⟩ => ⟨r, he, h1, h2, fun q => by
    have h4 := h3 q
    have h5 : wRs x ≤ 1048576 := by unfold wRs; omega
    refine ⟨⟨by unfold wRs at h5; omega, fun y hy => ?_⟩, h5⟩
    have h6 := sumL_mem (f := fun r : LRoute => wN r.1) hy
    have h7 : wN y.1 ≤ 1048576 := by unfold wRs at h5; omega
    exact ⟨bdd_name h7, trivial, trivial⟩, hb⟩
end Go.Proofs.YtadneiijklnccaaDoor

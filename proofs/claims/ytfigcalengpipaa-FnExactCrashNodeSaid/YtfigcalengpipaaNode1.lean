/-
  Nodes: new ones, their size.
-/
import Derived.Test.YtfigcalengpipaaMade
import Derived.Test.YtfigcalengpipaaNum
import Derived.Test.YtfigcalengpipaaInfo
import Derived.Test.YtfigcalengpipaaSoft2
import Derived.IntWalk
import Derived.Deep.Cut
import Derived.WalkSpells
import Derived.WalkLawsBesides
namespace Go.Proofs.Ytfigcalengpipaa
open Go.RowKit
set_option linter.unusedVariables false
set_option linter.unusedSimpArgs false
set_option linter.unnecessarySimpa false
def idleN (x : LNode) : Bool := (x.2.2.1.length : Int) == 0
def sizeN (x : LNode) : Int := (x.1.length : Int) + (x.2.1.2.length : Int) + (x.2.2.1.length : Int) + (x.2.2.2.1.length : Int) + (x.2.2.2.2.1.length : Int) + (x.2.2.2.2.2.1.length : Int)
def capC (c : Int) : Int := if inR c 0 8 then c else 0
def newC (c : Int) : LContentStore := (capC c, [])
def newN (c : Int) : LNode := ([], newC c, [], [], [], [], 0)
theorem capC_rng {c : Int} (h : -9223372036854775808 ≤ c ∧ c ≤ 9223372036854775807) : -9223372036854775808 ≤ capC c ∧ capC c ≤ 9223372036854775807 := by unfold capC; split <;> omega
theorem newC_own {w : World} {c : Int} {S : Nat → Prop} (h : -9223372036854775808 ≤ c ∧ c ≤ 9223372036854775807) : RContentStore.own w [.int .i64 c, .slice none 0 0] (c, []) S :=
  ⟨RContentStore_set0 (x := RContentStore.zero) c h RContentStore.is_zero, (RContentStore.bdd_zero : RContentStore.bdd Big RContentStore.zero)⟩
theorem newN_own {w : World} {c : Int} {S : Nat → Prop} (h : -9223372036854775808 ≤ c ∧ c ≤ 9223372036854775807) : RNode.own w [.slice none 0 0, .int .i64 c, .slice none 0 0, .slice none 0 0, .slice none 0 0, .slice none 0 0, .slice none 0 0, .int .i64 0] ([], (c, []), [], [], [], [], 0) S :=
  ⟨RNode_set1 (x := RNode.zero) c h RNode.is_zero, (RNode.bdd_zero : RNode.bdd Big RNode.zero)⟩
theorem own_void {α β : Type} {e : TypeId} {r : Rep α} {q : Rep β} {w : World} {ds : List Value} {y : β} {S : Nat → Prop} (h : q.own w ds y S) : (Rep.pair (Rep.slice e r) q).own w ([.slice none 0 0] ++ ds) ([], y) S :=
  Rep.own_pair (A := fun _ => False) (B := S) Rep.void_own h (fun _ h => h.elim) (fun _ h => h) (fun _ h _ => h)
theorem own_store {β : Type} {q : Rep β} {r : Rep LContentStore} {w : World} {cs ds : List Value} {x : LContentStore} {y : β} {S : Nat → Prop} (h : r.own w cs x S) (k : q.own w ds y (fun _ => False)) : (Rep.pair r q).own w (cs ++ ds) (x, y) S :=
  Rep.own_pair (A := S) (B := fun _ => False) h k (fun _ h => h) (fun _ h => h.elim) (fun _ _ h => h)
set_option maxHeartbeats 400000 in
theorem specIsIdle_c {w : World} {cx : List Value} {x : LNode} (hx : RNode.rd w cx x) : Calls Try.prog 15 #[.agg cx.toArray] w fun e w' => e = .returned (.bool (idleN x)) ∧ Below w.heap.size w w' := by
  obtain ⟨av0, av2, av3, av4, av5, av6, rfl, a_0, a_1, a_2, a_3, a_4, a_5, a_6, a_7, a_8⟩ := RNode_raw hx.1
  obtain ⟨aa0, ap0, ah0, al0⟩ := Rep.len_raw a_0; obtain rfl : av0 = _ := by simpa using ah0
  clear ah0
  obtain ⟨aa2, ap2, ah2, al2⟩ := Rep.len_raw a_3; obtain rfl : av2 = _ := by simpa using ah2
  clear ah2
  obtain ⟨aa3, ap3, ah3, al3⟩ := Rep.len_raw a_4; obtain rfl : av3 = _ := by simpa using ah3
  clear ah3
  obtain ⟨aa4, ap4, ah4, al4⟩ := Rep.len_raw a_5; obtain rfl : av4 = _ := by simpa using ah4
  clear ah4
  obtain ⟨aa5, ap5, ah5, al5⟩ := Rep.len_raw a_6; obtain rfl : av5 = _ := by simpa using ah5
  clear ah5
  obtain ⟨aa6, ap6, ah6, al6⟩ := Rep.len_raw a_7; obtain rfl : av6 = _ := by simpa using ah6
  clear ah6
  clear a_0 a_1 a_2 a_3 a_4 a_5 a_6 a_7 a_8
  clear hx
  go_enter Try.func15, Try.ntmps15
  go_wp2
  go_ret
  exact ⟨rfl, (by repeat (first | (with_reducible exact Below.refl _ _) | refine Below.alloc ?_ (by simp; try omega) _ | refine Below.drew ?_ | refine Below.setCell ?_ (by simp; try omega) _))⟩
set_option maxHeartbeats 1000000 in
theorem specNodeSize_c {w : World} {cx : List Value} {x : LNode} (hx : RNode.rd w cx x) : Calls Try.prog 18 #[.agg cx.toArray] w fun e w' => e = .returned (.int .i64 (sizeN x)) ∧ Below w.heap.size w w' := by
  obtain ⟨q1, ⟨_, q2⟩, q3, q4, q5, q6, _⟩ := hx.2
  have b1 : x.1.length ≤ 16777216 := q1.1
  have b2 : x.2.1.2.length ≤ 16777216 := q2.1
  have b3 : x.2.2.1.length ≤ 16777216 := q3.1
  have b4 : x.2.2.2.1.length ≤ 16777216 := q4.1
  have b5 : x.2.2.2.2.1.length ≤ 16777216 := q5.1
  have b6 : x.2.2.2.2.2.1.length ≤ 16777216 := q6.1
  clear q1 q2 q3 q4 q5 q6
  obtain ⟨av0, av2, av3, av4, av5, av6, rfl, a_0, a_1, a_2, a_3, a_4, a_5, a_6, a_7, a_8⟩ := RNode_raw hx.1
  obtain ⟨aa0, ap0, ah0, al0⟩ := Rep.len_raw a_0; obtain rfl : av0 = _ := by simpa using ah0
  clear ah0
  obtain ⟨aa2, ap2, ah2, al2⟩ := Rep.len_raw a_3; obtain rfl : av2 = _ := by simpa using ah2
  clear ah2
  obtain ⟨aa3, ap3, ah3, al3⟩ := Rep.len_raw a_4; obtain rfl : av3 = _ := by simpa using ah3
  clear ah3
  obtain ⟨aa4, ap4, ah4, al4⟩ := Rep.len_raw a_5; obtain rfl : av4 = _ := by simpa using ah4
  clear ah4
  obtain ⟨aa5, ap5, ah5, al5⟩ := Rep.len_raw a_6; obtain rfl : av5 = _ := by simpa using ah5
  clear ah5
  obtain ⟨aa6, ap6, ah6, al6⟩ := Rep.len_raw a_7; obtain rfl : av6 = _ := by simpa using ah6
  clear ah6
  clear a_0 a_1 a_2 a_3 a_4 a_5 a_6 a_7 a_8
  clear hx
  go_enter Try.func18, Try.ntmps18
  go_wp2
  go_ret
  exact ⟨rfl, (by repeat (first | (with_reducible exact Below.refl _ _) | refine Below.alloc ?_ (by simp; try omega) _ | refine Below.drew ?_ | refine Below.setCell ?_ (by simp; try omega) _))⟩
set_option maxHeartbeats 400000 in
theorem implIsIdle_c {w : World} {cx : List Value} {x : LNode} (hx : RNode.rd w cx x) : Calls Try.prog 17 #[.agg cx.toArray] w fun e w' => e = .returned (.bool (idleN x)) ∧ Below w.heap.size w w' := by
  obtain ⟨av0, av2, av3, av4, av5, av6, rfl, a_0, a_1, a_2, a_3, a_4, a_5, a_6, a_7, a_8⟩ := RNode_raw hx.1
  obtain ⟨aa0, ap0, ah0, al0⟩ := Rep.len_raw a_0; obtain rfl : av0 = _ := by simpa using ah0
  clear ah0
  obtain ⟨aa2, ap2, ah2, al2⟩ := Rep.len_raw a_3; obtain rfl : av2 = _ := by simpa using ah2
  clear ah2
  obtain ⟨aa3, ap3, ah3, al3⟩ := Rep.len_raw a_4; obtain rfl : av3 = _ := by simpa using ah3
  clear ah3
  obtain ⟨aa4, ap4, ah4, al4⟩ := Rep.len_raw a_5; obtain rfl : av4 = _ := by simpa using ah4
  clear ah4
  obtain ⟨aa5, ap5, ah5, al5⟩ := Rep.len_raw a_6; obtain rfl : av5 = _ := by simpa using ah5
  clear ah5
  obtain ⟨aa6, ap6, ah6, al6⟩ := Rep.len_raw a_7; obtain rfl : av6 = _ := by simpa using ah6
  clear ah6
  clear a_0 a_1 a_2 a_3 a_4 a_5 a_6 a_7 a_8
  clear hx
  go_enter Try.func17, Try.ntmps17
  go_wp2
  go_ret
  exact ⟨rfl, (by repeat (first | (with_reducible exact Below.refl _ _) | refine Below.alloc ?_ (by simp; try omega) _ | refine Below.drew ?_ | refine Below.setCell ?_ (by simp; try omega) _))⟩
set_option maxHeartbeats 1000000 in
theorem implNodeSize_c {w : World} {cx : List Value} {x : LNode} (hx : RNode.rd w cx x) : Calls Try.prog 19 #[.agg cx.toArray] w fun e w' => e = .returned (.int .i64 (sizeN x)) ∧ Below w.heap.size w w' := by
  obtain ⟨q1, ⟨_, q2⟩, q3, q4, q5, q6, _⟩ := hx.2
  have b1 : x.1.length ≤ 16777216 := q1.1
  have b2 : x.2.1.2.length ≤ 16777216 := q2.1
  have b3 : x.2.2.1.length ≤ 16777216 := q3.1
  have b4 : x.2.2.2.1.length ≤ 16777216 := q4.1
  have b5 : x.2.2.2.2.1.length ≤ 16777216 := q5.1
  have b6 : x.2.2.2.2.2.1.length ≤ 16777216 := q6.1
  clear q1 q2 q3 q4 q5 q6
  obtain ⟨av0, av2, av3, av4, av5, av6, rfl, a_0, a_1, a_2, a_3, a_4, a_5, a_6, a_7, a_8⟩ := RNode_raw hx.1
  obtain ⟨aa0, ap0, ah0, al0⟩ := Rep.len_raw a_0; obtain rfl : av0 = _ := by simpa using ah0
  clear ah0
  obtain ⟨aa2, ap2, ah2, al2⟩ := Rep.len_raw a_3; obtain rfl : av2 = _ := by simpa using ah2
  clear ah2
  obtain ⟨aa3, ap3, ah3, al3⟩ := Rep.len_raw a_4; obtain rfl : av3 = _ := by simpa using ah3
  clear ah3
  obtain ⟨aa4, ap4, ah4, al4⟩ := Rep.len_raw a_5; obtain rfl : av4 = _ := by simpa using ah4
  clear ah4
  obtain ⟨aa5, ap5, ah5, al5⟩ := Rep.len_raw a_6; obtain rfl : av5 = _ := by simpa using ah5
  clear ah5
  obtain ⟨aa6, ap6, ah6, al6⟩ := Rep.len_raw a_7; obtain rfl : av6 = _ := by simpa using ah6
  clear ah6
  clear a_0 a_1 a_2 a_3 a_4 a_5 a_6 a_7 a_8
  clear hx
  go_enter Try.func19, Try.ntmps19
  go_wp2
  go_ret
  exact ⟨rfl, (by repeat (first | (with_reducible exact Below.refl _ _) | refine Below.alloc ?_ (by simp; try omega) _ | refine Below.drew ?_ | refine Below.setCell ?_ (by simp; try omega) _))⟩
set_option maxHeartbeats 1000000 in
theorem specNewContentStore_c {w : World} {c : Int} (hc : -9223372036854775808 ≤ c ∧ c ≤ 9223372036854775807) : Calls Try.prog 33 #[.int .i64 c] w (MadeAgg RContentStore (newC c) w) := by
  have HC := Lib.hid (capC_rng hc)
  go_enter Try.func33, Try.ntmps33
  go_wp2_with fail
  generalize hwB : World.alloc w _ = wB
  have EB : Below w.heap.size w wB := by rw [← hwB]; exact (Below.refl _ _).alloc (Nat.le_refl _) _
  have M0 : wB.cell? ⟨w.heap.size, 0, none⟩ = some (.int .i64 0) := by rw [← hwB]; simp [go_sem]
  have M1 : wB.cell? ⟨w.heap.size, 1, none⟩ = some (.slice none 0 0) := by rw [← hwB]; simp [go_sem]
  have F0 : wB.frozen? ⟨w.heap.size, 0, none⟩ = false := by rw [← hwB]; simp [go_sem]
  have F1 : wB.frozen? ⟨w.heap.size, 1, none⟩ = false := by rw [← hwB]; simp [go_sem]
  clear hwB
  refine specl1In_c.mono ?_
  rintro e u ⟨rfl, hu⟩
  obtain rfl := hu.symm
  clear hu
  cases hi : inR c 0 8
  · have HT := Lib.hid (show capC c = 0 by unfold capC; rw [hi]; rfl)
    go_wp2
    refine bodyPost_ret (v := .agg #[.int .i64 0, .slice none 0 0]) (by simp [results, Try.results33, go_sem, M0, M1, F0, F1]) rfl ⟨[_, _], rfl, ?_, ?_⟩
    · unfold newC; rw [HT.out]; exact newC_own (by omega)
    · exact (EB.setCell (by simp) _).setCell (by simp) _
  · have HT := Lib.hid (show capC c = c by unfold capC; rw [hi]; rfl)
    go_wp2
    refine bodyPost_ret (v := .agg #[.int .i64 c, .slice none 0 0]) (by simp [results, Try.results33, go_sem, M0, M1, F0, F1]) rfl ⟨[_, _], rfl, ?_, ?_⟩
    · unfold newC; rw [HT.out]; exact newC_own (by have := HC.out; rwa [HT.out] at this)
    · exact (EB.setCell (by simp) _).setCell (by simp) _
set_option maxHeartbeats 1000000 in
theorem specNewNode_c {w : World} {c : Int} (hc : -9223372036854775808 ≤ c ∧ c ≤ 9223372036854775807) : Calls Try.prog 9 #[.int .i64 c] w (MadeAgg RNode (newN c) w) := by
  have HC := Lib.hid (capC_rng hc)
  go_enter Try.func9, Try.ntmps9
  go_wp2_with fail
  generalize hwB : World.alloc w _ = wB
  have EB : Below w.heap.size w wB := by rw [← hwB]; exact (Below.refl _ _).alloc (Nat.le_refl _) _
  have XB : wB.heap[w.heap.size]? = some (.cells #[.slice none 0 0, .int .i64 0, .slice none 0 0, .slice none 0 0, .slice none 0 0, .slice none 0 0, .slice none 0 0, .int .i64 0] 31 (0, 0)) := by rw [← hwB]; exact heap_new_at rfl
  have hzB : wB.heap.size = w.heap.size + 1 := by rw [← hwB]; simp
  clear hwB
  refine (specNewContentStore_c hc).mono ?_
  rintro e w1 ⟨cs, rfl, O1, hb1⟩
  obtain ⟨cv, rfl, c_0, c_1⟩ := RContentStore_raw O1.raw
  have X1 := keepBox XB hb1
  have E1 := EB.trans (hb1.mono EB.size)
  have hc1 : (newC c).2 = [] := rfl
  have hc2 : (newC c).1 = capC c := rfl
  obtain ⟨ca, cp, hv, _⟩ := Rep.len_raw c_1; obtain rfl : cv = _ := by simpa using hv
  have HO := Lib.hid O1
  clear O1 c_0 c_1 hv hb1 XB
  have M0 := boxCell (b := w.heap.size) X1 (j := 0) rfl
  have F0 := frozen_of_row w1 w.heap.size 0 _ _ X1
  have M1 := boxCell (b := w.heap.size) X1 (j := 1) rfl
  have F1 := frozen_of_row w1 w.heap.size 1 _ _ X1
  have M2 := boxCell (b := w.heap.size) X1 (j := 2) rfl
  have F2 := frozen_of_row w1 w.heap.size 2 _ _ X1
  have M3 := boxCell (b := w.heap.size) X1 (j := 3) rfl
  have F3 := frozen_of_row w1 w.heap.size 3 _ _ X1
  have M4 := boxCell (b := w.heap.size) X1 (j := 4) rfl
  have F4 := frozen_of_row w1 w.heap.size 4 _ _ X1
  have M5 := boxCell (b := w.heap.size) X1 (j := 5) rfl
  have F5 := frozen_of_row w1 w.heap.size 5 _ _ X1
  have M6 := boxCell (b := w.heap.size) X1 (j := 6) rfl
  have F6 := frozen_of_row w1 w.heap.size 6 _ _ X1
  have M7 := boxCell (b := w.heap.size) X1 (j := 7) rfl
  have F7 := frozen_of_row w1 w.heap.size 7 _ _ X1
  go_wp2
  refine bodyPost_ret (v := .agg #[.slice none 0 0, .int .i64 (capC c), .slice ca 0 cp, .slice none 0 0, .slice none 0 0, .slice none 0 0, .slice none 0 0, .int .i64 0]) (by simp [results, Try.results9, go_sem, M0, F0, M1, F1, M2, F2, M3, F3, M4, F4, M5, F5, M6, F6, M7, F7, newC]) rfl ⟨[_, _, _, _, _, _, _, _], rfl, ?_, ?_⟩
  · refine Rep.own.wide (S := Btw wB.heap.size w1.heap.size) ?_ (fun j hj => ⟨by have := hj.1; omega, by have := hj.2; simp [World.setCell]; omega⟩)
    exact own_void (own_store (Rep.own.out HO.out (fun j h1 h2 => by simp (discharger := (simp; omega)) only [heap_setCell_other])) (own_void (own_void (own_void (own_void (Rep.flat.own (Rep.flat_int (n := 0) (by omega))))))))
  · repeat (first | (with_reducible exact E1) | refine Below.setCell ?_ (by simp) _)
set_option maxHeartbeats 1000000 in
theorem implNewContentStore_c {w : World} {c : Int} (hc : -9223372036854775808 ≤ c ∧ c ≤ 9223372036854775807) : Calls Try.prog 34 #[.int .i64 c] w (MadeAgg RContentStore (newC c) w) := by
  have HC := Lib.hid (capC_rng hc)
  go_enter Try.func34, Try.ntmps34
  go_wp2_with fail
  generalize hwB : World.alloc w _ = wB
  have EB : Below w.heap.size w wB := by rw [← hwB]; exact (Below.refl _ _).alloc (Nat.le_refl _) _
  have M0 : wB.cell? ⟨w.heap.size, 0, none⟩ = some (.int .i64 0) := by rw [← hwB]; simp [go_sem]
  have M1 : wB.cell? ⟨w.heap.size, 1, none⟩ = some (.slice none 0 0) := by rw [← hwB]; simp [go_sem]
  have F0 : wB.frozen? ⟨w.heap.size, 0, none⟩ = false := by rw [← hwB]; simp [go_sem]
  have F1 : wB.frozen? ⟨w.heap.size, 1, none⟩ = false := by rw [← hwB]; simp [go_sem]
  clear hwB
  refine implInRange_c.mono ?_
  rintro e u ⟨rfl, hu⟩
  obtain rfl := hu.symm
  clear hu
  cases hi : inR c 0 8
  · have HT := Lib.hid (show capC c = 0 by unfold capC; rw [hi]; rfl)
    go_wp2
    refine bodyPost_ret (v := .agg #[.int .i64 0, .slice none 0 0]) (by simp [results, Try.results34, go_sem, M0, M1, F0, F1]) rfl ⟨[_, _], rfl, ?_, ?_⟩
    · unfold newC; rw [HT.out]; exact newC_own (by omega)
    · exact (EB.setCell (by simp) _).setCell (by simp) _
  · have HT := Lib.hid (show capC c = c by unfold capC; rw [hi]; rfl)
    go_wp2
    refine bodyPost_ret (v := .agg #[.int .i64 c, .slice none 0 0]) (by simp [results, Try.results34, go_sem, M0, M1, F0, F1]) rfl ⟨[_, _], rfl, ?_, ?_⟩
    · unfold newC; rw [HT.out]; exact newC_own (by have := HC.out; rwa [HT.out] at this)
    · exact (EB.setCell (by simp) _).setCell (by simp) _
set_option maxHeartbeats 1000000 in
theorem implNewNode_c {w : World} {c : Int} (hc : -9223372036854775808 ≤ c ∧ c ≤ 9223372036854775807) : Calls Try.prog 10 #[.int .i64 c] w (MadeAgg RNode (newN c) w) := by
  have HC := Lib.hid (capC_rng hc)
  go_enter Try.func10, Try.ntmps10
  go_wp2_with fail
  generalize hwB : World.alloc w _ = wB
  have EB : Below w.heap.size w wB := by rw [← hwB]; exact (Below.refl _ _).alloc (Nat.le_refl _) _
  have XB : wB.heap[w.heap.size]? = some (.cells #[.slice none 0 0, .int .i64 0, .slice none 0 0, .slice none 0 0, .slice none 0 0, .slice none 0 0, .slice none 0 0, .int .i64 0] 31 (0, 0)) := by rw [← hwB]; exact heap_new_at rfl
  have hzB : wB.heap.size = w.heap.size + 1 := by rw [← hwB]; simp
  clear hwB
  refine (implNewContentStore_c hc).mono ?_
  rintro e w1 ⟨cs, rfl, O1, hb1⟩
  obtain ⟨cv, rfl, c_0, c_1⟩ := RContentStore_raw O1.raw
  have X1 := keepBox XB hb1
  have E1 := EB.trans (hb1.mono EB.size)
  have hc1 : (newC c).2 = [] := rfl
  have hc2 : (newC c).1 = capC c := rfl
  obtain ⟨ca, cp, hv, _⟩ := Rep.len_raw c_1; obtain rfl : cv = _ := by simpa using hv
  have HO := Lib.hid O1
  clear O1 c_0 c_1 hv hb1 XB
  have M0 := boxCell (b := w.heap.size) X1 (j := 0) rfl
  have F0 := frozen_of_row w1 w.heap.size 0 _ _ X1
  have M1 := boxCell (b := w.heap.size) X1 (j := 1) rfl
  have F1 := frozen_of_row w1 w.heap.size 1 _ _ X1
  have M2 := boxCell (b := w.heap.size) X1 (j := 2) rfl
  have F2 := frozen_of_row w1 w.heap.size 2 _ _ X1
  have M3 := boxCell (b := w.heap.size) X1 (j := 3) rfl
  have F3 := frozen_of_row w1 w.heap.size 3 _ _ X1
  have M4 := boxCell (b := w.heap.size) X1 (j := 4) rfl
  have F4 := frozen_of_row w1 w.heap.size 4 _ _ X1
  have M5 := boxCell (b := w.heap.size) X1 (j := 5) rfl
  have F5 := frozen_of_row w1 w.heap.size 5 _ _ X1
  have M6 := boxCell (b := w.heap.size) X1 (j := 6) rfl
  have F6 := frozen_of_row w1 w.heap.size 6 _ _ X1
  have M7 := boxCell (b := w.heap.size) X1 (j := 7) rfl
  have F7 := frozen_of_row w1 w.heap.size 7 _ _ X1
  go_wp2
  refine bodyPost_ret (v := .agg #[.slice none 0 0, .int .i64 (capC c), .slice ca 0 cp, .slice none 0 0, .slice none 0 0, .slice none 0 0, .slice none 0 0, .int .i64 0]) (by simp [results, Try.results10, go_sem, M0, F0, M1, F1, M2, F2, M3, F3, M4, F4, M5, F5, M6, F6, M7, F7, newC]) rfl ⟨[_, _, _, _, _, _, _, _], rfl, ?_, ?_⟩
  · refine Rep.own.wide (S := Btw wB.heap.size w1.heap.size) ?_ (fun j hj => ⟨by have := hj.1; omega, by have := hj.2; simp [World.setCell]; omega⟩)
    exact own_void (own_store (Rep.own.out HO.out (fun j h1 h2 => by simp (discharger := (simp; omega)) only [heap_setCell_other])) (own_void (own_void (own_void (own_void (Rep.flat.own (Rep.flat_int (n := 0) (by omega))))))))
  · repeat (first | (with_reducible exact E1) | refine Below.setCell ?_ (by simp) _)
end Go.Proofs.Ytfigcalengpipaa

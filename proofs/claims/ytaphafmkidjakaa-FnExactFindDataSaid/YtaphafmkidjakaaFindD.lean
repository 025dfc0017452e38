/-
  Data found by a node.
-/
import Derived.Test.YtaphafmkidjakaaLook
import Derived.IntWalk
import Derived.Deep.Cut
import Derived.WalkSpells
import Derived.WalkLawsBesides
namespace Go.Proofs.Ytaphafmkidjakaa
open Go.RowKit
set_option linter.unusedVariables false
set_option linter.unusedSimpArgs false
set_option linter.unnecessarySimpa false
def fdD (n : LName) (t : Int) (x : LNode) : LData := if idxOf (isD n) x.1 < 0 then lkD n t x.2.1.2 else x.1.getD (idxOf (isD n) x.1).toNat voidD
def fdOk (n : LName) (t : Int) (x : LNode) : Bool := if idxOf (isD n) x.1 < 0 then lkOk n t x.2.1.2 else true
theorem fd_no {n : LName} {t : Int} {x : LNode} (h : idxOf (isD n) x.1 < 0) : fdOk n t x = lkOk n t x.2.1.2 ∧ fdD n t x = lkD n t x.2.1.2 := by simp [fdOk, fdD, h]
theorem fd_yes {n : LName} {t : Int} {x : LNode} {j : Nat} (hj : j < x.1.length) (h : idxOf (isD n) x.1 = j) : fdOk n t x = true ∧ fdD n t x = x.1[j] := by
  unfold fdOk fdD
  rw [h, Int.toNat_natCast, getD_get hj, if_neg (by omega), if_neg (by omega)]
  exact ⟨rfl, rfl⟩
theorem idxOf_atD {α : Type} {p : α → Bool} {x : List α} (h : ¬ idxOf p x < 0) : ∃ k : Nat, k < x.length ∧ idxOf p x = k := by
  unfold idxOf at *
  cases e : x.findIdx? p with
  | none => rw [e] at h; simp at h
  | some i => exact ⟨i, (List.findIdx?_eq_some_iff_getElem.1 e).1, rfl⟩
set_option maxRecDepth 100000 in
set_option maxHeartbeats 4000000 in
theorem specFindData_c {w : World} {cx : List Value} {x : LNode} (hx : RNode.rd w cx x) {cn : List Value} {n : LName} (hn : RName.rd w cn n) {t : Int} (ht : -9223372036854775808 ≤ t ∧ t ≤ 9223372036854775807) :
    Calls Try.prog 7 #[.agg cx.toArray, .agg cn.toArray, .int .i64 t] w fun e w' => ∃ ds, e = .returned (.tuple #[.agg ds.toArray, .bool (fdOk n t x)]) ∧ RData.own w' ds (fdD n t x) (Btw w.heap.size w'.heap.size) ∧ Below w.heap.size w w' := by
  clear ht
  have HN := Lib.hid hn
  obtain ⟨q1, q2, q3⟩ := hx.2
  obtain ⟨av0, av2, av3, av4, av5, av6, rfl, a_0, a_1, a_2, a_3, a_4, a_5, a_6, a_7, a_8⟩ := RNode_raw hx.1
  obtain ⟨aa0, ap0, ah0, _⟩ := Rep.len_raw a_0; obtain rfl : av0 = _ := by simpa using ah0
  clear ah0
  obtain ⟨aa2, ap2, ah2, _⟩ := Rep.len_raw a_3; obtain rfl : av2 = _ := by simpa using ah2
  clear ah2
  obtain ⟨aa3, ap3, ah3, _⟩ := Rep.len_raw a_4; obtain rfl : av3 = _ := by simpa using ah3
  clear ah3
  obtain ⟨aa4, ap4, ah4, _⟩ := Rep.len_raw a_5; obtain rfl : av4 = _ := by simpa using ah4
  clear ah4
  obtain ⟨aa5, ap5, ah5, _⟩ := Rep.len_raw a_6; obtain rfl : av5 = _ := by simpa using ah5
  clear ah5
  obtain ⟨aa6, ap6, ah6, _⟩ := Rep.len_raw a_7; obtain rfl : av6 = _ := by simpa using ah6
  clear ah6
  have RA : Hid ((Rep.slice 40 RData).rd w [.slice aa0 x.1.length ap0] x.1) := Lib.hid ⟨a_0, q1⟩
  have RC : Hid (RContentStore.rd w [.int .i64 x.2.1.1, .slice aa2 x.2.1.2.length ap2] x.2.1) := Lib.hid ⟨a_1, q2⟩
  clear hx q1 q2 q3 a_0 a_1 a_2 a_3 a_4 a_5 a_6 a_7 a_8
  obtain ⟨nv, rfl, n_0⟩ := RName_raw hn.1
  obtain ⟨an, capn, hvn, _⟩ := Rep.len_raw n_0; obtain rfl : nv = _ := by simpa using hvn
  clear hvn hn n_0
  go_enter Try.func7, Try.ntmps7
  go_upto_region 1 with fail
  generalize hwB : World.alloc (World.alloc (World.alloc w _) _) _ = wB
  have EB : Below w.heap.size w wB := by rw [← hwB]; exact (by repeat (first | (with_reducible exact Below.refl _ _) | refine Below.alloc ?_ (by simp; try omega) _ | refine Below.drew ?_ | refine Below.setCell ?_ (by simp; try omega) _))
  have hsz : wB.heap.size = w.heap.size + 3 := by rw [← hwB]; simp
  have K0 : wB.cell? ⟨w.heap.size, 0, none⟩ = some (.slice aa0 x.1.length ap0) := by rw [← hwB]; simp [go_sem]
  have K1 : wB.cell? ⟨w.heap.size, 1, none⟩ = some (.int .i64 x.2.1.1) := by rw [← hwB]; simp [go_sem]
  have K2 : wB.cell? ⟨w.heap.size, 2, none⟩ = some (.slice aa2 x.2.1.2.length ap2) := by rw [← hwB]; simp [go_sem]
  have N0 : wB.cell? ⟨w.heap.size + 1, 0, none⟩ = some (.slice an n.length capn) := by rw [← hwB]; simp [go_sem]
  have XR : Hid (wB.heap[w.heap.size + 2]? = some (.cells #[.slice none 0 0, .slice none 0 0, .slice none 0 0, .int .i64 0, .int .i64 0] 40 (0, 0))) := Lib.hid (by rw [← hwB]; exact heap_new_at (by simp))
  clear hwB
  go_wp2_with fail
  refine (specl16Find_c (RA.out.1.below EB) (HN.out.1.below EB)).mono ?_
  rintro e w1 ⟨rfl, hb1⟩
  have E1 := EB.trans (hb1.mono EB.size)
  have hz1 := hb1.size
  replace K0 := cell_later hb1 K0
  replace K1 := cell_later hb1 K1
  replace K2 := cell_later hb1 K2
  replace N0 := cell_later hb1 N0
  replace XR := Lib.hid (keepBox XR.out hb1)
  clear hb1 EB
  by_cases hk : idxOf (isD n) x.1 < 0
  · have HT := Lib.hid (fd_no (t := t) hk)
    have hk2 : ¬ (0 ≤ idxOf (isD n) x.1) := by omega
    generalize hq : idxOf (isD n) x.1 = q at *
    clear hq
    go_wp2_with fail
    refine (specCacheLookup_c (RC.out.below (E1.trans (Below.mono (by repeat (first | (with_reducible exact Below.refl _ _) | refine Below.alloc ?_ (by simp; try omega) _ | refine Below.drew ?_ | refine Below.setCell ?_ (by simp; try omega) _)) E1.size))) (HN.out.below (E1.trans (Below.mono (by repeat (first | (with_reducible exact Below.refl _ _) | refine Below.alloc ?_ (by simp; try omega) _ | refine Below.drew ?_ | refine Below.setCell ?_ (by simp; try omega) _)) E1.size))) (t := t)).mono ?_
    rintro e w2 ⟨cd, rfl, O2, hb2⟩
    generalize hD : lkD n t x.2.1.2 = D at *
    have HD := Lib.hid (HT.out.2); clear hD
    obtain ⟨v0, v1, v2, rfl, d_0, d_1, d_2, d_3, d_4, d_5, d_6⟩ := RData_raw O2.raw
    obtain ⟨a0, p0, h0, _⟩ := Rep.len_raw d_1; obtain rfl : v0 = _ := by simpa using h0
    obtain ⟨a1, p1, h1, _⟩ := Rep.len_raw d_2; obtain rfl : v1 = _ := by simpa using h1
    obtain ⟨a2, p2, h2, _⟩ := Rep.len_raw d_4; obtain rfl : v2 = _ := by simpa using h2
    clear h0 h1 h2 d_0 d_1 d_2 d_3 d_4 d_5 d_6
    have EF : Below w.heap.size w w2 := E1.trans (Below.mono (Below.trans (by repeat (first | (with_reducible exact Below.refl _ _) | refine Below.alloc ?_ (by simp; try omega) _ | refine Below.drew ?_ | refine Below.setCell ?_ (by simp; try omega) _)) hb2) E1.size)
    have HO := Lib.hid O2
    have hgz := E1.size
    have X1 := keepBox XR.out (Below.trans (by repeat (first | (with_reducible exact Below.refl _ _) | refine Below.alloc ?_ (by simp; try omega) _ | refine Below.drew ?_ | refine Below.setCell ?_ (by simp; try omega) _)) hb2)
    clear O2 hb2 E1 K0 K1 K2 N0 XR
    have R0 := boxCell (b := w.heap.size + 2) X1 (j := 0) rfl
    have F0 := frozen_of_row w2 (w.heap.size + 2) 0 _ _ X1
    have R1 := boxCell (b := w.heap.size + 2) X1 (j := 1) rfl
    have F1 := frozen_of_row w2 (w.heap.size + 2) 1 _ _ X1
    have R2 := boxCell (b := w.heap.size + 2) X1 (j := 2) rfl
    have F2 := frozen_of_row w2 (w.heap.size + 2) 2 _ _ X1
    have R3 := boxCell (b := w.heap.size + 2) X1 (j := 3) rfl
    have F3 := frozen_of_row w2 (w.heap.size + 2) 3 _ _ X1
    have R4 := boxCell (b := w.heap.size + 2) X1 (j := 4) rfl
    have F4 := frozen_of_row w2 (w.heap.size + 2) 4 _ _ X1
    go_wp2
    refine bodyPost_ret (v := .tuple #[.agg #[.slice a0 D.1.length p0, .slice a1 D.2.1.length p1, .slice a2 D.2.2.1.length p2, .int .i64 D.2.2.2.1, .int .i64 D.2.2.2.2], .bool (lkOk n t x.2.1.2)]) (by simp [results, Try.results7, go_sem, R0, F0, R1, F1, R2, F2, R3, F3, R4, F4]) rfl ⟨[_, _, _, _, _], by rw [HT.out.1], ?_, ?_⟩
    · rw [HD.out]
      exact (Rep.own.out HO.out (fun j h1 h2 => by simp (discharger := (simp; omega)) only [heap_setCell_other])).wide (fun j hj => ⟨by have := hj.1; omega, by simpa [World.setCell] using hj.2⟩)
    · repeat (first | (with_reducible exact EF) | refine Below.setCell ?_ (by first | omega | (simp; try omega)) _)
  · obtain ⟨k, hkl, hki⟩ := idxOf_atD hk
    have HT := Lib.hid (fd_yes (t := t) hkl hki)
    rw [hki]
    clear hk hki
    have hk0 := Int.natCast_nonneg k
    have hk2 := Int.ofNat_lt.2 hkl
    obtain ⟨qb, qo, rfl, qc0, qc1, qc2, qc3, qc4, qr, Aq0, Aq1, Aq2, Aq3, Aq4⟩ := Rep.get5 (RA.out.1.below E1) hkl rfl
    have qbd := Rep.raw_bdd RA.out hkl
    clear RA
    generalize x.1[k] = D at *
    have HD := Lib.hid HT.out.2
    obtain ⟨qv0, qv1, qv2, qhe, q_0, q_1, q_2, q_3, q_4, q_5, q_6⟩ := RData_raw qr
    simp only [List.cons.injEq, and_true] at qhe
    obtain ⟨rfl, rfl, rfl, rfl, rfl⟩ := qhe
    have HR := Lib.hid (show RData.rd w1 _ D from ⟨qr, qbd⟩)
    clear qr qbd q_0 q_1 q_2 q_3 q_4 q_5 q_6
    go_wp2_with fail
    refine (specl8Copy_c (HR.out.below (by repeat (first | (with_reducible exact Below.refl _ _) | refine Below.alloc ?_ (by simp; try omega) _ | refine Below.drew ?_ | refine Below.setCell ?_ (by simp; try omega) _)))).mono ?_
    rintro e w2 ⟨cd, rfl, O2, hb2⟩
    clear HR Aq0 Aq1 Aq2 Aq3 Aq4
    obtain ⟨v0, v1, v2, rfl, d_0, d_1, d_2, d_3, d_4, d_5, d_6⟩ := RData_raw O2.raw
    obtain ⟨a0, p0, h0, _⟩ := Rep.len_raw d_1; obtain rfl : v0 = _ := by simpa using h0
    obtain ⟨a1, p1, h1, _⟩ := Rep.len_raw d_2; obtain rfl : v1 = _ := by simpa using h1
    obtain ⟨a2, p2, h2, _⟩ := Rep.len_raw d_4; obtain rfl : v2 = _ := by simpa using h2
    clear h0 h1 h2 d_0 d_1 d_2 d_3 d_4 d_5 d_6
    have EF : Below w.heap.size w w2 := E1.trans (Below.mono (Below.trans (by repeat (first | (with_reducible exact Below.refl _ _) | refine Below.alloc ?_ (by simp; try omega) _ | refine Below.drew ?_ | refine Below.setCell ?_ (by simp; try omega) _)) hb2) E1.size)
    have HO := Lib.hid O2
    have hgz := E1.size
    have X1 := keepBox XR.out (Below.trans (by repeat (first | (with_reducible exact Below.refl _ _) | refine Below.alloc ?_ (by simp; try omega) _ | refine Below.drew ?_ | refine Below.setCell ?_ (by simp; try omega) _)) hb2)
    clear O2 hb2 E1 K0 K1 K2 N0 XR
    have R0 := boxCell (b := w.heap.size + 2) X1 (j := 0) rfl
    have F0 := frozen_of_row w2 (w.heap.size + 2) 0 _ _ X1
    have R1 := boxCell (b := w.heap.size + 2) X1 (j := 1) rfl
    have F1 := frozen_of_row w2 (w.heap.size + 2) 1 _ _ X1
    have R2 := boxCell (b := w.heap.size + 2) X1 (j := 2) rfl
    have F2 := frozen_of_row w2 (w.heap.size + 2) 2 _ _ X1
    have R3 := boxCell (b := w.heap.size + 2) X1 (j := 3) rfl
    have F3 := frozen_of_row w2 (w.heap.size + 2) 3 _ _ X1
    have R4 := boxCell (b := w.heap.size + 2) X1 (j := 4) rfl
    have F4 := frozen_of_row w2 (w.heap.size + 2) 4 _ _ X1
    go_wp2
    refine bodyPost_ret (v := .tuple #[.agg #[.slice a0 D.1.length p0, .slice a1 D.2.1.length p1, .slice a2 D.2.2.1.length p2, .int .i64 D.2.2.2.1, .int .i64 D.2.2.2.2], .bool true]) (by simp [results, Try.results7, go_sem, R0, F0, R1, F1, R2, F2, R3, F3, R4, F4]) rfl ⟨[_, _, _, _, _], by rw [HT.out.1], ?_, ?_⟩
    · rw [HD.out]
      exact (Rep.own.out HO.out (fun j h1 h2 => by simp (discharger := (simp; omega)) only [heap_setCell_other])).wide (fun j hj => ⟨by have := hj.1; omega, by simpa [World.setCell] using hj.2⟩)
    · repeat (first | (with_reducible exact EF) | refine Below.setCell ?_ (by first | omega | (simp; try omega)) _)
set_option maxRecDepth 100000 in
set_option maxHeartbeats 4000000 in
theorem implFindData_c {w : World} {cx : List Value} {x : LNode} (hx : RNode.rd w cx x) {cn : List Value} {n : LName} (hn : RName.rd w cn n) {t : Int} (ht : -9223372036854775808 ≤ t ∧ t ≤ 9223372036854775807) :
    Calls Try.prog 10 #[.agg cx.toArray, .agg cn.toArray, .int .i64 t] w fun e w' => ∃ ds, e = .returned (.tuple #[.agg ds.toArray, .bool (fdOk n t x)]) ∧ RData.own w' ds (fdD n t x) (Btw w.heap.size w'.heap.size) ∧ Below w.heap.size w w' := by
  clear ht
  have HN := Lib.hid hn
  obtain ⟨q1, q2, q3⟩ := hx.2
  obtain ⟨av0, av2, av3, av4, av5, av6, rfl, a_0, a_1, a_2, a_3, a_4, a_5, a_6, a_7, a_8⟩ := RNode_raw hx.1
  obtain ⟨aa0, ap0, ah0, _⟩ := Rep.len_raw a_0; obtain rfl : av0 = _ := by simpa using ah0
  clear ah0
  obtain ⟨aa2, ap2, ah2, _⟩ := Rep.len_raw a_3; obtain rfl : av2 = _ := by simpa using ah2
  clear ah2
  obtain ⟨aa3, ap3, ah3, _⟩ := Rep.len_raw a_4; obtain rfl : av3 = _ := by simpa using ah3
  clear ah3
  obtain ⟨aa4, ap4, ah4, _⟩ := Rep.len_raw a_5; obtain rfl : av4 = _ := by simpa using ah4
  clear ah4
  obtain ⟨aa5, ap5, ah5, _⟩ := Rep.len_raw a_6; obtain rfl : av5 = _ := by simpa using ah5
  clear ah5
  obtain ⟨aa6, ap6, ah6, _⟩ := Rep.len_raw a_7; obtain rfl : av6 = _ := by simpa using ah6
  clear ah6
  have RA : Hid ((Rep.slice 40 RData).rd w [.slice aa0 x.1.length ap0] x.1) := Lib.hid ⟨a_0, q1⟩
  have RC : Hid (RContentStore.rd w [.int .i64 x.2.1.1, .slice aa2 x.2.1.2.length ap2] x.2.1) := Lib.hid ⟨a_1, q2⟩
  clear hx q1 q2 q3 a_0 a_1 a_2 a_3 a_4 a_5 a_6 a_7 a_8
  obtain ⟨nv, rfl, n_0⟩ := RName_raw hn.1
  obtain ⟨an, capn, hvn, _⟩ := Rep.len_raw n_0; obtain rfl : nv = _ := by simpa using hvn
  clear hvn hn n_0
  go_enter Try.func10, Try.ntmps10
  go_upto_region 1 with fail
  generalize hwB : World.alloc (World.alloc (World.alloc w _) _) _ = wB
  have EB : Below w.heap.size w wB := by rw [← hwB]; exact (by repeat (first | (with_reducible exact Below.refl _ _) | refine Below.alloc ?_ (by simp; try omega) _ | refine Below.drew ?_ | refine Below.setCell ?_ (by simp; try omega) _))
  have hsz : wB.heap.size = w.heap.size + 3 := by rw [← hwB]; simp
  have K0 : wB.cell? ⟨w.heap.size, 0, none⟩ = some (.slice aa0 x.1.length ap0) := by rw [← hwB]; simp [go_sem]
  have K1 : wB.cell? ⟨w.heap.size, 1, none⟩ = some (.int .i64 x.2.1.1) := by rw [← hwB]; simp [go_sem]
  have K2 : wB.cell? ⟨w.heap.size, 2, none⟩ = some (.slice aa2 x.2.1.2.length ap2) := by rw [← hwB]; simp [go_sem]
  have N0 : wB.cell? ⟨w.heap.size + 1, 0, none⟩ = some (.slice an n.length capn) := by rw [← hwB]; simp [go_sem]
  have XR : Hid (wB.heap[w.heap.size + 2]? = some (.cells #[.slice none 0 0, .slice none 0 0, .slice none 0 0, .int .i64 0, .int .i64 0] 40 (0, 0))) := Lib.hid (by rw [← hwB]; exact heap_new_at (by simp))
  clear hwB
  go_wp2_with fail
  refine (impllocalAt_c (RA.out.1.below EB) (HN.out.1.below EB)).mono ?_
  rintro e w1 ⟨rfl, hb1⟩
  have E1 := EB.trans (hb1.mono EB.size)
  have hz1 := hb1.size
  replace K0 := cell_later hb1 K0
  replace K1 := cell_later hb1 K1
  replace K2 := cell_later hb1 K2
  replace N0 := cell_later hb1 N0
  replace XR := Lib.hid (keepBox XR.out hb1)
  clear hb1 EB
  by_cases hk : idxOf (isD n) x.1 < 0
  · have HT := Lib.hid (fd_no (t := t) hk)
    have hk2 : ¬ (0 ≤ idxOf (isD n) x.1) := by omega
    generalize hq : idxOf (isD n) x.1 = q at *
    clear hq
    go_wp2_with fail
    refine (implCacheLookup_c (RC.out.below (E1.trans (Below.mono (by repeat (first | (with_reducible exact Below.refl _ _) | refine Below.alloc ?_ (by simp; try omega) _ | refine Below.drew ?_ | refine Below.setCell ?_ (by simp; try omega) _)) E1.size))) (HN.out.below (E1.trans (Below.mono (by repeat (first | (with_reducible exact Below.refl _ _) | refine Below.alloc ?_ (by simp; try omega) _ | refine Below.drew ?_ | refine Below.setCell ?_ (by simp; try omega) _)) E1.size))) (t := t)).mono ?_
    rintro e w2 ⟨cd, rfl, O2, hb2⟩
    generalize hD : lkD n t x.2.1.2 = D at *
    have HD := Lib.hid (HT.out.2); clear hD
    obtain ⟨v0, v1, v2, rfl, d_0, d_1, d_2, d_3, d_4, d_5, d_6⟩ := RData_raw O2.raw
    obtain ⟨a0, p0, h0, _⟩ := Rep.len_raw d_1; obtain rfl : v0 = _ := by simpa using h0
    obtain ⟨a1, p1, h1, _⟩ := Rep.len_raw d_2; obtain rfl : v1 = _ := by simpa using h1
    obtain ⟨a2, p2, h2, _⟩ := Rep.len_raw d_4; obtain rfl : v2 = _ := by simpa using h2
    clear h0 h1 h2 d_0 d_1 d_2 d_3 d_4 d_5 d_6
    have EF : Below w.heap.size w w2 := E1.trans (Below.mono (Below.trans (by repeat (first | (with_reducible exact Below.refl _ _) | refine Below.alloc ?_ (by simp; try omega) _ | refine Below.drew ?_ | refine Below.setCell ?_ (by simp; try omega) _)) hb2) E1.size)
    have HO := Lib.hid O2
    have hgz := E1.size
    have X1 := keepBox XR.out (Below.trans (by repeat (first | (with_reducible exact Below.refl _ _) | refine Below.alloc ?_ (by simp; try omega) _ | refine Below.drew ?_ | refine Below.setCell ?_ (by simp; try omega) _)) hb2)
    clear O2 hb2 E1 K0 K1 K2 N0 XR
    have R0 := boxCell (b := w.heap.size + 2) X1 (j := 0) rfl
    have F0 := frozen_of_row w2 (w.heap.size + 2) 0 _ _ X1
    have R1 := boxCell (b := w.heap.size + 2) X1 (j := 1) rfl
    have F1 := frozen_of_row w2 (w.heap.size + 2) 1 _ _ X1
    have R2 := boxCell (b := w.heap.size + 2) X1 (j := 2) rfl
    have F2 := frozen_of_row w2 (w.heap.size + 2) 2 _ _ X1
    have R3 := boxCell (b := w.heap.size + 2) X1 (j := 3) rfl
    have F3 := frozen_of_row w2 (w.heap.size + 2) 3 _ _ X1
    have R4 := boxCell (b := w.heap.size + 2) X1 (j := 4) rfl
    have F4 := frozen_of_row w2 (w.heap.size + 2) 4 _ _ X1
    go_wp2
    refine bodyPost_ret (v := .tuple #[.agg #[.slice a0 D.1.length p0, .slice a1 D.2.1.length p1, .slice a2 D.2.2.1.length p2, .int .i64 D.2.2.2.1, .int .i64 D.2.2.2.2], .bool (lkOk n t x.2.1.2)]) (by simp [results, Try.results10, go_sem, R0, F0, R1, F1, R2, F2, R3, F3, R4, F4]) rfl ⟨[_, _, _, _, _], by rw [HT.out.1], ?_, ?_⟩
    · rw [HD.out]
      exact (Rep.own.out HO.out (fun j h1 h2 => by simp (discharger := (simp; omega)) only [heap_setCell_other])).wide (fun j hj => ⟨by have := hj.1; omega, by simpa [World.setCell] using hj.2⟩)
    · repeat (first | (with_reducible exact EF) | refine Below.setCell ?_ (by first | omega | (simp; try omega)) _)
  · obtain ⟨k, hkl, hki⟩ := idxOf_atD hk
    have HT := Lib.hid (fd_yes (t := t) hkl hki)
    rw [hki]
    clear hk hki
    have hk0 := Int.natCast_nonneg k
    have hk2 := Int.ofNat_lt.2 hkl
    obtain ⟨qb, qo, rfl, qc0, qc1, qc2, qc3, qc4, qr, Aq0, Aq1, Aq2, Aq3, Aq4⟩ := Rep.get5 (RA.out.1.below E1) hkl rfl
    have qbd := Rep.raw_bdd RA.out hkl
    clear RA
    generalize x.1[k] = D at *
    have HD := Lib.hid HT.out.2
    obtain ⟨qv0, qv1, qv2, qhe, q_0, q_1, q_2, q_3, q_4, q_5, q_6⟩ := RData_raw qr
    simp only [List.cons.injEq, and_true] at qhe
    obtain ⟨rfl, rfl, rfl, rfl, rfl⟩ := qhe
    have HR := Lib.hid (show RData.rd w1 _ D from ⟨qr, qbd⟩)
    clear qr qbd q_0 q_1 q_2 q_3 q_4 q_5 q_6
    go_wp2_with fail
    refine (implcopyData_c (HR.out.below (by repeat (first | (with_reducible exact Below.refl _ _) | refine Below.alloc ?_ (by simp; try omega) _ | refine Below.drew ?_ | refine Below.setCell ?_ (by simp; try omega) _)))).mono ?_
    rintro e w2 ⟨cd, rfl, O2, hb2⟩
    clear HR Aq0 Aq1 Aq2 Aq3 Aq4
    obtain ⟨v0, v1, v2, rfl, d_0, d_1, d_2, d_3, d_4, d_5, d_6⟩ := RData_raw O2.raw
    obtain ⟨a0, p0, h0, _⟩ := Rep.len_raw d_1; obtain rfl : v0 = _ := by simpa using h0
    obtain ⟨a1, p1, h1, _⟩ := Rep.len_raw d_2; obtain rfl : v1 = _ := by simpa using h1
    obtain ⟨a2, p2, h2, _⟩ := Rep.len_raw d_4; obtain rfl : v2 = _ := by simpa using h2
    clear h0 h1 h2 d_0 d_1 d_2 d_3 d_4 d_5 d_6
    have EF : Below w.heap.size w w2 := E1.trans (Below.mono (Below.trans (by repeat (first | (with_reducible exact Below.refl _ _) | refine Below.alloc ?_ (by simp; try omega) _ | refine Below.drew ?_ | refine Below.setCell ?_ (by simp; try omega) _)) hb2) E1.size)
    have HO := Lib.hid O2
    have hgz := E1.size
    have X1 := keepBox XR.out (Below.trans (by repeat (first | (with_reducible exact Below.refl _ _) | refine Below.alloc ?_ (by simp; try omega) _ | refine Below.drew ?_ | refine Below.setCell ?_ (by simp; try omega) _)) hb2)
    clear O2 hb2 E1 K0 K1 K2 N0 XR
    have R0 := boxCell (b := w.heap.size + 2) X1 (j := 0) rfl
    have F0 := frozen_of_row w2 (w.heap.size + 2) 0 _ _ X1
    have R1 := boxCell (b := w.heap.size + 2) X1 (j := 1) rfl
    have F1 := frozen_of_row w2 (w.heap.size + 2) 1 _ _ X1
    have R2 := boxCell (b := w.heap.size + 2) X1 (j := 2) rfl
    have F2 := frozen_of_row w2 (w.heap.size + 2) 2 _ _ X1
    have R3 := boxCell (b := w.heap.size + 2) X1 (j := 3) rfl
    have F3 := frozen_of_row w2 (w.heap.size + 2) 3 _ _ X1
    have R4 := boxCell (b := w.heap.size + 2) X1 (j := 4) rfl
    have F4 := frozen_of_row w2 (w.heap.size + 2) 4 _ _ X1
    go_wp2
    refine bodyPost_ret (v := .tuple #[.agg #[.slice a0 D.1.length p0, .slice a1 D.2.1.length p1, .slice a2 D.2.2.1.length p2, .int .i64 D.2.2.2.1, .int .i64 D.2.2.2.2], .bool true]) (by simp [results, Try.results10, go_sem, R0, F0, R1, F1, R2, F2, R3, F3, R4, F4]) rfl ⟨[_, _, _, _, _], by rw [HT.out.1], ?_, ?_⟩
    · rw [HD.out]
      exact (Rep.own.out HO.out (fun j h1 h2 => by simp (discharger := (simp; omega)) only [heap_setCell_other])).wide (fun j hj => ⟨by have := hj.1; omega, by simpa [World.setCell] using hj.2⟩)
    · repeat (first | (with_reducible exact EF) | refine Below.setCell ?_ (by first | omega | (simp; try omega)) _)
end Go.Proofs.Ytaphafmkidjakaa

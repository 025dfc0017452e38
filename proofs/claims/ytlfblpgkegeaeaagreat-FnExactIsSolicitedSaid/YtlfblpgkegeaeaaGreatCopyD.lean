/-
  Copies of interests and data.
-/
import Derived.Test.YtlfblpgkegeaeaaGreatMade
import Derived.Test.YtlfblpgkegeaeaaGreatCopy
import Derived.Test.YtlfblpgkegeaeaaGreatClone
import Derived.Test.YtlfblpgkegeaeaaGreatInfo
import Derived.Test.YtlfblpgkegeaeaaGreatSoft2
import Derived.IntWalk
import Derived.Deep.Cut
import Derived.WalkSpells
import Derived.WalkLawsBesides
namespace Go.Proofs.YtlfblpgkegeaeaaGreat
open Go.RowKit
set_option linter.unusedVariables false
set_option linter.unusedSimpArgs false
set_option linter.unnecessarySimpa false
set_option maxRecDepth 100000 in
set_option maxHeartbeats 4000000 in
theorem implcopyData_c {w : World} {cx : List Value} {x : LData} (hx : RData.rd w cx x) : Calls Tryz.prog 72 #[.agg cx.toArray] w (MadeAgg RData x w) := by
  obtain ⟨hx, hbd⟩ := hx
  obtain ⟨v0, v1, v2, rfl, a_0, a_1, a_2, a_3, a_4, a_5, a_6⟩ := RData_raw hx
  obtain ⟨x0, x1, x2, x3, x4⟩ := x
  obtain ⟨a0, p0, h0, _⟩ := Rep.len_raw a_1; obtain rfl : v0 = _ := by simpa using h0
  clear h0
  obtain ⟨a1, p1, h1, _⟩ := Rep.len_raw a_2; obtain rfl : v1 = _ := by simpa using h1
  clear h1
  obtain ⟨a2, p2, h2, _⟩ := Rep.len_raw a_4; obtain rfl : v2 = _ := by simpa using h2
  clear h2
  have r0 : RName.rd w _ x0 := ⟨a_0, hbd.1⟩
  have r1 : (Rep.slice 5 Rep.byte).rd w _ x1 := ⟨a_2, hbd.2.1⟩
  have r2 : RName.rd w _ x2 := ⟨a_3, hbd.2.2.1⟩
  have N3 := Lib.hid a_5
  have N4 := Lib.hid a_6
  clear hbd hx a_0 a_1 a_2 a_3 a_4 a_5 a_6
  go_enter Tryz.func72, Tryz.ntmps72
  go_upto_region 1 with fail
  generalize hwB : World.alloc (World.alloc w _) _ = v0
  have E0 : Below w.heap.size w v0 := by rw [← hwB]; exact (by repeat (first | (with_reducible exact Below.refl _ _) | refine Below.alloc ?_ (by simp; try omega) _ | refine Below.drew ?_ | refine Below.setCell ?_ (by simp; try omega) _))
  have hz0 : v0.heap.size = w.heap.size + 2 := by rw [← hwB]; simp
  have XT : Hid (v0.heap[w.heap.size]? = some (.cells #[.slice a0 (x0).length p0, .slice a1 x1.length p1, .slice a2 (x2).length p2, .int .i64 x3, .int .i64 x4] 66 (0, 0))) := Lib.hid (by rw [← hwB]; exact heap_keep (heap_new_at rfl))
  have XR : Hid (v0.heap[w.heap.size + 1]? = some (.cells #[.slice none 0 0, .slice none 0 0, .slice none 0 0, .int .i64 0, .int .i64 0] 66 (0, 0))) := Lib.hid (by rw [← hwB]; exact heap_new_at (by simp))
  clear hwB
  have K0_0 := boxCell (b := w.heap.size) XT.out (j := 0) (v := .slice a0 (x0).length p0) rfl
  go_wp2_with fail
  refine (implcopyName_c (r0.below E0)).mono ?_
  rintro e w1 ⟨tc, rfl, O1, hb1⟩
  obtain ⟨t1v0, rfl, t1_0⟩ := RName_raw O1.raw
  obtain ⟨t1a0, t1p0, t1h0, t1l0⟩ := Rep.len_raw t1_0; obtain rfl : t1v0 = _ := by simpa using t1h0
  clear t1h0
  clear t1_0
  have HO1 := Lib.hid O1; clear O1
  have hz1 := hb1.size
  have F1 := E0.trans (hb1.mono E0.size)
  replace XT := Lib.hid (keepBox XT.out hb1)
  replace XR := Lib.hid (keepBox XR.out hb1)
  clear hb1 K0_0
  have M1_0 := boxCell (b := w.heap.size) XT.out (j := 0) (v := .slice a0 (x0).length p0) rfl
  have Z1_0 := frozen_of_row w1 (w.heap.size) 0 _ _ XT.out
  go_upto_region 2 with fail
  generalize hws : (w1.setCell ⟨w.heap.size, 0, none⟩ (.slice t1a0 x0.length t1p0)) = v1
  have XT2 : v1.heap[w.heap.size]? = some (.cells #[.slice t1a0 x0.length t1p0, .slice a1 x1.length p1, .slice a2 (x2).length p2, .int .i64 x3, .int .i64 x4] 66 (0, 0)) := by
    rw [← hws]
    have y0 := heap_setCell_same _ (w.heap.size) 0 _ 66 (.slice t1a0 x0.length t1p0) XT.out
    exact y0
  replace XR := Lib.hid (show v1.heap[w.heap.size + 1]? = some (.cells #[.slice none 0 0, .slice none 0 0, .slice none 0 0, .int .i64 0, .int .i64 0] 66 (0, 0)) from by rw [← hws]; exact ((heap_setCell_other _ ⟨w.heap.size, 0, none⟩ (w.heap.size + 1) _ (show w.heap.size + 1 ≠ w.heap.size by omega)).trans XR.out))
  replace XT := Lib.hid XT2; clear XT2
  have E1 : Below w.heap.size w v1 := by rw [← hws]; exact (F1.setCell (by first | omega | (simp; done) | (simp; omega)) _)
  have HY1 : Hid (v1.heap.size = w1.heap.size) := Lib.hid (by rw [← hws]; simp [World.setCell])
  replace HO1 := Lib.hid (Rep.own.out (w' := v1) HO1.out (fun j h1 h2 => by rw [← hws]; simp (discharger := (simp; omega)) only [heap_setCell_other]))
  clear hws F1 M1_0 Z1_0
  have K1_0 := boxCell (b := w.heap.size) XT.out (j := 1) (v := .slice a1 x1.length p1) rfl
  go_wp2_with fail
  refine (Clone_byte_c (r1.below E1)).mono ?_
  rintro e w2 ⟨tv, rfl, O2, hb2⟩
  obtain ⟨ta2, tp2, htv, _⟩ := Rep.len_raw O2.raw; obtain rfl : tv = _ := by simpa using htv
  clear htv
  have HO2 := Lib.hid O2; clear O2
  have hz2 := hb2.size
  have F2 := E1.trans (hb2.mono E1.size)
  replace XT := Lib.hid (keepBox XT.out hb2)
  replace XR := Lib.hid (keepBox XR.out hb2)
  replace HO1 := Lib.hid (HO1.out.below hb2)
  clear hb2 K1_0
  have M2_0 := boxCell (b := w.heap.size) XT.out (j := 1) (v := .slice a1 x1.length p1) rfl
  have Z2_0 := frozen_of_row w2 (w.heap.size) 1 _ _ XT.out
  go_upto_region 3 with fail
  generalize hws : (w2.setCell ⟨w.heap.size, 1, none⟩ (.slice ta2 x1.length tp2)) = v2
  have XT2 : v2.heap[w.heap.size]? = some (.cells #[.slice t1a0 x0.length t1p0, .slice ta2 x1.length tp2, .slice a2 (x2).length p2, .int .i64 x3, .int .i64 x4] 66 (0, 0)) := by
    rw [← hws]
    have y0 := heap_setCell_same _ (w.heap.size) 1 _ 66 (.slice ta2 x1.length tp2) XT.out
    exact y0
  replace XR := Lib.hid (show v2.heap[w.heap.size + 1]? = some (.cells #[.slice none 0 0, .slice none 0 0, .slice none 0 0, .int .i64 0, .int .i64 0] 66 (0, 0)) from by rw [← hws]; exact ((heap_setCell_other _ ⟨w.heap.size, 1, none⟩ (w.heap.size + 1) _ (show w.heap.size + 1 ≠ w.heap.size by omega)).trans XR.out))
  replace XT := Lib.hid XT2; clear XT2
  have E2 : Below w.heap.size w v2 := by rw [← hws]; exact (F2.setCell (by first | omega | (simp; done) | (simp; omega)) _)
  have HY2 : Hid (v2.heap.size = w2.heap.size) := Lib.hid (by rw [← hws]; simp [World.setCell])
  replace HO1 := Lib.hid (Rep.own.out (w' := v2) HO1.out (fun j h1 h2 => by have := HY1.out; rw [← hws]; simp (discharger := (simp; omega)) only [heap_setCell_other]))
  replace HO2 := Lib.hid (Rep.own.out (w' := v2) HO2.out (fun j h1 h2 => by have := HY1.out; rw [← hws]; simp (discharger := (simp; omega)) only [heap_setCell_other]))
  clear hws F2 M2_0 Z2_0
  have K2_0 := boxCell (b := w.heap.size) XT.out (j := 2) (v := .slice a2 (x2).length p2) rfl
  go_wp2_with fail
  refine (implcopyName_c (r2.below E2)).mono ?_
  rintro e w3 ⟨tc, rfl, O3, hb3⟩
  obtain ⟨t3v0, rfl, t3_0⟩ := RName_raw O3.raw
  obtain ⟨t3a0, t3p0, t3h0, t3l0⟩ := Rep.len_raw t3_0; obtain rfl : t3v0 = _ := by simpa using t3h0
  clear t3h0
  clear t3_0
  have HO3 := Lib.hid O3; clear O3
  have hz3 := hb3.size
  have F3 := E2.trans (hb3.mono E2.size)
  replace XT := Lib.hid (keepBox XT.out hb3)
  replace XR := Lib.hid (keepBox XR.out hb3)
  replace HO1 := Lib.hid (HO1.out.below hb3)
  replace HO2 := Lib.hid (HO2.out.below hb3)
  clear hb3 K2_0
  have M3_0 := boxCell (b := w.heap.size) XT.out (j := 2) (v := .slice a2 (x2).length p2) rfl
  have Z3_0 := frozen_of_row w3 (w.heap.size) 2 _ _ XT.out
  go_upto_region 4 with fail
  generalize hws : (w3.setCell ⟨w.heap.size, 2, none⟩ (.slice t3a0 x2.length t3p0)) = v3
  have XT2 : v3.heap[w.heap.size]? = some (.cells #[.slice t1a0 x0.length t1p0, .slice ta2 x1.length tp2, .slice t3a0 x2.length t3p0, .int .i64 x3, .int .i64 x4] 66 (0, 0)) := by
    rw [← hws]
    have y0 := heap_setCell_same _ (w.heap.size) 2 _ 66 (.slice t3a0 x2.length t3p0) XT.out
    exact y0
  replace XR := Lib.hid (show v3.heap[w.heap.size + 1]? = some (.cells #[.slice none 0 0, .slice none 0 0, .slice none 0 0, .int .i64 0, .int .i64 0] 66 (0, 0)) from by rw [← hws]; exact ((heap_setCell_other _ ⟨w.heap.size, 2, none⟩ (w.heap.size + 1) _ (show w.heap.size + 1 ≠ w.heap.size by omega)).trans XR.out))
  replace XT := Lib.hid XT2; clear XT2
  have E3 : Below w.heap.size w v3 := by rw [← hws]; exact (F3.setCell (by first | omega | (simp; done) | (simp; omega)) _)
  have HY3 : Hid (v3.heap.size = w3.heap.size) := Lib.hid (by rw [← hws]; simp [World.setCell])
  replace HO1 := Lib.hid (Rep.own.out (w' := v3) HO1.out (fun j h1 h2 => by have := HY1.out; have := HY2.out; rw [← hws]; simp (discharger := (simp; omega)) only [heap_setCell_other]))
  replace HO2 := Lib.hid (Rep.own.out (w' := v3) HO2.out (fun j h1 h2 => by have := HY1.out; have := HY2.out; rw [← hws]; simp (discharger := (simp; omega)) only [heap_setCell_other]))
  replace HO3 := Lib.hid (Rep.own.out (w' := v3) HO3.out (fun j h1 h2 => by have := HY1.out; have := HY2.out; rw [← hws]; simp (discharger := (simp; omega)) only [heap_setCell_other]))
  clear hws F3 M3_0 Z3_0
  have K0 := boxCell (b := w.heap.size) XT.out (j := 0) (v := .slice t1a0 x0.length t1p0) rfl
  have R0 := boxCell (b := w.heap.size + 1) XR.out (j := 0) rfl
  have Z0 := frozen_of_row v3 (w.heap.size + 1) 0 _ _ XR.out
  have K1 := boxCell (b := w.heap.size) XT.out (j := 1) (v := .slice ta2 x1.length tp2) rfl
  have R1 := boxCell (b := w.heap.size + 1) XR.out (j := 1) rfl
  have Z1 := frozen_of_row v3 (w.heap.size + 1) 1 _ _ XR.out
  have K2 := boxCell (b := w.heap.size) XT.out (j := 2) (v := .slice t3a0 x2.length t3p0) rfl
  have R2 := boxCell (b := w.heap.size + 1) XR.out (j := 2) rfl
  have Z2 := frozen_of_row v3 (w.heap.size + 1) 2 _ _ XR.out
  have K3 := boxCell (b := w.heap.size) XT.out (j := 3) (v := .int .i64 x3) rfl
  have R3 := boxCell (b := w.heap.size + 1) XR.out (j := 3) rfl
  have Z3 := frozen_of_row v3 (w.heap.size + 1) 3 _ _ XR.out
  have K4 := boxCell (b := w.heap.size) XT.out (j := 4) (v := .int .i64 x4) rfl
  have R4 := boxCell (b := w.heap.size + 1) XR.out (j := 4) rfl
  have Z4 := frozen_of_row v3 (w.heap.size + 1) 4 _ _ XR.out
  go_wp2
  have hy1 := HY1.out
  have hy2 := HY2.out
  have hy3 := HY3.out
  refine bodyPost_ret (v := .agg #[.slice t1a0 x0.length t1p0, .slice ta2 x1.length tp2, .slice t3a0 x2.length t3p0, .int .i64 x3, .int .i64 x4]) (by simp [results, Tryz.results72, go_sem, R0, Z0, R1, Z1, R2, Z2, R3, Z3, R4, Z4]) rfl ⟨[_, _, _, _, _], rfl, ?_, ?_⟩
  · refine Rep.own.wide (S := Btw (v0.heap.size) (w3.heap.size)) ?_ (fun j hj => ⟨by have := hj.1; omega, by have := hj.2; simp [World.setCell]; omega⟩)
    exact Rep.own_pair (r := RName) (q := (Rep.pair (Rep.slice 5 Rep.byte) (Rep.pair RName (Rep.pair Rep.int Rep.int)))) (cs := [.slice t1a0 x0.length t1p0]) (ds := [.slice ta2 x1.length tp2, .slice t3a0 x2.length t3p0, .int .i64 x3, .int .i64 x4]) (x := x0) (y := (x1, x2, x3, x4)) (S := Btw (v0.heap.size) (w3.heap.size)) (Rep.own.out HO1.out (fun j h1 h2 => by simp (discharger := (simp; omega)) only [heap_setCell_other])) (Rep.own_pair (r := (Rep.slice 5 Rep.byte)) (q := (Rep.pair RName (Rep.pair Rep.int Rep.int))) (cs := [.slice ta2 x1.length tp2]) (ds := [.slice t3a0 x2.length t3p0, .int .i64 x3, .int .i64 x4]) (x := x1) (y := (x2, x3, x4)) (S := Btw (v1.heap.size) (w3.heap.size)) (Rep.own.out HO2.out (fun j h1 h2 => by simp (discharger := (simp; omega)) only [heap_setCell_other])) (Rep.own_flat (r := RName) (q := (Rep.pair Rep.int Rep.int)) (cs := [.slice t3a0 x2.length t3p0]) (ds := [.int .i64 x3, .int .i64 x4]) (x := x2) (y := (x3, x4)) (Rep.own.out HO3.out (fun j h1 h2 => by simp (discharger := (simp; omega)) only [heap_setCell_other])) (Rep.flat_pair (r := Rep.int) (q := Rep.int) (cs := [.int .i64 x3]) (ds := [.int .i64 x4]) (x := x3) (y := x4) (Rep.flat_int N3.out) (Rep.flat_int N4.out))) (fun j hj => ⟨by have := hj.1; omega, by have := hj.2; omega⟩) (fun j hj => ⟨by have := hj.1; omega, by have := hj.2; omega⟩) (fun j h1 h2 => by have p := h1.2; have q := h2.1; omega)) (fun j hj => ⟨by have := hj.1; omega, by have := hj.2; omega⟩) (fun j hj => ⟨by have := hj.1; omega, by have := hj.2; omega⟩) (fun j h1 h2 => by have p := h1.2; have q := h2.1; omega)
  · repeat (first | (with_reducible exact E3) | refine Below.setCell ?_ (by first | omega | (simp; try omega)) _)
set_option maxRecDepth 100000 in
set_option maxHeartbeats 4000000 in
theorem specl8Copy_c {w : World} {cx : List Value} {x : LData} (hx : RData.rd w cx x) : Calls Tryz.prog 64 #[.agg cx.toArray] w (MadeAgg RData x w) := by
  obtain ⟨hx, hbd⟩ := hx
  obtain ⟨v0, v1, v2, rfl, a_0, a_1, a_2, a_3, a_4, a_5, a_6⟩ := RData_raw hx
  obtain ⟨x0, x1, x2, x3, x4⟩ := x
  obtain ⟨a0, p0, h0, _⟩ := Rep.len_raw a_1; obtain rfl : v0 = _ := by simpa using h0
  clear h0
  obtain ⟨a1, p1, h1, _⟩ := Rep.len_raw a_2; obtain rfl : v1 = _ := by simpa using h1
  clear h1
  obtain ⟨a2, p2, h2, _⟩ := Rep.len_raw a_4; obtain rfl : v2 = _ := by simpa using h2
  clear h2
  have r0 : RName.rd w _ x0 := ⟨a_0, hbd.1⟩
  have r1 : (Rep.slice 5 Rep.byte).rd w _ x1 := ⟨a_2, hbd.2.1⟩
  have r2 : RName.rd w _ x2 := ⟨a_3, hbd.2.2.1⟩
  have N3 := Lib.hid a_5
  have N4 := Lib.hid a_6
  clear hbd hx a_0 a_1 a_2 a_3 a_4 a_5 a_6
  go_enter Tryz.func64, Tryz.ntmps64
  go_upto_region 2 with fail
  generalize hwB : World.alloc (World.alloc (World.alloc w _) _) _ = v0
  have E0 : Below w.heap.size w v0 := by rw [← hwB]; exact (by repeat (first | (with_reducible exact Below.refl _ _) | refine Below.alloc ?_ (by simp; try omega) _ | refine Below.drew ?_ | refine Below.setCell ?_ (by simp; try omega) _))
  have hz0 : v0.heap.size = w.heap.size + 3 := by rw [← hwB]; simp
  have XB : Hid (v0.heap[w.heap.size]? = some (.cells #[.slice a0 (x0).length p0, .slice a1 x1.length p1, .slice a2 (x2).length p2, .int .i64 x3, .int .i64 x4] 66 (0, 0))) := Lib.hid (by rw [← hwB]; exact heap_keep (heap_keep (heap_new_at rfl)))
  have XR : Hid (v0.heap[w.heap.size + 1]? = some (.cells #[.slice none 0 0, .slice none 0 0, .slice none 0 0, .int .i64 0, .int .i64 0] 66 (0, 0))) := Lib.hid (by rw [← hwB]; exact heap_keep (heap_new_at (by simp)))
  have XT : Hid (v0.heap[w.heap.size + 1 + 1]? = some (.cells #[.slice a0 (x0).length p0, .slice a1 x1.length p1, .slice a2 (x2).length p2, .int .i64 x3, .int .i64 x4] 66 (0, 0))) := Lib.hid (by rw [← hwB]; exact heap_new_at (by simp))
  clear hwB
  have K0_0 := boxCell (b := w.heap.size) XB.out (j := 0) (v := .slice a0 (x0).length p0) rfl
  go_wp2_with fail
  refine (specl4Copy_c (r0.below E0)).mono ?_
  rintro e w1 ⟨tc, rfl, O1, hb1⟩
  obtain ⟨t1v0, rfl, t1_0⟩ := RName_raw O1.raw
  obtain ⟨t1a0, t1p0, t1h0, t1l0⟩ := Rep.len_raw t1_0; obtain rfl : t1v0 = _ := by simpa using t1h0
  clear t1h0
  clear t1_0
  have HO1 := Lib.hid O1; clear O1
  have hz1 := hb1.size
  have F1 := E0.trans (hb1.mono E0.size)
  replace XB := Lib.hid (keepBox XB.out hb1)
  replace XT := Lib.hid (keepBox XT.out hb1)
  replace XR := Lib.hid (keepBox XR.out hb1)
  clear hb1 K0_0
  have M1_0 := boxCell (b := w.heap.size + 1 + 1) XT.out (j := 0) (v := .slice a0 (x0).length p0) rfl
  have Z1_0 := frozen_of_row w1 (w.heap.size + 1 + 1) 0 _ _ XT.out
  go_upto_region 3 with fail
  generalize hws : (w1.setCell ⟨w.heap.size + 1 + 1, 0, none⟩ (.slice t1a0 x0.length t1p0)) = v1
  have XT2 : v1.heap[w.heap.size + 1 + 1]? = some (.cells #[.slice t1a0 x0.length t1p0, .slice a1 x1.length p1, .slice a2 (x2).length p2, .int .i64 x3, .int .i64 x4] 66 (0, 0)) := by
    rw [← hws]
    have y0 := heap_setCell_same _ (w.heap.size + 1 + 1) 0 _ 66 (.slice t1a0 x0.length t1p0) XT.out
    exact y0
  replace XB := Lib.hid (show v1.heap[w.heap.size]? = some (.cells #[.slice a0 (x0).length p0, .slice a1 x1.length p1, .slice a2 (x2).length p2, .int .i64 x3, .int .i64 x4] 66 (0, 0)) from by rw [← hws]; exact ((heap_setCell_other _ ⟨w.heap.size + 1 + 1, 0, none⟩ (w.heap.size) _ (show w.heap.size ≠ w.heap.size + 1 + 1 by omega)).trans XB.out))
  replace XR := Lib.hid (show v1.heap[w.heap.size + 1]? = some (.cells #[.slice none 0 0, .slice none 0 0, .slice none 0 0, .int .i64 0, .int .i64 0] 66 (0, 0)) from by rw [← hws]; exact ((heap_setCell_other _ ⟨w.heap.size + 1 + 1, 0, none⟩ (w.heap.size + 1) _ (show w.heap.size + 1 ≠ w.heap.size + 1 + 1 by omega)).trans XR.out))
  replace XT := Lib.hid XT2; clear XT2
  have E1 : Below w.heap.size w v1 := by rw [← hws]; exact (F1.setCell (by first | omega | (simp; done) | (simp; omega)) _)
  have HY1 : Hid (v1.heap.size = w1.heap.size) := Lib.hid (by rw [← hws]; simp [World.setCell])
  replace HO1 := Lib.hid (Rep.own.out (w' := v1) HO1.out (fun j h1 h2 => by rw [← hws]; simp (discharger := (simp; omega)) only [heap_setCell_other]))
  clear hws F1 M1_0 Z1_0
  have K1_0 := boxCell (b := w.heap.size) XB.out (j := 1) (v := .slice a1 x1.length p1) rfl
  replace K1_0 := cell_later (Rep.below_alloc v1 (.cells #[] 5)) K1_0
  go_wp2_with (at_builtin; refine Rep.wpList_pushN rfl _ _ 40 rfl (r := Rep.byte) (e := 5) Tryz.underlying40 infByte rfl (by decide) (by decide) flatbyte (B := v1.heap.size) (Rep.own0.void (S := fun _ => False)) (by rfl) (by rfl) ((r1.below E1).alloc _) (fun _ h => h.elim) (by simp) (by have := r1.2.1; simp; unfold Big at this; omega) ?_)
  intro tv w2 hown hbel hz
  have hb2 : Below v1.heap.size v1 w2 := ((Below.refl _ _).alloc (Nat.le_refl _) _).trans hbel
  obtain ⟨ta2, tp2, htv⟩ := hown.none_iff; obtain rfl := htv
  have HO2 := Lib.hid (hown.own r1.2.1)
  try simp only [List.nil_append] at HO2
  clear hown hbel hz
  have hz2 := hb2.size
  have F2 := E1.trans (hb2.mono E1.size)
  replace XB := Lib.hid (keepBox XB.out hb2)
  replace XT := Lib.hid (keepBox XT.out hb2)
  replace XR := Lib.hid (keepBox XR.out hb2)
  replace HO1 := Lib.hid (HO1.out.below hb2)
  clear hb2 K1_0
  have M2_0 := boxCell (b := w.heap.size + 1 + 1) XT.out (j := 1) (v := .slice a1 x1.length p1) rfl
  have Z2_0 := frozen_of_row w2 (w.heap.size + 1 + 1) 1 _ _ XT.out
  go_upto_region 4 with fail
  generalize hws : (w2.setCell ⟨w.heap.size + 1 + 1, 1, none⟩ (.slice ta2 x1.length tp2)) = v2
  have XT2 : v2.heap[w.heap.size + 1 + 1]? = some (.cells #[.slice t1a0 x0.length t1p0, .slice ta2 x1.length tp2, .slice a2 (x2).length p2, .int .i64 x3, .int .i64 x4] 66 (0, 0)) := by
    rw [← hws]
    have y0 := heap_setCell_same _ (w.heap.size + 1 + 1) 1 _ 66 (.slice ta2 x1.length tp2) XT.out
    exact y0
  replace XB := Lib.hid (show v2.heap[w.heap.size]? = some (.cells #[.slice a0 (x0).length p0, .slice a1 x1.length p1, .slice a2 (x2).length p2, .int .i64 x3, .int .i64 x4] 66 (0, 0)) from by rw [← hws]; exact ((heap_setCell_other _ ⟨w.heap.size + 1 + 1, 1, none⟩ (w.heap.size) _ (show w.heap.size ≠ w.heap.size + 1 + 1 by omega)).trans XB.out))
  replace XR := Lib.hid (show v2.heap[w.heap.size + 1]? = some (.cells #[.slice none 0 0, .slice none 0 0, .slice none 0 0, .int .i64 0, .int .i64 0] 66 (0, 0)) from by rw [← hws]; exact ((heap_setCell_other _ ⟨w.heap.size + 1 + 1, 1, none⟩ (w.heap.size + 1) _ (show w.heap.size + 1 ≠ w.heap.size + 1 + 1 by omega)).trans XR.out))
  replace XT := Lib.hid XT2; clear XT2
  have E2 : Below w.heap.size w v2 := by rw [← hws]; exact (F2.setCell (by first | omega | (simp; done) | (simp; omega)) _)
  have HY2 : Hid (v2.heap.size = w2.heap.size) := Lib.hid (by rw [← hws]; simp [World.setCell])
  replace HO1 := Lib.hid (Rep.own.out (w' := v2) HO1.out (fun j h1 h2 => by have := HY1.out; rw [← hws]; simp (discharger := (simp; omega)) only [heap_setCell_other]))
  replace HO2 := Lib.hid (Rep.own.out (w' := v2) HO2.out (fun j h1 h2 => by have := HY1.out; rw [← hws]; simp (discharger := (simp; omega)) only [heap_setCell_other]))
  clear hws F2 M2_0 Z2_0
  have K2_0 := boxCell (b := w.heap.size) XB.out (j := 2) (v := .slice a2 (x2).length p2) rfl
  go_wp2_with fail
  refine (specl4Copy_c (r2.below E2)).mono ?_
  rintro e w3 ⟨tc, rfl, O3, hb3⟩
  obtain ⟨t3v0, rfl, t3_0⟩ := RName_raw O3.raw
  obtain ⟨t3a0, t3p0, t3h0, t3l0⟩ := Rep.len_raw t3_0; obtain rfl : t3v0 = _ := by simpa using t3h0
  clear t3h0
  clear t3_0
  have HO3 := Lib.hid O3; clear O3
  have hz3 := hb3.size
  have F3 := E2.trans (hb3.mono E2.size)
  replace XB := Lib.hid (keepBox XB.out hb3)
  replace XT := Lib.hid (keepBox XT.out hb3)
  replace XR := Lib.hid (keepBox XR.out hb3)
  replace HO1 := Lib.hid (HO1.out.below hb3)
  replace HO2 := Lib.hid (HO2.out.below hb3)
  clear hb3 K2_0
  have M3_0 := boxCell (b := w.heap.size + 1 + 1) XT.out (j := 2) (v := .slice a2 (x2).length p2) rfl
  have Z3_0 := frozen_of_row w3 (w.heap.size + 1 + 1) 2 _ _ XT.out
  go_upto_region 5 with fail
  generalize hws : (w3.setCell ⟨w.heap.size + 1 + 1, 2, none⟩ (.slice t3a0 x2.length t3p0)) = v3
  have XT2 : v3.heap[w.heap.size + 1 + 1]? = some (.cells #[.slice t1a0 x0.length t1p0, .slice ta2 x1.length tp2, .slice t3a0 x2.length t3p0, .int .i64 x3, .int .i64 x4] 66 (0, 0)) := by
    rw [← hws]
    have y0 := heap_setCell_same _ (w.heap.size + 1 + 1) 2 _ 66 (.slice t3a0 x2.length t3p0) XT.out
    exact y0
  replace XB := Lib.hid (show v3.heap[w.heap.size]? = some (.cells #[.slice a0 (x0).length p0, .slice a1 x1.length p1, .slice a2 (x2).length p2, .int .i64 x3, .int .i64 x4] 66 (0, 0)) from by rw [← hws]; exact ((heap_setCell_other _ ⟨w.heap.size + 1 + 1, 2, none⟩ (w.heap.size) _ (show w.heap.size ≠ w.heap.size + 1 + 1 by omega)).trans XB.out))
  replace XR := Lib.hid (show v3.heap[w.heap.size + 1]? = some (.cells #[.slice none 0 0, .slice none 0 0, .slice none 0 0, .int .i64 0, .int .i64 0] 66 (0, 0)) from by rw [← hws]; exact ((heap_setCell_other _ ⟨w.heap.size + 1 + 1, 2, none⟩ (w.heap.size + 1) _ (show w.heap.size + 1 ≠ w.heap.size + 1 + 1 by omega)).trans XR.out))
  replace XT := Lib.hid XT2; clear XT2
  have E3 : Below w.heap.size w v3 := by rw [← hws]; exact (F3.setCell (by first | omega | (simp; done) | (simp; omega)) _)
  have HY3 : Hid (v3.heap.size = w3.heap.size) := Lib.hid (by rw [← hws]; simp [World.setCell])
  replace HO1 := Lib.hid (Rep.own.out (w' := v3) HO1.out (fun j h1 h2 => by have := HY1.out; have := HY2.out; rw [← hws]; simp (discharger := (simp; omega)) only [heap_setCell_other]))
  replace HO2 := Lib.hid (Rep.own.out (w' := v3) HO2.out (fun j h1 h2 => by have := HY1.out; have := HY2.out; rw [← hws]; simp (discharger := (simp; omega)) only [heap_setCell_other]))
  replace HO3 := Lib.hid (Rep.own.out (w' := v3) HO3.out (fun j h1 h2 => by have := HY1.out; have := HY2.out; rw [← hws]; simp (discharger := (simp; omega)) only [heap_setCell_other]))
  clear hws F3 M3_0 Z3_0
  have K0 := boxCell (b := w.heap.size + 1 + 1) XT.out (j := 0) (v := .slice t1a0 x0.length t1p0) rfl
  have R0 := boxCell (b := w.heap.size + 1) XR.out (j := 0) rfl
  have Z0 := frozen_of_row v3 (w.heap.size + 1) 0 _ _ XR.out
  have K1 := boxCell (b := w.heap.size + 1 + 1) XT.out (j := 1) (v := .slice ta2 x1.length tp2) rfl
  have R1 := boxCell (b := w.heap.size + 1) XR.out (j := 1) rfl
  have Z1 := frozen_of_row v3 (w.heap.size + 1) 1 _ _ XR.out
  have K2 := boxCell (b := w.heap.size + 1 + 1) XT.out (j := 2) (v := .slice t3a0 x2.length t3p0) rfl
  have R2 := boxCell (b := w.heap.size + 1) XR.out (j := 2) rfl
  have Z2 := frozen_of_row v3 (w.heap.size + 1) 2 _ _ XR.out
  have K3 := boxCell (b := w.heap.size + 1 + 1) XT.out (j := 3) (v := .int .i64 x3) rfl
  have R3 := boxCell (b := w.heap.size + 1) XR.out (j := 3) rfl
  have Z3 := frozen_of_row v3 (w.heap.size + 1) 3 _ _ XR.out
  have K4 := boxCell (b := w.heap.size + 1 + 1) XT.out (j := 4) (v := .int .i64 x4) rfl
  have R4 := boxCell (b := w.heap.size + 1) XR.out (j := 4) rfl
  have Z4 := frozen_of_row v3 (w.heap.size + 1) 4 _ _ XR.out
  go_wp2
  have hy1 := HY1.out
  have hy2 := HY2.out
  have hy3 := HY3.out
  refine bodyPost_ret (v := .agg #[.slice t1a0 x0.length t1p0, .slice ta2 x1.length tp2, .slice t3a0 x2.length t3p0, .int .i64 x3, .int .i64 x4]) (by simp [results, Tryz.results64, go_sem, R0, Z0, R1, Z1, R2, Z2, R3, Z3, R4, Z4]) rfl ⟨[_, _, _, _, _], rfl, ?_, ?_⟩
  · refine Rep.own.wide (S := Btw (v0.heap.size) (w3.heap.size)) ?_ (fun j hj => ⟨by have := hj.1; omega, by have := hj.2; simp [World.setCell]; omega⟩)
    exact Rep.own_pair (r := RName) (q := (Rep.pair (Rep.slice 5 Rep.byte) (Rep.pair RName (Rep.pair Rep.int Rep.int)))) (cs := [.slice t1a0 x0.length t1p0]) (ds := [.slice ta2 x1.length tp2, .slice t3a0 x2.length t3p0, .int .i64 x3, .int .i64 x4]) (x := x0) (y := (x1, x2, x3, x4)) (S := Btw (v0.heap.size) (w3.heap.size)) (Rep.own.out HO1.out (fun j h1 h2 => by simp (discharger := (simp; omega)) only [heap_setCell_other])) (Rep.own_pair (r := (Rep.slice 5 Rep.byte)) (q := (Rep.pair RName (Rep.pair Rep.int Rep.int))) (cs := [.slice ta2 x1.length tp2]) (ds := [.slice t3a0 x2.length t3p0, .int .i64 x3, .int .i64 x4]) (x := x1) (y := (x2, x3, x4)) (S := Btw (v1.heap.size) (w3.heap.size)) (Rep.own.out HO2.out (fun j h1 h2 => by simp (discharger := (simp; omega)) only [heap_setCell_other])) (Rep.own_flat (r := RName) (q := (Rep.pair Rep.int Rep.int)) (cs := [.slice t3a0 x2.length t3p0]) (ds := [.int .i64 x3, .int .i64 x4]) (x := x2) (y := (x3, x4)) (Rep.own.out HO3.out (fun j h1 h2 => by simp (discharger := (simp; omega)) only [heap_setCell_other])) (Rep.flat_pair (r := Rep.int) (q := Rep.int) (cs := [.int .i64 x3]) (ds := [.int .i64 x4]) (x := x3) (y := x4) (Rep.flat_int N3.out) (Rep.flat_int N4.out))) (fun j hj => ⟨by have := hj.1; omega, by have := hj.2; omega⟩) (fun j hj => ⟨by have := hj.1; omega, by have := hj.2; omega⟩) (fun j h1 h2 => by have p := h1.2; have q := h2.1; omega)) (fun j hj => ⟨by have := hj.1; omega, by have := hj.2; omega⟩) (fun j hj => ⟨by have := hj.1; omega, by have := hj.2; omega⟩) (fun j h1 h2 => by have p := h1.2; have q := h2.1; omega)
  · repeat (first | (with_reducible exact E3) | refine Below.setCell ?_ (by first | omega | (simp; try omega)) _)
end Go.Proofs.YtlfblpgkegeaeaaGreat

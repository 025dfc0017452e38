/-
  The law FnExactRemoveFailed, walked: it returns true, whatever its arguments; then its statement. Printed by genlaw.py.
-/
import Derived.Test.YtaaobbbkfhggaaaEq
import Derived.Test.YtaaobbbkfhggaaaSz
import Derived.Test.YtaaobbbkfhggaaaTo
import Derived.Test.YtaaobbbkfhggaaaBridge
import Derived.Test.YtaaobbbkfhggaaaMark
import Derived.Test.YtaaobbbkfhggaaaHeld
import Derived.Test.YtaaobbbkfhggaaaRemoveF
import Derived.Deep.RegionHeld3
namespace Go.Proofs.Ytaaobbbkfhggaaa
open Go.ChangeShapes Go.WideShapes Go.ChangeAt Go.RowKit
set_option linter.unusedVariables false
set_option maxRecDepth 100000 in
set_option maxHeartbeats 4000000 in
theorem lawRemoveFailed_c {w : World} {c0 : List Value} {x0 : LTopology} (h0 : RTopology.raw w c0 x0) {v1 : Value} {x1 : (List Int)} (h1 : (Rep.slice 3 Rep.int).raw w [v1] x1) {x2 : Int} (h2 : -9223372036854775808 ≤ x2 ∧ x2 ≤ 9223372036854775807) :
    Calls Try.prog 9 #[.agg c0.toArray, v1, .int .i64 x2] w (LawPost w) := by
  obtain ⟨a0v1, rfl, a0_0, a0_1⟩ := RTopology_raw h0
  clear a0_0 a0_1
  obtain ⟨a1a, a1p, a1h, a1l⟩ := Rep.len_raw h1; obtain rfl : v1 = _ := by simpa using a1h
  clear a1h
  have hi2 := Lib.hid h2; clear h2
  go_enter Try.func9, Try.ntmps9
  by_cases g1 : (1048576 : Int) < (x1.length : Int)
  · go_wp2
    go_ret
    exact ⟨rfl, (by repeat (first | (with_reducible exact Below.refl _ _) | refine Below.alloc ?_ (by simp; try omega) _ | refine Below.drew ?_))⟩
  have r1 : (Rep.slice 3 Rep.int).rd w _ x1 := ⟨h1, by unfold Big; omega, fun _ _ => trivial⟩
  go_wp2_with fail
  refine (szTopology_c (h0.below (by repeat (first | (with_reducible exact Below.refl _ _) | refine Below.alloc ?_ (by simp; try omega) _ | refine Below.drew ?_))) (by omega) (by omega)).mono ?_
  rintro e w1 ⟨s1, rfl, p1, q1, g1, hb1⟩
  have G1 := Lib.hid g1; clear g1
  have D1 : Below w.heap.size w w1 := Below.trans (by repeat (first | (with_reducible exact Below.refl _ _) | refine Below.alloc ?_ (by simp; try omega) _ | refine Below.drew ?_)) (hb1.mono (by simp))
  have H1 := Lib.hid D1
  have L1 := Lib.hid (show w.heap.size + 1 ≤ w1.heap.size from by have h := hb1.size; (try simp at h); omega)
  have X_aN_1 : Hid (w1.heap[w.heap.size]? = some (.cells #[.int .i64 x0.1, a0v1] 24 (0, 0))) := Lib.hid ((hb1.block (w.heap.size) (by simp)).trans (heap_new_at (by simp)))
  clear D1 hb1
  by_cases m1 : s1 < 0
  · go_wp2
    go_ret
    exact ⟨rfl, H1.out⟩
  have z1 : 0 ≤ s1 := by omega
  have r0 : RTopology.rd w _ x0 := ⟨h0, RTopology.bdd_mono (G1.out z1) (by decide)⟩
  have K_aN_0 := boxCell X_aN_1.out (j := 0) (v := .int .i64 x0.1) rfl
  have K_aN_1 := boxCell X_aN_1.out (j := 1) (v := a0v1) rfl
  go_wp2_with fail
  refine (toTopology_c (r0.below (by repeat (first | (with_reducible exact H1.out) | refine Below.alloc ?_ (by have := H1.out.size; simp; try omega) _ | refine Below.drew ?_)))).mono ?_
  rintro e w2 ⟨cs2, rfl, O2, hb2⟩
  obtain ⟨t2v1, rfl, t2_0, t2_1⟩ := RTopology_raw O2.raw
  obtain ⟨t2a1, t2p1, t2h1, _⟩ := Rep.len_raw t2_1; obtain rfl : t2v1 = _ := (by simpa using t2h1)
  clear t2h1
  clear t2_0 t2_1
  have Z2 := Lib.hid (O2.wide (T := Btw (w1.heap.size) (w2.heap.size)) (fun i hi => ⟨by have h := hi.1; (try simp at h); omega, hi.2⟩)); clear O2
  have D2 : Below w1.heap.size w1 w2 := Below.trans (by repeat (first | (with_reducible exact Below.refl _ _) | refine Below.alloc ?_ (by simp; try omega) _ | refine Below.drew ?_)) (hb2.mono (by simp))
  have H2 := Lib.hid (H1.out.trans (D2.mono H1.out.size))
  have L2 := Lib.hid (show w1.heap.size + 0 ≤ w2.heap.size from by have h := hb2.size; (try simp at h); omega)
  have X_aN_2 := Lib.hid (keepBox X_aN_1.out D2); clear X_aN_1
  clear D2 K_aN_0 K_aN_1 hb2
  go_wp2_with fail
  refine (toIntS_c (r1.below (by repeat (first | (with_reducible exact H2.out) | refine Below.alloc ?_ (by have := H2.out.size; simp; try omega) _ | refine Below.drew ?_)))).mono ?_
  rintro e w3 ⟨tv3, rfl, O3, hb3⟩
  obtain ⟨t3a, t3p, t3h, _⟩ := Rep.len_raw O3.raw; obtain rfl : tv3 = _ := (by simpa using t3h)
  clear t3h
  have Z3 := Lib.hid (O3.wide (T := Btw (w2.heap.size) (w3.heap.size)) (fun i hi => ⟨by have h := hi.1; (try simp at h); omega, hi.2⟩)); clear O3
  have D3 : Below w2.heap.size w2 w3 := Below.trans (by repeat (first | (with_reducible exact Below.refl _ _) | refine Below.alloc ?_ (by simp; try omega) _ | refine Below.drew ?_)) (hb3.mono (by simp))
  have H3 := Lib.hid (H2.out.trans (D3.mono H2.out.size))
  have L3 := Lib.hid (show w2.heap.size + 0 ≤ w3.heap.size from by have h := hb3.size; (try simp at h); omega)
  have X_aN_3 := Lib.hid (keepBox X_aN_2.out D3); clear X_aN_2
  have O_t2_3 := Lib.hid (Z2.out.below D3); clear Z2
  clear D3 hb3
  go_wp2_with fail
  refine (specRemoveFailed_c (O_t2_3.out.rd.below (by repeat (first | (with_reducible exact Below.refl _ _) | refine Below.alloc ?_ (by simp; try omega) _ | refine Below.drew ?_))) (Z3.out.rd.below (by repeat (first | (with_reducible exact Below.refl _ _) | refine Below.alloc ?_ (by simp; try omega) _ | refine Below.drew ?_))) hi2.out).mono ?_
  rintro e w4 ⟨cs4, rfl, O4, hb4⟩
  obtain ⟨t4v1, rfl, t4_0, t4_1⟩ := RTopology_raw O4.raw
  obtain ⟨t4a1, t4p1, t4h1, _⟩ := Rep.len_raw t4_1; obtain rfl : t4v1 = _ := (by simpa using t4h1)
  clear t4h1
  clear t4_0 t4_1
  have Z4 := Lib.hid (O4.wide (T := Btw (w3.heap.size) (w4.heap.size)) (fun i hi => ⟨by have h := hi.1; (try simp at h); omega, hi.2⟩)); clear O4
  have D4 : Below w3.heap.size w3 w4 := Below.trans (by repeat (first | (with_reducible exact Below.refl _ _) | refine Below.alloc ?_ (by simp; try omega) _ | refine Below.drew ?_)) (hb4.mono (by simp))
  have H4 := Lib.hid (H3.out.trans (D4.mono H3.out.size))
  have L4 := Lib.hid (show w3.heap.size + 0 ≤ w4.heap.size from by have h := hb4.size; (try simp at h); omega)
  have X_aN_4 := Lib.hid (keepBox X_aN_3.out D4); clear X_aN_3
  have O_t2_4 := Lib.hid (O_t2_3.out.below D4); clear O_t2_3
  have O_t3_4 := Lib.hid (Z3.out.below D4); clear Z3
  clear D4 hb4
  clear O_t2_4
  clear O_t3_4
  have K_aN_0 := boxCell X_aN_4.out (j := 0) (v := .int .i64 x0.1) rfl
  have K_aN_1 := boxCell X_aN_4.out (j := 1) (v := a0v1) rfl
  have J_aN : w.heap.size < w4.heap.size := by have l1 := L1.out; have l2 := L2.out; have l3 := L3.out; have l4 := L4.out; omega
  go_wp2_with fail
  refine (toTopology_c (r0.below (by repeat (first | (with_reducible exact H4.out) | refine Below.alloc ?_ (by have := H4.out.size; simp; try omega) _ | refine Below.drew ?_)))).mono ?_
  rintro e w5 ⟨cs5, rfl, O5, hb5⟩
  obtain ⟨t5v1, rfl, t5_0, t5_1⟩ := RTopology_raw O5.raw
  obtain ⟨t5a1, t5p1, t5h1, _⟩ := Rep.len_raw t5_1; obtain rfl : t5v1 = _ := (by simpa using t5h1)
  clear t5h1
  clear t5_0 t5_1
  have Z5 := Lib.hid (O5.wide (T := Btw (w4.heap.size + 1) (w5.heap.size)) (fun i hi => ⟨by have h := hi.1; (try simp at h); omega, hi.2⟩)); clear O5
  have D5 : Below w4.heap.size w4 w5 := Below.trans (by repeat (first | (with_reducible exact Below.refl _ _) | refine Below.alloc ?_ (by simp; try omega) _ | refine Below.drew ?_)) (hb5.mono (by simp))
  have H5 := Lib.hid (H4.out.trans (D5.mono H4.out.size))
  have L5 := Lib.hid (show w4.heap.size + 1 ≤ w5.heap.size from by have h := hb5.size; (try simp at h); omega)
  have X_aN_5 := Lib.hid (keepBox X_aN_4.out D5); clear X_aN_4
  have X_w0_5 : Hid (w5.heap[w4.heap.size]? = some (.cells #[.int .i64 (remT x0 x1 x2).1, .slice t4a1 ((remT x0 x1 x2).2).length t4p1] 29 (0, 0))) := Lib.hid ((hb5.block (w4.heap.size) (by simp)).trans (heap_new_at (by simp)))
  have O_w0_5 := Lib.hid (Z4.out.below D5); clear Z4
  clear D5 K_aN_0 K_aN_1 J_aN hb5
  go_wp2_with fail
  refine (toIntS_c (r1.below (by repeat (first | (with_reducible exact H5.out) | refine Below.alloc ?_ (by have := H5.out.size; simp; try omega) _ | refine Below.drew ?_)))).mono ?_
  rintro e w6 ⟨tv6, rfl, O6, hb6⟩
  obtain ⟨t6a, t6p, t6h, _⟩ := Rep.len_raw O6.raw; obtain rfl : tv6 = _ := (by simpa using t6h)
  clear t6h
  have Z6 := Lib.hid (O6.wide (T := Btw (w5.heap.size + 1) (w6.heap.size)) (fun i hi => ⟨by have h := hi.1; (try simp at h); omega, hi.2⟩)); clear O6
  have D6 : Below w5.heap.size w5 w6 := Below.trans (by repeat (first | (with_reducible exact Below.refl _ _) | refine Below.alloc ?_ (by simp; try omega) _ | refine Below.drew ?_)) (hb6.mono (by simp))
  have H6 := Lib.hid (H5.out.trans (D6.mono H5.out.size))
  have L6 := Lib.hid (show w5.heap.size + 1 ≤ w6.heap.size from by have h := hb6.size; (try simp at h); omega)
  have X_aN_6 := Lib.hid (keepBox X_aN_5.out D6); clear X_aN_5
  have X_w0_6 := Lib.hid (keepBox X_w0_5.out D6); clear X_w0_5
  have X_x0_6 : Hid (w6.heap[w5.heap.size]? = some (.cells #[.int .i64 x0.1, .slice t5a1 (x0.2).length t5p1] 29 (0, 0))) := Lib.hid ((hb6.block (w5.heap.size) (by simp)).trans (heap_new_at (by simp)))
  have O_w0_6 := Lib.hid (O_w0_5.out.below D6); clear O_w0_5
  have O_x0_6 := Lib.hid (Z5.out.below D6); clear Z5
  clear D6 hb6
  have K_x0_0 := boxCell X_x0_6.out (j := 0) (v := .int .i64 x0.1) rfl
  have K_x0_1 := boxCell X_x0_6.out (j := 1) (v := .slice t5a1 (x0.2).length t5p1) rfl
  go_wp2_with fail
  refine (implRemoveFailed_c (O_x0_6.out.rd.below (by repeat (first | (with_reducible exact Below.refl _ _) | refine Below.alloc ?_ (by simp; try omega) _ | refine Below.drew ?_))) (Z6.out.rd.below (by repeat (first | (with_reducible exact Below.refl _ _) | refine Below.alloc ?_ (by simp; try omega) _ | refine Below.drew ?_))) hi2.out).mono ?_
  rintro e w7 ⟨cs7, rfl, O7, hb7⟩
  obtain ⟨t7v1, rfl, t7_0, t7_1⟩ := RTopology_raw O7.raw
  obtain ⟨t7a1, t7p1, t7h1, _⟩ := Rep.len_raw t7_1; obtain rfl : t7v1 = _ := (by simpa using t7h1)
  clear t7h1
  clear t7_0 t7_1
  have Z7 := Lib.hid (O7.wide (T := Btw (w6.heap.size) (w7.heap.size)) (fun i hi => ⟨by have h := hi.1; (try simp at h); omega, hi.2⟩)); clear O7
  have D7 : Below w6.heap.size w6 w7 := Below.trans (by repeat (first | (with_reducible exact Below.refl _ _) | refine Below.alloc ?_ (by simp; try omega) _ | refine Below.drew ?_)) (hb7.mono (by simp))
  have H7 := Lib.hid (H6.out.trans (D7.mono H6.out.size))
  have L7 := Lib.hid (show w6.heap.size + 0 ≤ w7.heap.size from by have h := hb7.size; (try simp at h); omega)
  have X_aN_7 := Lib.hid (keepBox X_aN_6.out D7); clear X_aN_6
  have X_w0_7 := Lib.hid (keepBox X_w0_6.out D7); clear X_w0_6
  have X_x0_7 := Lib.hid (keepBox X_x0_6.out D7); clear X_x0_6
  have O_w0_7 := Lib.hid (O_w0_6.out.below D7); clear O_w0_6
  have O_x0_7 := Lib.hid (O_x0_6.out.below D7); clear O_x0_6
  have O_x1_7 := Lib.hid (Z6.out.below D7); clear Z6
  clear D7 K_x0_0 K_x0_1 hb7
  have K_w0_0 := boxCell X_w0_7.out (j := 0) (v := .int .i64 (remT x0 x1 x2).1) rfl
  have K_w0_1 := boxCell X_w0_7.out (j := 1) (v := .slice t4a1 ((remT x0 x1 x2).2).length t4p1) rfl
  have J_w0 : w4.heap.size < w7.heap.size := by have l5 := L5.out; have l6 := L6.out; have l7 := L7.out; omega
  go_wp2_with fail
  refine (eqTopology_c (Z7.out.raw.below (by repeat (first | (with_reducible exact Below.refl _ _) | refine Below.alloc ?_ (by simp; try omega) _ | refine Below.drew ?_))) (O_w0_7.out.raw.below (by repeat (first | (with_reducible exact Below.refl _ _) | refine Below.alloc ?_ (by simp; try omega) _ | refine Below.drew ?_)))).mono ?_
  rintro e w8 ⟨rfl, hb8⟩
  have D8 : Below w7.heap.size w7 w8 := Below.trans (by repeat (first | (with_reducible exact Below.refl _ _) | refine Below.alloc ?_ (by simp; try omega) _ | refine Below.drew ?_)) (hb8.mono (by simp))
  have H8 := Lib.hid (H7.out.trans (D8.mono H7.out.size))
  have L8 := Lib.hid (show w7.heap.size + 1 ≤ w8.heap.size from by have h := hb8.size; (try simp at h); omega)
  have X_aN_8 := Lib.hid (keepBox X_aN_7.out D8); clear X_aN_7
  have X_w0_8 := Lib.hid (keepBox X_w0_7.out D8); clear X_w0_7
  have X_x0_8 := Lib.hid (keepBox X_x0_7.out D8); clear X_x0_7
  have X_g0_8 : Hid (w8.heap[w7.heap.size]? = some (.cells #[.int .i64 (remT x0 x1 x2).1, .slice t7a1 ((remT x0 x1 x2).2).length t7p1] 29 (0, 0))) := Lib.hid ((hb8.block (w7.heap.size) (by simp)).trans (heap_new_at (by simp)))
  have O_w0_8 := Lib.hid (O_w0_7.out.below D8); clear O_w0_7
  have O_x0_8 := Lib.hid (O_x0_7.out.below D8); clear O_x0_7
  have O_x1_8 := Lib.hid (O_x1_7.out.below D8); clear O_x1_7
  have O_g0_8 := Lib.hid (Z7.out.below D8); clear Z7
  clear D8 K_w0_0 K_w0_1 J_w0 hb8
  have K_aN_0 := boxCell X_aN_8.out (j := 0) (v := .int .i64 x0.1) rfl
  have K_aN_1 := boxCell X_aN_8.out (j := 1) (v := a0v1) rfl
  have K_x0_0 := boxCell X_x0_8.out (j := 0) (v := .int .i64 x0.1) rfl
  have K_x0_1 := boxCell X_x0_8.out (j := 1) (v := .slice t5a1 (x0.2).length t5p1) rfl
  go_wp2_with fail
  go_region_held3 (fun W => W.cell? ⟨w.heap.size, 0, none⟩ = some (.int .i64 x0.1) ∧ W.cell? ⟨w.heap.size, 1, none⟩ = some (a0v1) ∧ W.cell? ⟨w5.heap.size, 0, none⟩ = some (.int .i64 x0.1) ∧ W.cell? ⟨w5.heap.size, 1, none⟩ = some (.slice t5a1 (x0.2).length t5p1)) (first | exact ⟨cell_later hd9 (cell_later hc9 K_aN_0), cell_later hd9 (cell_later hc9 K_aN_1), cell_later hd9 (cell_later hc9 K_x0_0), cell_later hd9 (cell_later hc9 K_x0_1)⟩ | exact ⟨cell_later hc9 K_aN_0, cell_later hc9 K_aN_1, cell_later hc9 K_x0_0, cell_later hc9 K_x0_1⟩ | go_keep)
    (first | (go_at_call 12; refine (toTopology_c (r0.below (by repeat (first | (with_reducible exact H8.out) | refine Below.alloc ?_ (by have := H8.out.size; simp; try omega) _ | refine Below.drew ?_)))).mono ?_; rintro e u9 ⟨cs9, rfl, O9, hc9⟩; obtain ⟨t9v1, rfl, t9_0, t9_1⟩ := RTopology_raw O9.raw; obtain ⟨t9a1, t9p1, t9h1, _⟩ := Rep.len_raw t9_1; obtain rfl : t9v1 = _ := (by simpa using t9h1); clear t9h1; clear t9_0 t9_1) | (go_at_call 14; refine (eqTopology_c (O_x0_8.out.raw.below (Below.trans (by repeat (first | (with_reducible exact Below.refl _ _) | refine Below.alloc ?_ (by simp; try omega) _ | refine Below.drew ?_)) (hc9.mono (by simp)))) O9.raw).mono ?_; rintro e w9 ⟨rfl, hd9⟩))
  have hb9 := hc9.trans (hd9.mono hc9.size); clear hc9 hd9 O9
  have D9 : Below w8.heap.size w8 w9 := Below.trans (by repeat (first | (with_reducible exact Below.refl _ _) | refine Below.alloc ?_ (by simp; try omega) _ | refine Below.drew ?_)) (hb9.mono (by simp))
  have H9 := Lib.hid (H8.out.trans (D9.mono H8.out.size))
  have L9 := Lib.hid (show w8.heap.size + 0 ≤ w9.heap.size from by have h := hb9.size; (try simp at h); omega)
  have X_aN_9 := Lib.hid (keepBox X_aN_8.out D9); clear X_aN_8
  have X_w0_9 := Lib.hid (keepBox X_w0_8.out D9); clear X_w0_8
  have X_x0_9 := Lib.hid (keepBox X_x0_8.out D9); clear X_x0_8
  have X_g0_9 := Lib.hid (keepBox X_g0_8.out D9); clear X_g0_8
  have O_w0_9 := Lib.hid (O_w0_8.out.below D9); clear O_w0_8
  have O_x0_9 := Lib.hid (O_x0_8.out.below D9); clear O_x0_8
  have O_x1_9 := Lib.hid (O_x1_8.out.below D9); clear O_x1_8
  have O_g0_9 := Lib.hid (O_g0_8.out.below D9); clear O_g0_8
  clear D9 K_aN_0 K_aN_1 K_x0_0 K_x0_1 hb9
  go_wp2_with fail
  refine (toIntS_c (r1.below (by repeat (first | (with_reducible exact H9.out) | refine Below.alloc ?_ (by have := H9.out.size; simp; try omega) _ | refine Below.drew ?_)))).mono ?_
  rintro e w10 ⟨tv10, rfl, O10, hb10⟩
  obtain ⟨t10a, t10p, t10h, _⟩ := Rep.len_raw O10.raw; obtain rfl : tv10 = _ := (by simpa using t10h)
  clear t10h
  have Z10 := Lib.hid (O10.wide (T := Btw (w9.heap.size) (w10.heap.size)) (fun i hi => ⟨by have h := hi.1; (try simp at h); omega, hi.2⟩)); clear O10
  have D10 : Below w9.heap.size w9 w10 := Below.trans (by repeat (first | (with_reducible exact Below.refl _ _) | refine Below.alloc ?_ (by simp; try omega) _ | refine Below.drew ?_)) (hb10.mono (by simp))
  have H10 := Lib.hid (H9.out.trans (D10.mono H9.out.size))
  have L10 := Lib.hid (show w9.heap.size + 0 ≤ w10.heap.size from by have h := hb10.size; (try simp at h); omega)
  have X_aN_10 := Lib.hid (keepBox X_aN_9.out D10); clear X_aN_9
  have X_w0_10 := Lib.hid (keepBox X_w0_9.out D10); clear X_w0_9
  have X_x0_10 := Lib.hid (keepBox X_x0_9.out D10); clear X_x0_9
  have X_g0_10 := Lib.hid (keepBox X_g0_9.out D10); clear X_g0_9
  have O_w0_10 := Lib.hid (O_w0_9.out.below D10); clear O_w0_9
  have O_x0_10 := Lib.hid (O_x0_9.out.below D10); clear O_x0_9
  have O_x1_10 := Lib.hid (O_x1_9.out.below D10); clear O_x1_9
  have O_g0_10 := Lib.hid (O_g0_9.out.below D10); clear O_g0_9
  clear D10 hb10
  go_wp2_with fail
  refine (eqIntS_c (O_x1_10.out.raw.below (by repeat (first | (with_reducible exact Below.refl _ _) | refine Below.alloc ?_ (by simp; try omega) _ | refine Below.drew ?_))) (Z10.out.raw.below (by repeat (first | (with_reducible exact Below.refl _ _) | refine Below.alloc ?_ (by simp; try omega) _ | refine Below.drew ?_)))).mono ?_
  rintro e w11 ⟨rfl, hb11⟩
  clear Z10
  have D11 : Below w10.heap.size w10 w11 := Below.trans (by repeat (first | (with_reducible exact Below.refl _ _) | refine Below.alloc ?_ (by simp; try omega) _ | refine Below.drew ?_)) (hb11.mono (by simp))
  have H11 := Lib.hid (H10.out.trans (D11.mono H10.out.size))
  have L11 := Lib.hid (show w10.heap.size + 0 ≤ w11.heap.size from by have h := hb11.size; (try simp at h); omega)
  have X_aN_11 := Lib.hid (keepBox X_aN_10.out D11); clear X_aN_10
  have X_w0_11 := Lib.hid (keepBox X_w0_10.out D11); clear X_w0_10
  have X_x0_11 := Lib.hid (keepBox X_x0_10.out D11); clear X_x0_10
  have X_g0_11 := Lib.hid (keepBox X_g0_10.out D11); clear X_g0_10
  have O_w0_11 := Lib.hid (O_w0_10.out.below D11); clear O_w0_10
  have O_x0_11 := Lib.hid (O_x0_10.out.below D11); clear O_x0_10
  have O_x1_11 := Lib.hid (O_x1_10.out.below D11); clear O_x1_10
  have O_g0_11 := Lib.hid (O_g0_10.out.below D11); clear O_g0_10
  clear D11 hb11
  have K_x0_0 := boxCell X_x0_11.out (j := 0) (v := .int .i64 x0.1) rfl
  have K_x0_1 := boxCell X_x0_11.out (j := 1) (v := .slice t5a1 (x0.2).length t5p1) rfl
  go_wp2_with fail
  refine (markTopology_c (k := 1) (O_x0_11.out.below (by repeat (first | (with_reducible exact Below.refl _ _) | refine Below.alloc ?_ (by simp; try omega) _ | refine Below.drew ?_))) (by  omega) (by have e : (RTopology.cnt : Int) = 33554433 := (by decide); unfold Top; omega)).mono ?_
  rintro e w12 ⟨rfl, P12, Y12⟩
  have B12 : Hid (1 ≤ (RTopology.mark false (x0) (1)).2 ∧ (RTopology.mark false (x0) (1)).2 ≤ 1 + 33554433) := Lib.hid ⟨by have := RTopology.mark_ge (e := false) (x := x0) (k := 1); omega, by have := RTopology.mark_le (e := false) (k := 1) O_x0_11.out.2; have e : (RTopology.cnt : Int) = 33554433 := (by decide); omega⟩
  have D12 : Touch (Btw (w4.heap.size + 1) (w5.heap.size)) w11 w12 := (Touch.of_below (by repeat (first | (with_reducible exact Below.refl _ _) | refine Below.alloc ?_ (by simp; try omega) _ | refine Below.drew ?_))).trans Y12
  have H12 := Lib.hid (H11.out.trans (D12.below (by have := H11.out.size; omega) (fun i hi => by have a := hi.1; have b : w.heap.size ≤ w4.heap.size := H4.out.size; omega)))
  have L12 := Lib.hid (show w11.heap.size ≤ w12.heap.size from D12.size)
  have X_aN_12 := Lib.hid (D12.keepBox X_aN_11.out (fun q => by have q1 := q.1; have q2 := q.2; have l1 := L1.out; have l2 := L2.out; have l3 := L3.out; have l4 := L4.out; have l5 := L5.out; omega)); clear X_aN_11
  have X_w0_12 := Lib.hid (D12.keepBox X_w0_11.out (fun q => by have q1 := q.1; have q2 := q.2; have l5 := L5.out; omega)); clear X_w0_11
  have X_x0_12 := Lib.hid (D12.keepBox X_x0_11.out (fun q => by have q1 := q.1; have q2 := q.2; have l5 := L5.out; omega)); clear X_x0_11
  have X_g0_12 := Lib.hid (D12.keepBox X_g0_11.out (fun q => by have q1 := q.1; have q2 := q.2; have l5 := L5.out; have l6 := L6.out; have l7 := L7.out; omega)); clear X_g0_11
  have O_w0_12 := Lib.hid (O_w0_11.out.touch D12 (fun i p q => by have p1 := p.1; have p2 := p.2; have q1 := q.1; have q2 := q.2; have l4 := L4.out; have l5 := L5.out; omega)); clear O_w0_11
  have O_x1_12 := Lib.hid (O_x1_11.out.touch D12 (fun i p q => by have p1 := p.1; have p2 := p.2; have q1 := q.1; have q2 := q.2; have l5 := L5.out; have l6 := L6.out; omega)); clear O_x1_11
  have O_g0_12 := Lib.hid (O_g0_11.out.touch D12 (fun i p q => by have p1 := p.1; have p2 := p.2; have q1 := q.1; have q2 := q.2; have l5 := L5.out; have l6 := L6.out; have l7 := L7.out; omega)); clear O_g0_11
  clear D12 K_x0_0 K_x0_1 Y12
  have Z12 := Lib.hid P12; clear P12 O_x0_11
  have U12 : 0 ≤ (RTopology.mark false (x0) (1)).2 := by have := B12.out.1; omega
  go_wp2_with fail
  refine (markIntS_c (k := (RTopology.mark false (x0) (1)).2) (O_x1_12.out.below (by repeat (first | (with_reducible exact Below.refl _ _) | refine Below.alloc ?_ (by simp; try omega) _ | refine Below.drew ?_))) (by have := B12.out.1;  omega) (by have := B12.out.2; have e : ((Rep.slice 3 Rep.int).cnt : Int) = 16777216 := (by decide); unfold Top; omega)).mono ?_
  rintro e w13 ⟨rfl, P13, Y13⟩
  have B13 : Hid (1 ≤ ((Rep.slice 3 Rep.int).mark true (x1) ((RTopology.mark false (x0) (1)).2)).2 ∧ ((Rep.slice 3 Rep.int).mark true (x1) ((RTopology.mark false (x0) (1)).2)).2 ≤ (RTopology.mark false (x0) (1)).2 + 16777216) := Lib.hid ⟨by have := (Rep.slice 3 Rep.int).mark_ge (e := true) (x := x1) (k := (RTopology.mark false (x0) (1)).2); have := B12.out.1; omega, by have := (Rep.slice 3 Rep.int).mark_le (e := true) (k := (RTopology.mark false (x0) (1)).2) O_x1_12.out.2; have e : ((Rep.slice 3 Rep.int).cnt : Int) = 16777216 := (by decide); omega⟩
  have D13 : Touch (Btw (w5.heap.size + 1) (w6.heap.size)) w12 w13 := (Touch.of_below (by repeat (first | (with_reducible exact Below.refl _ _) | refine Below.alloc ?_ (by simp; try omega) _ | refine Below.drew ?_))).trans Y13
  have H13 := Lib.hid (H12.out.trans (D13.below (by have := H12.out.size; omega) (fun i hi => by have a := hi.1; have b : w.heap.size ≤ w5.heap.size := H5.out.size; omega)))
  have L13 := Lib.hid (show w12.heap.size ≤ w13.heap.size from D13.size)
  have X_aN_13 := Lib.hid (D13.keepBox X_aN_12.out (fun q => by have q1 := q.1; have q2 := q.2; have l1 := L1.out; have l2 := L2.out; have l3 := L3.out; have l4 := L4.out; have l5 := L5.out; have l6 := L6.out; omega)); clear X_aN_12
  have X_w0_13 := Lib.hid (D13.keepBox X_w0_12.out (fun q => by have q1 := q.1; have q2 := q.2; have l5 := L5.out; have l6 := L6.out; omega)); clear X_w0_12
  have X_x0_13 := Lib.hid (D13.keepBox X_x0_12.out (fun q => by have q1 := q.1; have q2 := q.2; have l6 := L6.out; omega)); clear X_x0_12
  have X_g0_13 := Lib.hid (D13.keepBox X_g0_12.out (fun q => by have q1 := q.1; have q2 := q.2; have l6 := L6.out; have l7 := L7.out; omega)); clear X_g0_12
  have O_w0_13 := Lib.hid (O_w0_12.out.touch D13 (fun i p q => by have p1 := p.1; have p2 := p.2; have q1 := q.1; have q2 := q.2; have l4 := L4.out; have l5 := L5.out; have l6 := L6.out; omega)); clear O_w0_12
  have O_x0_13 := Lib.hid (Z12.out.touch D13 (fun i p q => by have p1 := p.1; have p2 := p.2; have q1 := q.1; have q2 := q.2; have l5 := L5.out; have l6 := L6.out; omega)); clear Z12
  have O_g0_13 := Lib.hid (O_g0_12.out.touch D13 (fun i p q => by have p1 := p.1; have p2 := p.2; have q1 := q.1; have q2 := q.2; have l6 := L6.out; have l7 := L7.out; omega)); clear O_g0_12
  clear D13 Y13
  have Z13 := Lib.hid P13; clear P13 O_x1_12
  have U13 : 0 ≤ ((Rep.slice 3 Rep.int).mark true (x1) ((RTopology.mark false (x0) (1)).2)).2 := by have := B13.out.1; omega
  have K_g0_0 := boxCell X_g0_13.out (j := 0) (v := .int .i64 (remT x0 x1 x2).1) rfl
  have K_g0_1 := boxCell X_g0_13.out (j := 1) (v := .slice t7a1 ((remT x0 x1 x2).2).length t7p1) rfl
  have K_w0_0 := boxCell X_w0_13.out (j := 0) (v := .int .i64 (remT x0 x1 x2).1) rfl
  have K_w0_1 := boxCell X_w0_13.out (j := 1) (v := .slice t4a1 ((remT x0 x1 x2).2).length t4p1) rfl
  go_wp2_with fail
  refine (eqTopology_c (O_g0_13.out.raw.below (by repeat (first | (with_reducible exact Below.refl _ _) | refine Below.alloc ?_ (by simp; try omega) _ | refine Below.drew ?_))) (O_w0_13.out.raw.below (by repeat (first | (with_reducible exact Below.refl _ _) | refine Below.alloc ?_ (by simp; try omega) _ | refine Below.drew ?_)))).mono ?_
  rintro e w14 ⟨rfl, hb14⟩
  have D14 : Below w13.heap.size w13 w14 := Below.trans (by repeat (first | (with_reducible exact Below.refl _ _) | refine Below.alloc ?_ (by simp; try omega) _ | refine Below.drew ?_)) (hb14.mono (by simp))
  have H14 := Lib.hid (H13.out.trans (D14.mono H13.out.size))
  have L14 := Lib.hid (show w13.heap.size + 0 ≤ w14.heap.size from by have h := hb14.size; (try simp at h); omega)
  have X_aN_14 := Lib.hid (keepBox X_aN_13.out D14); clear X_aN_13
  have X_w0_14 := Lib.hid (keepBox X_w0_13.out D14); clear X_w0_13
  have X_x0_14 := Lib.hid (keepBox X_x0_13.out D14); clear X_x0_13
  have X_g0_14 := Lib.hid (keepBox X_g0_13.out D14); clear X_g0_13
  have O_w0_14 := Lib.hid (O_w0_13.out.below D14); clear O_w0_13
  have O_x0_14 := Lib.hid (O_x0_13.out.below D14); clear O_x0_13
  have O_x1_14 := Lib.hid (Z13.out.below D14); clear Z13
  have O_g0_14 := Lib.hid (O_g0_13.out.below D14); clear O_g0_13
  clear D14 K_g0_0 K_g0_1 K_w0_0 K_w0_1 hb14
  have K_g0_0 := boxCell X_g0_14.out (j := 0) (v := .int .i64 (remT x0 x1 x2).1) rfl
  have K_g0_1 := boxCell X_g0_14.out (j := 1) (v := .slice t7a1 ((remT x0 x1 x2).2).length t7p1) rfl
  go_wp2_with fail
  refine (markTopology_c (k := 1) (O_g0_14.out.below (by repeat (first | (with_reducible exact Below.refl _ _) | refine Below.alloc ?_ (by simp; try omega) _ | refine Below.drew ?_))) (by  omega) (by have e : (RTopology.cnt : Int) = 33554433 := (by decide); unfold Top; omega)).mono ?_
  rintro e w15 ⟨rfl, P15, Y15⟩
  have B15 : Hid (1 ≤ (RTopology.mark false (remT x0 x1 x2) (1)).2 ∧ (RTopology.mark false (remT x0 x1 x2) (1)).2 ≤ 1 + 33554433) := Lib.hid ⟨by have := RTopology.mark_ge (e := false) (x := remT x0 x1 x2) (k := 1); omega, by have := RTopology.mark_le (e := false) (k := 1) O_g0_14.out.2; have e : (RTopology.cnt : Int) = 33554433 := (by decide); omega⟩
  have D15 : Touch (Btw (w6.heap.size) (w7.heap.size)) w14 w15 := (Touch.of_below (by repeat (first | (with_reducible exact Below.refl _ _) | refine Below.alloc ?_ (by simp; try omega) _ | refine Below.drew ?_))).trans Y15
  have H15 := Lib.hid (H14.out.trans (D15.below (by have := H14.out.size; omega) (fun i hi => by have a := hi.1; have b : w.heap.size ≤ w6.heap.size := H6.out.size; omega)))
  have L15 := Lib.hid (show w14.heap.size ≤ w15.heap.size from D15.size)
  have X_aN_15 := Lib.hid (D15.keepBox X_aN_14.out (fun q => by have q1 := q.1; have q2 := q.2; have l1 := L1.out; have l2 := L2.out; have l3 := L3.out; have l4 := L4.out; have l5 := L5.out; have l6 := L6.out; have l7 := L7.out; omega)); clear X_aN_14
  have X_w0_15 := Lib.hid (D15.keepBox X_w0_14.out (fun q => by have q1 := q.1; have q2 := q.2; have l5 := L5.out; have l6 := L6.out; have l7 := L7.out; omega)); clear X_w0_14
  have X_x0_15 := Lib.hid (D15.keepBox X_x0_14.out (fun q => by have q1 := q.1; have q2 := q.2; have l6 := L6.out; have l7 := L7.out; omega)); clear X_x0_14
  have X_g0_15 := Lib.hid (D15.keepBox X_g0_14.out (fun q => by have q1 := q.1; have q2 := q.2; have l7 := L7.out; omega)); clear X_g0_14
  have O_w0_15 := Lib.hid (O_w0_14.out.touch D15 (fun i p q => by have p1 := p.1; have p2 := p.2; have q1 := q.1; have q2 := q.2; have l4 := L4.out; have l5 := L5.out; have l6 := L6.out; have l7 := L7.out; omega)); clear O_w0_14
  have O_x0_15 := Lib.hid (O_x0_14.out.touch D15 (fun i p q => by have p1 := p.1; have p2 := p.2; have q1 := q.1; have q2 := q.2; have l5 := L5.out; have l6 := L6.out; have l7 := L7.out; omega)); clear O_x0_14
  have O_x1_15 := Lib.hid (O_x1_14.out.touch D15 (fun i p q => by have p1 := p.1; have p2 := p.2; have q1 := q.1; have q2 := q.2; have l6 := L6.out; have l7 := L7.out; omega)); clear O_x1_14
  clear D15 K_g0_0 K_g0_1 Y15
  have Z15 := Lib.hid P15; clear P15 O_g0_14
  have U15 : 0 ≤ (RTopology.mark false (remT x0 x1 x2) (1)).2 := by have := B15.out.1; omega
  have K_g0_0 := boxCell X_g0_15.out (j := 0) (v := .int .i64 (remT x0 x1 x2).1) rfl
  have K_g0_1 := boxCell X_g0_15.out (j := 1) (v := .slice t7a1 ((remT x0 x1 x2).2).length t7p1) rfl
  go_wp2_with fail
  refine (heldTopology_c (Z15.out.raw.below (by repeat (first | (with_reducible exact Below.refl _ _) | refine Below.alloc ?_ (by simp; try omega) _ | refine Below.drew ?_))) (RTopology.mark_held (e := false) (x := remT x0 x1 x2) (k := 1)) (by have := B15.out.1;  omega) (by have := B15.out.2;  omega)).mono ?_
  rintro e w16 ⟨rfl, hb16⟩
  have D16 : Below w15.heap.size w15 w16 := Below.trans (by repeat (first | (with_reducible exact Below.refl _ _) | refine Below.alloc ?_ (by simp; try omega) _ | refine Below.drew ?_)) (hb16.mono (by simp))
  have H16 := Lib.hid (H15.out.trans (D16.mono H15.out.size))
  have L16 := Lib.hid (show w15.heap.size + 0 ≤ w16.heap.size from by have h := hb16.size; (try simp at h); omega)
  have X_aN_16 := Lib.hid (keepBox X_aN_15.out D16); clear X_aN_15
  have X_w0_16 := Lib.hid (keepBox X_w0_15.out D16); clear X_w0_15
  have X_x0_16 := Lib.hid (keepBox X_x0_15.out D16); clear X_x0_15
  have X_g0_16 := Lib.hid (keepBox X_g0_15.out D16); clear X_g0_15
  have O_w0_16 := Lib.hid (O_w0_15.out.below D16); clear O_w0_15
  have O_x0_16 := Lib.hid (O_x0_15.out.below D16); clear O_x0_15
  have O_x1_16 := Lib.hid (O_x1_15.out.below D16); clear O_x1_15
  have O_g0_16 := Lib.hid (Z15.out.below D16); clear Z15
  clear D16 K_g0_0 K_g0_1 hb16
  have K_aN_0 := boxCell X_aN_16.out (j := 0) (v := .int .i64 x0.1) rfl
  have K_aN_1 := boxCell X_aN_16.out (j := 1) (v := a0v1) rfl
  go_wp2_with fail
  refine (toTopology_c (r0.below (by repeat (first | (with_reducible exact H16.out) | refine Below.alloc ?_ (by have := H16.out.size; simp; try omega) _ | refine Below.drew ?_)))).mono ?_
  rintro e w17 ⟨cs17, rfl, O17, hb17⟩
  obtain ⟨t17v1, rfl, t17_0, t17_1⟩ := RTopology_raw O17.raw
  obtain ⟨t17a1, t17p1, t17h1, _⟩ := Rep.len_raw t17_1; obtain rfl : t17v1 = _ := (by simpa using t17h1)
  clear t17h1
  clear t17_0 t17_1
  have Z17 := Lib.hid (O17.wide (T := Btw (w16.heap.size) (w17.heap.size)) (fun i hi => ⟨by have h := hi.1; (try simp at h); omega, hi.2⟩)); clear O17
  have D17 : Below w16.heap.size w16 w17 := Below.trans (by repeat (first | (with_reducible exact Below.refl _ _) | refine Below.alloc ?_ (by simp; try omega) _ | refine Below.drew ?_)) (hb17.mono (by simp))
  have H17 := Lib.hid (H16.out.trans (D17.mono H16.out.size))
  have L17 := Lib.hid (show w16.heap.size + 0 ≤ w17.heap.size from by have h := hb17.size; (try simp at h); omega)
  have X_aN_17 := Lib.hid (keepBox X_aN_16.out D17); clear X_aN_16
  have X_w0_17 := Lib.hid (keepBox X_w0_16.out D17); clear X_w0_16
  have X_x0_17 := Lib.hid (keepBox X_x0_16.out D17); clear X_x0_16
  have X_g0_17 := Lib.hid (keepBox X_g0_16.out D17); clear X_g0_16
  have O_w0_17 := Lib.hid (O_w0_16.out.below D17); clear O_w0_16
  have O_x0_17 := Lib.hid (O_x0_16.out.below D17); clear O_x0_16
  have O_x1_17 := Lib.hid (O_x1_16.out.below D17); clear O_x1_16
  have O_g0_17 := Lib.hid (O_g0_16.out.below D17); clear O_g0_16
  clear D17 K_aN_0 K_aN_1 hb17
  go_wp2_with fail
  refine (toIntS_c (r1.below (by repeat (first | (with_reducible exact H17.out) | refine Below.alloc ?_ (by have := H17.out.size; simp; try omega) _ | refine Below.drew ?_)))).mono ?_
  rintro e w18 ⟨tv18, rfl, O18, hb18⟩
  obtain ⟨t18a, t18p, t18h, _⟩ := Rep.len_raw O18.raw; obtain rfl : tv18 = _ := (by simpa using t18h)
  clear t18h
  have Z18 := Lib.hid (O18.wide (T := Btw (w17.heap.size) (w18.heap.size)) (fun i hi => ⟨by have h := hi.1; (try simp at h); omega, hi.2⟩)); clear O18
  have D18 : Below w17.heap.size w17 w18 := Below.trans (by repeat (first | (with_reducible exact Below.refl _ _) | refine Below.alloc ?_ (by simp; try omega) _ | refine Below.drew ?_)) (hb18.mono (by simp))
  have H18 := Lib.hid (H17.out.trans (D18.mono H17.out.size))
  have L18 := Lib.hid (show w17.heap.size + 0 ≤ w18.heap.size from by have h := hb18.size; (try simp at h); omega)
  have X_aN_18 := Lib.hid (keepBox X_aN_17.out D18); clear X_aN_17
  have X_w0_18 := Lib.hid (keepBox X_w0_17.out D18); clear X_w0_17
  have X_x0_18 := Lib.hid (keepBox X_x0_17.out D18); clear X_x0_17
  have X_g0_18 := Lib.hid (keepBox X_g0_17.out D18); clear X_g0_17
  have O_w0_18 := Lib.hid (O_w0_17.out.below D18); clear O_w0_17
  have O_x0_18 := Lib.hid (O_x0_17.out.below D18); clear O_x0_17
  have O_x1_18 := Lib.hid (O_x1_17.out.below D18); clear O_x1_17
  have O_g0_18 := Lib.hid (O_g0_17.out.below D18); clear O_g0_17
  have O_t17_18 := Lib.hid (Z17.out.below D18); clear Z17
  clear D18 hb18
  go_wp2_with fail
  refine (implRemoveFailed_c (O_t17_18.out.rd.below (by repeat (first | (with_reducible exact Below.refl _ _) | refine Below.alloc ?_ (by simp; try omega) _ | refine Below.drew ?_))) (Z18.out.rd.below (by repeat (first | (with_reducible exact Below.refl _ _) | refine Below.alloc ?_ (by simp; try omega) _ | refine Below.drew ?_))) hi2.out).mono ?_
  rintro e w19 ⟨cs19, rfl, O19, hb19⟩
  obtain ⟨t19v1, rfl, t19_0, t19_1⟩ := RTopology_raw O19.raw
  obtain ⟨t19a1, t19p1, t19h1, _⟩ := Rep.len_raw t19_1; obtain rfl : t19v1 = _ := (by simpa using t19h1)
  clear t19h1
  clear t19_0 t19_1
  have Z19 := Lib.hid (O19.wide (T := Btw (w18.heap.size) (w19.heap.size)) (fun i hi => ⟨by have h := hi.1; (try simp at h); omega, hi.2⟩)); clear O19
  have D19 : Below w18.heap.size w18 w19 := Below.trans (by repeat (first | (with_reducible exact Below.refl _ _) | refine Below.alloc ?_ (by simp; try omega) _ | refine Below.drew ?_)) (hb19.mono (by simp))
  have H19 := Lib.hid (H18.out.trans (D19.mono H18.out.size))
  have L19 := Lib.hid (show w18.heap.size + 0 ≤ w19.heap.size from by have h := hb19.size; (try simp at h); omega)
  have X_aN_19 := Lib.hid (keepBox X_aN_18.out D19); clear X_aN_18
  have X_w0_19 := Lib.hid (keepBox X_w0_18.out D19); clear X_w0_18
  have X_x0_19 := Lib.hid (keepBox X_x0_18.out D19); clear X_x0_18
  have X_g0_19 := Lib.hid (keepBox X_g0_18.out D19); clear X_g0_18
  have O_w0_19 := Lib.hid (O_w0_18.out.below D19); clear O_w0_18
  have O_x0_19 := Lib.hid (O_x0_18.out.below D19); clear O_x0_18
  have O_x1_19 := Lib.hid (O_x1_18.out.below D19); clear O_x1_18
  have O_g0_19 := Lib.hid (O_g0_18.out.below D19); clear O_g0_18
  have O_t17_19 := Lib.hid (O_t17_18.out.below D19); clear O_t17_18
  have O_t18_19 := Lib.hid (Z18.out.below D19); clear Z18
  clear D19 hb19
  clear O_t17_19
  clear O_t18_19
  have K_w0_0 := boxCell X_w0_19.out (j := 0) (v := .int .i64 (remT x0 x1 x2).1) rfl
  have K_w0_1 := boxCell X_w0_19.out (j := 1) (v := .slice t4a1 ((remT x0 x1 x2).2).length t4p1) rfl
  have J_w0 : w4.heap.size < w19.heap.size := by have l5 := L5.out; have l6 := L6.out; have l7 := L7.out; have l8 := L8.out; have l9 := L9.out; have l10 := L10.out; have l11 := L11.out; have l12 := L12.out; have l13 := L13.out; have l14 := L14.out; have l15 := L15.out; have l16 := L16.out; have l17 := L17.out; have l18 := L18.out; have l19 := L19.out; omega
  go_wp2_with fail
  refine (eqTopology_c (Z19.out.raw.below (by repeat (first | (with_reducible exact Below.refl _ _) | refine Below.alloc ?_ (by simp; try omega) _ | refine Below.drew ?_))) (O_w0_19.out.raw.below (by repeat (first | (with_reducible exact Below.refl _ _) | refine Below.alloc ?_ (by simp; try omega) _ | refine Below.drew ?_)))).mono ?_
  rintro e w20 ⟨rfl, hb20⟩
  have D20 : Below w19.heap.size w19 w20 := Below.trans (by repeat (first | (with_reducible exact Below.refl _ _) | refine Below.alloc ?_ (by simp; try omega) _ | refine Below.drew ?_)) (hb20.mono (by simp))
  have H20 := Lib.hid (H19.out.trans (D20.mono H19.out.size))
  have L20 := Lib.hid (show w19.heap.size + 1 ≤ w20.heap.size from by have h := hb20.size; (try simp at h); omega)
  have X_aN_20 := Lib.hid (keepBox X_aN_19.out D20); clear X_aN_19
  have X_w0_20 := Lib.hid (keepBox X_w0_19.out D20); clear X_w0_19
  have X_x0_20 := Lib.hid (keepBox X_x0_19.out D20); clear X_x0_19
  have X_g0_20 := Lib.hid (keepBox X_g0_19.out D20); clear X_g0_19
  have X_h0_20 : Hid (w20.heap[w19.heap.size]? = some (.cells #[.int .i64 (remT x0 x1 x2).1, .slice t19a1 ((remT x0 x1 x2).2).length t19p1] 29 (0, 0))) := Lib.hid ((hb20.block (w19.heap.size) (by simp)).trans (heap_new_at (by simp)))
  have O_w0_20 := Lib.hid (O_w0_19.out.below D20); clear O_w0_19
  have O_x0_20 := Lib.hid (O_x0_19.out.below D20); clear O_x0_19
  have O_x1_20 := Lib.hid (O_x1_19.out.below D20); clear O_x1_19
  have O_g0_20 := Lib.hid (O_g0_19.out.below D20); clear O_g0_19
  have O_h0_20 := Lib.hid (Z19.out.below D20); clear Z19
  clear D20 K_w0_0 K_w0_1 J_w0 hb20
  have K_g0_0 := boxCell X_g0_20.out (j := 0) (v := .int .i64 (remT x0 x1 x2).1) rfl
  have K_g0_1 := boxCell X_g0_20.out (j := 1) (v := .slice t7a1 ((remT x0 x1 x2).2).length t7p1) rfl
  go_wp2_with fail
  refine (heldTopology_c (O_g0_20.out.raw.below (by repeat (first | (with_reducible exact Below.refl _ _) | refine Below.alloc ?_ (by simp; try omega) _ | refine Below.drew ?_))) (RTopology.mark_held (e := false) (x := remT x0 x1 x2) (k := 1)) (by have := B15.out.1;  omega) (by have := B15.out.2;  omega)).mono ?_
  rintro e w21 ⟨rfl, hb21⟩
  have D21 : Below w20.heap.size w20 w21 := Below.trans (by repeat (first | (with_reducible exact Below.refl _ _) | refine Below.alloc ?_ (by simp; try omega) _ | refine Below.drew ?_)) (hb21.mono (by simp))
  have H21 := Lib.hid (H20.out.trans (D21.mono H20.out.size))
  have L21 := Lib.hid (show w20.heap.size + 0 ≤ w21.heap.size from by have h := hb21.size; (try simp at h); omega)
  have X_aN_21 := Lib.hid (keepBox X_aN_20.out D21); clear X_aN_20
  have X_w0_21 := Lib.hid (keepBox X_w0_20.out D21); clear X_w0_20
  have X_x0_21 := Lib.hid (keepBox X_x0_20.out D21); clear X_x0_20
  have X_g0_21 := Lib.hid (keepBox X_g0_20.out D21); clear X_g0_20
  have X_h0_21 := Lib.hid (keepBox X_h0_20.out D21); clear X_h0_20
  have O_w0_21 := Lib.hid (O_w0_20.out.below D21); clear O_w0_20
  have O_x0_21 := Lib.hid (O_x0_20.out.below D21); clear O_x0_20
  have O_x1_21 := Lib.hid (O_x1_20.out.below D21); clear O_x1_20
  have O_g0_21 := Lib.hid (O_g0_20.out.below D21); clear O_g0_20
  have O_h0_21 := Lib.hid (O_h0_20.out.below D21); clear O_h0_20
  clear D21 K_g0_0 K_g0_1 hb21
  go_wp2
  go_ret
  exact ⟨rfl, H21.out⟩

set_option maxRecDepth 100000 in
theorem lawRemoveFailed_lifted (os : Os) (started : os.Started) (H : Type) (enc : TypeId × Value → H) :
    ReturnsInHanded {} Try.checked os 9 .any (Rows.fnExactRemoveFailedSpec.pre6 enc Try.prog Try.f9 Rows.fnExactRemoveFailedRow.domain false) (Rows.fnExactRemoveFailedSpec.post enc Try.prog Try.f9 false true false false) := by
  refine returnsInHanded_of_change (C := Try.checked) law_own started (by kernel_rfl) Try.func9
    (ChangeSpec.witness6 (enc := enc) (C := Try.checked) false ⟨#[], #[.agg #[.int .i64 0, .slice none 0 0], .slice none 0 0, .int .i64 0], []⟩ 8 (by kernel_rfl) (by kernel_rfl) (by kernel_rfl) (by kernel_rfl)) ?_
  intro W base args ds gs before hval0 hW _ _
  have hval : ∀ (j : Nat) t v, Try.f9.params[j]? = some t → args[j]? = some v → Value.okWide Try.prog W .any base t v := hval0
  have hW0 : DataW.Whole enc Try.prog Try.f9.params.toList Rows.fnExactRemoveFailedSpec.vars false W args.toList ds gs before := hW
  obtain ⟨p, q, hA0, hV, rfl, hfz, hnd⟩ := hW
  have hA : DataW.TrodAll enc Try.prog W 0 (fun _ => true) true Try.f9.params.toList args.toList ds p := hA0
  rw [Try.params9] at hA hval
  obtain ⟨v0, vs0, d0, ds0, p0, q0, hargs, rfl, rfl, g0, s0⟩ := trodAll_cons hA
  obtain ⟨v1, vs1, d1, ds1, p1, q1, rfl, rfl, rfl, g1, s1⟩ := trodAll_cons s0
  obtain ⟨v2, vs2, d2, ds2, p2, q2, rfl, rfl, rfl, g2, s2⟩ := trodAll_cons s1
  obtain ⟨rfl, rfl, rfl⟩ := trodAll_nil s2
  obtain rfl : args = #[v0, v1, v2] := by cases args; simp_all
  obtain ⟨rfl, rfl⟩ := trodVars_none hV
  obtain ⟨c0, rfl⟩ : ∃ c : List Value, v0 = .agg c.toArray := by
    have h := hval 0 24 v0 rfl rfl
    unfold Value.okWide at h
    rw [Try.underlying24] at h
    obtain ⟨cs, rfl, _⟩ := h
    exact ⟨cs.toList, by simp⟩
  obtain ⟨fu0, hf0⟩ := g0
  obtain ⟨x0, h0⟩ := bridge_Topology (w := W) hf0
  have h0 : RTopology.raw W c0 x0 := by simpa [Value.cells] using h0
  obtain ⟨a1, len1, cap1, rfl⟩ := okWide_slice Try.underlying44 (hval 1 44 v1 rfl rfl)
  obtain ⟨fu1, hf1⟩ := g1
  obtain ⟨x1, h1⟩ := bridge_IntS (w := W) hf1
  have h1 : (Rep.slice 3 Rep.int).raw W [.slice a1 len1 cap1] x1 := by simpa [Value.cells] using h1
  obtain ⟨x2, rfl, rfl, rfl, e2⟩ := open_int Try.underlying3 (hval 2 3 v2 rfl rfl) g2
  have h2 : -9223372036854775808 ≤ x2 ∧ x2 ≤ 9223372036854775807 := by simpa [Lit.wf, IntKind.min, IntKind.max, IntKind.signed, IntKind.bits] using e2
  refine (lawRemoveFailed_c h0 h1 h2).mono fun e W' ⟨he, hb⟩ => ?_
  subst he
  refine ⟨_, rfl, law_post (tb := 4) hW0 rfl rfl Try.underlying4 ⟨rfl, rfl, rfl⟩ ?_ hb⟩
  rw [Try.params9]
  intro t ht
  have hall : ([24, 44, 3].all fun t => Try.prog.readableRec t && decide (t < Try.prog.types.size)) = true := by kernel_rfl
  have h1 := List.all_eq_true.1 hall t ht
  simpa using h1

theorem lawRemoveFailed_holds : Rows.FnExactRemoveFailedSaid :=
  OpenClaim.holds_of_wide 9 Try.f9 rfl rfl rfl rfl rfl rfl rfl ⟨rfl, rfl, rfl, rfl, rfl⟩ rfl rfl rfl rfl rfl (by kernel_rfl) Try.func9 (by kernel_rfl)
    (of_decide_eq_true (by kernel_rfl)) (by unfold Func.isWrapper; first | (rw [if_pos (by decide +kernel)]; kernel_rfl) | (rw [if_neg (by decide +kernel)]; exact ⟨rfl, rfl⟩))
    (fun os started H enc _ => lawRemoveFailed_lifted os started H enc)
end Go.Proofs.Ytaaobbbkfhggaaa

/-
  The law FnExactEncodeAdvertisement, walked: it returns true, whatever its arguments; then its statement. Printed by genlaw.py.
-/
import Derived.Test.YtadneiijklnccaaEq
import Derived.Test.YtadneiijklnccaaSz
import Derived.Test.YtadneiijklnccaaTo
import Derived.Test.YtadneiijklnccaaBridge
import Derived.Test.YtadneiijklnccaaMark
import Derived.Test.YtadneiijklnccaaHeld
import Derived.Test.YtadneiijklnccaaEncA
import Derived.Test.YtadneiijklnccaaSoftT
import Derived.Deep.RegionHeld3
namespace Go.Proofs.Ytadneiijklnccaa
open Go.ChangeShapes Go.WideShapes Go.ChangeAt Go.RowKit
set_option linter.unusedVariables false
set_option linter.unusedSimpArgs false
set_option linter.unnecessarySimpa false
set_option maxRecDepth 100000 in
set_option maxHeartbeats 4000000 in
theorem lawEncodeAdvertisement_c {w : World} {c0 : List Value} {x0 : LAdvertisement} (h0 : RAdvertisement.raw w c0 x0) :
    Calls Try.prog 3 #[.agg c0.toArray] w (LawPost w) := by
  obtain ⟨a0v2, a0v3, rfl, a0_0, a0_1, a0_2, a0_3⟩ := RAdvertisement_raw h0
  clear a0_0 a0_1 a0_2 a0_3
  go_enter Try.func3, Try.ntmps3
  go_wp2_with fail
  refine (szAdvertisement_c (h0.below (by repeat (first | (with_reducible exact Below.refl _ _) | refine Below.alloc ?_ (by simp; try omega) _ | refine Below.drew ?_))) (by omega) (by omega)).mono ?_
  rintro e w1 ⟨s1, rfl, p1, q1, g1, hb1⟩
  have G1 := Lib.hid g1; clear g1
  have D1 : Below w.heap.size w w1 := Below.trans (by repeat (first | (with_reducible exact Below.refl _ _) | refine Below.alloc ?_ (by simp; try omega) _ | refine Below.drew ?_)) (hb1.mono (by first | (simp; done) | (simp; omega)))
  have H1 := Lib.hid D1
  have L1 := Lib.hid (show w.heap.size + 1 ≤ w1.heap.size from by have h := hb1.size; (try simp at h); omega)
  have X_aA_1 : Hid (w1.heap[w.heap.size]? = some (.cells #[.int .i64 x0.1, .int .i64 x0.2.1, a0v2, a0v3] 25 (0, 0))) := Lib.hid ((hb1.block (w.heap.size) (by first | (simp; done) | (simp; omega))).trans (heap_new_at (by simp)))
  clear D1 hb1
  by_cases m1 : s1 < 0
  · go_wp2
    go_ret
    exact ⟨rfl, H1.out⟩
  have z1 : 0 ≤ s1 := by omega
  have r0 : RAdvertisement.rd w _ x0 := ⟨h0, RAdvertisement.bdd_mono (G1.out z1) (by decide)⟩
  have K_aA_0 := boxCell X_aA_1.out (j := 0) (v := .int .i64 x0.1) rfl
  have K_aA_1 := boxCell X_aA_1.out (j := 1) (v := .int .i64 x0.2.1) rfl
  have K_aA_2 := boxCell X_aA_1.out (j := 2) (v := a0v2) rfl
  have K_aA_3 := boxCell X_aA_1.out (j := 3) (v := a0v3) rfl
  go_wp2_with fail
  refine (toAdvertisement_c (r0.below (by repeat (first | (with_reducible exact H1.out) | refine Below.alloc ?_ (by have := H1.out.size; simp; try omega) _ | refine Below.drew ?_)))).mono ?_
  rintro e w2 ⟨cs2, rfl, O2, hb2⟩
  obtain ⟨t2v2, t2v3, rfl, t2_0, t2_1, t2_2, t2_3⟩ := RAdvertisement_raw O2.raw
  obtain ⟨t2a2, t2p2, t2h2, _⟩ := Rep.len_raw t2_2; obtain rfl : t2v2 = _ := (by simpa using t2h2)
  clear t2h2
  obtain ⟨t2a3, t2p3, t2h3, _⟩ := Rep.len_raw t2_3; obtain rfl : t2v3 = _ := (by simpa using t2h3)
  clear t2h3
  clear t2_0 t2_1 t2_2 t2_3
  have Z2 := Lib.hid (O2.wide (T := Btw (w1.heap.size) (w2.heap.size)) (fun i hi => ⟨by have h := hi.1; (try simp at h); omega, hi.2⟩)); clear O2
  have D2 : Below w1.heap.size w1 w2 := Below.trans (by repeat (first | (with_reducible exact Below.refl _ _) | refine Below.alloc ?_ (by simp; try omega) _ | refine Below.drew ?_)) (hb2.mono (by first | (simp; done) | (simp; omega)))
  have H2 := Lib.hid (H1.out.trans (D2.mono H1.out.size))
  have L2 := Lib.hid (show w1.heap.size + 0 ≤ w2.heap.size from by have h := hb2.size; (try simp at h); omega)
  have X_aA_2 := Lib.hid (keepBox X_aA_1.out D2); clear X_aA_1
  clear D2 K_aA_0 K_aA_1 K_aA_2 K_aA_3 hb2
  go_wp2_with fail
  refine (specEncodeAdvertisement_c (Z2.out.rd.below (by repeat (first | (with_reducible exact Below.refl _ _) | refine Below.alloc ?_ (by simp; try omega) _ | refine Below.drew ?_)))).mono ?_
  rintro e w3 ⟨tv3, rfl, O3, hb3⟩
  obtain ⟨t3a, t3p, t3h, _⟩ := Rep.len_raw O3.raw; obtain rfl : tv3 = _ := (by simpa using t3h)
  clear t3h
  have Z3 := Lib.hid (O3.wide (T := Btw (w2.heap.size) (w3.heap.size)) (fun i hi => ⟨by have h := hi.1; (try simp at h); omega, hi.2⟩)); clear O3
  have D3 : Below w2.heap.size w2 w3 := Below.trans (by repeat (first | (with_reducible exact Below.refl _ _) | refine Below.alloc ?_ (by simp; try omega) _ | refine Below.drew ?_)) (hb3.mono (by first | (simp; done) | (simp; omega)))
  have H3 := Lib.hid (H2.out.trans (D3.mono H2.out.size))
  have L3 := Lib.hid (show w2.heap.size + 0 ≤ w3.heap.size from by have h := hb3.size; (try simp at h); omega)
  have X_aA_3 := Lib.hid (keepBox X_aA_2.out D3); clear X_aA_2
  have O_t2_3 := Lib.hid (Z2.out.below D3); clear Z2
  clear D3 hb3
  clear O_t2_3
  have K_aA_0 := boxCell X_aA_3.out (j := 0) (v := .int .i64 x0.1) rfl
  have K_aA_1 := boxCell X_aA_3.out (j := 1) (v := .int .i64 x0.2.1) rfl
  have K_aA_2 := boxCell X_aA_3.out (j := 2) (v := a0v2) rfl
  have K_aA_3 := boxCell X_aA_3.out (j := 3) (v := a0v3) rfl
  go_wp2_with fail
  refine (toAdvertisement_c (r0.below (by repeat (first | (with_reducible exact H3.out) | refine Below.alloc ?_ (by have := H3.out.size; simp; try omega) _ | refine Below.drew ?_)))).mono ?_
  rintro e w4 ⟨cs4, rfl, O4, hb4⟩
  obtain ⟨t4v2, t4v3, rfl, t4_0, t4_1, t4_2, t4_3⟩ := RAdvertisement_raw O4.raw
  obtain ⟨t4a2, t4p2, t4h2, _⟩ := Rep.len_raw t4_2; obtain rfl : t4v2 = _ := (by simpa using t4h2)
  clear t4h2
  obtain ⟨t4a3, t4p3, t4h3, _⟩ := Rep.len_raw t4_3; obtain rfl : t4v3 = _ := (by simpa using t4h3)
  clear t4h3
  clear t4_0 t4_1 t4_2 t4_3
  have Z4 := Lib.hid (O4.wide (T := Btw (w3.heap.size) (w4.heap.size)) (fun i hi => ⟨by have h := hi.1; (try simp at h); omega, hi.2⟩)); clear O4
  have D4 : Below w3.heap.size w3 w4 := Below.trans (by repeat (first | (with_reducible exact Below.refl _ _) | refine Below.alloc ?_ (by simp; try omega) _ | refine Below.drew ?_)) (hb4.mono (by first | (simp; done) | (simp; omega)))
  have H4 := Lib.hid (H3.out.trans (D4.mono H3.out.size))
  have L4 := Lib.hid (show w3.heap.size + 0 ≤ w4.heap.size from by have h := hb4.size; (try simp at h); omega)
  have X_aA_4 := Lib.hid (keepBox X_aA_3.out D4); clear X_aA_3
  have O_w0_4 := Lib.hid (Z3.out.below D4); clear Z3
  clear D4 K_aA_0 K_aA_1 K_aA_2 K_aA_3 hb4
  go_wp2_with fail
  refine (implEncodeAdvertisement_c (Z4.out.rd.below (by repeat (first | (with_reducible exact Below.refl _ _) | refine Below.alloc ?_ (by simp; try omega) _ | refine Below.drew ?_)))).mono ?_
  rintro e w5 ⟨tv5, rfl, O5, hb5⟩
  obtain ⟨t5a, t5p, t5h, _⟩ := Rep.len_raw O5.raw; obtain rfl : tv5 = _ := (by simpa using t5h)
  clear t5h
  have Z5 := Lib.hid (O5.wide (T := Btw (w4.heap.size + 1) (w5.heap.size)) (fun i hi => ⟨by have h := hi.1; (try simp at h); omega, hi.2⟩)); clear O5
  have D5 : Below w4.heap.size w4 w5 := Below.trans (by repeat (first | (with_reducible exact Below.refl _ _) | refine Below.alloc ?_ (by simp; try omega) _ | refine Below.drew ?_)) (hb5.mono (by first | (simp; done) | (simp; omega)))
  have H5 := Lib.hid (H4.out.trans (D5.mono H4.out.size))
  have L5 := Lib.hid (show w4.heap.size + 1 ≤ w5.heap.size from by have h := hb5.size; (try simp at h); omega)
  have X_aA_5 := Lib.hid (keepBox X_aA_4.out D5); clear X_aA_4
  have X_x0_5 : Hid (w5.heap[w4.heap.size]? = some (.cells #[.int .i64 x0.1, .int .i64 x0.2.1, .slice t4a2 (x0.2.2.1).length t4p2, .slice t4a3 (x0.2.2.2).length t4p3] 31 (0, 0))) := Lib.hid ((hb5.block (w4.heap.size) (by first | (simp; done) | (simp; omega))).trans (heap_new_at (by simp)))
  have O_w0_5 := Lib.hid (O_w0_4.out.below D5); clear O_w0_4
  have O_x0_5 := Lib.hid (Z4.out.below D5); clear Z4
  clear D5 hb5
  go_wp2_with fail
  refine (eqByteS_c (Z5.out.raw.below (by repeat (first | (with_reducible exact Below.refl _ _) | refine Below.alloc ?_ (by simp; try omega) _ | refine Below.drew ?_))) (O_w0_5.out.raw.below (by repeat (first | (with_reducible exact Below.refl _ _) | refine Below.alloc ?_ (by simp; try omega) _ | refine Below.drew ?_)))).mono ?_
  rintro e w6 ⟨rfl, hb6⟩
  have D6 : Below w5.heap.size w5 w6 := Below.trans (by repeat (first | (with_reducible exact Below.refl _ _) | refine Below.alloc ?_ (by simp; try omega) _ | refine Below.drew ?_)) (hb6.mono (by first | (simp; done) | (simp; omega)))
  have H6 := Lib.hid (H5.out.trans (D6.mono H5.out.size))
  have L6 := Lib.hid (show w5.heap.size + 0 ≤ w6.heap.size from by have h := hb6.size; (try simp at h); omega)
  have X_aA_6 := Lib.hid (keepBox X_aA_5.out D6); clear X_aA_5
  have X_x0_6 := Lib.hid (keepBox X_x0_5.out D6); clear X_x0_5
  have O_w0_6 := Lib.hid (O_w0_5.out.below D6); clear O_w0_5
  have O_x0_6 := Lib.hid (O_x0_5.out.below D6); clear O_x0_5
  have O_g0_6 := Lib.hid (Z5.out.below D6); clear Z5
  clear D6 hb6
  have K_aA_0 := boxCell X_aA_6.out (j := 0) (v := .int .i64 x0.1) rfl
  have K_aA_1 := boxCell X_aA_6.out (j := 1) (v := .int .i64 x0.2.1) rfl
  have K_aA_2 := boxCell X_aA_6.out (j := 2) (v := a0v2) rfl
  have K_aA_3 := boxCell X_aA_6.out (j := 3) (v := a0v3) rfl
  have K_x0_0 := boxCell X_x0_6.out (j := 0) (v := .int .i64 x0.1) rfl
  have K_x0_1 := boxCell X_x0_6.out (j := 1) (v := .int .i64 x0.2.1) rfl
  have K_x0_2 := boxCell X_x0_6.out (j := 2) (v := .slice t4a2 (x0.2.2.1).length t4p2) rfl
  have K_x0_3 := boxCell X_x0_6.out (j := 3) (v := .slice t4a3 (x0.2.2.2).length t4p3) rfl
  go_wp2_with fail
  go_region_held3 (fun W => W.cell? ⟨w.heap.size, 0, none⟩ = some (.int .i64 x0.1) ∧ W.cell? ⟨w.heap.size, 1, none⟩ = some (.int .i64 x0.2.1) ∧ W.cell? ⟨w.heap.size, 2, none⟩ = some (a0v2) ∧ W.cell? ⟨w.heap.size, 3, none⟩ = some (a0v3) ∧ W.cell? ⟨w4.heap.size, 0, none⟩ = some (.int .i64 x0.1) ∧ W.cell? ⟨w4.heap.size, 1, none⟩ = some (.int .i64 x0.2.1) ∧ W.cell? ⟨w4.heap.size, 2, none⟩ = some (.slice t4a2 (x0.2.2.1).length t4p2) ∧ W.cell? ⟨w4.heap.size, 3, none⟩ = some (.slice t4a3 (x0.2.2.2).length t4p3)) (first | exact ⟨cell_later hd7 (cell_later hc7 K_aA_0), cell_later hd7 (cell_later hc7 K_aA_1), cell_later hd7 (cell_later hc7 K_aA_2), cell_later hd7 (cell_later hc7 K_aA_3), cell_later hd7 (cell_later hc7 K_x0_0), cell_later hd7 (cell_later hc7 K_x0_1), cell_later hd7 (cell_later hc7 K_x0_2), cell_later hd7 (cell_later hc7 K_x0_3)⟩ | exact ⟨cell_later hc7 K_aA_0, cell_later hc7 K_aA_1, cell_later hc7 K_aA_2, cell_later hc7 K_aA_3, cell_later hc7 K_x0_0, cell_later hc7 K_x0_1, cell_later hc7 K_x0_2, cell_later hc7 K_x0_3⟩ | go_keep)
    (first | (go_at_call 6; refine (toAdvertisement_c (r0.below (by repeat (first | (with_reducible exact H6.out) | refine Below.alloc ?_ (by have := H6.out.size; simp; try omega) _ | refine Below.drew ?_)))).mono ?_; rintro e u7 ⟨cs7, rfl, O7, hc7⟩; obtain ⟨t7v2, t7v3, rfl, t7_0, t7_1, t7_2, t7_3⟩ := RAdvertisement_raw O7.raw; obtain ⟨t7a2, t7p2, t7h2, _⟩ := Rep.len_raw t7_2; obtain rfl : t7v2 = _ := (by simpa using t7h2); clear t7h2; obtain ⟨t7a3, t7p3, t7h3, _⟩ := Rep.len_raw t7_3; obtain rfl : t7v3 = _ := (by simpa using t7h3); clear t7h3; clear t7_0 t7_1 t7_2 t7_3) | (go_at_call 9; refine (eqAdvertisement_c (O_x0_6.out.raw.below (Below.trans (by repeat (first | (with_reducible exact Below.refl _ _) | refine Below.alloc ?_ (by simp; try omega) _ | refine Below.drew ?_)) (hc7.mono (by simp)))) O7.raw).mono ?_; rintro e w7 ⟨rfl, hd7⟩))
  have hb7 := hc7.trans (hd7.mono hc7.size); clear hc7 hd7 O7
  have D7 : Below w6.heap.size w6 w7 := Below.trans (by repeat (first | (with_reducible exact Below.refl _ _) | refine Below.alloc ?_ (by simp; try omega) _ | refine Below.drew ?_)) (hb7.mono (by first | (simp; done) | (simp; omega)))
  have H7 := Lib.hid (H6.out.trans (D7.mono H6.out.size))
  have L7 := Lib.hid (show w6.heap.size + 0 ≤ w7.heap.size from by have h := hb7.size; (try simp at h); omega)
  have X_aA_7 := Lib.hid (keepBox X_aA_6.out D7); clear X_aA_6
  have X_x0_7 := Lib.hid (keepBox X_x0_6.out D7); clear X_x0_6
  have O_w0_7 := Lib.hid (O_w0_6.out.below D7); clear O_w0_6
  have O_x0_7 := Lib.hid (O_x0_6.out.below D7); clear O_x0_6
  have O_g0_7 := Lib.hid (O_g0_6.out.below D7); clear O_g0_6
  clear D7 K_aA_0 K_aA_1 K_aA_2 K_aA_3 K_x0_0 K_x0_1 K_x0_2 K_x0_3 hb7
  have K_x0_0 := boxCell X_x0_7.out (j := 0) (v := .int .i64 x0.1) rfl
  have K_x0_1 := boxCell X_x0_7.out (j := 1) (v := .int .i64 x0.2.1) rfl
  have K_x0_2 := boxCell X_x0_7.out (j := 2) (v := .slice t4a2 (x0.2.2.1).length t4p2) rfl
  have K_x0_3 := boxCell X_x0_7.out (j := 3) (v := .slice t4a3 (x0.2.2.2).length t4p3) rfl
  go_wp2_with fail
  refine (markAdvertisement_c (k := 1) (O_x0_7.out.below (by repeat (first | (with_reducible exact Below.refl _ _) | refine Below.alloc ?_ (by simp; try omega) _ | refine Below.drew ?_))) (by  omega) (by have e : (RAdvertisement.cnt : Int) = 281474993487874 := (by decide); unfold Top; omega)).mono ?_
  rintro e w8 ⟨rfl, P8, Y8⟩
  have B8 : Hid (1 ≤ (RAdvertisement.mark false (x0) (1)).2 ∧ (RAdvertisement.mark false (x0) (1)).2 ≤ 1 + 281474993487874) := Lib.hid ⟨by have := RAdvertisement.mark_ge (e := false) (x := x0) (k := 1); omega, by have := RAdvertisement.mark_le (e := false) (k := 1) O_x0_7.out.2; have e : (RAdvertisement.cnt : Int) = 281474993487874 := (by decide); omega⟩
  have D8 : Touch (Btw (w3.heap.size) (w4.heap.size)) w7 w8 := (Touch.of_below (by repeat (first | (with_reducible exact Below.refl _ _) | refine Below.alloc ?_ (by simp; try omega) _ | refine Below.drew ?_))).trans Y8
  have H8 := Lib.hid (H7.out.trans (D8.below (by have := H7.out.size; omega) (fun i hi => by have a := hi.1; have b : w.heap.size ≤ w3.heap.size := H3.out.size; omega)))
  have L8 := Lib.hid (show w7.heap.size ≤ w8.heap.size from D8.size)
  have X_aA_8 := Lib.hid (D8.keepBox X_aA_7.out (fun q => by have q1 := q.1; have q2 := q.2; have l1 := L1.out; have l2 := L2.out; have l3 := L3.out; have l4 := L4.out; omega)); clear X_aA_7
  have X_x0_8 := Lib.hid (D8.keepBox X_x0_7.out (fun q => by have q1 := q.1; have q2 := q.2; have l4 := L4.out; omega)); clear X_x0_7
  have O_w0_8 := Lib.hid (O_w0_7.out.touch D8 (fun i p q => by have p1 := p.1; have p2 := p.2; have q1 := q.1; have q2 := q.2; have l3 := L3.out; have l4 := L4.out; omega)); clear O_w0_7
  have O_g0_8 := Lib.hid (O_g0_7.out.touch D8 (fun i p q => by have p1 := p.1; have p2 := p.2; have q1 := q.1; have q2 := q.2; have l4 := L4.out; have l5 := L5.out; omega)); clear O_g0_7
  clear D8 K_x0_0 K_x0_1 K_x0_2 K_x0_3 Y8
  have Z8 := Lib.hid P8; clear P8 O_x0_7
  have U8 : 0 ≤ (RAdvertisement.mark false (x0) (1)).2 := by have := B8.out.1; omega
  go_wp2_with fail
  refine (eqByteS_c (O_g0_8.out.raw.below (by repeat (first | (with_reducible exact Below.refl _ _) | refine Below.alloc ?_ (by simp; try omega) _ | refine Below.drew ?_))) (O_w0_8.out.raw.below (by repeat (first | (with_reducible exact Below.refl _ _) | refine Below.alloc ?_ (by simp; try omega) _ | refine Below.drew ?_)))).mono ?_
  rintro e w9 ⟨rfl, hb9⟩
  have D9 : Below w8.heap.size w8 w9 := Below.trans (by repeat (first | (with_reducible exact Below.refl _ _) | refine Below.alloc ?_ (by simp; try omega) _ | refine Below.drew ?_)) (hb9.mono (by first | (simp; done) | (simp; omega)))
  have H9 := Lib.hid (H8.out.trans (D9.mono H8.out.size))
  have L9 := Lib.hid (show w8.heap.size + 0 ≤ w9.heap.size from by have h := hb9.size; (try simp at h); omega)
  have X_aA_9 := Lib.hid (keepBox X_aA_8.out D9); clear X_aA_8
  have X_x0_9 := Lib.hid (keepBox X_x0_8.out D9); clear X_x0_8
  have O_w0_9 := Lib.hid (O_w0_8.out.below D9); clear O_w0_8
  have O_x0_9 := Lib.hid (Z8.out.below D9); clear Z8
  have O_g0_9 := Lib.hid (O_g0_8.out.below D9); clear O_g0_8
  clear D9 hb9
  go_wp2_with fail
  refine (markByteS_c (k := 1) (O_g0_9.out.below (by repeat (first | (with_reducible exact Below.refl _ _) | refine Below.alloc ?_ (by simp; try omega) _ | refine Below.drew ?_))) (by  omega) (by have e : ((Rep.slice 5 Rep.byte).cnt : Int) = 16777216 := (by decide); unfold Top; omega)).mono ?_
  rintro e w10 ⟨rfl, P10, Y10⟩
  have B10 : Hid (1 ≤ ((Rep.slice 5 Rep.byte).mark true ((encA x0)) (1)).2 ∧ ((Rep.slice 5 Rep.byte).mark true ((encA x0)) (1)).2 ≤ 1 + 16777216) := Lib.hid ⟨by have := (Rep.slice 5 Rep.byte).mark_ge (e := true) (x := (encA x0)) (k := 1); omega, by have := (Rep.slice 5 Rep.byte).mark_le (e := true) (k := 1) O_g0_9.out.2; have e : ((Rep.slice 5 Rep.byte).cnt : Int) = 16777216 := (by decide); omega⟩
  have D10 : Touch (Btw (w4.heap.size + 1) (w5.heap.size)) w9 w10 := (Touch.of_below (by repeat (first | (with_reducible exact Below.refl _ _) | refine Below.alloc ?_ (by simp; try omega) _ | refine Below.drew ?_))).trans Y10
  have H10 := Lib.hid (H9.out.trans (D10.below (by have := H9.out.size; omega) (fun i hi => by have a := hi.1; have b : w.heap.size ≤ w4.heap.size := H4.out.size; omega)))
  have L10 := Lib.hid (show w9.heap.size ≤ w10.heap.size from D10.size)
  have X_aA_10 := Lib.hid (D10.keepBox X_aA_9.out (fun q => by have q1 := q.1; have q2 := q.2; have l1 := L1.out; have l2 := L2.out; have l3 := L3.out; have l4 := L4.out; have l5 := L5.out; omega)); clear X_aA_9
  have X_x0_10 := Lib.hid (D10.keepBox X_x0_9.out (fun q => by have q1 := q.1; have q2 := q.2; have l5 := L5.out; omega)); clear X_x0_9
  have O_w0_10 := Lib.hid (O_w0_9.out.touch D10 (fun i p q => by have p1 := p.1; have p2 := p.2; have q1 := q.1; have q2 := q.2; have l3 := L3.out; have l4 := L4.out; have l5 := L5.out; omega)); clear O_w0_9
  have O_x0_10 := Lib.hid (O_x0_9.out.touch D10 (fun i p q => by have p1 := p.1; have p2 := p.2; have q1 := q.1; have q2 := q.2; have l4 := L4.out; have l5 := L5.out; omega)); clear O_x0_9
  clear D10 Y10
  have Z10 := Lib.hid P10; clear P10 O_g0_9
  have U10 : 0 ≤ ((Rep.slice 5 Rep.byte).mark true ((encA x0)) (1)).2 := by have := B10.out.1; omega
  go_wp2_with fail
  refine (heldByteS_c (Z10.out.raw.below (by repeat (first | (with_reducible exact Below.refl _ _) | refine Below.alloc ?_ (by simp; try omega) _ | refine Below.drew ?_))) ((Rep.slice 5 Rep.byte).mark_held (e := true) (x := (encA x0)) (k := 1)) (by have := B10.out.1;  omega) (by have := B10.out.2;  omega)).mono ?_
  rintro e w11 ⟨rfl, hb11⟩
  have D11 : Below w10.heap.size w10 w11 := Below.trans (by repeat (first | (with_reducible exact Below.refl _ _) | refine Below.alloc ?_ (by simp; try omega) _ | refine Below.drew ?_)) (hb11.mono (by first | (simp; done) | (simp; omega)))
  have H11 := Lib.hid (H10.out.trans (D11.mono H10.out.size))
  have L11 := Lib.hid (show w10.heap.size + 0 ≤ w11.heap.size from by have h := hb11.size; (try simp at h); omega)
  have X_aA_11 := Lib.hid (keepBox X_aA_10.out D11); clear X_aA_10
  have X_x0_11 := Lib.hid (keepBox X_x0_10.out D11); clear X_x0_10
  have O_w0_11 := Lib.hid (O_w0_10.out.below D11); clear O_w0_10
  have O_x0_11 := Lib.hid (O_x0_10.out.below D11); clear O_x0_10
  have O_g0_11 := Lib.hid (Z10.out.below D11); clear Z10
  clear D11 hb11
  have K_aA_0 := boxCell X_aA_11.out (j := 0) (v := .int .i64 x0.1) rfl
  have K_aA_1 := boxCell X_aA_11.out (j := 1) (v := .int .i64 x0.2.1) rfl
  have K_aA_2 := boxCell X_aA_11.out (j := 2) (v := a0v2) rfl
  have K_aA_3 := boxCell X_aA_11.out (j := 3) (v := a0v3) rfl
  go_wp2_with fail
  refine (toAdvertisement_c (r0.below (by repeat (first | (with_reducible exact H11.out) | refine Below.alloc ?_ (by have := H11.out.size; simp; try omega) _ | refine Below.drew ?_)))).mono ?_
  rintro e w12 ⟨cs12, rfl, O12, hb12⟩
  obtain ⟨t12v2, t12v3, rfl, t12_0, t12_1, t12_2, t12_3⟩ := RAdvertisement_raw O12.raw
  obtain ⟨t12a2, t12p2, t12h2, _⟩ := Rep.len_raw t12_2; obtain rfl : t12v2 = _ := (by simpa using t12h2)
  clear t12h2
  obtain ⟨t12a3, t12p3, t12h3, _⟩ := Rep.len_raw t12_3; obtain rfl : t12v3 = _ := (by simpa using t12h3)
  clear t12h3
  clear t12_0 t12_1 t12_2 t12_3
  have Z12 := Lib.hid (O12.wide (T := Btw (w11.heap.size) (w12.heap.size)) (fun i hi => ⟨by have h := hi.1; (try simp at h); omega, hi.2⟩)); clear O12
  have D12 : Below w11.heap.size w11 w12 := Below.trans (by repeat (first | (with_reducible exact Below.refl _ _) | refine Below.alloc ?_ (by simp; try omega) _ | refine Below.drew ?_)) (hb12.mono (by first | (simp; done) | (simp; omega)))
  have H12 := Lib.hid (H11.out.trans (D12.mono H11.out.size))
  have L12 := Lib.hid (show w11.heap.size + 0 ≤ w12.heap.size from by have h := hb12.size; (try simp at h); omega)
  have X_aA_12 := Lib.hid (keepBox X_aA_11.out D12); clear X_aA_11
  have X_x0_12 := Lib.hid (keepBox X_x0_11.out D12); clear X_x0_11
  have O_w0_12 := Lib.hid (O_w0_11.out.below D12); clear O_w0_11
  have O_x0_12 := Lib.hid (O_x0_11.out.below D12); clear O_x0_11
  have O_g0_12 := Lib.hid (O_g0_11.out.below D12); clear O_g0_11
  clear D12 K_aA_0 K_aA_1 K_aA_2 K_aA_3 hb12
  go_wp2_with fail
  refine (implEncodeAdvertisement_c (Z12.out.rd.below (by repeat (first | (with_reducible exact Below.refl _ _) | refine Below.alloc ?_ (by simp; try omega) _ | refine Below.drew ?_)))).mono ?_
  rintro e w13 ⟨tv13, rfl, O13, hb13⟩
  obtain ⟨t13a, t13p, t13h, _⟩ := Rep.len_raw O13.raw; obtain rfl : tv13 = _ := (by simpa using t13h)
  clear t13h
  have Z13 := Lib.hid (O13.wide (T := Btw (w12.heap.size) (w13.heap.size)) (fun i hi => ⟨by have h := hi.1; (try simp at h); omega, hi.2⟩)); clear O13
  have D13 : Below w12.heap.size w12 w13 := Below.trans (by repeat (first | (with_reducible exact Below.refl _ _) | refine Below.alloc ?_ (by simp; try omega) _ | refine Below.drew ?_)) (hb13.mono (by first | (simp; done) | (simp; omega)))
  have H13 := Lib.hid (H12.out.trans (D13.mono H12.out.size))
  have L13 := Lib.hid (show w12.heap.size + 0 ≤ w13.heap.size from by have h := hb13.size; (try simp at h); omega)
  have X_aA_13 := Lib.hid (keepBox X_aA_12.out D13); clear X_aA_12
  have X_x0_13 := Lib.hid (keepBox X_x0_12.out D13); clear X_x0_12
  have O_w0_13 := Lib.hid (O_w0_12.out.below D13); clear O_w0_12
  have O_x0_13 := Lib.hid (O_x0_12.out.below D13); clear O_x0_12
  have O_g0_13 := Lib.hid (O_g0_12.out.below D13); clear O_g0_12
  have O_t12_13 := Lib.hid (Z12.out.below D13); clear Z12
  clear D13 hb13
  clear O_t12_13
  go_wp2_with fail
  refine (eqByteS_c (Z13.out.raw.below (by repeat (first | (with_reducible exact Below.refl _ _) | refine Below.alloc ?_ (by simp; try omega) _ | refine Below.drew ?_))) (O_w0_13.out.raw.below (by repeat (first | (with_reducible exact Below.refl _ _) | refine Below.alloc ?_ (by simp; try omega) _ | refine Below.drew ?_)))).mono ?_
  rintro e w14 ⟨rfl, hb14⟩
  have D14 : Below w13.heap.size w13 w14 := Below.trans (by repeat (first | (with_reducible exact Below.refl _ _) | refine Below.alloc ?_ (by simp; try omega) _ | refine Below.drew ?_)) (hb14.mono (by first | (simp; done) | (simp; omega)))
  have H14 := Lib.hid (H13.out.trans (D14.mono H13.out.size))
  have L14 := Lib.hid (show w13.heap.size + 0 ≤ w14.heap.size from by have h := hb14.size; (try simp at h); omega)
  have X_aA_14 := Lib.hid (keepBox X_aA_13.out D14); clear X_aA_13
  have X_x0_14 := Lib.hid (keepBox X_x0_13.out D14); clear X_x0_13
  have O_w0_14 := Lib.hid (O_w0_13.out.below D14); clear O_w0_13
  have O_x0_14 := Lib.hid (O_x0_13.out.below D14); clear O_x0_13
  have O_g0_14 := Lib.hid (O_g0_13.out.below D14); clear O_g0_13
  have O_h0_14 := Lib.hid (Z13.out.below D14); clear Z13
  clear D14 hb14
  go_wp2_with fail
  refine (heldByteS_c (O_g0_14.out.raw.below (by repeat (first | (with_reducible exact Below.refl _ _) | refine Below.alloc ?_ (by simp; try omega) _ | refine Below.drew ?_))) ((Rep.slice 5 Rep.byte).mark_held (e := true) (x := (encA x0)) (k := 1)) (by have := B10.out.1;  omega) (by have := B10.out.2;  omega)).mono ?_
  rintro e w15 ⟨rfl, hb15⟩
  have D15 : Below w14.heap.size w14 w15 := Below.trans (by repeat (first | (with_reducible exact Below.refl _ _) | refine Below.alloc ?_ (by simp; try omega) _ | refine Below.drew ?_)) (hb15.mono (by first | (simp; done) | (simp; omega)))
  have H15 := Lib.hid (H14.out.trans (D15.mono H14.out.size))
  have L15 := Lib.hid (show w14.heap.size + 0 ≤ w15.heap.size from by have h := hb15.size; (try simp at h); omega)
  have X_aA_15 := Lib.hid (keepBox X_aA_14.out D15); clear X_aA_14
  have X_x0_15 := Lib.hid (keepBox X_x0_14.out D15); clear X_x0_14
  have O_w0_15 := Lib.hid (O_w0_14.out.below D15); clear O_w0_14
  have O_x0_15 := Lib.hid (O_x0_14.out.below D15); clear O_x0_14
  have O_g0_15 := Lib.hid (O_g0_14.out.below D15); clear O_g0_14
  have O_h0_15 := Lib.hid (O_h0_14.out.below D15); clear O_h0_14
  clear D15 hb15
  go_wp2
  go_ret
  exact ⟨rfl, H15.out⟩
set_option maxRecDepth 100000 in
theorem lawEncodeAdvertisement_lifted (os : Os) (started : os.Started) (H : Type) (enc : TypeId × Value → H) :
    ReturnsInHanded {} Try.checked os 3 .any (Rows.fnExactEncodeAdvertisementSpec.pre6 enc Try.prog Try.f3 Rows.fnExactEncodeAdvertisementRow.domain false) (Rows.fnExactEncodeAdvertisementSpec.post enc Try.prog Try.f3 false true false false) := by
  refine returnsInHanded_of_change (C := Try.checked) law_own started (by kernel_rfl) Try.func3
    (ChangeSpec.witness6 (enc := enc) (C := Try.checked) false ⟨#[], #[.agg #[.int .i64 0, .int .i64 0, .slice none 0 0, .slice none 0 0]], []⟩ 8 (by kernel_rfl) (by kernel_rfl) (by kernel_rfl) (by kernel_rfl)) ?_
  intro W base args ds gs before hval0 hW _ _
  have hval : ∀ (j : Nat) t v, Try.f3.params[j]? = some t → args[j]? = some v → Value.okWide Try.prog W .any base t v := hval0
  have hW0 : DataW.Whole enc Try.prog Try.f3.params.toList Rows.fnExactEncodeAdvertisementSpec.vars false W args.toList ds gs before := hW
  obtain ⟨p, q, hA0, hV, rfl, hfz, hnd⟩ := hW
  have hA : DataW.TrodAll enc Try.prog W 0 (fun _ => true) true Try.f3.params.toList args.toList ds p := hA0
  rw [Try.params3] at hA hval
  obtain ⟨v0, vs0, d0, ds0, p0, q0, hargs, rfl, rfl, g0, s0⟩ := trodAll_cons hA
  obtain ⟨rfl, rfl, rfl⟩ := trodAll_nil s0
  obtain rfl : args = #[v0] := by cases args; simp_all
  obtain ⟨rfl, rfl⟩ := trodVars_none hV
  obtain ⟨c0, rfl⟩ : ∃ c : List Value, v0 = .agg c.toArray := by
    have h := hval 0 25 v0 rfl rfl
    unfold Value.okWide at h
    rw [Try.underlying25] at h
    obtain ⟨cs, rfl, _⟩ := h
    exact ⟨cs.toList, by simp⟩
  obtain ⟨fu0, hf0⟩ := g0
  obtain ⟨x0, h0⟩ := bridge_Advertisement (w := W) hf0
  have h0 : RAdvertisement.raw W c0 x0 := by simpa [Value.cells] using h0
  refine (lawEncodeAdvertisement_c h0).mono fun e W' ⟨he, hb⟩ => ?_
  subst he
  refine ⟨_, rfl, law_post (tb := 4) hW0 rfl rfl Try.underlying4 ⟨rfl, rfl, rfl⟩ ?_ hb⟩
  rw [Try.params3]
  intro t ht
  have hall : ([25].all fun t => Try.prog.readableRec t && decide (t < Try.prog.types.size)) = true := by kernel_rfl
  have h1 := List.all_eq_true.1 hall t ht
  simpa using h1
theorem lawEncodeAdvertisement_holds : Rows.FnExactEncodeAdvertisementSaid :=
  OpenClaim.holds_of_wide 3 Try.f3 rfl rfl rfl rfl rfl rfl rfl ⟨rfl, rfl, rfl, rfl, rfl⟩ rfl rfl rfl rfl rfl (by kernel_rfl) Try.func3 (by kernel_rfl)
    (of_decide_eq_true (by kernel_rfl)) (by unfold Func.isWrapper; first | (rw [if_pos (by decide +kernel)]; kernel_rfl) | (rw [if_neg (by decide +kernel)]; exact ⟨rfl, rfl⟩))
    (fun os started H enc _ => lawEncodeAdvertisement_lifted os started H enc)
end Go.Proofs.Ytadneiijklnccaa

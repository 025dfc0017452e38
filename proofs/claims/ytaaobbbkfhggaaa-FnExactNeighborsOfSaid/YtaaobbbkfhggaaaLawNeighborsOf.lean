/-
  The law FnExactNeighborsOf, walked: it returns true, whatever its arguments; then its statement. Printed by genlaw.py.
-/
import Derived.Test.YtaaobbbkfhggaaaEq
import Derived.Test.YtaaobbbkfhggaaaSz
import Derived.Test.YtaaobbbkfhggaaaTo
import Derived.Test.YtaaobbbkfhggaaaBridge
import Derived.Test.YtaaobbbkfhggaaaMark
import Derived.Test.YtaaobbbkfhggaaaHeld
import Derived.Test.YtaaobbbkfhggaaaNbr
import Derived.Deep.RegionHeld3
namespace Go.Proofs.Ytaaobbbkfhggaaa
open Go.ChangeShapes Go.WideShapes Go.ChangeAt Go.RowKit
set_option linter.unusedVariables false
set_option maxRecDepth 100000 in
set_option maxHeartbeats 4000000 in
theorem lawNeighborsOf_c {w : World} {c0 : List Value} {x0 : LTopology} (h0 : RTopology.raw w c0 x0) {x1 : Int} (h1 : -9223372036854775808 ≤ x1 ∧ x1 ≤ 9223372036854775807) :
    Calls Try.prog 8 #[.agg c0.toArray, .int .i64 x1] w (LawPost w) := by
  obtain ⟨a0v1, rfl, a0_0, a0_1⟩ := RTopology_raw h0
  clear a0_0 a0_1
  have hi1 := Lib.hid h1; clear h1
  go_enter Try.func8, Try.ntmps8
  go_wp2_with fail
  refine (szTopology_c (h0.below (by repeat (first | (with_reducible exact Below.refl _ _) | refine Below.alloc ?_ (by simp; try omega) _ | refine Below.drew ?_))) (by omega) (by omega)).mono ?_
  rintro e w1 ⟨s1, rfl, p1, q1, g1, hb1⟩
  have G1 := Lib.hid g1; clear g1
  have D1 : Below w.heap.size w w1 := Below.trans (by repeat (first | (with_reducible exact Below.refl _ _) | refine Below.alloc ?_ (by simp; try omega) _ | refine Below.drew ?_)) (hb1.mono (by simp))
  have H1 := Lib.hid D1
  have L1 := Lib.hid (show w.heap.size + 1 ≤ w1.heap.size from by have h := hb1.size; (try simp at h); omega)
  have X_aN_1 : Hid (w1.heap[w.heap.size]? = some (.cells #[.int .i64 x0.1, a0v1] 24 (0, 0))) := Lib.hid ((hb1.block (w.heap.size) (by simp)).trans (heap_new_at (by simp)))
  clear D1 hb1
  by_cases m1 : s1 < 0
  · go_wp2
    go_ret
    exact ⟨rfl, H1.out⟩
  have z1 : 0 ≤ s1 := by omega
  have r0 : RTopology.rd w _ x0 := ⟨h0, RTopology.bdd_mono (G1.out z1) (by decide)⟩
  have K_aN_0 := boxCell X_aN_1.out (j := 0) (v := .int .i64 x0.1) rfl
  have K_aN_1 := boxCell X_aN_1.out (j := 1) (v := a0v1) rfl
  go_wp2_with fail
  refine (toTopology_c (r0.below (by repeat (first | (with_reducible exact H1.out) | refine Below.alloc ?_ (by have := H1.out.size; simp; try omega) _ | refine Below.drew ?_)))).mono ?_
  rintro e w2 ⟨cs2, rfl, O2, hb2⟩
  obtain ⟨t2v1, rfl, t2_0, t2_1⟩ := RTopology_raw O2.raw
  obtain ⟨t2a1, t2p1, t2h1, _⟩ := Rep.len_raw t2_1; obtain rfl : t2v1 = _ := (by simpa using t2h1)
  clear t2h1
  clear t2_0 t2_1
  have Z2 := Lib.hid (O2.wide (T := Btw (w1.heap.size) (w2.heap.size)) (fun i hi => ⟨by have h := hi.1; (try simp at h); omega, hi.2⟩)); clear O2
  have D2 : Below w1.heap.size w1 w2 := Below.trans (by repeat (first | (with_reducible exact Below.refl _ _) | refine Below.alloc ?_ (by simp; try omega) _ | refine Below.drew ?_)) (hb2.mono (by simp))
  have H2 := Lib.hid (H1.out.trans (D2.mono H1.out.size))
  have L2 := Lib.hid (show w1.heap.size + 0 ≤ w2.heap.size from by have h := hb2.size; (try simp at h); omega)
  have X_aN_2 := Lib.hid (keepBox X_aN_1.out D2); clear X_aN_1
  clear D2 K_aN_0 K_aN_1 hb2
  go_wp2_with fail
  refine (specNeighborsOf_c (Z2.out.rd.below (by repeat (first | (with_reducible exact Below.refl _ _) | refine Below.alloc ?_ (by simp; try omega) _ | refine Below.drew ?_))) hi1.out).mono ?_
  rintro e w3 ⟨tv3, rfl, O3, hb3⟩
  obtain ⟨t3a, t3p, t3h, _⟩ := Rep.len_raw O3.raw; obtain rfl : tv3 = _ := (by simpa using t3h)
  clear t3h
  have Z3 := Lib.hid (O3.wide (T := Btw (w2.heap.size) (w3.heap.size)) (fun i hi => ⟨by have h := hi.1; (try simp at h); omega, hi.2⟩)); clear O3
  have D3 : Below w2.heap.size w2 w3 := Below.trans (by repeat (first | (with_reducible exact Below.refl _ _) | refine Below.alloc ?_ (by simp; try omega) _ | refine Below.drew ?_)) (hb3.mono (by simp))
  have H3 := Lib.hid (H2.out.trans (D3.mono H2.out.size))
  have L3 := Lib.hid (show w2.heap.size + 0 ≤ w3.heap.size from by have h := hb3.size; (try simp at h); omega)
  have X_aN_3 := Lib.hid (keepBox X_aN_2.out D3); clear X_aN_2
  have O_t2_3 := Lib.hid (Z2.out.below D3); clear Z2
  clear D3 hb3
  clear O_t2_3
  have K_aN_0 := boxCell X_aN_3.out (j := 0) (v := .int .i64 x0.1) rfl
  have K_aN_1 := boxCell X_aN_3.out (j := 1) (v := a0v1) rfl
  go_wp2_with fail
  refine (toTopology_c (r0.below (by repeat (first | (with_reducible exact H3.out) | refine Below.alloc ?_ (by have := H3.out.size; simp; try omega) _ | refine Below.drew ?_)))).mono ?_
  rintro e w4 ⟨cs4, rfl, O4, hb4⟩
  obtain ⟨t4v1, rfl, t4_0, t4_1⟩ := RTopology_raw O4.raw
  obtain ⟨t4a1, t4p1, t4h1, _⟩ := Rep.len_raw t4_1; obtain rfl : t4v1 = _ := (by simpa using t4h1)
  clear t4h1
  clear t4_0 t4_1
  have Z4 := Lib.hid (O4.wide (T := Btw (w3.heap.size) (w4.heap.size)) (fun i hi => ⟨by have h := hi.1; (try simp at h); omega, hi.2⟩)); clear O4
  have D4 : Below w3.heap.size w3 w4 := Below.trans (by repeat (first | (with_reducible exact Below.refl _ _) | refine Below.alloc ?_ (by simp; try omega) _ | refine Below.drew ?_)) (hb4.mono (by simp))
  have H4 := Lib.hid (H3.out.trans (D4.mono H3.out.size))
  have L4 := Lib.hid (show w3.heap.size + 0 ≤ w4.heap.size from by have h := hb4.size; (try simp at h); omega)
  have X_aN_4 := Lib.hid (keepBox X_aN_3.out D4); clear X_aN_3
  have O_w0_4 := Lib.hid (Z3.out.below D4); clear Z3
  clear D4 K_aN_0 K_aN_1 hb4
  go_wp2_with fail
  refine (implNeighborsOf_c (Z4.out.rd.below (by repeat (first | (with_reducible exact Below.refl _ _) | refine Below.alloc ?_ (by simp; try omega) _ | refine Below.drew ?_))) hi1.out).mono ?_
  rintro e w5 ⟨tv5, rfl, O5, hb5⟩
  obtain ⟨t5a, t5p, t5h, _⟩ := Rep.len_raw O5.raw; obtain rfl : tv5 = _ := (by simpa using t5h)
  clear t5h
  have Z5 := Lib.hid (O5.wide (T := Btw (w4.heap.size + 1) (w5.heap.size)) (fun i hi => ⟨by have h := hi.1; (try simp at h); omega, hi.2⟩)); clear O5
  have D5 : Below w4.heap.size w4 w5 := Below.trans (by repeat (first | (with_reducible exact Below.refl _ _) | refine Below.alloc ?_ (by simp; try omega) _ | refine Below.drew ?_)) (hb5.mono (by simp))
  have H5 := Lib.hid (H4.out.trans (D5.mono H4.out.size))
  have L5 := Lib.hid (show w4.heap.size + 1 ≤ w5.heap.size from by have h := hb5.size; (try simp at h); omega)
  have X_aN_5 := Lib.hid (keepBox X_aN_4.out D5); clear X_aN_4
  have X_x0_5 : Hid (w5.heap[w4.heap.size]? = some (.cells #[.int .i64 x0.1, .slice t4a1 (x0.2).length t4p1] 29 (0, 0))) := Lib.hid ((hb5.block (w4.heap.size) (by simp)).trans (heap_new_at (by simp)))
  have O_w0_5 := Lib.hid (O_w0_4.out.below D5); clear O_w0_4
  have O_x0_5 := Lib.hid (Z4.out.below D5); clear Z4
  clear D5 hb5
  go_wp2_with fail
  refine (eqIntS_c (Z5.out.raw.below (by repeat (first | (with_reducible exact Below.refl _ _) | refine Below.alloc ?_ (by simp; try omega) _ | refine Below.drew ?_))) (O_w0_5.out.raw.below (by repeat (first | (with_reducible exact Below.refl _ _) | refine Below.alloc ?_ (by simp; try omega) _ | refine Below.drew ?_)))).mono ?_
  rintro e w6 ⟨rfl, hb6⟩
  have D6 : Below w5.heap.size w5 w6 := Below.trans (by repeat (first | (with_reducible exact Below.refl _ _) | refine Below.alloc ?_ (by simp; try omega) _ | refine Below.drew ?_)) (hb6.mono (by simp))
  have H6 := Lib.hid (H5.out.trans (D6.mono H5.out.size))
  have L6 := Lib.hid (show w5.heap.size + 0 ≤ w6.heap.size from by have h := hb6.size; (try simp at h); omega)
  have X_aN_6 := Lib.hid (keepBox X_aN_5.out D6); clear X_aN_5
  have X_x0_6 := Lib.hid (keepBox X_x0_5.out D6); clear X_x0_5
  have O_w0_6 := Lib.hid (O_w0_5.out.below D6); clear O_w0_5
  have O_x0_6 := Lib.hid (O_x0_5.out.below D6); clear O_x0_5
  have O_g0_6 := Lib.hid (Z5.out.below D6); clear Z5
  clear D6 hb6
  have K_aN_0 := boxCell X_aN_6.out (j := 0) (v := .int .i64 x0.1) rfl
  have K_aN_1 := boxCell X_aN_6.out (j := 1) (v := a0v1) rfl
  have K_x0_0 := boxCell X_x0_6.out (j := 0) (v := .int .i64 x0.1) rfl
  have K_x0_1 := boxCell X_x0_6.out (j := 1) (v := .slice t4a1 (x0.2).length t4p1) rfl
  go_wp2_with fail
  go_region_held3 (fun W => W.cell? ⟨w.heap.size, 0, none⟩ = some (.int .i64 x0.1) ∧ W.cell? ⟨w.heap.size, 1, none⟩ = some (a0v1) ∧ W.cell? ⟨w4.heap.size, 0, none⟩ = some (.int .i64 x0.1) ∧ W.cell? ⟨w4.heap.size, 1, none⟩ = some (.slice t4a1 (x0.2).length t4p1)) (first | exact ⟨cell_later hd7 (cell_later hc7 K_aN_0), cell_later hd7 (cell_later hc7 K_aN_1), cell_later hd7 (cell_later hc7 K_x0_0), cell_later hd7 (cell_later hc7 K_x0_1)⟩ | exact ⟨cell_later hc7 K_aN_0, cell_later hc7 K_aN_1, cell_later hc7 K_x0_0, cell_later hc7 K_x0_1⟩ | go_keep)
    (first | (go_at_call 12; refine (toTopology_c (r0.below (by repeat (first | (with_reducible exact H6.out) | refine Below.alloc ?_ (by have := H6.out.size; simp; try omega) _ | refine Below.drew ?_)))).mono ?_; rintro e u7 ⟨cs7, rfl, O7, hc7⟩; obtain ⟨t7v1, rfl, t7_0, t7_1⟩ := RTopology_raw O7.raw; obtain ⟨t7a1, t7p1, t7h1, _⟩ := Rep.len_raw t7_1; obtain rfl : t7v1 = _ := (by simpa using t7h1); clear t7h1; clear t7_0 t7_1) | (go_at_call 14; refine (eqTopology_c (O_x0_6.out.raw.below (Below.trans (by repeat (first | (with_reducible exact Below.refl _ _) | refine Below.alloc ?_ (by simp; try omega) _ | refine Below.drew ?_)) (hc7.mono (by simp)))) O7.raw).mono ?_; rintro e w7 ⟨rfl, hd7⟩))
  have hb7 := hc7.trans (hd7.mono hc7.size); clear hc7 hd7 O7
  have D7 : Below w6.heap.size w6 w7 := Below.trans (by repeat (first | (with_reducible exact Below.refl _ _) | refine Below.alloc ?_ (by simp; try omega) _ | refine Below.drew ?_)) (hb7.mono (by simp))
  have H7 := Lib.hid (H6.out.trans (D7.mono H6.out.size))
  have L7 := Lib.hid (show w6.heap.size + 0 ≤ w7.heap.size from by have h := hb7.size; (try simp at h); omega)
  have X_aN_7 := Lib.hid (keepBox X_aN_6.out D7); clear X_aN_6
  have X_x0_7 := Lib.hid (keepBox X_x0_6.out D7); clear X_x0_6
  have O_w0_7 := Lib.hid (O_w0_6.out.below D7); clear O_w0_6
  have O_x0_7 := Lib.hid (O_x0_6.out.below D7); clear O_x0_6
  have O_g0_7 := Lib.hid (O_g0_6.out.below D7); clear O_g0_6
  clear D7 K_aN_0 K_aN_1 K_x0_0 K_x0_1 hb7
  have K_x0_0 := boxCell X_x0_7.out (j := 0) (v := .int .i64 x0.1) rfl
  have K_x0_1 := boxCell X_x0_7.out (j := 1) (v := .slice t4a1 (x0.2).length t4p1) rfl
  go_wp2_with fail
  refine (markTopology_c (k := 1) (O_x0_7.out.below (by repeat (first | (with_reducible exact Below.refl _ _) | refine Below.alloc ?_ (by simp; try omega) _ | refine Below.drew ?_))) (by  omega) (by have e : (RTopology.cnt : Int) = 33554433 := (by decide); unfold Top; omega)).mono ?_
  rintro e w8 ⟨rfl, P8, Y8⟩
  have B8 : Hid (1 ≤ (RTopology.mark false (x0) (1)).2 ∧ (RTopology.mark false (x0) (1)).2 ≤ 1 + 33554433) := Lib.hid ⟨by have := RTopology.mark_ge (e := false) (x := x0) (k := 1); omega, by have := RTopology.mark_le (e := false) (k := 1) O_x0_7.out.2; have e : (RTopology.cnt : Int) = 33554433 := (by decide); omega⟩
  have D8 : Touch (Btw (w3.heap.size) (w4.heap.size)) w7 w8 := (Touch.of_below (by repeat (first | (with_reducible exact Below.refl _ _) | refine Below.alloc ?_ (by simp; try omega) _ | refine Below.drew ?_))).trans Y8
  have H8 := Lib.hid (H7.out.trans (D8.below (by have := H7.out.size; omega) (fun i hi => by have a := hi.1; have b : w.heap.size ≤ w3.heap.size := H3.out.size; omega)))
  have L8 := Lib.hid (show w7.heap.size ≤ w8.heap.size from D8.size)
  have X_aN_8 := Lib.hid (D8.keepBox X_aN_7.out (fun q => by have q1 := q.1; have q2 := q.2; have l1 := L1.out; have l2 := L2.out; have l3 := L3.out; have l4 := L4.out; omega)); clear X_aN_7
  have X_x0_8 := Lib.hid (D8.keepBox X_x0_7.out (fun q => by have q1 := q.1; have q2 := q.2; have l4 := L4.out; omega)); clear X_x0_7
  have O_w0_8 := Lib.hid (O_w0_7.out.touch D8 (fun i p q => by have p1 := p.1; have p2 := p.2; have q1 := q.1; have q2 := q.2; have l3 := L3.out; have l4 := L4.out; omega)); clear O_w0_7
  have O_g0_8 := Lib.hid (O_g0_7.out.touch D8 (fun i p q => by have p1 := p.1; have p2 := p.2; have q1 := q.1; have q2 := q.2; have l4 := L4.out; have l5 := L5.out; omega)); clear O_g0_7
  clear D8 K_x0_0 K_x0_1 Y8
  have Z8 := Lib.hid P8; clear P8 O_x0_7
  have U8 : 0 ≤ (RTopology.mark false (x0) (1)).2 := by have := B8.out.1; omega
  go_wp2_with fail
  refine (eqIntS_c (O_g0_8.out.raw.below (by repeat (first | (with_reducible exact Below.refl _ _) | refine Below.alloc ?_ (by simp; try omega) _ | refine Below.drew ?_))) (O_w0_8.out.raw.below (by repeat (first | (with_reducible exact Below.refl _ _) | refine Below.alloc ?_ (by simp; try omega) _ | refine Below.drew ?_)))).mono ?_
  rintro e w9 ⟨rfl, hb9⟩
  have D9 : Below w8.heap.size w8 w9 := Below.trans (by repeat (first | (with_reducible exact Below.refl _ _) | refine Below.alloc ?_ (by simp; try omega) _ | refine Below.drew ?_)) (hb9.mono (by simp))
  have H9 := Lib.hid (H8.out.trans (D9.mono H8.out.size))
  have L9 := Lib.hid (show w8.heap.size + 0 ≤ w9.heap.size from by have h := hb9.size; (try simp at h); omega)
  have X_aN_9 := Lib.hid (keepBox X_aN_8.out D9); clear X_aN_8
  have X_x0_9 := Lib.hid (keepBox X_x0_8.out D9); clear X_x0_8
  have O_w0_9 := Lib.hid (O_w0_8.out.below D9); clear O_w0_8
  have O_x0_9 := Lib.hid (Z8.out.below D9); clear Z8
  have O_g0_9 := Lib.hid (O_g0_8.out.below D9); clear O_g0_8
  clear D9 hb9
  go_wp2_with fail
  refine (markIntS_c (k := 1) (O_g0_9.out.below (by repeat (first | (with_reducible exact Below.refl _ _) | refine Below.alloc ?_ (by simp; try omega) _ | refine Below.drew ?_))) (by  omega) (by have e : ((Rep.slice 3 Rep.int).cnt : Int) = 16777216 := (by decide); unfold Top; omega)).mono ?_
  rintro e w10 ⟨rfl, P10, Y10⟩
  have B10 : Hid (1 ≤ ((Rep.slice 3 Rep.int).mark true (nbrs x0 x1) (1)).2 ∧ ((Rep.slice 3 Rep.int).mark true (nbrs x0 x1) (1)).2 ≤ 1 + 16777216) := Lib.hid ⟨by have := (Rep.slice 3 Rep.int).mark_ge (e := true) (x := nbrs x0 x1) (k := 1); omega, by have := (Rep.slice 3 Rep.int).mark_le (e := true) (k := 1) O_g0_9.out.2; have e : ((Rep.slice 3 Rep.int).cnt : Int) = 16777216 := (by decide); omega⟩
  have D10 : Touch (Btw (w4.heap.size + 1) (w5.heap.size)) w9 w10 := (Touch.of_below (by repeat (first | (with_reducible exact Below.refl _ _) | refine Below.alloc ?_ (by simp; try omega) _ | refine Below.drew ?_))).trans Y10
  have H10 := Lib.hid (H9.out.trans (D10.below (by have := H9.out.size; omega) (fun i hi => by have a := hi.1; have b : w.heap.size ≤ w4.heap.size := H4.out.size; omega)))
  have L10 := Lib.hid (show w9.heap.size ≤ w10.heap.size from D10.size)
  have X_aN_10 := Lib.hid (D10.keepBox X_aN_9.out (fun q => by have q1 := q.1; have q2 := q.2; have l1 := L1.out; have l2 := L2.out; have l3 := L3.out; have l4 := L4.out; have l5 := L5.out; omega)); clear X_aN_9
  have X_x0_10 := Lib.hid (D10.keepBox X_x0_9.out (fun q => by have q1 := q.1; have q2 := q.2; have l5 := L5.out; omega)); clear X_x0_9
  have O_w0_10 := Lib.hid (O_w0_9.out.touch D10 (fun i p q => by have p1 := p.1; have p2 := p.2; have q1 := q.1; have q2 := q.2; have l3 := L3.out; have l4 := L4.out; have l5 := L5.out; omega)); clear O_w0_9
  have O_x0_10 := Lib.hid (O_x0_9.out.touch D10 (fun i p q => by have p1 := p.1; have p2 := p.2; have q1 := q.1; have q2 := q.2; have l4 := L4.out; have l5 := L5.out; omega)); clear O_x0_9
  clear D10 Y10
  have Z10 := Lib.hid P10; clear P10 O_g0_9
  have U10 : 0 ≤ ((Rep.slice 3 Rep.int).mark true (nbrs x0 x1) (1)).2 := by have := B10.out.1; omega
  go_wp2_with fail
  refine (heldIntS_c (Z10.out.raw.below (by repeat (first | (with_reducible exact Below.refl _ _) | refine Below.alloc ?_ (by simp; try omega) _ | refine Below.drew ?_))) ((Rep.slice 3 Rep.int).mark_held (e := true) (x := nbrs x0 x1) (k := 1)) (by have := B10.out.1;  omega) (by have := B10.out.2;  omega)).mono ?_
  rintro e w11 ⟨rfl, hb11⟩
  have D11 : Below w10.heap.size w10 w11 := Below.trans (by repeat (first | (with_reducible exact Below.refl _ _) | refine Below.alloc ?_ (by simp; try omega) _ | refine Below.drew ?_)) (hb11.mono (by simp))
  have H11 := Lib.hid (H10.out.trans (D11.mono H10.out.size))
  have L11 := Lib.hid (show w10.heap.size + 0 ≤ w11.heap.size from by have h := hb11.size; (try simp at h); omega)
  have X_aN_11 := Lib.hid (keepBox X_aN_10.out D11); clear X_aN_10
  have X_x0_11 := Lib.hid (keepBox X_x0_10.out D11); clear X_x0_10
  have O_w0_11 := Lib.hid (O_w0_10.out.below D11); clear O_w0_10
  have O_x0_11 := Lib.hid (O_x0_10.out.below D11); clear O_x0_10
  have O_g0_11 := Lib.hid (Z10.out.below D11); clear Z10
  clear D11 hb11
  have K_aN_0 := boxCell X_aN_11.out (j := 0) (v := .int .i64 x0.1) rfl
  have K_aN_1 := boxCell X_aN_11.out (j := 1) (v := a0v1) rfl
  go_wp2_with fail
  refine (toTopology_c (r0.below (by repeat (first | (with_reducible exact H11.out) | refine Below.alloc ?_ (by have := H11.out.size; simp; try omega) _ | refine Below.drew ?_)))).mono ?_
  rintro e w12 ⟨cs12, rfl, O12, hb12⟩
  obtain ⟨t12v1, rfl, t12_0, t12_1⟩ := RTopology_raw O12.raw
  obtain ⟨t12a1, t12p1, t12h1, _⟩ := Rep.len_raw t12_1; obtain rfl : t12v1 = _ := (by simpa using t12h1)
  clear t12h1
  clear t12_0 t12_1
  have Z12 := Lib.hid (O12.wide (T := Btw (w11.heap.size) (w12.heap.size)) (fun i hi => ⟨by have h := hi.1; (try simp at h); omega, hi.2⟩)); clear O12
  have D12 : Below w11.heap.size w11 w12 := Below.trans (by repeat (first | (with_reducible exact Below.refl _ _) | refine Below.alloc ?_ (by simp; try omega) _ | refine Below.drew ?_)) (hb12.mono (by simp))
  have H12 := Lib.hid (H11.out.trans (D12.mono H11.out.size))
  have L12 := Lib.hid (show w11.heap.size + 0 ≤ w12.heap.size from by have h := hb12.size; (try simp at h); omega)
  have X_aN_12 := Lib.hid (keepBox X_aN_11.out D12); clear X_aN_11
  have X_x0_12 := Lib.hid (keepBox X_x0_11.out D12); clear X_x0_11
  have O_w0_12 := Lib.hid (O_w0_11.out.below D12); clear O_w0_11
  have O_x0_12 := Lib.hid (O_x0_11.out.below D12); clear O_x0_11
  have O_g0_12 := Lib.hid (O_g0_11.out.below D12); clear O_g0_11
  clear D12 K_aN_0 K_aN_1 hb12
  go_wp2_with fail
  refine (implNeighborsOf_c (Z12.out.rd.below (by repeat (first | (with_reducible exact Below.refl _ _) | refine Below.alloc ?_ (by simp; try omega) _ | refine Below.drew ?_))) hi1.out).mono ?_
  rintro e w13 ⟨tv13, rfl, O13, hb13⟩
  obtain ⟨t13a, t13p, t13h, _⟩ := Rep.len_raw O13.raw; obtain rfl : tv13 = _ := (by simpa using t13h)
  clear t13h
  have Z13 := Lib.hid (O13.wide (T := Btw (w12.heap.size) (w13.heap.size)) (fun i hi => ⟨by have h := hi.1; (try simp at h); omega, hi.2⟩)); clear O13
  have D13 : Below w12.heap.size w12 w13 := Below.trans (by repeat (first | (with_reducible exact Below.refl _ _) | refine Below.alloc ?_ (by simp; try omega) _ | refine Below.drew ?_)) (hb13.mono (by simp))
  have H13 := Lib.hid (H12.out.trans (D13.mono H12.out.size))
  have L13 := Lib.hid (show w12.heap.size + 0 ≤ w13.heap.size from by have h := hb13.size; (try simp at h); omega)
  have X_aN_13 := Lib.hid (keepBox X_aN_12.out D13); clear X_aN_12
  have X_x0_13 := Lib.hid (keepBox X_x0_12.out D13); clear X_x0_12
  have O_w0_13 := Lib.hid (O_w0_12.out.below D13); clear O_w0_12
  have O_x0_13 := Lib.hid (O_x0_12.out.below D13); clear O_x0_12
  have O_g0_13 := Lib.hid (O_g0_12.out.below D13); clear O_g0_12
  have O_t12_13 := Lib.hid (Z12.out.below D13); clear Z12
  clear D13 hb13
  clear O_t12_13
  go_wp2_with fail
  refine (eqIntS_c (Z13.out.raw.below (by repeat (first | (with_reducible exact Below.refl _ _) | refine Below.alloc ?_ (by simp; try omega) _ | refine Below.drew ?_))) (O_w0_13.out.raw.below (by repeat (first | (with_reducible exact Below.refl _ _) | refine Below.alloc ?_ (by simp; try omega) _ | refine Below.drew ?_)))).mono ?_
  rintro e w14 ⟨rfl, hb14⟩
  have D14 : Below w13.heap.size w13 w14 := Below.trans (by repeat (first | (with_reducible exact Below.refl _ _) | refine Below.alloc ?_ (by simp; try omega) _ | refine Below.drew ?_)) (hb14.mono (by simp))
  have H14 := Lib.hid (H13.out.trans (D14.mono H13.out.size))
  have L14 := Lib.hid (show w13.heap.size + 0 ≤ w14.heap.size from by have h := hb14.size; (try simp at h); omega)
  have X_aN_14 := Lib.hid (keepBox X_aN_13.out D14); clear X_aN_13
  have X_x0_14 := Lib.hid (keepBox X_x0_13.out D14); clear X_x0_13
  have O_w0_14 := Lib.hid (O_w0_13.out.below D14); clear O_w0_13
  have O_x0_14 := Lib.hid (O_x0_13.out.below D14); clear O_x0_13
  have O_g0_14 := Lib.hid (O_g0_13.out.below D14); clear O_g0_13
  have O_h0_14 := Lib.hid (Z13.out.below D14); clear Z13
  clear D14 hb14
  go_wp2_with fail
  refine (heldIntS_c (O_g0_14.out.raw.below (by repeat (first | (with_reducible exact Below.refl _ _) | refine Below.alloc ?_ (by simp; try omega) _ | refine Below.drew ?_))) ((Rep.slice 3 Rep.int).mark_held (e := true) (x := nbrs x0 x1) (k := 1)) (by have := B10.out.1;  omega) (by have := B10.out.2;  omega)).mono ?_
  rintro e w15 ⟨rfl, hb15⟩
  have D15 : Below w14.heap.size w14 w15 := Below.trans (by repeat (first | (with_reducible exact Below.refl _ _) | refine Below.alloc ?_ (by simp; try omega) _ | refine Below.drew ?_)) (hb15.mono (by simp))
  have H15 := Lib.hid (H14.out.trans (D15.mono H14.out.size))
  have L15 := Lib.hid (show w14.heap.size + 0 ≤ w15.heap.size from by have h := hb15.size; (try simp at h); omega)
  have X_aN_15 := Lib.hid (keepBox X_aN_14.out D15); clear X_aN_14
  have X_x0_15 := Lib.hid (keepBox X_x0_14.out D15); clear X_x0_14
  have O_w0_15 := Lib.hid (O_w0_14.out.below D15); clear O_w0_14
  have O_x0_15 := Lib.hid (O_x0_14.out.below D15); clear O_x0_14
  have O_g0_15 := Lib.hid (O_g0_14.out.below D15); clear O_g0_14
  have O_h0_15 := Lib.hid (O_h0_14.out.below D15); clear O_h0_14
  clear D15 hb15
  go_wp2
  go_ret
  exact ⟨rfl, H15.out⟩

set_option maxRecDepth 100000 in
theorem lawNeighborsOf_lifted (os : Os) (started : os.Started) (H : Type) (enc : TypeId × Value → H) :
    ReturnsInHanded {} Try.checked os 8 .any (Rows.fnExactNeighborsOfSpec.pre6 enc Try.prog Try.f8 Rows.fnExactNeighborsOfRow.domain false) (Rows.fnExactNeighborsOfSpec.post enc Try.prog Try.f8 false true false false) := by
  refine returnsInHanded_of_change (C := Try.checked) law_own started (by kernel_rfl) Try.func8
    (ChangeSpec.witness6 (enc := enc) (C := Try.checked) false ⟨#[], #[.agg #[.int .i64 0, .slice none 0 0], .int .i64 0], []⟩ 8 (by kernel_rfl) (by kernel_rfl) (by kernel_rfl) (by kernel_rfl)) ?_
  intro W base args ds gs before hval0 hW _ _
  have hval : ∀ (j : Nat) t v, Try.f8.params[j]? = some t → args[j]? = some v → Value.okWide Try.prog W .any base t v := hval0
  have hW0 : DataW.Whole enc Try.prog Try.f8.params.toList Rows.fnExactNeighborsOfSpec.vars false W args.toList ds gs before := hW
  obtain ⟨p, q, hA0, hV, rfl, hfz, hnd⟩ := hW
  have hA : DataW.TrodAll enc Try.prog W 0 (fun _ => true) true Try.f8.params.toList args.toList ds p := hA0
  rw [Try.params8] at hA hval
  obtain ⟨v0, vs0, d0, ds0, p0, q0, hargs, rfl, rfl, g0, s0⟩ := trodAll_cons hA
  obtain ⟨v1, vs1, d1, ds1, p1, q1, rfl, rfl, rfl, g1, s1⟩ := trodAll_cons s0
  obtain ⟨rfl, rfl, rfl⟩ := trodAll_nil s1
  obtain rfl : args = #[v0, v1] := by cases args; simp_all
  obtain ⟨rfl, rfl⟩ := trodVars_none hV
  obtain ⟨c0, rfl⟩ : ∃ c : List Value, v0 = .agg c.toArray := by
    have h := hval 0 24 v0 rfl rfl
    unfold Value.okWide at h
    rw [Try.underlying24] at h
    obtain ⟨cs, rfl, _⟩ := h
    exact ⟨cs.toList, by simp⟩
  obtain ⟨fu0, hf0⟩ := g0
  obtain ⟨x0, h0⟩ := bridge_Topology (w := W) hf0
  have h0 : RTopology.raw W c0 x0 := by simpa [Value.cells] using h0
  obtain ⟨x1, rfl, rfl, rfl, e1⟩ := open_int Try.underlying3 (hval 1 3 v1 rfl rfl) g1
  have h1 : -9223372036854775808 ≤ x1 ∧ x1 ≤ 9223372036854775807 := by simpa [Lit.wf, IntKind.min, IntKind.max, IntKind.signed, IntKind.bits] using e1
  refine (lawNeighborsOf_c h0 h1).mono fun e W' ⟨he, hb⟩ => ?_
  subst he
  refine ⟨_, rfl, law_post (tb := 4) hW0 rfl rfl Try.underlying4 ⟨rfl, rfl, rfl⟩ ?_ hb⟩
  rw [Try.params8]
  intro t ht
  have hall : ([24, 3].all fun t => Try.prog.readableRec t && decide (t < Try.prog.types.size)) = true := by kernel_rfl
  have h1 := List.all_eq_true.1 hall t ht
  simpa using h1

theorem lawNeighborsOf_holds : Rows.FnExactNeighborsOfSaid :=
  OpenClaim.holds_of_wide 8 Try.f8 rfl rfl rfl rfl rfl rfl rfl ⟨rfl, rfl, rfl, rfl, rfl⟩ rfl rfl rfl rfl rfl (by kernel_rfl) Try.func8 (by kernel_rfl)
    (of_decide_eq_true (by kernel_rfl)) (by unfold Func.isWrapper; first | (rw [if_pos (by decide +kernel)]; kernel_rfl) | (rw [if_neg (by decide +kernel)]; exact ⟨rfl, rfl⟩))
    (fun os started H enc _ => lawNeighborsOf_lifted os started H enc)
end Go.Proofs.Ytaaobbbkfhggaaa

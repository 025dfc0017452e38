/-
  The law FnExactNewNode, walked: it returns true, whatever its arguments; then its statement. Printed by genlaw.py.
-/
import Derived.Test.YtfigcalengpipaaEq
import Derived.Test.YtfigcalengpipaaSz
import Derived.Test.YtfigcalengpipaaTo
import Derived.Test.YtfigcalengpipaaBridge
import Derived.Test.YtfigcalengpipaaMark
import Derived.Test.YtfigcalengpipaaMarkN
import Derived.Test.YtfigcalengpipaaHeld
import Derived.Test.YtfigcalengpipaaNode1
import Derived.Test.YtfigcalengpipaaSoft2
import Derived.Deep.RegionHeld3
namespace Go.Proofs.Ytfigcalengpipaa
open Go.ChangeShapes Go.WideShapes Go.ChangeAt Go.RowKit
set_option linter.unusedVariables false
set_option linter.unusedSimpArgs false
set_option linter.unnecessarySimpa false
set_option maxRecDepth 100000 in
set_option maxHeartbeats 4000000 in
theorem lawNewNode_c {w : World} {x0 : Int} (h0 : -9223372036854775808 ≤ x0 ∧ x0 ≤ 9223372036854775807) :
    Calls Try.prog 3 #[.int .i64 x0] w (LawPost w) := by
  have hi0 := Lib.hid h0; clear h0
  go_enter Try.func3, Try.ntmps3
  go_wp2_with fail
  refine (specNewNode_c hi0.out).mono ?_
  rintro e w1 ⟨cs1, rfl, O1, hb1⟩
  obtain ⟨t1v0, t1v2, t1v3, t1v4, t1v5, t1v6, rfl, t1_0, t1_1, t1_2, t1_3, t1_4, t1_5, t1_6, t1_7, t1_8⟩ := RNode_raw O1.raw
  obtain ⟨t1a0, t1p0, t1h0, _⟩ := Rep.len_raw t1_0; obtain rfl : t1v0 = _ := (by simpa using t1h0)
  clear t1h0
  obtain ⟨t1a2, t1p2, t1h2, _⟩ := Rep.len_raw t1_3; obtain rfl : t1v2 = _ := (by simpa using t1h2)
  clear t1h2
  obtain ⟨t1a3, t1p3, t1h3, _⟩ := Rep.len_raw t1_4; obtain rfl : t1v3 = _ := (by simpa using t1h3)
  clear t1h3
  obtain ⟨t1a4, t1p4, t1h4, _⟩ := Rep.len_raw t1_5; obtain rfl : t1v4 = _ := (by simpa using t1h4)
  clear t1h4
  obtain ⟨t1a5, t1p5, t1h5, _⟩ := Rep.len_raw t1_6; obtain rfl : t1v5 = _ := (by simpa using t1h5)
  clear t1h5
  obtain ⟨t1a6, t1p6, t1h6, _⟩ := Rep.len_raw t1_7; obtain rfl : t1v6 = _ := (by simpa using t1h6)
  clear t1h6
  clear t1_0 t1_1 t1_2 t1_3 t1_4 t1_5 t1_6 t1_7 t1_8
  have Z1 := Lib.hid (O1.wide (T := Btw (w.heap.size) (w1.heap.size)) (fun i hi => ⟨by have h := hi.1; (try simp at h); omega, hi.2⟩)); clear O1
  have D1 : Below w.heap.size w w1 := Below.trans (by repeat (first | (with_reducible exact Below.refl _ _) | refine Below.alloc ?_ (by simp; try omega) _ | refine Below.drew ?_)) (hb1.mono (by simp))
  have H1 := Lib.hid D1
  have L1 := Lib.hid (show w.heap.size + 0 ≤ w1.heap.size from by have h := hb1.size; (try simp at h); omega)
  clear D1 hb1
  go_wp2_with fail
  refine (implNewNode_c hi0.out).mono ?_
  rintro e w2 ⟨cs2, rfl, O2, hb2⟩
  obtain ⟨t2v0, t2v2, t2v3, t2v4, t2v5, t2v6, rfl, t2_0, t2_1, t2_2, t2_3, t2_4, t2_5, t2_6, t2_7, t2_8⟩ := RNode_raw O2.raw
  obtain ⟨t2a0, t2p0, t2h0, _⟩ := Rep.len_raw t2_0; obtain rfl : t2v0 = _ := (by simpa using t2h0)
  clear t2h0
  obtain ⟨t2a2, t2p2, t2h2, _⟩ := Rep.len_raw t2_3; obtain rfl : t2v2 = _ := (by simpa using t2h2)
  clear t2h2
  obtain ⟨t2a3, t2p3, t2h3, _⟩ := Rep.len_raw t2_4; obtain rfl : t2v3 = _ := (by simpa using t2h3)
  clear t2h3
  obtain ⟨t2a4, t2p4, t2h4, _⟩ := Rep.len_raw t2_5; obtain rfl : t2v4 = _ := (by simpa using t2h4)
  clear t2h4
  obtain ⟨t2a5, t2p5, t2h5, _⟩ := Rep.len_raw t2_6; obtain rfl : t2v5 = _ := (by simpa using t2h5)
  clear t2h5
  obtain ⟨t2a6, t2p6, t2h6, _⟩ := Rep.len_raw t2_7; obtain rfl : t2v6 = _ := (by simpa using t2h6)
  clear t2h6
  clear t2_0 t2_1 t2_2 t2_3 t2_4 t2_5 t2_6 t2_7 t2_8
  have Z2 := Lib.hid (O2.wide (T := Btw (w1.heap.size + 1) (w2.heap.size)) (fun i hi => ⟨by have h := hi.1; (try simp at h); omega, hi.2⟩)); clear O2
  have D2 : Below w1.heap.size w1 w2 := Below.trans (by repeat (first | (with_reducible exact Below.refl _ _) | refine Below.alloc ?_ (by simp; try omega) _ | refine Below.drew ?_)) (hb2.mono (by simp))
  have H2 := Lib.hid (H1.out.trans (D2.mono H1.out.size))
  have L2 := Lib.hid (show w1.heap.size + 1 ≤ w2.heap.size from by have h := hb2.size; (try simp at h); omega)
  have X_w0_2 : Hid (w2.heap[w1.heap.size]? = some (.cells #[.slice t1a0 (((newN x0)).1).length t1p0, .int .i64 ((newN x0)).2.1.1, .slice t1a2 (((newN x0)).2.1.2).length t1p2, .slice t1a3 (((newN x0)).2.2.1).length t1p3, .slice t1a4 (((newN x0)).2.2.2.1).length t1p4, .slice t1a5 (((newN x0)).2.2.2.2.1).length t1p5, .slice t1a6 (((newN x0)).2.2.2.2.2.1).length t1p6, .int .i64 ((newN x0)).2.2.2.2.2.2] 31 (0, 0))) := Lib.hid ((hb2.block (w1.heap.size) (by simp)).trans (heap_new_at (by simp)))
  have O_w0_2 := Lib.hid (Z1.out.below D2); clear Z1
  clear D2 hb2
  have K_w0_0 := boxCell X_w0_2.out (j := 0) (v := .slice t1a0 (((newN x0)).1).length t1p0) rfl
  have K_w0_1 := boxCell X_w0_2.out (j := 1) (v := .int .i64 ((newN x0)).2.1.1) rfl
  have K_w0_2 := boxCell X_w0_2.out (j := 2) (v := .slice t1a2 (((newN x0)).2.1.2).length t1p2) rfl
  have K_w0_3 := boxCell X_w0_2.out (j := 3) (v := .slice t1a3 (((newN x0)).2.2.1).length t1p3) rfl
  have K_w0_4 := boxCell X_w0_2.out (j := 4) (v := .slice t1a4 (((newN x0)).2.2.2.1).length t1p4) rfl
  have K_w0_5 := boxCell X_w0_2.out (j := 5) (v := .slice t1a5 (((newN x0)).2.2.2.2.1).length t1p5) rfl
  have K_w0_6 := boxCell X_w0_2.out (j := 6) (v := .slice t1a6 (((newN x0)).2.2.2.2.2.1).length t1p6) rfl
  have K_w0_7 := boxCell X_w0_2.out (j := 7) (v := .int .i64 ((newN x0)).2.2.2.2.2.2) rfl
  have J_w0 : w1.heap.size < w2.heap.size := by have l2 := L2.out; omega
  go_wp2_with fail
  refine (eqNode_c (Z2.out.raw.below (by repeat (first | (with_reducible exact Below.refl _ _) | refine Below.alloc ?_ (by simp; try omega) _ | refine Below.drew ?_))) (O_w0_2.out.raw.below (by repeat (first | (with_reducible exact Below.refl _ _) | refine Below.alloc ?_ (by simp; try omega) _ | refine Below.drew ?_)))).mono ?_
  rintro e w3 ⟨rfl, hb3⟩
  have D3 : Below w2.heap.size w2 w3 := Below.trans (by repeat (first | (with_reducible exact Below.refl _ _) | refine Below.alloc ?_ (by simp; try omega) _ | refine Below.drew ?_)) (hb3.mono (by simp))
  have H3 := Lib.hid (H2.out.trans (D3.mono H2.out.size))
  have L3 := Lib.hid (show w2.heap.size + 1 ≤ w3.heap.size from by have h := hb3.size; (try simp at h); omega)
  have X_w0_3 := Lib.hid (keepBox X_w0_2.out D3); clear X_w0_2
  have X_g0_3 : Hid (w3.heap[w2.heap.size]? = some (.cells #[.slice t2a0 (((newN x0)).1).length t2p0, .int .i64 ((newN x0)).2.1.1, .slice t2a2 (((newN x0)).2.1.2).length t2p2, .slice t2a3 (((newN x0)).2.2.1).length t2p3, .slice t2a4 (((newN x0)).2.2.2.1).length t2p4, .slice t2a5 (((newN x0)).2.2.2.2.1).length t2p5, .slice t2a6 (((newN x0)).2.2.2.2.2.1).length t2p6, .int .i64 ((newN x0)).2.2.2.2.2.2] 31 (0, 0))) := Lib.hid ((hb3.block (w2.heap.size) (by simp)).trans (heap_new_at (by simp)))
  have O_w0_3 := Lib.hid (O_w0_2.out.below D3); clear O_w0_2
  have O_g0_3 := Lib.hid (Z2.out.below D3); clear Z2
  clear D3 K_w0_0 K_w0_1 K_w0_2 K_w0_3 K_w0_4 K_w0_5 K_w0_6 K_w0_7 J_w0 hb3
  have K_g0_0 := boxCell X_g0_3.out (j := 0) (v := .slice t2a0 (((newN x0)).1).length t2p0) rfl
  have K_g0_1 := boxCell X_g0_3.out (j := 1) (v := .int .i64 ((newN x0)).2.1.1) rfl
  have K_g0_2 := boxCell X_g0_3.out (j := 2) (v := .slice t2a2 (((newN x0)).2.1.2).length t2p2) rfl
  have K_g0_3 := boxCell X_g0_3.out (j := 3) (v := .slice t2a3 (((newN x0)).2.2.1).length t2p3) rfl
  have K_g0_4 := boxCell X_g0_3.out (j := 4) (v := .slice t2a4 (((newN x0)).2.2.2.1).length t2p4) rfl
  have K_g0_5 := boxCell X_g0_3.out (j := 5) (v := .slice t2a5 (((newN x0)).2.2.2.2.1).length t2p5) rfl
  have K_g0_6 := boxCell X_g0_3.out (j := 6) (v := .slice t2a6 (((newN x0)).2.2.2.2.2.1).length t2p6) rfl
  have K_g0_7 := boxCell X_g0_3.out (j := 7) (v := .int .i64 ((newN x0)).2.2.2.2.2.2) rfl
  go_wp2_with fail
  refine (markNode_c (k := 1) (O_g0_3.out.below (by repeat (first | (with_reducible exact Below.refl _ _) | refine Below.alloc ?_ (by simp; try omega) _ | refine Below.drew ?_))) (by  omega) (by have e : (RNode.cnt : Int) = 3659174881787906 := (by decide); unfold Top; omega)).mono ?_
  rintro e w4 ⟨rfl, P4, Y4⟩
  have B4 : Hid (1 ≤ (RNode.mark false ((newN x0)) (1)).2 ∧ (RNode.mark false ((newN x0)) (1)).2 ≤ 1 + 3659174881787906) := Lib.hid ⟨by have := RNode.mark_ge (e := false) (x := (newN x0)) (k := 1); omega, by have := RNode.mark_le (e := false) (k := 1) O_g0_3.out.2; have e : (RNode.cnt : Int) = 3659174881787906 := (by decide); omega⟩
  have D4 : Touch (Btw (w1.heap.size + 1) (w2.heap.size)) w3 w4 := (Touch.of_below (by repeat (first | (with_reducible exact Below.refl _ _) | refine Below.alloc ?_ (by simp; try omega) _ | refine Below.drew ?_))).trans Y4
  have H4 := Lib.hid (H3.out.trans (D4.below (by have := H3.out.size; omega) (fun i hi => by have a := hi.1; have b : w.heap.size ≤ w1.heap.size := H1.out.size; omega)))
  have L4 := Lib.hid (show w3.heap.size ≤ w4.heap.size from D4.size)
  have X_w0_4 := Lib.hid (D4.keepBox X_w0_3.out (fun q => by have q1 := q.1; have q2 := q.2; have l2 := L2.out; omega)); clear X_w0_3
  have X_g0_4 := Lib.hid (D4.keepBox X_g0_3.out (fun q => by have q1 := q.1; have q2 := q.2; have l2 := L2.out; omega)); clear X_g0_3
  have O_w0_4 := Lib.hid (O_w0_3.out.touch D4 (fun i p q => by have p1 := p.1; have p2 := p.2; have q1 := q.1; have q2 := q.2; have l1 := L1.out; have l2 := L2.out; omega)); clear O_w0_3
  clear D4 K_g0_0 K_g0_1 K_g0_2 K_g0_3 K_g0_4 K_g0_5 K_g0_6 K_g0_7 Y4
  have Z4 := Lib.hid P4; clear P4 O_g0_3
  have U4 : 0 ≤ (RNode.mark false ((newN x0)) (1)).2 := by have := B4.out.1; omega
  have K_g0_0 := boxCell X_g0_4.out (j := 0) (v := .slice t2a0 (((newN x0)).1).length t2p0) rfl
  have K_g0_1 := boxCell X_g0_4.out (j := 1) (v := .int .i64 ((newN x0)).2.1.1) rfl
  have K_g0_2 := boxCell X_g0_4.out (j := 2) (v := .slice t2a2 (((newN x0)).2.1.2).length t2p2) rfl
  have K_g0_3 := boxCell X_g0_4.out (j := 3) (v := .slice t2a3 (((newN x0)).2.2.1).length t2p3) rfl
  have K_g0_4 := boxCell X_g0_4.out (j := 4) (v := .slice t2a4 (((newN x0)).2.2.2.1).length t2p4) rfl
  have K_g0_5 := boxCell X_g0_4.out (j := 5) (v := .slice t2a5 (((newN x0)).2.2.2.2.1).length t2p5) rfl
  have K_g0_6 := boxCell X_g0_4.out (j := 6) (v := .slice t2a6 (((newN x0)).2.2.2.2.2.1).length t2p6) rfl
  have K_g0_7 := boxCell X_g0_4.out (j := 7) (v := .int .i64 ((newN x0)).2.2.2.2.2.2) rfl
  go_wp2_with fail
  refine (heldNode_c (Z4.out.raw.below (by repeat (first | (with_reducible exact Below.refl _ _) | refine Below.alloc ?_ (by simp; try omega) _ | refine Below.drew ?_))) (RNode.mark_held (e := false) (x := (newN x0)) (k := 1)) (by have := B4.out.1;  omega) (by have := B4.out.2;  omega)).mono ?_
  rintro e w5 ⟨rfl, hb5⟩
  have D5 : Below w4.heap.size w4 w5 := Below.trans (by repeat (first | (with_reducible exact Below.refl _ _) | refine Below.alloc ?_ (by simp; try omega) _ | refine Below.drew ?_)) (hb5.mono (by simp))
  have H5 := Lib.hid (H4.out.trans (D5.mono H4.out.size))
  have L5 := Lib.hid (show w4.heap.size + 0 ≤ w5.heap.size from by have h := hb5.size; (try simp at h); omega)
  have X_w0_5 := Lib.hid (keepBox X_w0_4.out D5); clear X_w0_4
  have X_g0_5 := Lib.hid (keepBox X_g0_4.out D5); clear X_g0_4
  have O_w0_5 := Lib.hid (O_w0_4.out.below D5); clear O_w0_4
  have O_g0_5 := Lib.hid (Z4.out.below D5); clear Z4
  clear D5 K_g0_0 K_g0_1 K_g0_2 K_g0_3 K_g0_4 K_g0_5 K_g0_6 K_g0_7 hb5
  go_wp2_with fail
  refine (implNewNode_c hi0.out).mono ?_
  rintro e w6 ⟨cs6, rfl, O6, hb6⟩
  obtain ⟨t6v0, t6v2, t6v3, t6v4, t6v5, t6v6, rfl, t6_0, t6_1, t6_2, t6_3, t6_4, t6_5, t6_6, t6_7, t6_8⟩ := RNode_raw O6.raw
  obtain ⟨t6a0, t6p0, t6h0, _⟩ := Rep.len_raw t6_0; obtain rfl : t6v0 = _ := (by simpa using t6h0)
  clear t6h0
  obtain ⟨t6a2, t6p2, t6h2, _⟩ := Rep.len_raw t6_3; obtain rfl : t6v2 = _ := (by simpa using t6h2)
  clear t6h2
  obtain ⟨t6a3, t6p3, t6h3, _⟩ := Rep.len_raw t6_4; obtain rfl : t6v3 = _ := (by simpa using t6h3)
  clear t6h3
  obtain ⟨t6a4, t6p4, t6h4, _⟩ := Rep.len_raw t6_5; obtain rfl : t6v4 = _ := (by simpa using t6h4)
  clear t6h4
  obtain ⟨t6a5, t6p5, t6h5, _⟩ := Rep.len_raw t6_6; obtain rfl : t6v5 = _ := (by simpa using t6h5)
  clear t6h5
  obtain ⟨t6a6, t6p6, t6h6, _⟩ := Rep.len_raw t6_7; obtain rfl : t6v6 = _ := (by simpa using t6h6)
  clear t6h6
  clear t6_0 t6_1 t6_2 t6_3 t6_4 t6_5 t6_6 t6_7 t6_8
  have Z6 := Lib.hid (O6.wide (T := Btw (w5.heap.size) (w6.heap.size)) (fun i hi => ⟨by have h := hi.1; (try simp at h); omega, hi.2⟩)); clear O6
  have D6 : Below w5.heap.size w5 w6 := Below.trans (by repeat (first | (with_reducible exact Below.refl _ _) | refine Below.alloc ?_ (by simp; try omega) _ | refine Below.drew ?_)) (hb6.mono (by simp))
  have H6 := Lib.hid (H5.out.trans (D6.mono H5.out.size))
  have L6 := Lib.hid (show w5.heap.size + 0 ≤ w6.heap.size from by have h := hb6.size; (try simp at h); omega)
  have X_w0_6 := Lib.hid (keepBox X_w0_5.out D6); clear X_w0_5
  have X_g0_6 := Lib.hid (keepBox X_g0_5.out D6); clear X_g0_5
  have O_w0_6 := Lib.hid (O_w0_5.out.below D6); clear O_w0_5
  have O_g0_6 := Lib.hid (O_g0_5.out.below D6); clear O_g0_5
  clear D6 hb6
  have K_w0_0 := boxCell X_w0_6.out (j := 0) (v := .slice t1a0 (((newN x0)).1).length t1p0) rfl
  have K_w0_1 := boxCell X_w0_6.out (j := 1) (v := .int .i64 ((newN x0)).2.1.1) rfl
  have K_w0_2 := boxCell X_w0_6.out (j := 2) (v := .slice t1a2 (((newN x0)).2.1.2).length t1p2) rfl
  have K_w0_3 := boxCell X_w0_6.out (j := 3) (v := .slice t1a3 (((newN x0)).2.2.1).length t1p3) rfl
  have K_w0_4 := boxCell X_w0_6.out (j := 4) (v := .slice t1a4 (((newN x0)).2.2.2.1).length t1p4) rfl
  have K_w0_5 := boxCell X_w0_6.out (j := 5) (v := .slice t1a5 (((newN x0)).2.2.2.2.1).length t1p5) rfl
  have K_w0_6 := boxCell X_w0_6.out (j := 6) (v := .slice t1a6 (((newN x0)).2.2.2.2.2.1).length t1p6) rfl
  have K_w0_7 := boxCell X_w0_6.out (j := 7) (v := .int .i64 ((newN x0)).2.2.2.2.2.2) rfl
  have J_w0 : w1.heap.size < w6.heap.size := by have l2 := L2.out; have l3 := L3.out; have l4 := L4.out; have l5 := L5.out; have l6 := L6.out; omega
  go_wp2_with fail
  refine (eqNode_c (Z6.out.raw.below (by repeat (first | (with_reducible exact Below.refl _ _) | refine Below.alloc ?_ (by simp; try omega) _ | refine Below.drew ?_))) (O_w0_6.out.raw.below (by repeat (first | (with_reducible exact Below.refl _ _) | refine Below.alloc ?_ (by simp; try omega) _ | refine Below.drew ?_)))).mono ?_
  rintro e w7 ⟨rfl, hb7⟩
  have D7 : Below w6.heap.size w6 w7 := Below.trans (by repeat (first | (with_reducible exact Below.refl _ _) | refine Below.alloc ?_ (by simp; try omega) _ | refine Below.drew ?_)) (hb7.mono (by simp))
  have H7 := Lib.hid (H6.out.trans (D7.mono H6.out.size))
  have L7 := Lib.hid (show w6.heap.size + 1 ≤ w7.heap.size from by have h := hb7.size; (try simp at h); omega)
  have X_w0_7 := Lib.hid (keepBox X_w0_6.out D7); clear X_w0_6
  have X_g0_7 := Lib.hid (keepBox X_g0_6.out D7); clear X_g0_6
  have X_h0_7 : Hid (w7.heap[w6.heap.size]? = some (.cells #[.slice t6a0 (((newN x0)).1).length t6p0, .int .i64 ((newN x0)).2.1.1, .slice t6a2 (((newN x0)).2.1.2).length t6p2, .slice t6a3 (((newN x0)).2.2.1).length t6p3, .slice t6a4 (((newN x0)).2.2.2.1).length t6p4, .slice t6a5 (((newN x0)).2.2.2.2.1).length t6p5, .slice t6a6 (((newN x0)).2.2.2.2.2.1).length t6p6, .int .i64 ((newN x0)).2.2.2.2.2.2] 31 (0, 0))) := Lib.hid ((hb7.block (w6.heap.size) (by simp)).trans (heap_new_at (by simp)))
  have O_w0_7 := Lib.hid (O_w0_6.out.below D7); clear O_w0_6
  have O_g0_7 := Lib.hid (O_g0_6.out.below D7); clear O_g0_6
  have O_h0_7 := Lib.hid (Z6.out.below D7); clear Z6
  clear D7 K_w0_0 K_w0_1 K_w0_2 K_w0_3 K_w0_4 K_w0_5 K_w0_6 K_w0_7 J_w0 hb7
  have K_g0_0 := boxCell X_g0_7.out (j := 0) (v := .slice t2a0 (((newN x0)).1).length t2p0) rfl
  have K_g0_1 := boxCell X_g0_7.out (j := 1) (v := .int .i64 ((newN x0)).2.1.1) rfl
  have K_g0_2 := boxCell X_g0_7.out (j := 2) (v := .slice t2a2 (((newN x0)).2.1.2).length t2p2) rfl
  have K_g0_3 := boxCell X_g0_7.out (j := 3) (v := .slice t2a3 (((newN x0)).2.2.1).length t2p3) rfl
  have K_g0_4 := boxCell X_g0_7.out (j := 4) (v := .slice t2a4 (((newN x0)).2.2.2.1).length t2p4) rfl
  have K_g0_5 := boxCell X_g0_7.out (j := 5) (v := .slice t2a5 (((newN x0)).2.2.2.2.1).length t2p5) rfl
  have K_g0_6 := boxCell X_g0_7.out (j := 6) (v := .slice t2a6 (((newN x0)).2.2.2.2.2.1).length t2p6) rfl
  have K_g0_7 := boxCell X_g0_7.out (j := 7) (v := .int .i64 ((newN x0)).2.2.2.2.2.2) rfl
  go_wp2_with fail
  refine (heldNode_c (O_g0_7.out.raw.below (by repeat (first | (with_reducible exact Below.refl _ _) | refine Below.alloc ?_ (by simp; try omega) _ | refine Below.drew ?_))) (RNode.mark_held (e := false) (x := (newN x0)) (k := 1)) (by have := B4.out.1;  omega) (by have := B4.out.2;  omega)).mono ?_
  rintro e w8 ⟨rfl, hb8⟩
  have D8 : Below w7.heap.size w7 w8 := Below.trans (by repeat (first | (with_reducible exact Below.refl _ _) | refine Below.alloc ?_ (by simp; try omega) _ | refine Below.drew ?_)) (hb8.mono (by simp))
  have H8 := Lib.hid (H7.out.trans (D8.mono H7.out.size))
  have L8 := Lib.hid (show w7.heap.size + 0 ≤ w8.heap.size from by have h := hb8.size; (try simp at h); omega)
  have X_w0_8 := Lib.hid (keepBox X_w0_7.out D8); clear X_w0_7
  have X_g0_8 := Lib.hid (keepBox X_g0_7.out D8); clear X_g0_7
  have X_h0_8 := Lib.hid (keepBox X_h0_7.out D8); clear X_h0_7
  have O_w0_8 := Lib.hid (O_w0_7.out.below D8); clear O_w0_7
  have O_g0_8 := Lib.hid (O_g0_7.out.below D8); clear O_g0_7
  have O_h0_8 := Lib.hid (O_h0_7.out.below D8); clear O_h0_7
  clear D8 K_g0_0 K_g0_1 K_g0_2 K_g0_3 K_g0_4 K_g0_5 K_g0_6 K_g0_7 hb8
  go_wp2
  go_ret
  exact ⟨rfl, H8.out⟩

set_option maxRecDepth 100000 in
theorem lawNewNode_lifted (os : Os) (started : os.Started) (H : Type) (enc : TypeId × Value → H) :
    ReturnsInHanded {} Try.checked os 3 .any (Rows.fnExactNewNodeSpec.pre6 enc Try.prog Try.f3 Rows.fnExactNewNodeRow.domain false) (Rows.fnExactNewNodeSpec.post enc Try.prog Try.f3 false true false false) := by
  refine returnsInHanded_of_change (C := Try.checked) law_own started (by kernel_rfl) Try.func3
    (ChangeSpec.witness6 (enc := enc) (C := Try.checked) false ⟨#[], #[.int .i64 0], []⟩ 8 (by kernel_rfl) (by kernel_rfl) (by kernel_rfl) (by kernel_rfl)) ?_
  intro W base args ds gs before hval0 hW _ _
  have hval : ∀ (j : Nat) t v, Try.f3.params[j]? = some t → args[j]? = some v → Value.okWide Try.prog W .any base t v := hval0
  have hW0 : DataW.Whole enc Try.prog Try.f3.params.toList Rows.fnExactNewNodeSpec.vars false W args.toList ds gs before := hW
  obtain ⟨p, q, hA0, hV, rfl, hfz, hnd⟩ := hW
  have hA : DataW.TrodAll enc Try.prog W 0 (fun _ => true) true Try.f3.params.toList args.toList ds p := hA0
  rw [Try.params3] at hA hval
  obtain ⟨v0, vs0, d0, ds0, p0, q0, hargs, rfl, rfl, g0, s0⟩ := trodAll_cons hA
  obtain ⟨rfl, rfl, rfl⟩ := trodAll_nil s0
  obtain rfl : args = #[v0] := by cases args; simp_all
  obtain ⟨rfl, rfl⟩ := trodVars_none hV
  obtain ⟨x0, rfl, rfl, rfl, e0⟩ := open_int Try.underlying3 (hval 0 3 v0 rfl rfl) g0
  have h0 : -9223372036854775808 ≤ x0 ∧ x0 ≤ 9223372036854775807 := by simpa [Lit.wf, IntKind.min, IntKind.max, IntKind.signed, IntKind.bits] using e0
  refine (lawNewNode_c h0).mono fun e W' ⟨he, hb⟩ => ?_
  subst he
  refine ⟨_, rfl, law_post (tb := 4) hW0 rfl rfl Try.underlying4 ⟨rfl, rfl, rfl⟩ ?_ hb⟩
  rw [Try.params3]
  intro t ht
  have hall : ([3].all fun t => Try.prog.readableRec t && decide (t < Try.prog.types.size)) = true := by kernel_rfl
  have h1 := List.all_eq_true.1 hall t ht
  simpa using h1

theorem lawNewNode_holds : Rows.FnExactNewNodeSaid :=
  OpenClaim.holds_of_wide 3 Try.f3 rfl rfl rfl rfl rfl rfl rfl ⟨rfl, rfl, rfl, rfl, rfl⟩ rfl rfl rfl rfl rfl (by kernel_rfl) Try.func3 (by kernel_rfl)
    (of_decide_eq_true (by kernel_rfl)) (by unfold Func.isWrapper; first | (rw [if_pos (by decide +kernel)]; kernel_rfl) | (rw [if_neg (by decide +kernel)]; exact ⟨rfl, rfl⟩))
    (fun os started H enc _ => lawNewNode_lifted os started H enc)
end Go.Proofs.Ytfigcalengpipaa

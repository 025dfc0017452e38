/-
  The law FnExactValidNode, walked: it returns true, whatever its arguments; then its statement. Printed by genlaw.py.
-/
import Derived.Test.YtcmddljfmbgpaaaGreatEq
import Derived.Test.YtcmddljfmbgpaaaGreatSz
import Derived.Test.YtcmddljfmbgpaaaGreatTo
import Derived.Test.YtcmddljfmbgpaaaGreatBridge
import Derived.Test.YtcmddljfmbgpaaaGreatVNodeI
import Derived.Test.YtcmddljfmbgpaaaGreatSoftT
import Derived.Deep.RegionHeld3
namespace Go.Proofs.YtcmddljfmbgpaaaGreat
open Go.ChangeShapes Go.WideShapes Go.ChangeAt Go.RowKit
set_option linter.unusedVariables false
set_option linter.unusedSimpArgs false
set_option linter.unnecessarySimpa false
set_option maxRecDepth 100000 in
set_option maxHeartbeats 4000000 in
theorem lawValidNode_c {w : World} {c0 : List Value} {x0 : LNode} (h0 : RNode.raw w c0 x0) :
    Calls Tryz.prog 3 #[.agg c0.toArray] w (LawPost w) := by
  obtain ⟨a0v0, a0v2, a0v3, a0v4, a0v5, a0v6, rfl, a0_0, a0_1, a0_2, a0_3, a0_4, a0_5, a0_6, a0_7, a0_8⟩ := RNode_raw h0
  clear a0_0 a0_1 a0_2 a0_3 a0_4 a0_5 a0_6 a0_7 a0_8
  go_enter Tryz.func3, Tryz.ntmps3
  go_wp2_with fail
  refine (szNode_c (h0.below (by repeat (first | (with_reducible exact Below.refl _ _) | refine Below.alloc ?_ (by simp; try omega) _ | refine Below.drew ?_))) (by omega) (by omega)).mono ?_
  rintro e w1 ⟨s1, rfl, p1, q1, g1, hb1⟩
  have G1 := Lib.hid g1; clear g1
  have D1 : Below w.heap.size w w1 := Below.trans (by repeat (first | (with_reducible exact Below.refl _ _) | refine Below.alloc ?_ (by simp; try omega) _ | refine Below.drew ?_)) (hb1.mono (by first | (simp; done) | (simp; omega)))
  have H1 := Lib.hid D1
  have L1 := Lib.hid (show w.heap.size + 1 ≤ w1.heap.size from by have h := hb1.size; (try simp at h); omega)
  have X_aX_1 : Hid (w1.heap[w.heap.size]? = some (.cells #[a0v0, .int .i64 x0.2.1.1, a0v2, a0v3, a0v4, a0v5, a0v6, .int .i64 x0.2.2.2.2.2.2] 31 (0, 0))) := Lib.hid ((hb1.block (w.heap.size) (by first | (simp; done) | (simp; omega))).trans (heap_new_at (by simp)))
  clear D1 hb1
  by_cases m1 : s1 < 0
  · go_wp2
    go_ret
    exact ⟨rfl, H1.out⟩
  have z1 : 0 ≤ s1 := by omega
  have r0 : RNode.rd w _ x0 := ⟨h0, RNode.bdd_mono (G1.out z1) (by decide)⟩
  have K_aX_0 := boxCell X_aX_1.out (j := 0) (v := a0v0) rfl
  have K_aX_1 := boxCell X_aX_1.out (j := 1) (v := .int .i64 x0.2.1.1) rfl
  have K_aX_2 := boxCell X_aX_1.out (j := 2) (v := a0v2) rfl
  have K_aX_3 := boxCell X_aX_1.out (j := 3) (v := a0v3) rfl
  have K_aX_4 := boxCell X_aX_1.out (j := 4) (v := a0v4) rfl
  have K_aX_5 := boxCell X_aX_1.out (j := 5) (v := a0v5) rfl
  have K_aX_6 := boxCell X_aX_1.out (j := 6) (v := a0v6) rfl
  have K_aX_7 := boxCell X_aX_1.out (j := 7) (v := .int .i64 x0.2.2.2.2.2.2) rfl
  go_wp2_with fail
  refine (toNode_c (r0.below (by repeat (first | (with_reducible exact H1.out) | refine Below.alloc ?_ (by have := H1.out.size; simp; try omega) _ | refine Below.drew ?_)))).mono ?_
  rintro e w2 ⟨cs2, rfl, O2, hb2⟩
  obtain ⟨t2v0, t2v2, t2v3, t2v4, t2v5, t2v6, rfl, t2_0, t2_1, t2_2, t2_3, t2_4, t2_5, t2_6, t2_7, t2_8⟩ := RNode_raw O2.raw
  obtain ⟨t2a0, t2p0, t2h0, _⟩ := Rep.len_raw t2_0; obtain rfl : t2v0 = _ := (by simpa using t2h0)
  clear t2h0
  obtain ⟨t2a2, t2p2, t2h2, _⟩ := Rep.len_raw t2_3; obtain rfl : t2v2 = _ := (by simpa using t2h2)
  clear t2h2
  obtain ⟨t2a3, t2p3, t2h3, _⟩ := Rep.len_raw t2_4; obtain rfl : t2v3 = _ := (by simpa using t2h3)
  clear t2h3
  obtain ⟨t2a4, t2p4, t2h4, _⟩ := Rep.len_raw t2_5; obtain rfl : t2v4 = _ := (by simpa using t2h4)
  clear t2h4
  obtain ⟨t2a5, t2p5, t2h5, _⟩ := Rep.len_raw t2_6; obtain rfl : t2v5 = _ := (by simpa using t2h5)
  clear t2h5
  obtain ⟨t2a6, t2p6, t2h6, _⟩ := Rep.len_raw t2_7; obtain rfl : t2v6 = _ := (by simpa using t2h6)
  clear t2h6
  clear t2_0 t2_1 t2_2 t2_3 t2_4 t2_5 t2_6 t2_7 t2_8
  have Z2 := Lib.hid (O2.wide (T := Btw (w1.heap.size) (w2.heap.size)) (fun i hi => ⟨by have h := hi.1; (try simp at h); omega, hi.2⟩)); clear O2
  have D2 : Below w1.heap.size w1 w2 := Below.trans (by repeat (first | (with_reducible exact Below.refl _ _) | refine Below.alloc ?_ (by simp; try omega) _ | refine Below.drew ?_)) (hb2.mono (by first | (simp; done) | (simp; omega)))
  have H2 := Lib.hid (H1.out.trans (D2.mono H1.out.size))
  have L2 := Lib.hid (show w1.heap.size + 0 ≤ w2.heap.size from by have h := hb2.size; (try simp at h); omega)
  have X_aX_2 := Lib.hid (keepBox X_aX_1.out D2); clear X_aX_1
  clear D2 K_aX_0 K_aX_1 K_aX_2 K_aX_3 K_aX_4 K_aX_5 K_aX_6 K_aX_7 hb2
  go_wp2_with fail
  refine (specValidNode_c (Z2.out.rd.below (by repeat (first | (with_reducible exact Below.refl _ _) | refine Below.alloc ?_ (by simp; try omega) _ | refine Below.drew ?_)))).mono ?_
  rintro e w3 ⟨rfl, hb3⟩
  have D3 : Below w2.heap.size w2 w3 := Below.trans (by repeat (first | (with_reducible exact Below.refl _ _) | refine Below.alloc ?_ (by simp; try omega) _ | refine Below.drew ?_)) (hb3.mono (by first | (simp; done) | (simp; omega)))
  have H3 := Lib.hid (H2.out.trans (D3.mono H2.out.size))
  have L3 := Lib.hid (show w2.heap.size + 0 ≤ w3.heap.size from by have h := hb3.size; (try simp at h); omega)
  have X_aX_3 := Lib.hid (keepBox X_aX_2.out D3); clear X_aX_2
  have O_t2_3 := Lib.hid (Z2.out.below D3); clear Z2
  clear D3 hb3
  clear O_t2_3
  have K_aX_0 := boxCell X_aX_3.out (j := 0) (v := a0v0) rfl
  have K_aX_1 := boxCell X_aX_3.out (j := 1) (v := .int .i64 x0.2.1.1) rfl
  have K_aX_2 := boxCell X_aX_3.out (j := 2) (v := a0v2) rfl
  have K_aX_3 := boxCell X_aX_3.out (j := 3) (v := a0v3) rfl
  have K_aX_4 := boxCell X_aX_3.out (j := 4) (v := a0v4) rfl
  have K_aX_5 := boxCell X_aX_3.out (j := 5) (v := a0v5) rfl
  have K_aX_6 := boxCell X_aX_3.out (j := 6) (v := a0v6) rfl
  have K_aX_7 := boxCell X_aX_3.out (j := 7) (v := .int .i64 x0.2.2.2.2.2.2) rfl
  go_wp2_with fail
  refine (toNode_c (r0.below (by repeat (first | (with_reducible exact H3.out) | refine Below.alloc ?_ (by have := H3.out.size; simp; try omega) _ | refine Below.drew ?_)))).mono ?_
  rintro e w4 ⟨cs4, rfl, O4, hb4⟩
  obtain ⟨t4v0, t4v2, t4v3, t4v4, t4v5, t4v6, rfl, t4_0, t4_1, t4_2, t4_3, t4_4, t4_5, t4_6, t4_7, t4_8⟩ := RNode_raw O4.raw
  obtain ⟨t4a0, t4p0, t4h0, _⟩ := Rep.len_raw t4_0; obtain rfl : t4v0 = _ := (by simpa using t4h0)
  clear t4h0
  obtain ⟨t4a2, t4p2, t4h2, _⟩ := Rep.len_raw t4_3; obtain rfl : t4v2 = _ := (by simpa using t4h2)
  clear t4h2
  obtain ⟨t4a3, t4p3, t4h3, _⟩ := Rep.len_raw t4_4; obtain rfl : t4v3 = _ := (by simpa using t4h3)
  clear t4h3
  obtain ⟨t4a4, t4p4, t4h4, _⟩ := Rep.len_raw t4_5; obtain rfl : t4v4 = _ := (by simpa using t4h4)
  clear t4h4
  obtain ⟨t4a5, t4p5, t4h5, _⟩ := Rep.len_raw t4_6; obtain rfl : t4v5 = _ := (by simpa using t4h5)
  clear t4h5
  obtain ⟨t4a6, t4p6, t4h6, _⟩ := Rep.len_raw t4_7; obtain rfl : t4v6 = _ := (by simpa using t4h6)
  clear t4h6
  clear t4_0 t4_1 t4_2 t4_3 t4_4 t4_5 t4_6 t4_7 t4_8
  have Z4 := Lib.hid (O4.wide (T := Btw (w3.heap.size) (w4.heap.size)) (fun i hi => ⟨by have h := hi.1; (try simp at h); omega, hi.2⟩)); clear O4
  have D4 : Below w3.heap.size w3 w4 := Below.trans (by repeat (first | (with_reducible exact Below.refl _ _) | refine Below.alloc ?_ (by simp; try omega) _ | refine Below.drew ?_)) (hb4.mono (by first | (simp; done) | (simp; omega)))
  have H4 := Lib.hid (H3.out.trans (D4.mono H3.out.size))
  have L4 := Lib.hid (show w3.heap.size + 0 ≤ w4.heap.size from by have h := hb4.size; (try simp at h); omega)
  have X_aX_4 := Lib.hid (keepBox X_aX_3.out D4); clear X_aX_3
  clear D4 K_aX_0 K_aX_1 K_aX_2 K_aX_3 K_aX_4 K_aX_5 K_aX_6 K_aX_7 hb4
  go_wp2_with fail
  refine (implValidNode_c (Z4.out.rd.below (by repeat (first | (with_reducible exact Below.refl _ _) | refine Below.alloc ?_ (by simp; try omega) _ | refine Below.drew ?_)))).mono ?_
  rintro e w5 ⟨rfl, hb5⟩
  have D5 : Below w4.heap.size w4 w5 := Below.trans (by repeat (first | (with_reducible exact Below.refl _ _) | refine Below.alloc ?_ (by simp; try omega) _ | refine Below.drew ?_)) (hb5.mono (by first | (simp; done) | (simp; omega)))
  have H5 := Lib.hid (H4.out.trans (D5.mono H4.out.size))
  have L5 := Lib.hid (show w4.heap.size + 1 ≤ w5.heap.size from by have h := hb5.size; (try simp at h); omega)
  have X_aX_5 := Lib.hid (keepBox X_aX_4.out D5); clear X_aX_4
  have X_x0_5 : Hid (w5.heap[w4.heap.size]? = some (.cells #[.slice t4a0 (x0.1).length t4p0, .int .i64 x0.2.1.1, .slice t4a2 (x0.2.1.2).length t4p2, .slice t4a3 (x0.2.2.1).length t4p3, .slice t4a4 (x0.2.2.2.1).length t4p4, .slice t4a5 (x0.2.2.2.2.1).length t4p5, .slice t4a6 (x0.2.2.2.2.2.1).length t4p6, .int .i64 x0.2.2.2.2.2.2] 43 (0, 0))) := Lib.hid ((hb5.block (w4.heap.size) (by first | (simp; done) | (simp; omega))).trans (heap_new_at (by simp)))
  have O_x0_5 := Lib.hid (Z4.out.below D5); clear Z4
  clear D5 hb5
  have K_aX_0 := boxCell X_aX_5.out (j := 0) (v := a0v0) rfl
  have K_aX_1 := boxCell X_aX_5.out (j := 1) (v := .int .i64 x0.2.1.1) rfl
  have K_aX_2 := boxCell X_aX_5.out (j := 2) (v := a0v2) rfl
  have K_aX_3 := boxCell X_aX_5.out (j := 3) (v := a0v3) rfl
  have K_aX_4 := boxCell X_aX_5.out (j := 4) (v := a0v4) rfl
  have K_aX_5 := boxCell X_aX_5.out (j := 5) (v := a0v5) rfl
  have K_aX_6 := boxCell X_aX_5.out (j := 6) (v := a0v6) rfl
  have K_aX_7 := boxCell X_aX_5.out (j := 7) (v := .int .i64 x0.2.2.2.2.2.2) rfl
  have K_x0_0 := boxCell X_x0_5.out (j := 0) (v := .slice t4a0 (x0.1).length t4p0) rfl
  have K_x0_1 := boxCell X_x0_5.out (j := 1) (v := .int .i64 x0.2.1.1) rfl
  have K_x0_2 := boxCell X_x0_5.out (j := 2) (v := .slice t4a2 (x0.2.1.2).length t4p2) rfl
  have K_x0_3 := boxCell X_x0_5.out (j := 3) (v := .slice t4a3 (x0.2.2.1).length t4p3) rfl
  have K_x0_4 := boxCell X_x0_5.out (j := 4) (v := .slice t4a4 (x0.2.2.2.1).length t4p4) rfl
  have K_x0_5 := boxCell X_x0_5.out (j := 5) (v := .slice t4a5 (x0.2.2.2.2.1).length t4p5) rfl
  have K_x0_6 := boxCell X_x0_5.out (j := 6) (v := .slice t4a6 (x0.2.2.2.2.2.1).length t4p6) rfl
  have K_x0_7 := boxCell X_x0_5.out (j := 7) (v := .int .i64 x0.2.2.2.2.2.2) rfl
  go_wp2_with fail
  go_region_held3 (fun W => W.cell? ⟨w.heap.size, 0, none⟩ = some (a0v0) ∧ W.cell? ⟨w.heap.size, 1, none⟩ = some (.int .i64 x0.2.1.1) ∧ W.cell? ⟨w.heap.size, 2, none⟩ = some (a0v2) ∧ W.cell? ⟨w.heap.size, 3, none⟩ = some (a0v3) ∧ W.cell? ⟨w.heap.size, 4, none⟩ = some (a0v4) ∧ W.cell? ⟨w.heap.size, 5, none⟩ = some (a0v5) ∧ W.cell? ⟨w.heap.size, 6, none⟩ = some (a0v6) ∧ W.cell? ⟨w.heap.size, 7, none⟩ = some (.int .i64 x0.2.2.2.2.2.2) ∧ W.cell? ⟨w4.heap.size, 0, none⟩ = some (.slice t4a0 (x0.1).length t4p0) ∧ W.cell? ⟨w4.heap.size, 1, none⟩ = some (.int .i64 x0.2.1.1) ∧ W.cell? ⟨w4.heap.size, 2, none⟩ = some (.slice t4a2 (x0.2.1.2).length t4p2) ∧ W.cell? ⟨w4.heap.size, 3, none⟩ = some (.slice t4a3 (x0.2.2.1).length t4p3) ∧ W.cell? ⟨w4.heap.size, 4, none⟩ = some (.slice t4a4 (x0.2.2.2.1).length t4p4) ∧ W.cell? ⟨w4.heap.size, 5, none⟩ = some (.slice t4a5 (x0.2.2.2.2.1).length t4p5) ∧ W.cell? ⟨w4.heap.size, 6, none⟩ = some (.slice t4a6 (x0.2.2.2.2.2.1).length t4p6) ∧ W.cell? ⟨w4.heap.size, 7, none⟩ = some (.int .i64 x0.2.2.2.2.2.2)) (first | exact ⟨cell_later hd6 (cell_later hc6 K_aX_0), cell_later hd6 (cell_later hc6 K_aX_1), cell_later hd6 (cell_later hc6 K_aX_2), cell_later hd6 (cell_later hc6 K_aX_3), cell_later hd6 (cell_later hc6 K_aX_4), cell_later hd6 (cell_later hc6 K_aX_5), cell_later hd6 (cell_later hc6 K_aX_6), cell_later hd6 (cell_later hc6 K_aX_7), cell_later hd6 (cell_later hc6 K_x0_0), cell_later hd6 (cell_later hc6 K_x0_1), cell_later hd6 (cell_later hc6 K_x0_2), cell_later hd6 (cell_later hc6 K_x0_3), cell_later hd6 (cell_later hc6 K_x0_4), cell_later hd6 (cell_later hc6 K_x0_5), cell_later hd6 (cell_later hc6 K_x0_6), cell_later hd6 (cell_later hc6 K_x0_7)⟩ | exact ⟨cell_later hc6 K_aX_0, cell_later hc6 K_aX_1, cell_later hc6 K_aX_2, cell_later hc6 K_aX_3, cell_later hc6 K_aX_4, cell_later hc6 K_aX_5, cell_later hc6 K_aX_6, cell_later hc6 K_aX_7, cell_later hc6 K_x0_0, cell_later hc6 K_x0_1, cell_later hc6 K_x0_2, cell_later hc6 K_x0_3, cell_later hc6 K_x0_4, cell_later hc6 K_x0_5, cell_later hc6 K_x0_6, cell_later hc6 K_x0_7⟩ | go_keep)
    (first | (go_at_call 8; refine (toNode_c (r0.below (by repeat (first | (with_reducible exact H5.out) | refine Below.alloc ?_ (by have := H5.out.size; simp; try omega) _ | refine Below.drew ?_)))).mono ?_; rintro e u6 ⟨cs6, rfl, O6, hc6⟩; obtain ⟨t6v0, t6v2, t6v3, t6v4, t6v5, t6v6, rfl, t6_0, t6_1, t6_2, t6_3, t6_4, t6_5, t6_6, t6_7, t6_8⟩ := RNode_raw O6.raw; obtain ⟨t6a0, t6p0, t6h0, _⟩ := Rep.len_raw t6_0; obtain rfl : t6v0 = _ := (by simpa using t6h0); clear t6h0; obtain ⟨t6a2, t6p2, t6h2, _⟩ := Rep.len_raw t6_3; obtain rfl : t6v2 = _ := (by simpa using t6h2); clear t6h2; obtain ⟨t6a3, t6p3, t6h3, _⟩ := Rep.len_raw t6_4; obtain rfl : t6v3 = _ := (by simpa using t6h3); clear t6h3; obtain ⟨t6a4, t6p4, t6h4, _⟩ := Rep.len_raw t6_5; obtain rfl : t6v4 = _ := (by simpa using t6h4); clear t6h4; obtain ⟨t6a5, t6p5, t6h5, _⟩ := Rep.len_raw t6_6; obtain rfl : t6v5 = _ := (by simpa using t6h5); clear t6h5; obtain ⟨t6a6, t6p6, t6h6, _⟩ := Rep.len_raw t6_7; obtain rfl : t6v6 = _ := (by simpa using t6h6); clear t6h6; clear t6_0 t6_1 t6_2 t6_3 t6_4 t6_5 t6_6 t6_7 t6_8) | (go_at_call 10; refine (eqNode_c (O_x0_5.out.raw.below (Below.trans (by repeat (first | (with_reducible exact Below.refl _ _) | refine Below.alloc ?_ (by simp; try omega) _ | refine Below.drew ?_)) (hc6.mono (by simp)))) O6.raw).mono ?_; rintro e w6 ⟨rfl, hd6⟩))
  have hb6 := hc6.trans (hd6.mono hc6.size); clear hc6 hd6 O6
  have D6 : Below w5.heap.size w5 w6 := Below.trans (by repeat (first | (with_reducible exact Below.refl _ _) | refine Below.alloc ?_ (by simp; try omega) _ | refine Below.drew ?_)) (hb6.mono (by first | (simp; done) | (simp; omega)))
  have H6 := Lib.hid (H5.out.trans (D6.mono H5.out.size))
  have L6 := Lib.hid (show w5.heap.size + 0 ≤ w6.heap.size from by have h := hb6.size; (try simp at h); omega)
  have X_aX_6 := Lib.hid (keepBox X_aX_5.out D6); clear X_aX_5
  have X_x0_6 := Lib.hid (keepBox X_x0_5.out D6); clear X_x0_5
  have O_x0_6 := Lib.hid (O_x0_5.out.below D6); clear O_x0_5
  clear D6 K_aX_0 K_aX_1 K_aX_2 K_aX_3 K_aX_4 K_aX_5 K_aX_6 K_aX_7 K_x0_0 K_x0_1 K_x0_2 K_x0_3 K_x0_4 K_x0_5 K_x0_6 K_x0_7 hb6
  go_wp2
  go_ret
  exact ⟨rfl, H6.out⟩

set_option maxRecDepth 100000 in
theorem lawValidNode_lifted (os : Os) (started : os.Started) (H : Type) (enc : TypeId × Value → H) :
    ReturnsInHanded {} Tryz.checked os 3 .any (Rows.fnExactValidNodeSpec.pre6 enc Tryz.prog Tryz.f3 Rows.fnExactValidNodeRow.domain false) (Rows.fnExactValidNodeSpec.post enc Tryz.prog Tryz.f3 false true false false) := by
  refine returnsInHanded_of_change (C := Tryz.checked) law_own started (by kernel_rfl) Tryz.func3
    (ChangeSpec.witness6 (enc := enc) (C := Tryz.checked) false ⟨#[], #[.agg #[.slice none 0 0, .int .i64 0, .slice none 0 0, .slice none 0 0, .slice none 0 0, .slice none 0 0, .slice none 0 0, .int .i64 0]], []⟩ 8 (by kernel_rfl) (by kernel_rfl) (by kernel_rfl) (by kernel_rfl)) ?_
  intro W base args ds gs before hval0 hW _ _
  have hval : ∀ (j : Nat) t v, Tryz.f3.params[j]? = some t → args[j]? = some v → Value.okWide Tryz.prog W .any base t v := hval0
  have hW0 : DataW.Whole enc Tryz.prog Tryz.f3.params.toList Rows.fnExactValidNodeSpec.vars false W args.toList ds gs before := hW
  obtain ⟨p, q, hA0, hV, rfl, hfz, hnd⟩ := hW
  have hA : DataW.TrodAll enc Tryz.prog W 0 (fun _ => true) true Tryz.f3.params.toList args.toList ds p := hA0
  rw [Tryz.params3] at hA hval
  obtain ⟨v0, vs0, d0, ds0, p0, q0, hargs, rfl, rfl, g0, s0⟩ := trodAll_cons hA
  obtain ⟨rfl, rfl, rfl⟩ := trodAll_nil s0
  obtain rfl : args = #[v0] := by cases args; simp_all
  obtain ⟨rfl, rfl⟩ := trodVars_none hV
  obtain ⟨c0, rfl⟩ : ∃ c : List Value, v0 = .agg c.toArray := by
    have h := hval 0 31 v0 rfl rfl
    unfold Value.okWide at h
    rw [Tryz.underlying31] at h
    obtain ⟨cs, rfl, _⟩ := h
    exact ⟨cs.toList, by simp⟩
  obtain ⟨fu0, hf0⟩ := g0
  obtain ⟨x0, h0⟩ := bridge_Node (w := W) hf0
  have h0 : RNode.raw W c0 x0 := by simpa [Value.cells] using h0
  refine (lawValidNode_c h0).mono fun e W' ⟨he, hb⟩ => ?_
  subst he
  refine ⟨_, rfl, law_post (tb := 4) hW0 rfl rfl Tryz.underlying4 ⟨rfl, rfl, rfl⟩ ?_ hb⟩
  rw [Tryz.params3]
  intro t ht
  have hall : ([31].all fun t => Tryz.prog.readableRec t && decide (t < Tryz.prog.types.size)) = true := by kernel_rfl
  have h1 := List.all_eq_true.1 hall t ht
  simpa using h1

theorem lawValidNode_holds : Rows.FnExactValidNodeSaid :=
  OpenClaim.holds_of_wide 3 Tryz.f3 rfl rfl rfl rfl rfl rfl rfl ⟨rfl, rfl, rfl, rfl, rfl⟩ rfl rfl rfl rfl rfl (by kernel_rfl) Tryz.func3 (by kernel_rfl)
    (of_decide_eq_true (by kernel_rfl)) (by unfold Func.isWrapper; first | (rw [if_pos (by decide +kernel)]; kernel_rfl) | (rw [if_neg (by decide +kernel)]; exact ⟨rfl, rfl⟩))
    (fun os started H enc _ => lawValidNode_lifted os started H enc)
end Go.Proofs.YtcmddljfmbgpaaaGreat

/-
  The law FnExactOutgoingFaces, walked: it returns true, whatever its arguments; then its statement. Printed by genlaw.py.
-/
import Derived.Test.YtjehdoedfikcdaaGreatEq
import Derived.Test.YtjehdoedfikcdaaGreatSz
import Derived.Test.YtjehdoedfikcdaaGreatTo
import Derived.Test.YtjehdoedfikcdaaGreatBridge
import Derived.Test.YtjehdoedfikcdaaGreatMark
import Derived.Test.YtjehdoedfikcdaaGreatMarkN
import Derived.Test.YtjehdoedfikcdaaGreatHeld
import Derived.Test.YtjehdoedfikcdaaGreatOutF
import Derived.Test.YtjehdoedfikcdaaGreatSoftT
import Derived.Deep.RegionHeld3
namespace Go.Proofs.YtjehdoedfikcdaaGreat
open Go.ChangeShapes Go.WideShapes Go.ChangeAt Go.RowKit
set_option linter.unusedVariables false
set_option linter.unusedSimpArgs false
set_option linter.unnecessarySimpa false
set_option maxRecDepth 100000 in
set_option maxHeartbeats 4000000 in
theorem lawOutgoingFaces_c {w : World} {c0 : List Value} {x0 : LNode} (h0 : RNode.raw w c0 x0) {c1 : List Value} {x1 : LName} (h1 : RName.raw w c1 x1) {x2 : Int} (h2 : -9223372036854775808 ≤ x2 ∧ x2 ≤ 9223372036854775807) :
    Calls Tryz.prog 3 #[.agg c0.toArray, .agg c1.toArray, .int .i64 x2] w (LawPost w) := by
  obtain ⟨a0v0, a0v2, a0v3, a0v4, a0v5, a0v6, rfl, a0_0, a0_1, a0_2, a0_3, a0_4, a0_5, a0_6, a0_7, a0_8⟩ := RNode_raw h0
  clear a0_0 a0_1 a0_2 a0_3 a0_4 a0_5 a0_6 a0_7 a0_8
  obtain ⟨a1v0, rfl, a1_0⟩ := RName_raw h1
  clear a1_0
  have hi2 := Lib.hid h2; clear h2
  go_enter Tryz.func3, Tryz.ntmps3
  go_wp2_with fail
  refine (szNode_c (h0.below (by repeat (first | (with_reducible exact Below.refl _ _) | refine Below.alloc ?_ (by simp; try omega) _ | refine Below.drew ?_))) (by omega) (by omega)).mono ?_
  rintro e w1 ⟨s1, rfl, p1, q1, g1, hb1⟩
  have G1 := Lib.hid g1; clear g1
  have D1 : Below w.heap.size w w1 := Below.trans (by repeat (first | (with_reducible exact Below.refl _ _) | refine Below.alloc ?_ (by simp; try omega) _ | refine Below.drew ?_)) (hb1.mono (by first | (simp; done) | (simp; omega)))
  have H1 := Lib.hid D1
  have L1 := Lib.hid (show w.heap.size + 2 ≤ w1.heap.size from by have h := hb1.size; (try simp at h); omega)
  have X_aX_1 : Hid (w1.heap[w.heap.size]? = some (.cells #[a0v0, .int .i64 x0.2.1.1, a0v2, a0v3, a0v4, a0v5, a0v6, .int .i64 x0.2.2.2.2.2.2] 31 (0, 0))) := Lib.hid ((hb1.block (w.heap.size) (by first | (simp; done) | (simp; omega))).trans (heap_keep (heap_new_at (by simp))))
  have X_aN_1 : Hid (w1.heap[w.heap.size + 1]? = some (.cells #[a1v0] 34 (0, 0))) := Lib.hid ((hb1.block (w.heap.size + 1) (by first | (simp; done) | (simp; omega))).trans (heap_new_at (by simp)))
  clear D1 hb1
  by_cases m1 : s1 < 0
  · go_wp2
    go_ret
    exact ⟨rfl, H1.out⟩
  have z1 : 0 ≤ s1 := by omega
  have r0 : RNode.rd w _ x0 := ⟨h0, RNode.bdd_mono (G1.out z1) (by decide)⟩
  have K_aN_0 := boxCell X_aN_1.out (j := 0) (v := a1v0) rfl
  go_wp2_with fail
  refine (szName_c (h1.below (by repeat (first | (with_reducible exact H1.out) | refine Below.alloc ?_ (by have := H1.out.size; simp; try omega) _ | refine Below.drew ?_))) z1 (by omega)).mono ?_
  rintro e w2 ⟨s2, rfl, p2, q2, g2, hb2⟩
  have G2 := Lib.hid g2; clear g2
  have D2 : Below w1.heap.size w1 w2 := Below.trans (by repeat (first | (with_reducible exact Below.refl _ _) | refine Below.alloc ?_ (by simp; try omega) _ | refine Below.drew ?_)) (hb2.mono (by first | (simp; done) | (simp; omega)))
  have H2 := Lib.hid (H1.out.trans (D2.mono H1.out.size))
  have L2 := Lib.hid (show w1.heap.size + 0 ≤ w2.heap.size from by have h := hb2.size; (try simp at h); omega)
  have X_aX_2 := Lib.hid (keepBox X_aX_1.out D2); clear X_aX_1
  have X_aN_2 := Lib.hid (keepBox X_aN_1.out D2); clear X_aN_1
  clear D2 K_aN_0 hb2
  by_cases m2 : s2 < 0
  · go_wp2
    go_ret
    exact ⟨rfl, H2.out⟩
  have z2 : 0 ≤ s2 := by omega
  have r1 : RName.rd w _ x1 := ⟨h1, RName.bdd_mono (G2.out z2) (by decide)⟩
  have K_aX_0 := boxCell X_aX_2.out (j := 0) (v := a0v0) rfl
  have K_aX_1 := boxCell X_aX_2.out (j := 1) (v := .int .i64 x0.2.1.1) rfl
  have K_aX_2 := boxCell X_aX_2.out (j := 2) (v := a0v2) rfl
  have K_aX_3 := boxCell X_aX_2.out (j := 3) (v := a0v3) rfl
  have K_aX_4 := boxCell X_aX_2.out (j := 4) (v := a0v4) rfl
  have K_aX_5 := boxCell X_aX_2.out (j := 5) (v := a0v5) rfl
  have K_aX_6 := boxCell X_aX_2.out (j := 6) (v := a0v6) rfl
  have K_aX_7 := boxCell X_aX_2.out (j := 7) (v := .int .i64 x0.2.2.2.2.2.2) rfl
  have K_aN_0 := boxCell X_aN_2.out (j := 0) (v := a1v0) rfl
  go_wp2_with fail
  refine wp_region_softP (fun W => Below w2.heap.size w2 W) [(0, true), (2, true), (4, true), (1, false), (3, false), (5, false), (6, true)] (by kernel_rfl) (by kernel_rfl) (fun c a d v w h => by cases d <;> exact h) ((Below.refl _ _).drew) ?_
  intro wS HS
  simp only [pickOps, List.getElem?_cons_succ, List.getElem?_cons_zero, List.map_cons, List.map_nil]
  all_goals first | (refine soft_pass rfl HS ?_) | (refine soft_read (v := ?_) rfl (fun W hW => ?_) ?_; rotate_left; (· have A_K_aX_0 := cell_later hW K_aX_0; have A_K_aX_1 := cell_later hW K_aX_1; have A_K_aX_2 := cell_later hW K_aX_2; have A_K_aX_3 := cell_later hW K_aX_3; have A_K_aX_4 := cell_later hW K_aX_4; have A_K_aX_5 := cell_later hW K_aX_5; have A_K_aX_6 := cell_later hW K_aX_6; have A_K_aX_7 := cell_later hW K_aX_7; have A_K_aN_0 := cell_later hW K_aN_0; clear hW; go_simp; try with_reducible rfl))
  all_goals try simp only [Act.put, List.setIfInBounds_toArray, List.set_cons_zero, List.set_cons_succ]
  all_goals first | (refine soft_pass rfl HS ?_) | (refine soft_read (v := ?_) rfl (fun W hW => ?_) ?_; rotate_left; (· have A_K_aX_0 := cell_later hW K_aX_0; have A_K_aX_1 := cell_later hW K_aX_1; have A_K_aX_2 := cell_later hW K_aX_2; have A_K_aX_3 := cell_later hW K_aX_3; have A_K_aX_4 := cell_later hW K_aX_4; have A_K_aX_5 := cell_later hW K_aX_5; have A_K_aX_6 := cell_later hW K_aX_6; have A_K_aX_7 := cell_later hW K_aX_7; have A_K_aN_0 := cell_later hW K_aN_0; clear hW; go_simp; try with_reducible rfl))
  all_goals try simp only [Act.put, List.setIfInBounds_toArray, List.set_cons_zero, List.set_cons_succ]
  all_goals first | (refine soft_pass rfl HS ?_) | (refine soft_read (v := ?_) rfl (fun W hW => ?_) ?_; rotate_left; (· go_simp; try with_reducible rfl))
  all_goals try simp only [Act.put, List.setIfInBounds_toArray, List.set_cons_zero, List.set_cons_succ]
  all_goals first | (refine soft_pass rfl HS ?_) | (refine soft_do rfl (fun K hK => ?_); go_simp; refine (toNode_c (r0.below (H2.out.trans (HS.mono H2.out.size)))).mono ?_; rintro e u3_0 ⟨cs3_0, rfl, O3_0, hc⟩; obtain ⟨t3_0v0, t3_0v2, t3_0v3, t3_0v4, t3_0v5, t3_0v6, rfl, t3_0_0, t3_0_1, t3_0_2, t3_0_3, t3_0_4, t3_0_5, t3_0_6, t3_0_7, t3_0_8⟩ := RNode_raw O3_0.raw; obtain ⟨t3_0a0, t3_0p0, t3_0h0, _⟩ := Rep.len_raw t3_0_0; obtain rfl : t3_0v0 = _ := (by simpa using t3_0h0); clear t3_0h0; obtain ⟨t3_0a2, t3_0p2, t3_0h2, _⟩ := Rep.len_raw t3_0_3; obtain rfl : t3_0v2 = _ := (by simpa using t3_0h2); clear t3_0h2; obtain ⟨t3_0a3, t3_0p3, t3_0h3, _⟩ := Rep.len_raw t3_0_4; obtain rfl : t3_0v3 = _ := (by simpa using t3_0h3); clear t3_0h3; obtain ⟨t3_0a4, t3_0p4, t3_0h4, _⟩ := Rep.len_raw t3_0_5; obtain rfl : t3_0v4 = _ := (by simpa using t3_0h4); clear t3_0h4; obtain ⟨t3_0a5, t3_0p5, t3_0h5, _⟩ := Rep.len_raw t3_0_6; obtain rfl : t3_0v5 = _ := (by simpa using t3_0h5); clear t3_0h5; obtain ⟨t3_0a6, t3_0p6, t3_0h6, _⟩ := Rep.len_raw t3_0_7; obtain rfl : t3_0v6 = _ := (by simpa using t3_0h6); clear t3_0h6; clear t3_0_0 t3_0_1 t3_0_2 t3_0_3 t3_0_4 t3_0_5 t3_0_6 t3_0_7 t3_0_8; replace HS := HS.trans (hc.mono HS.size); refine hK _ _ HS ?_; clear hK K hc)
  all_goals try simp only [Act.put, List.setIfInBounds_toArray, List.set_cons_zero, List.set_cons_succ]
  all_goals first | (refine soft_pass rfl HS ?_) | (refine soft_do rfl (fun K hK => ?_); go_simp; refine (toName_c (r1.below (H2.out.trans (HS.mono H2.out.size)))).mono ?_; rintro e u3_1 ⟨cs3_1, rfl, O3_1, hc⟩; obtain ⟨t3_1v0, rfl, t3_1_0⟩ := RName_raw O3_1.raw; obtain ⟨t3_1a0, t3_1p0, t3_1h0, _⟩ := Rep.len_raw t3_1_0; obtain rfl : t3_1v0 = _ := (by simpa using t3_1h0); clear t3_1h0; clear t3_1_0; replace O3_0 := O3_0.below hc; replace HS := HS.trans (hc.mono HS.size); refine hK _ _ HS ?_; clear hK K hc)
  all_goals try simp only [Act.put, List.setIfInBounds_toArray, List.set_cons_zero, List.set_cons_succ]
  all_goals first | (refine soft_pass rfl HS ?_) | (refine soft_do rfl (fun K hK => ?_); go_simp; refine (specOutgoingFaces_c O3_0.rd O3_1.rd hi2.out).mono ?_; rintro e w3 ⟨tv3, rfl, O3, hc⟩; obtain ⟨t3a, t3p, t3h, _⟩ := Rep.len_raw O3.raw; obtain rfl : tv3 = _ := (by simpa using t3h); clear t3h; have sz := HS.size; have Z3 := Lib.hid (O3.wide (T := Btw (w2.heap.size) (w3.heap.size)) (fun i hi => ⟨Nat.le_trans sz hi.1, hi.2⟩)); clear O3 sz; replace HS := HS.trans (hc.mono HS.size); refine hK _ _ HS ?_; clear hK K hc O3_0 O3_1)
  all_goals try simp only [Act.put, List.setIfInBounds_toArray, List.set_cons_zero, List.set_cons_succ]
  all_goals first | (refine soft_pass rfl HS ?_) | (refine soft_read (v := ?_) rfl (fun W hW => ?_) ?_; rotate_left; (· go_simp; try with_reducible rfl))
  all_goals try simp only [Act.put, List.setIfInBounds_toArray, List.set_cons_zero, List.set_cons_succ]
  all_goals refine soft_nil ?_
  have D3 : Below w2.heap.size w2 w3 := Below.trans (by repeat (first | (with_reducible exact Below.refl _ _) | refine Below.alloc ?_ (by simp; try omega) _ | refine Below.drew ?_)) (HS.mono (by first | (simp; done) | (simp; omega)))
  have H3 := Lib.hid (H2.out.trans (D3.mono H2.out.size))
  have L3 := Lib.hid (show w2.heap.size + 0 ≤ w3.heap.size from by have h := HS.size; (try simp at h); omega)
  have X_aX_3 := Lib.hid (keepBox X_aX_2.out D3); clear X_aX_2
  have X_aN_3 := Lib.hid (keepBox X_aN_2.out D3); clear X_aN_2
  clear D3 K_aX_0 K_aX_1 K_aX_2 K_aX_3 K_aX_4 K_aX_5 K_aX_6 K_aX_7 K_aN_0 HS
  have K_aX_0 := boxCell X_aX_3.out (j := 0) (v := a0v0) rfl
  have K_aX_1 := boxCell X_aX_3.out (j := 1) (v := .int .i64 x0.2.1.1) rfl
  have K_aX_2 := boxCell X_aX_3.out (j := 2) (v := a0v2) rfl
  have K_aX_3 := boxCell X_aX_3.out (j := 3) (v := a0v3) rfl
  have K_aX_4 := boxCell X_aX_3.out (j := 4) (v := a0v4) rfl
  have K_aX_5 := boxCell X_aX_3.out (j := 5) (v := a0v5) rfl
  have K_aX_6 := boxCell X_aX_3.out (j := 6) (v := a0v6) rfl
  have K_aX_7 := boxCell X_aX_3.out (j := 7) (v := .int .i64 x0.2.2.2.2.2.2) rfl
  go_wp2_with fail
  refine (toNode_c (r0.below (by repeat (first | (with_reducible exact H3.out) | refine Below.alloc ?_ (by have := H3.out.size; simp; try omega) _ | refine Below.drew ?_)))).mono ?_
  rintro e w4 ⟨cs4, rfl, O4, hb4⟩
  obtain ⟨t4v0, t4v2, t4v3, t4v4, t4v5, t4v6, rfl, t4_0, t4_1, t4_2, t4_3, t4_4, t4_5, t4_6, t4_7, t4_8⟩ := RNode_raw O4.raw
  obtain ⟨t4a0, t4p0, t4h0, _⟩ := Rep.len_raw t4_0; obtain rfl : t4v0 = _ := (by simpa using t4h0)
  clear t4h0
  obtain ⟨t4a2, t4p2, t4h2, _⟩ := Rep.len_raw t4_3; obtain rfl : t4v2 = _ := (by simpa using t4h2)
  clear t4h2
  obtain ⟨t4a3, t4p3, t4h3, _⟩ := Rep.len_raw t4_4; obtain rfl : t4v3 = _ := (by simpa using t4h3)
  clear t4h3
  obtain ⟨t4a4, t4p4, t4h4, _⟩ := Rep.len_raw t4_5; obtain rfl : t4v4 = _ := (by simpa using t4h4)
  clear t4h4
  obtain ⟨t4a5, t4p5, t4h5, _⟩ := Rep.len_raw t4_6; obtain rfl : t4v5 = _ := (by simpa using t4h5)
  clear t4h5
  obtain ⟨t4a6, t4p6, t4h6, _⟩ := Rep.len_raw t4_7; obtain rfl : t4v6 = _ := (by simpa using t4h6)
  clear t4h6
  clear t4_0 t4_1 t4_2 t4_3 t4_4 t4_5 t4_6 t4_7 t4_8
  have Z4 := Lib.hid (O4.wide (T := Btw (w3.heap.size) (w4.heap.size)) (fun i hi => ⟨by have h := hi.1; (try simp at h); omega, hi.2⟩)); clear O4
  have D4 : Below w3.heap.size w3 w4 := Below.trans (by repeat (first | (with_reducible exact Below.refl _ _) | refine Below.alloc ?_ (by simp; try omega) _ | refine Below.drew ?_)) (hb4.mono (by first | (simp; done) | (simp; omega)))
  have H4 := Lib.hid (H3.out.trans (D4.mono H3.out.size))
  have L4 := Lib.hid (show w3.heap.size + 0 ≤ w4.heap.size from by have h := hb4.size; (try simp at h); omega)
  have X_aX_4 := Lib.hid (keepBox X_aX_3.out D4); clear X_aX_3
  have X_aN_4 := Lib.hid (keepBox X_aN_3.out D4); clear X_aN_3
  have O_w0_4 := Lib.hid (Z3.out.below D4); clear Z3
  clear D4 K_aX_0 K_aX_1 K_aX_2 K_aX_3 K_aX_4 K_aX_5 K_aX_6 K_aX_7 hb4
  have K_aN_0 := boxCell X_aN_4.out (j := 0) (v := a1v0) rfl
  have J_aN : w.heap.size + 1 < w4.heap.size := by have l1 := L1.out; have l2 := L2.out; have l3 := L3.out; have l4 := L4.out; omega
  go_wp2_with fail
  refine (toName_c (r1.below (by repeat (first | (with_reducible exact H4.out) | refine Below.alloc ?_ (by have := H4.out.size; simp; try omega) _ | refine Below.drew ?_)))).mono ?_
  rintro e w5 ⟨cs5, rfl, O5, hb5⟩
  obtain ⟨t5v0, rfl, t5_0⟩ := RName_raw O5.raw
  obtain ⟨t5a0, t5p0, t5h0, _⟩ := Rep.len_raw t5_0; obtain rfl : t5v0 = _ := (by simpa using t5h0)
  clear t5h0
  clear t5_0
  have Z5 := Lib.hid (O5.wide (T := Btw (w4.heap.size + 1) (w5.heap.size)) (fun i hi => ⟨by have h := hi.1; (try simp at h); omega, hi.2⟩)); clear O5
  have D5 : Below w4.heap.size w4 w5 := Below.trans (by repeat (first | (with_reducible exact Below.refl _ _) | refine Below.alloc ?_ (by simp; try omega) _ | refine Below.drew ?_)) (hb5.mono (by first | (simp; done) | (simp; omega)))
  have H5 := Lib.hid (H4.out.trans (D5.mono H4.out.size))
  have L5 := Lib.hid (show w4.heap.size + 1 ≤ w5.heap.size from by have h := hb5.size; (try simp at h); omega)
  have X_aX_5 := Lib.hid (keepBox X_aX_4.out D5); clear X_aX_4
  have X_aN_5 := Lib.hid (keepBox X_aN_4.out D5); clear X_aN_4
  have X_x0_5 : Hid (w5.heap[w4.heap.size]? = some (.cells #[.slice t4a0 (x0.1).length t4p0, .int .i64 x0.2.1.1, .slice t4a2 (x0.2.1.2).length t4p2, .slice t4a3 (x0.2.2.1).length t4p3, .slice t4a4 (x0.2.2.2.1).length t4p4, .slice t4a5 (x0.2.2.2.2.1).length t4p5, .slice t4a6 (x0.2.2.2.2.2.1).length t4p6, .int .i64 x0.2.2.2.2.2.2] 48 (0, 0))) := Lib.hid ((hb5.block (w4.heap.size) (by first | (simp; done) | (simp; omega))).trans (heap_new_at (by simp)))
  have O_w0_5 := Lib.hid (O_w0_4.out.below D5); clear O_w0_4
  have O_x0_5 := Lib.hid (Z4.out.below D5); clear Z4
  clear D5 K_aN_0 J_aN hb5
  have K_x0_0 := boxCell X_x0_5.out (j := 0) (v := .slice t4a0 (x0.1).length t4p0) rfl
  have K_x0_1 := boxCell X_x0_5.out (j := 1) (v := .int .i64 x0.2.1.1) rfl
  have K_x0_2 := boxCell X_x0_5.out (j := 2) (v := .slice t4a2 (x0.2.1.2).length t4p2) rfl
  have K_x0_3 := boxCell X_x0_5.out (j := 3) (v := .slice t4a3 (x0.2.2.1).length t4p3) rfl
  have K_x0_4 := boxCell X_x0_5.out (j := 4) (v := .slice t4a4 (x0.2.2.2.1).length t4p4) rfl
  have K_x0_5 := boxCell X_x0_5.out (j := 5) (v := .slice t4a5 (x0.2.2.2.2.1).length t4p5) rfl
  have K_x0_6 := boxCell X_x0_5.out (j := 6) (v := .slice t4a6 (x0.2.2.2.2.2.1).length t4p6) rfl
  have K_x0_7 := boxCell X_x0_5.out (j := 7) (v := .int .i64 x0.2.2.2.2.2.2) rfl
  have J_x0 : w4.heap.size < w5.heap.size := by have l5 := L5.out; omega
  go_wp2_with fail
  refine (implOutgoingFaces_c (O_x0_5.out.rd.below (by repeat (first | (with_reducible exact Below.refl _ _) | refine Below.alloc ?_ (by simp; try omega) _ | refine Below.drew ?_))) (Z5.out.rd.below (by repeat (first | (with_reducible exact Below.refl _ _) | refine Below.alloc ?_ (by simp; try omega) _ | refine Below.drew ?_))) hi2.out).mono ?_
  rintro e w6 ⟨tv6, rfl, O6, hb6⟩
  obtain ⟨t6a, t6p, t6h, _⟩ := Rep.len_raw O6.raw; obtain rfl : tv6 = _ := (by simpa using t6h)
  clear t6h
  have Z6 := Lib.hid (O6.wide (T := Btw (w5.heap.size + 1) (w6.heap.size)) (fun i hi => ⟨by have h := hi.1; (try simp at h); omega, hi.2⟩)); clear O6
  have D6 : Below w5.heap.size w5 w6 := Below.trans (by repeat (first | (with_reducible exact Below.refl _ _) | refine Below.alloc ?_ (by simp; try omega) _ | refine Below.drew ?_)) (hb6.mono (by first | (simp; done) | (simp; omega)))
  have H6 := Lib.hid (H5.out.trans (D6.mono H5.out.size))
  have L6 := Lib.hid (show w5.heap.size + 1 ≤ w6.heap.size from by have h := hb6.size; (try simp at h); omega)
  have X_aX_6 := Lib.hid (keepBox X_aX_5.out D6); clear X_aX_5
  have X_aN_6 := Lib.hid (keepBox X_aN_5.out D6); clear X_aN_5
  have X_x0_6 := Lib.hid (keepBox X_x0_5.out D6); clear X_x0_5
  have X_x1_6 : Hid (w6.heap[w5.heap.size]? = some (.cells #[.slice t5a0 (x1).length t5p0] 50 (0, 0))) := Lib.hid ((hb6.block (w5.heap.size) (by first | (simp; done) | (simp; omega))).trans (heap_new_at (by simp)))
  have O_w0_6 := Lib.hid (O_w0_5.out.below D6); clear O_w0_5
  have O_x0_6 := Lib.hid (O_x0_5.out.below D6); clear O_x0_5
  have O_x1_6 := Lib.hid (Z5.out.below D6); clear Z5
  clear D6 K_x0_0 K_x0_1 K_x0_2 K_x0_3 K_x0_4 K_x0_5 K_x0_6 K_x0_7 J_x0 hb6
  go_wp2_with fail
  refine (eqIntS_c (Z6.out.raw.below (by repeat (first | (with_reducible exact Below.refl _ _) | refine Below.alloc ?_ (by simp; try omega) _ | refine Below.drew ?_))) (O_w0_6.out.raw.below (by repeat (first | (with_reducible exact Below.refl _ _) | refine Below.alloc ?_ (by simp; try omega) _ | refine Below.drew ?_)))).mono ?_
  rintro e w7 ⟨rfl, hb7⟩
  have D7 : Below w6.heap.size w6 w7 := Below.trans (by repeat (first | (with_reducible exact Below.refl _ _) | refine Below.alloc ?_ (by simp; try omega) _ | refine Below.drew ?_)) (hb7.mono (by first | (simp; done) | (simp; omega)))
  have H7 := Lib.hid (H6.out.trans (D7.mono H6.out.size))
  have L7 := Lib.hid (show w6.heap.size + 0 ≤ w7.heap.size from by have h := hb7.size; (try simp at h); omega)
  have X_aX_7 := Lib.hid (keepBox X_aX_6.out D7); clear X_aX_6
  have X_aN_7 := Lib.hid (keepBox X_aN_6.out D7); clear X_aN_6
  have X_x0_7 := Lib.hid (keepBox X_x0_6.out D7); clear X_x0_6
  have X_x1_7 := Lib.hid (keepBox X_x1_6.out D7); clear X_x1_6
  have O_w0_7 := Lib.hid (O_w0_6.out.below D7); clear O_w0_6
  have O_x0_7 := Lib.hid (O_x0_6.out.below D7); clear O_x0_6
  have O_x1_7 := Lib.hid (O_x1_6.out.below D7); clear O_x1_6
  have O_g0_7 := Lib.hid (Z6.out.below D7); clear Z6
  clear D7 hb7
  have K_aX_0 := boxCell X_aX_7.out (j := 0) (v := a0v0) rfl
  have K_aX_1 := boxCell X_aX_7.out (j := 1) (v := .int .i64 x0.2.1.1) rfl
  have K_aX_2 := boxCell X_aX_7.out (j := 2) (v := a0v2) rfl
  have K_aX_3 := boxCell X_aX_7.out (j := 3) (v := a0v3) rfl
  have K_aX_4 := boxCell X_aX_7.out (j := 4) (v := a0v4) rfl
  have K_aX_5 := boxCell X_aX_7.out (j := 5) (v := a0v5) rfl
  have K_aX_6 := boxCell X_aX_7.out (j := 6) (v := a0v6) rfl
  have K_aX_7 := boxCell X_aX_7.out (j := 7) (v := .int .i64 x0.2.2.2.2.2.2) rfl
  have K_x0_0 := boxCell X_x0_7.out (j := 0) (v := .slice t4a0 (x0.1).length t4p0) rfl
  have K_x0_1 := boxCell X_x0_7.out (j := 1) (v := .int .i64 x0.2.1.1) rfl
  have K_x0_2 := boxCell X_x0_7.out (j := 2) (v := .slice t4a2 (x0.2.1.2).length t4p2) rfl
  have K_x0_3 := boxCell X_x0_7.out (j := 3) (v := .slice t4a3 (x0.2.2.1).length t4p3) rfl
  have K_x0_4 := boxCell X_x0_7.out (j := 4) (v := .slice t4a4 (x0.2.2.2.1).length t4p4) rfl
  have K_x0_5 := boxCell X_x0_7.out (j := 5) (v := .slice t4a5 (x0.2.2.2.2.1).length t4p5) rfl
  have K_x0_6 := boxCell X_x0_7.out (j := 6) (v := .slice t4a6 (x0.2.2.2.2.2.1).length t4p6) rfl
  have K_x0_7 := boxCell X_x0_7.out (j := 7) (v := .int .i64 x0.2.2.2.2.2.2) rfl
  go_wp2_with fail
  go_region_held3 (fun W => W.cell? ⟨w.heap.size, 0, none⟩ = some (a0v0) ∧ W.cell? ⟨w.heap.size, 1, none⟩ = some (.int .i64 x0.2.1.1) ∧ W.cell? ⟨w.heap.size, 2, none⟩ = some (a0v2) ∧ W.cell? ⟨w.heap.size, 3, none⟩ = some (a0v3) ∧ W.cell? ⟨w.heap.size, 4, none⟩ = some (a0v4) ∧ W.cell? ⟨w.heap.size, 5, none⟩ = some (a0v5) ∧ W.cell? ⟨w.heap.size, 6, none⟩ = some (a0v6) ∧ W.cell? ⟨w.heap.size, 7, none⟩ = some (.int .i64 x0.2.2.2.2.2.2) ∧ W.cell? ⟨w4.heap.size, 0, none⟩ = some (.slice t4a0 (x0.1).length t4p0) ∧ W.cell? ⟨w4.heap.size, 1, none⟩ = some (.int .i64 x0.2.1.1) ∧ W.cell? ⟨w4.heap.size, 2, none⟩ = some (.slice t4a2 (x0.2.1.2).length t4p2) ∧ W.cell? ⟨w4.heap.size, 3, none⟩ = some (.slice t4a3 (x0.2.2.1).length t4p3) ∧ W.cell? ⟨w4.heap.size, 4, none⟩ = some (.slice t4a4 (x0.2.2.2.1).length t4p4) ∧ W.cell? ⟨w4.heap.size, 5, none⟩ = some (.slice t4a5 (x0.2.2.2.2.1).length t4p5) ∧ W.cell? ⟨w4.heap.size, 6, none⟩ = some (.slice t4a6 (x0.2.2.2.2.2.1).length t4p6) ∧ W.cell? ⟨w4.heap.size, 7, none⟩ = some (.int .i64 x0.2.2.2.2.2.2)) (first | exact ⟨cell_later hd8 (cell_later hc8 K_aX_0), cell_later hd8 (cell_later hc8 K_aX_1), cell_later hd8 (cell_later hc8 K_aX_2), cell_later hd8 (cell_later hc8 K_aX_3), cell_later hd8 (cell_later hc8 K_aX_4), cell_later hd8 (cell_later hc8 K_aX_5), cell_later hd8 (cell_later hc8 K_aX_6), cell_later hd8 (cell_later hc8 K_aX_7), cell_later hd8 (cell_later hc8 K_x0_0), cell_later hd8 (cell_later hc8 K_x0_1), cell_later hd8 (cell_later hc8 K_x0_2), cell_later hd8 (cell_later hc8 K_x0_3), cell_later hd8 (cell_later hc8 K_x0_4), cell_later hd8 (cell_later hc8 K_x0_5), cell_later hd8 (cell_later hc8 K_x0_6), cell_later hd8 (cell_later hc8 K_x0_7)⟩ | exact ⟨cell_later hc8 K_aX_0, cell_later hc8 K_aX_1, cell_later hc8 K_aX_2, cell_later hc8 K_aX_3, cell_later hc8 K_aX_4, cell_later hc8 K_aX_5, cell_later hc8 K_aX_6, cell_later hc8 K_aX_7, cell_later hc8 K_x0_0, cell_later hc8 K_x0_1, cell_later hc8 K_x0_2, cell_later hc8 K_x0_3, cell_later hc8 K_x0_4, cell_later hc8 K_x0_5, cell_later hc8 K_x0_6, cell_later hc8 K_x0_7⟩ | go_keep)
    (first | (go_at_call 7; refine (toNode_c (r0.below (by repeat (first | (with_reducible exact H7.out) | refine Below.alloc ?_ (by have := H7.out.size; simp; try omega) _ | refine Below.drew ?_)))).mono ?_; rintro e u8 ⟨cs8, rfl, O8, hc8⟩; obtain ⟨t8v0, t8v2, t8v3, t8v4, t8v5, t8v6, rfl, t8_0, t8_1, t8_2, t8_3, t8_4, t8_5, t8_6, t8_7, t8_8⟩ := RNode_raw O8.raw; obtain ⟨t8a0, t8p0, t8h0, _⟩ := Rep.len_raw t8_0; obtain rfl : t8v0 = _ := (by simpa using t8h0); clear t8h0; obtain ⟨t8a2, t8p2, t8h2, _⟩ := Rep.len_raw t8_3; obtain rfl : t8v2 = _ := (by simpa using t8h2); clear t8h2; obtain ⟨t8a3, t8p3, t8h3, _⟩ := Rep.len_raw t8_4; obtain rfl : t8v3 = _ := (by simpa using t8h3); clear t8h3; obtain ⟨t8a4, t8p4, t8h4, _⟩ := Rep.len_raw t8_5; obtain rfl : t8v4 = _ := (by simpa using t8h4); clear t8h4; obtain ⟨t8a5, t8p5, t8h5, _⟩ := Rep.len_raw t8_6; obtain rfl : t8v5 = _ := (by simpa using t8h5); clear t8h5; obtain ⟨t8a6, t8p6, t8h6, _⟩ := Rep.len_raw t8_7; obtain rfl : t8v6 = _ := (by simpa using t8h6); clear t8h6; clear t8_0 t8_1 t8_2 t8_3 t8_4 t8_5 t8_6 t8_7 t8_8) | (go_at_call 11; refine (eqNode_c (O_x0_7.out.raw.below (Below.trans (by repeat (first | (with_reducible exact Below.refl _ _) | refine Below.alloc ?_ (by simp; try omega) _ | refine Below.drew ?_)) (hc8.mono (by simp)))) O8.raw).mono ?_; rintro e w8 ⟨rfl, hd8⟩))
  have hb8 := hc8.trans (hd8.mono hc8.size); clear hc8 hd8 O8
  have D8 : Below w7.heap.size w7 w8 := Below.trans (by repeat (first | (with_reducible exact Below.refl _ _) | refine Below.alloc ?_ (by simp; try omega) _ | refine Below.drew ?_)) (hb8.mono (by first | (simp; done) | (simp; omega)))
  have H8 := Lib.hid (H7.out.trans (D8.mono H7.out.size))
  have L8 := Lib.hid (show w7.heap.size + 0 ≤ w8.heap.size from by have h := hb8.size; (try simp at h); omega)
  have X_aX_8 := Lib.hid (keepBox X_aX_7.out D8); clear X_aX_7
  have X_aN_8 := Lib.hid (keepBox X_aN_7.out D8); clear X_aN_7
  have X_x0_8 := Lib.hid (keepBox X_x0_7.out D8); clear X_x0_7
  have X_x1_8 := Lib.hid (keepBox X_x1_7.out D8); clear X_x1_7
  have O_w0_8 := Lib.hid (O_w0_7.out.below D8); clear O_w0_7
  have O_x0_8 := Lib.hid (O_x0_7.out.below D8); clear O_x0_7
  have O_x1_8 := Lib.hid (O_x1_7.out.below D8); clear O_x1_7
  have O_g0_8 := Lib.hid (O_g0_7.out.below D8); clear O_g0_7
  clear D8 K_aX_0 K_aX_1 K_aX_2 K_aX_3 K_aX_4 K_aX_5 K_aX_6 K_aX_7 K_x0_0 K_x0_1 K_x0_2 K_x0_3 K_x0_4 K_x0_5 K_x0_6 K_x0_7 hb8
  have K_aN_0 := boxCell X_aN_8.out (j := 0) (v := a1v0) rfl
  have K_x1_0 := boxCell X_x1_8.out (j := 0) (v := .slice t5a0 (x1).length t5p0) rfl
  go_wp2_with fail
  go_region_held3 (fun W => W.cell? ⟨w.heap.size + 1, 0, none⟩ = some (a1v0) ∧ W.cell? ⟨w5.heap.size, 0, none⟩ = some (.slice t5a0 (x1).length t5p0)) (first | exact ⟨cell_later hd9 (cell_later hc9 K_aN_0), cell_later hd9 (cell_later hc9 K_x1_0)⟩ | exact ⟨cell_later hc9 K_aN_0, cell_later hc9 K_x1_0⟩ | go_keep)
    (first | (go_at_call 8; refine (toName_c (r1.below (by repeat (first | (with_reducible exact H8.out) | refine Below.alloc ?_ (by have := H8.out.size; simp; try omega) _ | refine Below.drew ?_)))).mono ?_; rintro e u9 ⟨cs9, rfl, O9, hc9⟩; obtain ⟨t9v0, rfl, t9_0⟩ := RName_raw O9.raw; obtain ⟨t9a0, t9p0, t9h0, _⟩ := Rep.len_raw t9_0; obtain rfl : t9v0 = _ := (by simpa using t9h0); clear t9h0; clear t9_0) | (go_at_call 12; refine (eqName_c (O_x1_8.out.raw.below (Below.trans (by repeat (first | (with_reducible exact Below.refl _ _) | refine Below.alloc ?_ (by simp; try omega) _ | refine Below.drew ?_)) (hc9.mono (by simp)))) O9.raw).mono ?_; rintro e w9 ⟨rfl, hd9⟩))
  have hb9 := hc9.trans (hd9.mono hc9.size); clear hc9 hd9 O9
  have D9 : Below w8.heap.size w8 w9 := Below.trans (by repeat (first | (with_reducible exact Below.refl _ _) | refine Below.alloc ?_ (by simp; try omega) _ | refine Below.drew ?_)) (hb9.mono (by first | (simp; done) | (simp; omega)))
  have H9 := Lib.hid (H8.out.trans (D9.mono H8.out.size))
  have L9 := Lib.hid (show w8.heap.size + 0 ≤ w9.heap.size from by have h := hb9.size; (try simp at h); omega)
  have X_aX_9 := Lib.hid (keepBox X_aX_8.out D9); clear X_aX_8
  have X_aN_9 := Lib.hid (keepBox X_aN_8.out D9); clear X_aN_8
  have X_x0_9 := Lib.hid (keepBox X_x0_8.out D9); clear X_x0_8
  have X_x1_9 := Lib.hid (keepBox X_x1_8.out D9); clear X_x1_8
  have O_w0_9 := Lib.hid (O_w0_8.out.below D9); clear O_w0_8
  have O_x0_9 := Lib.hid (O_x0_8.out.below D9); clear O_x0_8
  have O_x1_9 := Lib.hid (O_x1_8.out.below D9); clear O_x1_8
  have O_g0_9 := Lib.hid (O_g0_8.out.below D9); clear O_g0_8
  clear D9 K_aN_0 K_x1_0 hb9
  have K_x0_0 := boxCell X_x0_9.out (j := 0) (v := .slice t4a0 (x0.1).length t4p0) rfl
  have K_x0_1 := boxCell X_x0_9.out (j := 1) (v := .int .i64 x0.2.1.1) rfl
  have K_x0_2 := boxCell X_x0_9.out (j := 2) (v := .slice t4a2 (x0.2.1.2).length t4p2) rfl
  have K_x0_3 := boxCell X_x0_9.out (j := 3) (v := .slice t4a3 (x0.2.2.1).length t4p3) rfl
  have K_x0_4 := boxCell X_x0_9.out (j := 4) (v := .slice t4a4 (x0.2.2.2.1).length t4p4) rfl
  have K_x0_5 := boxCell X_x0_9.out (j := 5) (v := .slice t4a5 (x0.2.2.2.2.1).length t4p5) rfl
  have K_x0_6 := boxCell X_x0_9.out (j := 6) (v := .slice t4a6 (x0.2.2.2.2.2.1).length t4p6) rfl
  have K_x0_7 := boxCell X_x0_9.out (j := 7) (v := .int .i64 x0.2.2.2.2.2.2) rfl
  go_wp2_with fail
  refine (markNode_c (k := 1) (O_x0_9.out.below (by repeat (first | (with_reducible exact Below.refl _ _) | refine Below.alloc ?_ (by simp; try omega) _ | refine Below.drew ?_))) (by  omega) (by have e : (RNode.cnt : Int) = 3659174881787906 := (by decide); unfold Top; omega)).mono ?_
  rintro e w10 ⟨rfl, P10, Y10⟩
  have B10 : Hid (1 ≤ (RNode.mark false (x0) (1)).2 ∧ (RNode.mark false (x0) (1)).2 ≤ 1 + 3659174881787906) := Lib.hid ⟨by have := RNode.mark_ge (e := false) (x := x0) (k := 1); omega, by have := RNode.mark_le (e := false) (k := 1) O_x0_9.out.2; have e : (RNode.cnt : Int) = 3659174881787906 := (by decide); omega⟩
  have D10 : Touch (Btw (w3.heap.size) (w4.heap.size)) w9 w10 := (Touch.of_below (by repeat (first | (with_reducible exact Below.refl _ _) | refine Below.alloc ?_ (by simp; try omega) _ | refine Below.drew ?_))).trans Y10
  have H10 := Lib.hid (H9.out.trans (D10.below (by have := H9.out.size; omega) (fun i hi => by have a := hi.1; have b : w.heap.size ≤ w3.heap.size := H3.out.size; omega)))
  have L10 := Lib.hid (show w9.heap.size ≤ w10.heap.size from D10.size)
  have X_aX_10 := Lib.hid (D10.keepBox X_aX_9.out (fun q => by have q1 := q.1; have q2 := q.2; have l1 := L1.out; have l2 := L2.out; have l3 := L3.out; have l4 := L4.out; omega)); clear X_aX_9
  have X_aN_10 := Lib.hid (D10.keepBox X_aN_9.out (fun q => by have q1 := q.1; have q2 := q.2; have l1 := L1.out; have l2 := L2.out; have l3 := L3.out; have l4 := L4.out; omega)); clear X_aN_9
  have X_x0_10 := Lib.hid (D10.keepBox X_x0_9.out (fun q => by have q1 := q.1; have q2 := q.2; have l4 := L4.out; omega)); clear X_x0_9
  have X_x1_10 := Lib.hid (D10.keepBox X_x1_9.out (fun q => by have q1 := q.1; have q2 := q.2; have l4 := L4.out; have l5 := L5.out; omega)); clear X_x1_9
  have O_w0_10 := Lib.hid (O_w0_9.out.touch D10 (fun i p q => by have p1 := p.1; have p2 := p.2; have q1 := q.1; have q2 := q.2; have l3 := L3.out; have l4 := L4.out; omega)); clear O_w0_9
  have O_x1_10 := Lib.hid (O_x1_9.out.touch D10 (fun i p q => by have p1 := p.1; have p2 := p.2; have q1 := q.1; have q2 := q.2; have l4 := L4.out; have l5 := L5.out; omega)); clear O_x1_9
  have O_g0_10 := Lib.hid (O_g0_9.out.touch D10 (fun i p q => by have p1 := p.1; have p2 := p.2; have q1 := q.1; have q2 := q.2; have l4 := L4.out; have l5 := L5.out; have l6 := L6.out; omega)); clear O_g0_9
  clear D10 K_x0_0 K_x0_1 K_x0_2 K_x0_3 K_x0_4 K_x0_5 K_x0_6 K_x0_7 Y10
  have Z10 := Lib.hid P10; clear P10 O_x0_9
  have U10 : 0 ≤ (RNode.mark false (x0) (1)).2 := by have := B10.out.1; omega
  have K_x1_0 := boxCell X_x1_10.out (j := 0) (v := .slice t5a0 (x1).length t5p0) rfl
  go_wp2_with fail
  refine (markName_c (k := (RNode.mark false (x0) (1)).2) (O_x1_10.out.below (by repeat (first | (with_reducible exact Below.refl _ _) | refine Below.alloc ?_ (by simp; try omega) _ | refine Below.drew ?_))) (by have := B10.out.1;  omega) (by have := B10.out.2; have e : (RName.cnt : Int) = 16777216 := (by decide); unfold Top; omega)).mono ?_
  rintro e w11 ⟨rfl, P11, Y11⟩
  have B11 : Hid (1 ≤ (RName.mark false (x1) ((RNode.mark false (x0) (1)).2)).2 ∧ (RName.mark false (x1) ((RNode.mark false (x0) (1)).2)).2 ≤ (RNode.mark false (x0) (1)).2 + 16777216) := Lib.hid ⟨by have := RName.mark_ge (e := false) (x := x1) (k := (RNode.mark false (x0) (1)).2); have := B10.out.1; omega, by have := RName.mark_le (e := false) (k := (RNode.mark false (x0) (1)).2) O_x1_10.out.2; have e : (RName.cnt : Int) = 16777216 := (by decide); omega⟩
  have D11 : Touch (Btw (w4.heap.size + 1) (w5.heap.size)) w10 w11 := (Touch.of_below (by repeat (first | (with_reducible exact Below.refl _ _) | refine Below.alloc ?_ (by simp; try omega) _ | refine Below.drew ?_))).trans Y11
  have H11 := Lib.hid (H10.out.trans (D11.below (by have := H10.out.size; omega) (fun i hi => by have a := hi.1; have b : w.heap.size ≤ w4.heap.size := H4.out.size; omega)))
  have L11 := Lib.hid (show w10.heap.size ≤ w11.heap.size from D11.size)
  have X_aX_11 := Lib.hid (D11.keepBox X_aX_10.out (fun q => by have q1 := q.1; have q2 := q.2; have l1 := L1.out; have l2 := L2.out; have l3 := L3.out; have l4 := L4.out; have l5 := L5.out; omega)); clear X_aX_10
  have X_aN_11 := Lib.hid (D11.keepBox X_aN_10.out (fun q => by have q1 := q.1; have q2 := q.2; have l1 := L1.out; have l2 := L2.out; have l3 := L3.out; have l4 := L4.out; have l5 := L5.out; omega)); clear X_aN_10
  have X_x0_11 := Lib.hid (D11.keepBox X_x0_10.out (fun q => by have q1 := q.1; have q2 := q.2; have l5 := L5.out; omega)); clear X_x0_10
  have X_x1_11 := Lib.hid (D11.keepBox X_x1_10.out (fun q => by have q1 := q.1; have q2 := q.2; have l5 := L5.out; omega)); clear X_x1_10
  have O_w0_11 := Lib.hid (O_w0_10.out.touch D11 (fun i p q => by have p1 := p.1; have p2 := p.2; have q1 := q.1; have q2 := q.2; have l3 := L3.out; have l4 := L4.out; have l5 := L5.out; omega)); clear O_w0_10
  have O_x0_11 := Lib.hid (Z10.out.touch D11 (fun i p q => by have p1 := p.1; have p2 := p.2; have q1 := q.1; have q2 := q.2; have l4 := L4.out; have l5 := L5.out; omega)); clear Z10
  have O_g0_11 := Lib.hid (O_g0_10.out.touch D11 (fun i p q => by have p1 := p.1; have p2 := p.2; have q1 := q.1; have q2 := q.2; have l5 := L5.out; have l6 := L6.out; omega)); clear O_g0_10
  clear D11 K_x1_0 Y11
  have Z11 := Lib.hid P11; clear P11 O_x1_10
  have U11 : 0 ≤ (RName.mark false (x1) ((RNode.mark false (x0) (1)).2)).2 := by have := B11.out.1; omega
  go_wp2_with fail
  refine (eqIntS_c (O_g0_11.out.raw.below (by repeat (first | (with_reducible exact Below.refl _ _) | refine Below.alloc ?_ (by simp; try omega) _ | refine Below.drew ?_))) (O_w0_11.out.raw.below (by repeat (first | (with_reducible exact Below.refl _ _) | refine Below.alloc ?_ (by simp; try omega) _ | refine Below.drew ?_)))).mono ?_
  rintro e w12 ⟨rfl, hb12⟩
  have D12 : Below w11.heap.size w11 w12 := Below.trans (by repeat (first | (with_reducible exact Below.refl _ _) | refine Below.alloc ?_ (by simp; try omega) _ | refine Below.drew ?_)) (hb12.mono (by first | (simp; done) | (simp; omega)))
  have H12 := Lib.hid (H11.out.trans (D12.mono H11.out.size))
  have L12 := Lib.hid (show w11.heap.size + 0 ≤ w12.heap.size from by have h := hb12.size; (try simp at h); omega)
  have X_aX_12 := Lib.hid (keepBox X_aX_11.out D12); clear X_aX_11
  have X_aN_12 := Lib.hid (keepBox X_aN_11.out D12); clear X_aN_11
  have X_x0_12 := Lib.hid (keepBox X_x0_11.out D12); clear X_x0_11
  have X_x1_12 := Lib.hid (keepBox X_x1_11.out D12); clear X_x1_11
  have O_w0_12 := Lib.hid (O_w0_11.out.below D12); clear O_w0_11
  have O_x0_12 := Lib.hid (O_x0_11.out.below D12); clear O_x0_11
  have O_x1_12 := Lib.hid (Z11.out.below D12); clear Z11
  have O_g0_12 := Lib.hid (O_g0_11.out.below D12); clear O_g0_11
  clear D12 hb12
  go_wp2_with fail
  refine (markIntS_c (k := 1) (O_g0_12.out.below (by repeat (first | (with_reducible exact Below.refl _ _) | refine Below.alloc ?_ (by simp; try omega) _ | refine Below.drew ?_))) (by  omega) (by have e : ((Rep.slice 3 Rep.int).cnt : Int) = 16777216 := (by decide); unfold Top; omega)).mono ?_
  rintro e w13 ⟨rfl, P13, Y13⟩
  have B13 : Hid (1 ≤ ((Rep.slice 3 Rep.int).mark true ((outF x0 x1 x2)) (1)).2 ∧ ((Rep.slice 3 Rep.int).mark true ((outF x0 x1 x2)) (1)).2 ≤ 1 + 16777216) := Lib.hid ⟨by have := (Rep.slice 3 Rep.int).mark_ge (e := true) (x := (outF x0 x1 x2)) (k := 1); omega, by have := (Rep.slice 3 Rep.int).mark_le (e := true) (k := 1) O_g0_12.out.2; have e : ((Rep.slice 3 Rep.int).cnt : Int) = 16777216 := (by decide); omega⟩
  have D13 : Touch (Btw (w5.heap.size + 1) (w6.heap.size)) w12 w13 := (Touch.of_below (by repeat (first | (with_reducible exact Below.refl _ _) | refine Below.alloc ?_ (by simp; try omega) _ | refine Below.drew ?_))).trans Y13
  have H13 := Lib.hid (H12.out.trans (D13.below (by have := H12.out.size; omega) (fun i hi => by have a := hi.1; have b : w.heap.size ≤ w5.heap.size := H5.out.size; omega)))
  have L13 := Lib.hid (show w12.heap.size ≤ w13.heap.size from D13.size)
  have X_aX_13 := Lib.hid (D13.keepBox X_aX_12.out (fun q => by have q1 := q.1; have q2 := q.2; have l1 := L1.out; have l2 := L2.out; have l3 := L3.out; have l4 := L4.out; have l5 := L5.out; have l6 := L6.out; omega)); clear X_aX_12
  have X_aN_13 := Lib.hid (D13.keepBox X_aN_12.out (fun q => by have q1 := q.1; have q2 := q.2; have l1 := L1.out; have l2 := L2.out; have l3 := L3.out; have l4 := L4.out; have l5 := L5.out; have l6 := L6.out; omega)); clear X_aN_12
  have X_x0_13 := Lib.hid (D13.keepBox X_x0_12.out (fun q => by have q1 := q.1; have q2 := q.2; have l5 := L5.out; have l6 := L6.out; omega)); clear X_x0_12
  have X_x1_13 := Lib.hid (D13.keepBox X_x1_12.out (fun q => by have q1 := q.1; have q2 := q.2; have l6 := L6.out; omega)); clear X_x1_12
  have O_w0_13 := Lib.hid (O_w0_12.out.touch D13 (fun i p q => by have p1 := p.1; have p2 := p.2; have q1 := q.1; have q2 := q.2; have l3 := L3.out; have l4 := L4.out; have l5 := L5.out; have l6 := L6.out; omega)); clear O_w0_12
  have O_x0_13 := Lib.hid (O_x0_12.out.touch D13 (fun i p q => by have p1 := p.1; have p2 := p.2; have q1 := q.1; have q2 := q.2; have l4 := L4.out; have l5 := L5.out; have l6 := L6.out; omega)); clear O_x0_12
  have O_x1_13 := Lib.hid (O_x1_12.out.touch D13 (fun i p q => by have p1 := p.1; have p2 := p.2; have q1 := q.1; have q2 := q.2; have l5 := L5.out; have l6 := L6.out; omega)); clear O_x1_12
  clear D13 Y13
  have Z13 := Lib.hid P13; clear P13 O_g0_12
  have U13 : 0 ≤ ((Rep.slice 3 Rep.int).mark true ((outF x0 x1 x2)) (1)).2 := by have := B13.out.1; omega
  go_wp2_with fail
  refine (heldIntS_c (Z13.out.raw.below (by repeat (first | (with_reducible exact Below.refl _ _) | refine Below.alloc ?_ (by simp; try omega) _ | refine Below.drew ?_))) ((Rep.slice 3 Rep.int).mark_held (e := true) (x := (outF x0 x1 x2)) (k := 1)) (by have := B13.out.1;  omega) (by have := B13.out.2;  omega)).mono ?_
  rintro e w14 ⟨rfl, hb14⟩
  have D14 : Below w13.heap.size w13 w14 := Below.trans (by repeat (first | (with_reducible exact Below.refl _ _) | refine Below.alloc ?_ (by simp; try omega) _ | refine Below.drew ?_)) (hb14.mono (by first | (simp; done) | (simp; omega)))
  have H14 := Lib.hid (H13.out.trans (D14.mono H13.out.size))
  have L14 := Lib.hid (show w13.heap.size + 0 ≤ w14.heap.size from by have h := hb14.size; (try simp at h); omega)
  have X_aX_14 := Lib.hid (keepBox X_aX_13.out D14); clear X_aX_13
  have X_aN_14 := Lib.hid (keepBox X_aN_13.out D14); clear X_aN_13
  have X_x0_14 := Lib.hid (keepBox X_x0_13.out D14); clear X_x0_13
  have X_x1_14 := Lib.hid (keepBox X_x1_13.out D14); clear X_x1_13
  have O_w0_14 := Lib.hid (O_w0_13.out.below D14); clear O_w0_13
  have O_x0_14 := Lib.hid (O_x0_13.out.below D14); clear O_x0_13
  have O_x1_14 := Lib.hid (O_x1_13.out.below D14); clear O_x1_13
  have O_g0_14 := Lib.hid (Z13.out.below D14); clear Z13
  clear D14 hb14
  have K_aX_0 := boxCell X_aX_14.out (j := 0) (v := a0v0) rfl
  have K_aX_1 := boxCell X_aX_14.out (j := 1) (v := .int .i64 x0.2.1.1) rfl
  have K_aX_2 := boxCell X_aX_14.out (j := 2) (v := a0v2) rfl
  have K_aX_3 := boxCell X_aX_14.out (j := 3) (v := a0v3) rfl
  have K_aX_4 := boxCell X_aX_14.out (j := 4) (v := a0v4) rfl
  have K_aX_5 := boxCell X_aX_14.out (j := 5) (v := a0v5) rfl
  have K_aX_6 := boxCell X_aX_14.out (j := 6) (v := a0v6) rfl
  have K_aX_7 := boxCell X_aX_14.out (j := 7) (v := .int .i64 x0.2.2.2.2.2.2) rfl
  have K_aN_0 := boxCell X_aN_14.out (j := 0) (v := a1v0) rfl
  go_wp2_with fail
  refine wp_region_softP (fun W => Below w14.heap.size w14 W) [(0, true), (2, true), (4, true), (1, false), (3, false), (5, false), (6, true)] (by kernel_rfl) (by kernel_rfl) (fun c a d v w h => by cases d <;> exact h) ((Below.refl _ _).drew) ?_
  intro wS HS
  simp only [pickOps, List.getElem?_cons_succ, List.getElem?_cons_zero, List.map_cons, List.map_nil]
  all_goals first | (refine soft_pass rfl HS ?_) | (refine soft_read (v := ?_) rfl (fun W hW => ?_) ?_; rotate_left; (· have A_K_aX_0 := cell_later hW K_aX_0; have A_K_aX_1 := cell_later hW K_aX_1; have A_K_aX_2 := cell_later hW K_aX_2; have A_K_aX_3 := cell_later hW K_aX_3; have A_K_aX_4 := cell_later hW K_aX_4; have A_K_aX_5 := cell_later hW K_aX_5; have A_K_aX_6 := cell_later hW K_aX_6; have A_K_aX_7 := cell_later hW K_aX_7; have A_K_aN_0 := cell_later hW K_aN_0; clear hW; go_simp; try with_reducible rfl))
  all_goals try simp only [Act.put, List.setIfInBounds_toArray, List.set_cons_zero, List.set_cons_succ]
  all_goals first | (refine soft_pass rfl HS ?_) | (refine soft_read (v := ?_) rfl (fun W hW => ?_) ?_; rotate_left; (· have A_K_aX_0 := cell_later hW K_aX_0; have A_K_aX_1 := cell_later hW K_aX_1; have A_K_aX_2 := cell_later hW K_aX_2; have A_K_aX_3 := cell_later hW K_aX_3; have A_K_aX_4 := cell_later hW K_aX_4; have A_K_aX_5 := cell_later hW K_aX_5; have A_K_aX_6 := cell_later hW K_aX_6; have A_K_aX_7 := cell_later hW K_aX_7; have A_K_aN_0 := cell_later hW K_aN_0; clear hW; go_simp; try with_reducible rfl))
  all_goals try simp only [Act.put, List.setIfInBounds_toArray, List.set_cons_zero, List.set_cons_succ]
  all_goals first | (refine soft_pass rfl HS ?_) | (refine soft_read (v := ?_) rfl (fun W hW => ?_) ?_; rotate_left; (· go_simp; try with_reducible rfl))
  all_goals try simp only [Act.put, List.setIfInBounds_toArray, List.set_cons_zero, List.set_cons_succ]
  all_goals first | (refine soft_pass rfl HS ?_) | (refine soft_do rfl (fun K hK => ?_); go_simp; refine (toNode_c (r0.below (H14.out.trans (HS.mono H14.out.size)))).mono ?_; rintro e u15_0 ⟨cs15_0, rfl, O15_0, hc⟩; obtain ⟨t15_0v0, t15_0v2, t15_0v3, t15_0v4, t15_0v5, t15_0v6, rfl, t15_0_0, t15_0_1, t15_0_2, t15_0_3, t15_0_4, t15_0_5, t15_0_6, t15_0_7, t15_0_8⟩ := RNode_raw O15_0.raw; obtain ⟨t15_0a0, t15_0p0, t15_0h0, _⟩ := Rep.len_raw t15_0_0; obtain rfl : t15_0v0 = _ := (by simpa using t15_0h0); clear t15_0h0; obtain ⟨t15_0a2, t15_0p2, t15_0h2, _⟩ := Rep.len_raw t15_0_3; obtain rfl : t15_0v2 = _ := (by simpa using t15_0h2); clear t15_0h2; obtain ⟨t15_0a3, t15_0p3, t15_0h3, _⟩ := Rep.len_raw t15_0_4; obtain rfl : t15_0v3 = _ := (by simpa using t15_0h3); clear t15_0h3; obtain ⟨t15_0a4, t15_0p4, t15_0h4, _⟩ := Rep.len_raw t15_0_5; obtain rfl : t15_0v4 = _ := (by simpa using t15_0h4); clear t15_0h4; obtain ⟨t15_0a5, t15_0p5, t15_0h5, _⟩ := Rep.len_raw t15_0_6; obtain rfl : t15_0v5 = _ := (by simpa using t15_0h5); clear t15_0h5; obtain ⟨t15_0a6, t15_0p6, t15_0h6, _⟩ := Rep.len_raw t15_0_7; obtain rfl : t15_0v6 = _ := (by simpa using t15_0h6); clear t15_0h6; clear t15_0_0 t15_0_1 t15_0_2 t15_0_3 t15_0_4 t15_0_5 t15_0_6 t15_0_7 t15_0_8; replace HS := HS.trans (hc.mono HS.size); refine hK _ _ HS ?_; clear hK K hc)
  all_goals try simp only [Act.put, List.setIfInBounds_toArray, List.set_cons_zero, List.set_cons_succ]
  all_goals first | (refine soft_pass rfl HS ?_) | (refine soft_do rfl (fun K hK => ?_); go_simp; refine (toName_c (r1.below (H14.out.trans (HS.mono H14.out.size)))).mono ?_; rintro e u15_1 ⟨cs15_1, rfl, O15_1, hc⟩; obtain ⟨t15_1v0, rfl, t15_1_0⟩ := RName_raw O15_1.raw; obtain ⟨t15_1a0, t15_1p0, t15_1h0, _⟩ := Rep.len_raw t15_1_0; obtain rfl : t15_1v0 = _ := (by simpa using t15_1h0); clear t15_1h0; clear t15_1_0; replace O15_0 := O15_0.below hc; replace HS := HS.trans (hc.mono HS.size); refine hK _ _ HS ?_; clear hK K hc)
  all_goals try simp only [Act.put, List.setIfInBounds_toArray, List.set_cons_zero, List.set_cons_succ]
  all_goals first | (refine soft_pass rfl HS ?_) | (refine soft_do rfl (fun K hK => ?_); go_simp; refine (implOutgoingFaces_c O15_0.rd O15_1.rd hi2.out).mono ?_; rintro e w15 ⟨tv15, rfl, O15, hc⟩; obtain ⟨t15a, t15p, t15h, _⟩ := Rep.len_raw O15.raw; obtain rfl : tv15 = _ := (by simpa using t15h); clear t15h; have sz := HS.size; have Z15 := Lib.hid (O15.wide (T := Btw (w14.heap.size) (w15.heap.size)) (fun i hi => ⟨Nat.le_trans sz hi.1, hi.2⟩)); clear O15 sz; replace HS := HS.trans (hc.mono HS.size); refine hK _ _ HS ?_; clear hK K hc O15_0 O15_1)
  all_goals try simp only [Act.put, List.setIfInBounds_toArray, List.set_cons_zero, List.set_cons_succ]
  all_goals first | (refine soft_pass rfl HS ?_) | (refine soft_read (v := ?_) rfl (fun W hW => ?_) ?_; rotate_left; (· go_simp; try with_reducible rfl))
  all_goals try simp only [Act.put, List.setIfInBounds_toArray, List.set_cons_zero, List.set_cons_succ]
  all_goals refine soft_nil ?_
  have D15 : Below w14.heap.size w14 w15 := Below.trans (by repeat (first | (with_reducible exact Below.refl _ _) | refine Below.alloc ?_ (by simp; try omega) _ | refine Below.drew ?_)) (HS.mono (by first | (simp; done) | (simp; omega)))
  have H15 := Lib.hid (H14.out.trans (D15.mono H14.out.size))
  have L15 := Lib.hid (show w14.heap.size + 0 ≤ w15.heap.size from by have h := HS.size; (try simp at h); omega)
  have X_aX_15 := Lib.hid (keepBox X_aX_14.out D15); clear X_aX_14
  have X_aN_15 := Lib.hid (keepBox X_aN_14.out D15); clear X_aN_14
  have X_x0_15 := Lib.hid (keepBox X_x0_14.out D15); clear X_x0_14
  have X_x1_15 := Lib.hid (keepBox X_x1_14.out D15); clear X_x1_14
  have O_w0_15 := Lib.hid (O_w0_14.out.below D15); clear O_w0_14
  have O_x0_15 := Lib.hid (O_x0_14.out.below D15); clear O_x0_14
  have O_x1_15 := Lib.hid (O_x1_14.out.below D15); clear O_x1_14
  have O_g0_15 := Lib.hid (O_g0_14.out.below D15); clear O_g0_14
  clear D15 K_aX_0 K_aX_1 K_aX_2 K_aX_3 K_aX_4 K_aX_5 K_aX_6 K_aX_7 K_aN_0 HS
  go_wp2_with fail
  refine (eqIntS_c (Z15.out.raw.below (by repeat (first | (with_reducible exact Below.refl _ _) | refine Below.alloc ?_ (by simp; try omega) _ | refine Below.drew ?_))) (O_w0_15.out.raw.below (by repeat (first | (with_reducible exact Below.refl _ _) | refine Below.alloc ?_ (by simp; try omega) _ | refine Below.drew ?_)))).mono ?_
  rintro e w16 ⟨rfl, hb16⟩
  have D16 : Below w15.heap.size w15 w16 := Below.trans (by repeat (first | (with_reducible exact Below.refl _ _) | refine Below.alloc ?_ (by simp; try omega) _ | refine Below.drew ?_)) (hb16.mono (by first | (simp; done) | (simp; omega)))
  have H16 := Lib.hid (H15.out.trans (D16.mono H15.out.size))
  have L16 := Lib.hid (show w15.heap.size + 0 ≤ w16.heap.size from by have h := hb16.size; (try simp at h); omega)
  have X_aX_16 := Lib.hid (keepBox X_aX_15.out D16); clear X_aX_15
  have X_aN_16 := Lib.hid (keepBox X_aN_15.out D16); clear X_aN_15
  have X_x0_16 := Lib.hid (keepBox X_x0_15.out D16); clear X_x0_15
  have X_x1_16 := Lib.hid (keepBox X_x1_15.out D16); clear X_x1_15
  have O_w0_16 := Lib.hid (O_w0_15.out.below D16); clear O_w0_15
  have O_x0_16 := Lib.hid (O_x0_15.out.below D16); clear O_x0_15
  have O_x1_16 := Lib.hid (O_x1_15.out.below D16); clear O_x1_15
  have O_g0_16 := Lib.hid (O_g0_15.out.below D16); clear O_g0_15
  have O_h0_16 := Lib.hid (Z15.out.below D16); clear Z15
  clear D16 hb16
  go_wp2_with fail
  refine (heldIntS_c (O_g0_16.out.raw.below (by repeat (first | (with_reducible exact Below.refl _ _) | refine Below.alloc ?_ (by simp; try omega) _ | refine Below.drew ?_))) ((Rep.slice 3 Rep.int).mark_held (e := true) (x := (outF x0 x1 x2)) (k := 1)) (by have := B13.out.1;  omega) (by have := B13.out.2;  omega)).mono ?_
  rintro e w17 ⟨rfl, hb17⟩
  have D17 : Below w16.heap.size w16 w17 := Below.trans (by repeat (first | (with_reducible exact Below.refl _ _) | refine Below.alloc ?_ (by simp; try omega) _ | refine Below.drew ?_)) (hb17.mono (by first | (simp; done) | (simp; omega)))
  have H17 := Lib.hid (H16.out.trans (D17.mono H16.out.size))
  have L17 := Lib.hid (show w16.heap.size + 0 ≤ w17.heap.size from by have h := hb17.size; (try simp at h); omega)
  have X_aX_17 := Lib.hid (keepBox X_aX_16.out D17); clear X_aX_16
  have X_aN_17 := Lib.hid (keepBox X_aN_16.out D17); clear X_aN_16
  have X_x0_17 := Lib.hid (keepBox X_x0_16.out D17); clear X_x0_16
  have X_x1_17 := Lib.hid (keepBox X_x1_16.out D17); clear X_x1_16
  have O_w0_17 := Lib.hid (O_w0_16.out.below D17); clear O_w0_16
  have O_x0_17 := Lib.hid (O_x0_16.out.below D17); clear O_x0_16
  have O_x1_17 := Lib.hid (O_x1_16.out.below D17); clear O_x1_16
  have O_g0_17 := Lib.hid (O_g0_16.out.below D17); clear O_g0_16
  have O_h0_17 := Lib.hid (O_h0_16.out.below D17); clear O_h0_16
  clear D17 hb17
  go_wp2
  go_ret
  exact ⟨rfl, H17.out⟩

set_option maxRecDepth 100000 in
theorem lawOutgoingFaces_lifted (os : Os) (started : os.Started) (H : Type) (enc : TypeId × Value → H) :
    ReturnsInHanded {} Tryz.checked os 3 .any (Rows.fnExactOutgoingFacesSpec.pre6 enc Tryz.prog Tryz.f3 Rows.fnExactOutgoingFacesRow.domain false) (Rows.fnExactOutgoingFacesSpec.post enc Tryz.prog Tryz.f3 false true false false) := by
  refine returnsInHanded_of_change (C := Tryz.checked) law_own started (by kernel_rfl) Tryz.func3
    (ChangeSpec.witness6 (enc := enc) (C := Tryz.checked) false ⟨#[], #[.agg #[.slice none 0 0, .int .i64 0, .slice none 0 0, .slice none 0 0, .slice none 0 0, .slice none 0 0, .slice none 0 0, .int .i64 0], .agg #[.slice none 0 0], .int .i64 0], []⟩ 8 (by kernel_rfl) (by kernel_rfl) (by kernel_rfl) (by kernel_rfl)) ?_
  intro W base args ds gs before hval0 hW _ _
  have hval : ∀ (j : Nat) t v, Tryz.f3.params[j]? = some t → args[j]? = some v → Value.okWide Tryz.prog W .any base t v := hval0
  have hW0 : DataW.Whole enc Tryz.prog Tryz.f3.params.toList Rows.fnExactOutgoingFacesSpec.vars false W args.toList ds gs before := hW
  obtain ⟨p, q, hA0, hV, rfl, hfz, hnd⟩ := hW
  have hA : DataW.TrodAll enc Tryz.prog W 0 (fun _ => true) true Tryz.f3.params.toList args.toList ds p := hA0
  rw [Tryz.params3] at hA hval
  obtain ⟨v0, vs0, d0, ds0, p0, q0, hargs, rfl, rfl, g0, s0⟩ := trodAll_cons hA
  obtain ⟨v1, vs1, d1, ds1, p1, q1, rfl, rfl, rfl, g1, s1⟩ := trodAll_cons s0
  obtain ⟨v2, vs2, d2, ds2, p2, q2, rfl, rfl, rfl, g2, s2⟩ := trodAll_cons s1
  obtain ⟨rfl, rfl, rfl⟩ := trodAll_nil s2
  obtain rfl : args = #[v0, v1, v2] := by cases args; simp_all
  obtain ⟨rfl, rfl⟩ := trodVars_none hV
  obtain ⟨c0, rfl⟩ : ∃ c : List Value, v0 = .agg c.toArray := by
    have h := hval 0 31 v0 rfl rfl
    unfold Value.okWide at h
    rw [Tryz.underlying31] at h
    obtain ⟨cs, rfl, _⟩ := h
    exact ⟨cs.toList, by simp⟩
  obtain ⟨fu0, hf0⟩ := g0
  obtain ⟨x0, h0⟩ := bridge_Node (w := W) hf0
  have h0 : RNode.raw W c0 x0 := by simpa [Value.cells] using h0
  obtain ⟨c1, rfl⟩ : ∃ c : List Value, v1 = .agg c.toArray := by
    have h := hval 1 34 v1 rfl rfl
    unfold Value.okWide at h
    rw [Tryz.underlying34] at h
    obtain ⟨cs, rfl, _⟩ := h
    exact ⟨cs.toList, by simp⟩
  obtain ⟨fu1, hf1⟩ := g1
  obtain ⟨x1, h1⟩ := bridge_Name (w := W) hf1
  have h1 : RName.raw W c1 x1 := by simpa [Value.cells] using h1
  obtain ⟨x2, rfl, rfl, rfl, e2⟩ := open_int Tryz.underlying3 (hval 2 3 v2 rfl rfl) g2
  have h2 : -9223372036854775808 ≤ x2 ∧ x2 ≤ 9223372036854775807 := by simpa [Lit.wf, IntKind.min, IntKind.max, IntKind.signed, IntKind.bits] using e2
  refine (lawOutgoingFaces_c h0 h1 h2).mono fun e W' ⟨he, hb⟩ => ?_
  subst he
  refine ⟨_, rfl, law_post (tb := 4) hW0 rfl rfl Tryz.underlying4 ⟨rfl, rfl, rfl⟩ ?_ hb⟩
  rw [Tryz.params3]
  intro t ht
  have hall : ([31, 34, 3].all fun t => Tryz.prog.readableRec t && decide (t < Tryz.prog.types.size)) = true := by kernel_rfl
  have h1 := List.all_eq_true.1 hall t ht
  simpa using h1

theorem lawOutgoingFaces_holds : Rows.FnExactOutgoingFacesSaid :=
  OpenClaim.holds_of_wide 3 Tryz.f3 rfl rfl rfl rfl rfl rfl rfl ⟨rfl, rfl, rfl, rfl, rfl⟩ rfl rfl rfl rfl rfl (by kernel_rfl) Tryz.func3 (by kernel_rfl)
    (of_decide_eq_true (by kernel_rfl)) (by unfold Func.isWrapper; first | (rw [if_pos (by decide +kernel)]; kernel_rfl) | (rw [if_neg (by decide +kernel)]; exact ⟨rfl, rfl⟩))
    (fun os started H enc _ => lawOutgoingFaces_lifted os started H enc)
end Go.Proofs.YtjehdoedfikcdaaGreat

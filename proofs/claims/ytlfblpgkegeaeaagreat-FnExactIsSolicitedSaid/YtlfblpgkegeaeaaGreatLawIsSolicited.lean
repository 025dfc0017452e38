/-
  The law FnExactIsSolicited, walked: it returns true, whatever its arguments; then its statement. Printed by genlaw.py.
-/
import Derived.Test.YtlfblpgkegeaeaaGreatEq
import Derived.Test.YtlfblpgkegeaeaaGreatSz
import Derived.Test.YtlfblpgkegeaeaaGreatTo
import Derived.Test.YtlfblpgkegeaeaaGreatBridge
import Derived.Test.YtlfblpgkegeaeaaGreatChain
import Derived.Test.YtlfblpgkegeaeaaGreatSoftT
import Derived.Deep.RegionHeld3
namespace Go.Proofs.YtlfblpgkegeaeaaGreat
open Go.ChangeShapes Go.WideShapes Go.ChangeAt Go.RowKit
set_option linter.unusedVariables false
set_option linter.unusedSimpArgs false
set_option linter.unnecessarySimpa false
set_option maxRecDepth 100000 in
set_option maxHeartbeats 4000000 in
theorem lawIsSolicited_c {w : World} {c0 : List Value} {x0 : LNode} (h0 : RNode.raw w c0 x0) {c1 : List Value} {x1 : LTrustPolicy} (h1 : RTrustPolicy.raw w c1 x1) {c2 : List Value} {x2 : LData} (h2 : RData.raw w c2 x2) {x3 : Int} (h3 : -9223372036854775808 ≤ x3 ∧ x3 ≤ 9223372036854775807) :
    Calls Tryz.prog 3 #[.agg c0.toArray, .agg c1.toArray, .agg c2.toArray, .int .i64 x3] w (LawPost w) := by
  obtain ⟨a0v0, a0v2, a0v3, a0v4, a0v5, a0v6, rfl, a0_0, a0_1, a0_2, a0_3, a0_4, a0_5, a0_6, a0_7, a0_8⟩ := RNode_raw h0
  clear a0_0 a0_1 a0_2 a0_3 a0_4 a0_5 a0_6 a0_7 a0_8
  obtain ⟨a1v0, a1v1, a1v2, a1v3, rfl, a1_0, a1_1, a1_2, a1_3⟩ := RTrustPolicy_raw h1
  clear a1_0 a1_1 a1_2 a1_3
  obtain ⟨a2v0, a2v1, a2v2, rfl, a2_0, a2_1, a2_2, a2_3, a2_4, a2_5, a2_6⟩ := RData_raw h2
  clear a2_0 a2_1 a2_2 a2_3 a2_4 a2_5 a2_6
  have hi3 := Lib.hid h3; clear h3
  go_enter Tryz.func3, Tryz.ntmps3
  go_wp2_with fail
  refine (szNode_c (h0.below (by repeat (first | (with_reducible exact Below.refl _ _) | refine Below.alloc ?_ (by simp; try omega) _ | refine Below.drew ?_))) (by omega) (by omega)).mono ?_
  rintro e w1 ⟨s1, rfl, p1, q1, g1, hb1⟩
  have G1 := Lib.hid g1; clear g1
  have D1 : Below w.heap.size w w1 := Below.trans (by repeat (first | (with_reducible exact Below.refl _ _) | refine Below.alloc ?_ (by simp; try omega) _ | refine Below.drew ?_)) (hb1.mono (by first | (simp; done) | (simp; omega)))
  have H1 := Lib.hid D1
  have L1 := Lib.hid (show w.heap.size + 3 ≤ w1.heap.size from by have h := hb1.size; (try simp at h); omega)
  have X_aX_1 : Hid (w1.heap[w.heap.size]? = some (.cells #[a0v0, .int .i64 x0.2.1.1, a0v2, a0v3, a0v4, a0v5, a0v6, .int .i64 x0.2.2.2.2.2.2] 31 (0, 0))) := Lib.hid ((hb1.block (w.heap.size) (by first | (simp; done) | (simp; omega))).trans (heap_keep (heap_keep (heap_new_at (by simp)))))
  have X_aT_1 : Hid (w1.heap[w.heap.size + 1]? = some (.cells #[a1v0, a1v1, a1v2, a1v3] 36 (0, 0))) := Lib.hid ((hb1.block (w.heap.size + 1) (by first | (simp; done) | (simp; omega))).trans (heap_keep (heap_new_at (by simp))))
  have X_aY_1 : Hid (w1.heap[w.heap.size + 1 + 1]? = some (.cells #[a2v0, a2v1, a2v2, .int .i64 x2.2.2.2.1, .int .i64 x2.2.2.2.2] 42 (0, 0))) := Lib.hid ((hb1.block (w.heap.size + 1 + 1) (by first | (simp; done) | (simp; omega))).trans (heap_new_at (by simp)))
  clear D1 hb1
  by_cases m1 : s1 < 0
  · go_wp2
    go_ret
    exact ⟨rfl, H1.out⟩
  have z1 : 0 ≤ s1 := by omega
  have r0 : RNode.rd w _ x0 := ⟨h0, RNode.bdd_mono (G1.out z1) (by decide)⟩
  have K_aT_0 := boxCell X_aT_1.out (j := 0) (v := a1v0) rfl
  have K_aT_1 := boxCell X_aT_1.out (j := 1) (v := a1v1) rfl
  have K_aT_2 := boxCell X_aT_1.out (j := 2) (v := a1v2) rfl
  have K_aT_3 := boxCell X_aT_1.out (j := 3) (v := a1v3) rfl
  go_wp2_with fail
  refine (szTrustPolicy_c (h1.below (by repeat (first | (with_reducible exact H1.out) | refine Below.alloc ?_ (by have := H1.out.size; simp; try omega) _ | refine Below.drew ?_))) z1 (by omega)).mono ?_
  rintro e w2 ⟨s2, rfl, p2, q2, g2, hb2⟩
  have G2 := Lib.hid g2; clear g2
  have D2 : Below w1.heap.size w1 w2 := Below.trans (by repeat (first | (with_reducible exact Below.refl _ _) | refine Below.alloc ?_ (by simp; try omega) _ | refine Below.drew ?_)) (hb2.mono (by first | (simp; done) | (simp; omega)))
  have H2 := Lib.hid (H1.out.trans (D2.mono H1.out.size))
  have L2 := Lib.hid (show w1.heap.size + 0 ≤ w2.heap.size from by have h := hb2.size; (try simp at h); omega)
  have X_aX_2 := Lib.hid (keepBox X_aX_1.out D2); clear X_aX_1
  have X_aT_2 := Lib.hid (keepBox X_aT_1.out D2); clear X_aT_1
  have X_aY_2 := Lib.hid (keepBox X_aY_1.out D2); clear X_aY_1
  clear D2 K_aT_0 K_aT_1 K_aT_2 K_aT_3 hb2
  by_cases m2 : s2 < 0
  · go_wp2
    go_ret
    exact ⟨rfl, H2.out⟩
  have z2 : 0 ≤ s2 := by omega
  have r1 : RTrustPolicy.rd w _ x1 := ⟨h1, RTrustPolicy.bdd_mono (G2.out z2) (by decide)⟩
  have K_aY_0 := boxCell X_aY_2.out (j := 0) (v := a2v0) rfl
  have K_aY_1 := boxCell X_aY_2.out (j := 1) (v := a2v1) rfl
  have K_aY_2 := boxCell X_aY_2.out (j := 2) (v := a2v2) rfl
  have K_aY_3 := boxCell X_aY_2.out (j := 3) (v := .int .i64 x2.2.2.2.1) rfl
  have K_aY_4 := boxCell X_aY_2.out (j := 4) (v := .int .i64 x2.2.2.2.2) rfl
  go_wp2_with fail
  refine (szData_c (h2.below (by repeat (first | (with_reducible exact H2.out) | refine Below.alloc ?_ (by have := H2.out.size; simp; try omega) _ | refine Below.drew ?_))) z2 (by omega)).mono ?_
  rintro e w3 ⟨s3, rfl, p3, q3, g3, hb3⟩
  have G3 := Lib.hid g3; clear g3
  have D3 : Below w2.heap.size w2 w3 := Below.trans (by repeat (first | (with_reducible exact Below.refl _ _) | refine Below.alloc ?_ (by simp; try omega) _ | refine Below.drew ?_)) (hb3.mono (by first | (simp; done) | (simp; omega)))
  have H3 := Lib.hid (H2.out.trans (D3.mono H2.out.size))
  have L3 := Lib.hid (show w2.heap.size + 0 ≤ w3.heap.size from by have h := hb3.size; (try simp at h); omega)
  have X_aX_3 := Lib.hid (keepBox X_aX_2.out D3); clear X_aX_2
  have X_aT_3 := Lib.hid (keepBox X_aT_2.out D3); clear X_aT_2
  have X_aY_3 := Lib.hid (keepBox X_aY_2.out D3); clear X_aY_2
  clear D3 K_aY_0 K_aY_1 K_aY_2 K_aY_3 K_aY_4 hb3
  by_cases m3 : s3 < 0
  · go_wp2
    go_ret
    exact ⟨rfl, H3.out⟩
  have z3 : 0 ≤ s3 := by omega
  have r2 : RData.rd w _ x2 := ⟨h2, RData.bdd_mono (G3.out z3) (by decide)⟩
  have K_aX_0 := boxCell X_aX_3.out (j := 0) (v := a0v0) rfl
  have K_aX_1 := boxCell X_aX_3.out (j := 1) (v := .int .i64 x0.2.1.1) rfl
  have K_aX_2 := boxCell X_aX_3.out (j := 2) (v := a0v2) rfl
  have K_aX_3 := boxCell X_aX_3.out (j := 3) (v := a0v3) rfl
  have K_aX_4 := boxCell X_aX_3.out (j := 4) (v := a0v4) rfl
  have K_aX_5 := boxCell X_aX_3.out (j := 5) (v := a0v5) rfl
  have K_aX_6 := boxCell X_aX_3.out (j := 6) (v := a0v6) rfl
  have K_aX_7 := boxCell X_aX_3.out (j := 7) (v := .int .i64 x0.2.2.2.2.2.2) rfl
  have K_aT_0 := boxCell X_aT_3.out (j := 0) (v := a1v0) rfl
  have K_aT_1 := boxCell X_aT_3.out (j := 1) (v := a1v1) rfl
  have K_aT_2 := boxCell X_aT_3.out (j := 2) (v := a1v2) rfl
  have K_aT_3 := boxCell X_aT_3.out (j := 3) (v := a1v3) rfl
  have K_aY_0 := boxCell X_aY_3.out (j := 0) (v := a2v0) rfl
  have K_aY_1 := boxCell X_aY_3.out (j := 1) (v := a2v1) rfl
  have K_aY_2 := boxCell X_aY_3.out (j := 2) (v := a2v2) rfl
  have K_aY_3 := boxCell X_aY_3.out (j := 3) (v := .int .i64 x2.2.2.2.1) rfl
  have K_aY_4 := boxCell X_aY_3.out (j := 4) (v := .int .i64 x2.2.2.2.2) rfl
  go_wp2_with fail
  refine wp_region_softP (fun W => Below w3.heap.size w3 W) [(0, true), (2, true), (4, true), (6, true), (1, false), (3, false), (5, false), (7, false), (8, true)] (by kernel_rfl) (by kernel_rfl) (fun c a d v w h => by cases d <;> exact h) ((Below.refl _ _).drew) ?_
  intro wS HS
  simp only [pickOps, List.getElem?_cons_succ, List.getElem?_cons_zero, List.map_cons, List.map_nil]
  all_goals first | (refine soft_pass rfl HS ?_) | (refine soft_read (v := ?_) rfl (fun W hW => ?_) ?_; rotate_left; (· have A_K_aX_0 := cell_later hW K_aX_0; have A_K_aX_1 := cell_later hW K_aX_1; have A_K_aX_2 := cell_later hW K_aX_2; have A_K_aX_3 := cell_later hW K_aX_3; have A_K_aX_4 := cell_later hW K_aX_4; have A_K_aX_5 := cell_later hW K_aX_5; have A_K_aX_6 := cell_later hW K_aX_6; have A_K_aX_7 := cell_later hW K_aX_7; have A_K_aT_0 := cell_later hW K_aT_0; have A_K_aT_1 := cell_later hW K_aT_1; have A_K_aT_2 := cell_later hW K_aT_2; have A_K_aT_3 := cell_later hW K_aT_3; have A_K_aY_0 := cell_later hW K_aY_0; have A_K_aY_1 := cell_later hW K_aY_1; have A_K_aY_2 := cell_later hW K_aY_2; have A_K_aY_3 := cell_later hW K_aY_3; have A_K_aY_4 := cell_later hW K_aY_4; clear hW; go_simp; try with_reducible rfl))
  all_goals try simp only [Act.put, List.setIfInBounds_toArray, List.set_cons_zero, List.set_cons_succ]
  all_goals first | (refine soft_pass rfl HS ?_) | (refine soft_read (v := ?_) rfl (fun W hW => ?_) ?_; rotate_left; (· have A_K_aX_0 := cell_later hW K_aX_0; have A_K_aX_1 := cell_later hW K_aX_1; have A_K_aX_2 := cell_later hW K_aX_2; have A_K_aX_3 := cell_later hW K_aX_3; have A_K_aX_4 := cell_later hW K_aX_4; have A_K_aX_5 := cell_later hW K_aX_5; have A_K_aX_6 := cell_later hW K_aX_6; have A_K_aX_7 := cell_later hW K_aX_7; have A_K_aT_0 := cell_later hW K_aT_0; have A_K_aT_1 := cell_later hW K_aT_1; have A_K_aT_2 := cell_later hW K_aT_2; have A_K_aT_3 := cell_later hW K_aT_3; have A_K_aY_0 := cell_later hW K_aY_0; have A_K_aY_1 := cell_later hW K_aY_1; have A_K_aY_2 := cell_later hW K_aY_2; have A_K_aY_3 := cell_later hW K_aY_3; have A_K_aY_4 := cell_later hW K_aY_4; clear hW; go_simp; try with_reducible rfl))
  all_goals try simp only [Act.put, List.setIfInBounds_toArray, List.set_cons_zero, List.set_cons_succ]
  all_goals first | (refine soft_pass rfl HS ?_) | (refine soft_read (v := ?_) rfl (fun W hW => ?_) ?_; rotate_left; (· have A_K_aX_0 := cell_later hW K_aX_0; have A_K_aX_1 := cell_later hW K_aX_1; have A_K_aX_2 := cell_later hW K_aX_2; have A_K_aX_3 := cell_later hW K_aX_3; have A_K_aX_4 := cell_later hW K_aX_4; have A_K_aX_5 := cell_later hW K_aX_5; have A_K_aX_6 := cell_later hW K_aX_6; have A_K_aX_7 := cell_later hW K_aX_7; have A_K_aT_0 := cell_later hW K_aT_0; have A_K_aT_1 := cell_later hW K_aT_1; have A_K_aT_2 := cell_later hW K_aT_2; have A_K_aT_3 := cell_later hW K_aT_3; have A_K_aY_0 := cell_later hW K_aY_0; have A_K_aY_1 := cell_later hW K_aY_1; have A_K_aY_2 := cell_later hW K_aY_2; have A_K_aY_3 := cell_later hW K_aY_3; have A_K_aY_4 := cell_later hW K_aY_4; clear hW; go_simp; try with_reducible rfl))
  all_goals try simp only [Act.put, List.setIfInBounds_toArray, List.set_cons_zero, List.set_cons_succ]
  all_goals first | (refine soft_pass rfl HS ?_) | (refine soft_read (v := ?_) rfl (fun W hW => ?_) ?_; rotate_left; (· go_simp; try with_reducible rfl))
  all_goals try simp only [Act.put, List.setIfInBounds_toArray, List.set_cons_zero, List.set_cons_succ]
  all_goals first | (refine soft_pass rfl HS ?_) | (refine soft_do rfl (fun K hK => ?_); go_simp; refine (toNode_c (r0.below (H3.out.trans (HS.mono H3.out.size)))).mono ?_; rintro e u4_0 ⟨cs4_0, rfl, O4_0, hc⟩; obtain ⟨t4_0v0, t4_0v2, t4_0v3, t4_0v4, t4_0v5, t4_0v6, rfl, t4_0_0, t4_0_1, t4_0_2, t4_0_3, t4_0_4, t4_0_5, t4_0_6, t4_0_7, t4_0_8⟩ := RNode_raw O4_0.raw; obtain ⟨t4_0a0, t4_0p0, t4_0h0, _⟩ := Rep.len_raw t4_0_0; obtain rfl : t4_0v0 = _ := (by simpa using t4_0h0); clear t4_0h0; obtain ⟨t4_0a2, t4_0p2, t4_0h2, _⟩ := Rep.len_raw t4_0_3; obtain rfl : t4_0v2 = _ := (by simpa using t4_0h2); clear t4_0h2; obtain ⟨t4_0a3, t4_0p3, t4_0h3, _⟩ := Rep.len_raw t4_0_4; obtain rfl : t4_0v3 = _ := (by simpa using t4_0h3); clear t4_0h3; obtain ⟨t4_0a4, t4_0p4, t4_0h4, _⟩ := Rep.len_raw t4_0_5; obtain rfl : t4_0v4 = _ := (by simpa using t4_0h4); clear t4_0h4; obtain ⟨t4_0a5, t4_0p5, t4_0h5, _⟩ := Rep.len_raw t4_0_6; obtain rfl : t4_0v5 = _ := (by simpa using t4_0h5); clear t4_0h5; obtain ⟨t4_0a6, t4_0p6, t4_0h6, _⟩ := Rep.len_raw t4_0_7; obtain rfl : t4_0v6 = _ := (by simpa using t4_0h6); clear t4_0h6; clear t4_0_0 t4_0_1 t4_0_2 t4_0_3 t4_0_4 t4_0_5 t4_0_6 t4_0_7 t4_0_8; replace HS := HS.trans (hc.mono HS.size); refine hK _ _ HS ?_; clear hK K hc)
  all_goals try simp only [Act.put, List.setIfInBounds_toArray, List.set_cons_zero, List.set_cons_succ]
  all_goals first | (refine soft_pass rfl HS ?_) | (refine soft_do rfl (fun K hK => ?_); go_simp; refine (toTrustPolicy_c (r1.below (H3.out.trans (HS.mono H3.out.size)))).mono ?_; rintro e u4_1 ⟨cs4_1, rfl, O4_1, hc⟩; obtain ⟨t4_1v0, t4_1v1, t4_1v2, t4_1v3, rfl, t4_1_0, t4_1_1, t4_1_2, t4_1_3⟩ := RTrustPolicy_raw O4_1.raw; obtain ⟨t4_1a0, t4_1p0, t4_1h0, _⟩ := Rep.len_raw t4_1_0; obtain rfl : t4_1v0 = _ := (by simpa using t4_1h0); clear t4_1h0; obtain ⟨t4_1a1, t4_1p1, t4_1h1, _⟩ := Rep.len_raw t4_1_1; obtain rfl : t4_1v1 = _ := (by simpa using t4_1h1); clear t4_1h1; obtain ⟨t4_1a2, t4_1p2, t4_1h2, _⟩ := Rep.len_raw t4_1_2; obtain rfl : t4_1v2 = _ := (by simpa using t4_1h2); clear t4_1h2; obtain ⟨t4_1a3, t4_1p3, t4_1h3, _⟩ := Rep.len_raw t4_1_3; obtain rfl : t4_1v3 = _ := (by simpa using t4_1h3); clear t4_1h3; clear t4_1_0 t4_1_1 t4_1_2 t4_1_3; replace O4_0 := O4_0.below hc; replace HS := HS.trans (hc.mono HS.size); refine hK _ _ HS ?_; clear hK K hc)
  all_goals try simp only [Act.put, List.setIfInBounds_toArray, List.set_cons_zero, List.set_cons_succ]
  all_goals first | (refine soft_pass rfl HS ?_) | (refine soft_do rfl (fun K hK => ?_); go_simp; refine (toData_c (r2.below (H3.out.trans (HS.mono H3.out.size)))).mono ?_; rintro e u4_2 ⟨cs4_2, rfl, O4_2, hc⟩; obtain ⟨t4_2v0, t4_2v1, t4_2v2, rfl, t4_2_0, t4_2_1, t4_2_2, t4_2_3, t4_2_4, t4_2_5, t4_2_6⟩ := RData_raw O4_2.raw; obtain ⟨t4_2a0, t4_2p0, t4_2h0, _⟩ := Rep.len_raw t4_2_1; obtain rfl : t4_2v0 = _ := (by simpa using t4_2h0); clear t4_2h0; obtain ⟨t4_2a1, t4_2p1, t4_2h1, _⟩ := Rep.len_raw t4_2_2; obtain rfl : t4_2v1 = _ := (by simpa using t4_2h1); clear t4_2h1; obtain ⟨t4_2a2, t4_2p2, t4_2h2, _⟩ := Rep.len_raw t4_2_4; obtain rfl : t4_2v2 = _ := (by simpa using t4_2h2); clear t4_2h2; clear t4_2_0 t4_2_1 t4_2_2 t4_2_3 t4_2_4 t4_2_5 t4_2_6; replace O4_0 := O4_0.below hc; replace O4_1 := O4_1.below hc; replace HS := HS.trans (hc.mono HS.size); refine hK _ _ HS ?_; clear hK K hc)
  all_goals try simp only [Act.put, List.setIfInBounds_toArray, List.set_cons_zero, List.set_cons_succ]
  all_goals first | (refine soft_pass rfl HS ?_) | (refine soft_do rfl (fun K hK => ?_); go_simp; refine (specIsSolicited_c O4_0.rd O4_1.rd O4_2.rd hi3.out (G2.out z2) (G3.out z3)).mono ?_; rintro e w4 ⟨rfl, hc⟩; replace HS := HS.trans (hc.mono HS.size); refine hK _ _ HS ?_; clear hK K hc O4_0 O4_1 O4_2)
  all_goals try simp only [Act.put, List.setIfInBounds_toArray, List.set_cons_zero, List.set_cons_succ]
  all_goals first | (refine soft_pass rfl HS ?_) | (refine soft_read (v := ?_) rfl (fun W hW => ?_) ?_; rotate_left; (· go_simp; try with_reducible rfl))
  all_goals try simp only [Act.put, List.setIfInBounds_toArray, List.set_cons_zero, List.set_cons_succ]
  all_goals refine soft_nil ?_
  have D4 : Below w3.heap.size w3 w4 := Below.trans (by repeat (first | (with_reducible exact Below.refl _ _) | refine Below.alloc ?_ (by simp; try omega) _ | refine Below.drew ?_)) (HS.mono (by first | (simp; done) | (simp; omega)))
  have H4 := Lib.hid (H3.out.trans (D4.mono H3.out.size))
  have L4 := Lib.hid (show w3.heap.size + 0 ≤ w4.heap.size from by have h := HS.size; (try simp at h); omega)
  have X_aX_4 := Lib.hid (keepBox X_aX_3.out D4); clear X_aX_3
  have X_aT_4 := Lib.hid (keepBox X_aT_3.out D4); clear X_aT_3
  have X_aY_4 := Lib.hid (keepBox X_aY_3.out D4); clear X_aY_3
  clear D4 K_aX_0 K_aX_1 K_aX_2 K_aX_3 K_aX_4 K_aX_5 K_aX_6 K_aX_7 K_aT_0 K_aT_1 K_aT_2 K_aT_3 K_aY_0 K_aY_1 K_aY_2 K_aY_3 K_aY_4 HS
  have K_aX_0 := boxCell X_aX_4.out (j := 0) (v := a0v0) rfl
  have K_aX_1 := boxCell X_aX_4.out (j := 1) (v := .int .i64 x0.2.1.1) rfl
  have K_aX_2 := boxCell X_aX_4.out (j := 2) (v := a0v2) rfl
  have K_aX_3 := boxCell X_aX_4.out (j := 3) (v := a0v3) rfl
  have K_aX_4 := boxCell X_aX_4.out (j := 4) (v := a0v4) rfl
  have K_aX_5 := boxCell X_aX_4.out (j := 5) (v := a0v5) rfl
  have K_aX_6 := boxCell X_aX_4.out (j := 6) (v := a0v6) rfl
  have K_aX_7 := boxCell X_aX_4.out (j := 7) (v := .int .i64 x0.2.2.2.2.2.2) rfl
  go_wp2_with fail
  refine (toNode_c (r0.below (by repeat (first | (with_reducible exact H4.out) | refine Below.alloc ?_ (by have := H4.out.size; simp; try omega) _ | refine Below.drew ?_)))).mono ?_
  rintro e w5 ⟨cs5, rfl, O5, hb5⟩
  obtain ⟨t5v0, t5v2, t5v3, t5v4, t5v5, t5v6, rfl, t5_0, t5_1, t5_2, t5_3, t5_4, t5_5, t5_6, t5_7, t5_8⟩ := RNode_raw O5.raw
  obtain ⟨t5a0, t5p0, t5h0, _⟩ := Rep.len_raw t5_0; obtain rfl : t5v0 = _ := (by simpa using t5h0)
  clear t5h0
  obtain ⟨t5a2, t5p2, t5h2, _⟩ := Rep.len_raw t5_3; obtain rfl : t5v2 = _ := (by simpa using t5h2)
  clear t5h2
  obtain ⟨t5a3, t5p3, t5h3, _⟩ := Rep.len_raw t5_4; obtain rfl : t5v3 = _ := (by simpa using t5h3)
  clear t5h3
  obtain ⟨t5a4, t5p4, t5h4, _⟩ := Rep.len_raw t5_5; obtain rfl : t5v4 = _ := (by simpa using t5h4)
  clear t5h4
  obtain ⟨t5a5, t5p5, t5h5, _⟩ := Rep.len_raw t5_6; obtain rfl : t5v5 = _ := (by simpa using t5h5)
  clear t5h5
  obtain ⟨t5a6, t5p6, t5h6, _⟩ := Rep.len_raw t5_7; obtain rfl : t5v6 = _ := (by simpa using t5h6)
  clear t5h6
  clear t5_0 t5_1 t5_2 t5_3 t5_4 t5_5 t5_6 t5_7 t5_8
  have Z5 := Lib.hid (O5.wide (T := Btw (w4.heap.size) (w5.heap.size)) (fun i hi => ⟨by have h := hi.1; (try simp at h); omega, hi.2⟩)); clear O5
  have D5 : Below w4.heap.size w4 w5 := Below.trans (by repeat (first | (with_reducible exact Below.refl _ _) | refine Below.alloc ?_ (by simp; try omega) _ | refine Below.drew ?_)) (hb5.mono (by first | (simp; done) | (simp; omega)))
  have H5 := Lib.hid (H4.out.trans (D5.mono H4.out.size))
  have L5 := Lib.hid (show w4.heap.size + 0 ≤ w5.heap.size from by have h := hb5.size; (try simp at h); omega)
  have X_aX_5 := Lib.hid (keepBox X_aX_4.out D5); clear X_aX_4
  have X_aT_5 := Lib.hid (keepBox X_aT_4.out D5); clear X_aT_4
  have X_aY_5 := Lib.hid (keepBox X_aY_4.out D5); clear X_aY_4
  clear D5 K_aX_0 K_aX_1 K_aX_2 K_aX_3 K_aX_4 K_aX_5 K_aX_6 K_aX_7 hb5
  have K_aT_0 := boxCell X_aT_5.out (j := 0) (v := a1v0) rfl
  have K_aT_1 := boxCell X_aT_5.out (j := 1) (v := a1v1) rfl
  have K_aT_2 := boxCell X_aT_5.out (j := 2) (v := a1v2) rfl
  have K_aT_3 := boxCell X_aT_5.out (j := 3) (v := a1v3) rfl
  have J_aT : w.heap.size + 1 < w5.heap.size := by have l1 := L1.out; have l2 := L2.out; have l3 := L3.out; have l4 := L4.out; have l5 := L5.out; omega
  go_wp2_with fail
  refine (toTrustPolicy_c (r1.below (by repeat (first | (with_reducible exact H5.out) | refine Below.alloc ?_ (by have := H5.out.size; simp; try omega) _ | refine Below.drew ?_)))).mono ?_
  rintro e w6 ⟨cs6, rfl, O6, hb6⟩
  obtain ⟨t6v0, t6v1, t6v2, t6v3, rfl, t6_0, t6_1, t6_2, t6_3⟩ := RTrustPolicy_raw O6.raw
  obtain ⟨t6a0, t6p0, t6h0, _⟩ := Rep.len_raw t6_0; obtain rfl : t6v0 = _ := (by simpa using t6h0)
  clear t6h0
  obtain ⟨t6a1, t6p1, t6h1, _⟩ := Rep.len_raw t6_1; obtain rfl : t6v1 = _ := (by simpa using t6h1)
  clear t6h1
  obtain ⟨t6a2, t6p2, t6h2, _⟩ := Rep.len_raw t6_2; obtain rfl : t6v2 = _ := (by simpa using t6h2)
  clear t6h2
  obtain ⟨t6a3, t6p3, t6h3, _⟩ := Rep.len_raw t6_3; obtain rfl : t6v3 = _ := (by simpa using t6h3)
  clear t6h3
  clear t6_0 t6_1 t6_2 t6_3
  have Z6 := Lib.hid (O6.wide (T := Btw (w5.heap.size + 1) (w6.heap.size)) (fun i hi => ⟨by have h := hi.1; (try simp at h); omega, hi.2⟩)); clear O6
  have D6 : Below w5.heap.size w5 w6 := Below.trans (by repeat (first | (with_reducible exact Below.refl _ _) | refine Below.alloc ?_ (by simp; try omega) _ | refine Below.drew ?_)) (hb6.mono (by first | (simp; done) | (simp; omega)))
  have H6 := Lib.hid (H5.out.trans (D6.mono H5.out.size))
  have L6 := Lib.hid (show w5.heap.size + 1 ≤ w6.heap.size from by have h := hb6.size; (try simp at h); omega)
  have X_aX_6 := Lib.hid (keepBox X_aX_5.out D6); clear X_aX_5
  have X_aT_6 := Lib.hid (keepBox X_aT_5.out D6); clear X_aT_5
  have X_aY_6 := Lib.hid (keepBox X_aY_5.out D6); clear X_aY_5
  have X_x0_6 : Hid (w6.heap[w5.heap.size]? = some (.cells #[.slice t5a0 (x0.1).length t5p0, .int .i64 x0.2.1.1, .slice t5a2 (x0.2.1.2).length t5p2, .slice t5a3 (x0.2.2.1).length t5p3, .slice t5a4 (x0.2.2.2.1).length t5p4, .slice t5a5 (x0.2.2.2.2.1).length t5p5, .slice t5a6 (x0.2.2.2.2.2.1).length t5p6, .int .i64 x0.2.2.2.2.2.2] 56 (0, 0))) := Lib.hid ((hb6.block (w5.heap.size) (by first | (simp; done) | (simp; omega))).trans (heap_new_at (by simp)))
  have O_x0_6 := Lib.hid (Z5.out.below D6); clear Z5
  clear D6 K_aT_0 K_aT_1 K_aT_2 K_aT_3 J_aT hb6
  have K_aY_0 := boxCell X_aY_6.out (j := 0) (v := a2v0) rfl
  have K_aY_1 := boxCell X_aY_6.out (j := 1) (v := a2v1) rfl
  have K_aY_2 := boxCell X_aY_6.out (j := 2) (v := a2v2) rfl
  have K_aY_3 := boxCell X_aY_6.out (j := 3) (v := .int .i64 x2.2.2.2.1) rfl
  have K_aY_4 := boxCell X_aY_6.out (j := 4) (v := .int .i64 x2.2.2.2.2) rfl
  have J_aY : w.heap.size + 1 + 1 < w6.heap.size := by have l1 := L1.out; have l2 := L2.out; have l3 := L3.out; have l4 := L4.out; have l5 := L5.out; have l6 := L6.out; omega
  go_wp2_with fail
  refine (toData_c (r2.below (by repeat (first | (with_reducible exact H6.out) | refine Below.alloc ?_ (by have := H6.out.size; simp; try omega) _ | refine Below.drew ?_)))).mono ?_
  rintro e w7 ⟨cs7, rfl, O7, hb7⟩
  obtain ⟨t7v0, t7v1, t7v2, rfl, t7_0, t7_1, t7_2, t7_3, t7_4, t7_5, t7_6⟩ := RData_raw O7.raw
  obtain ⟨t7a0, t7p0, t7h0, _⟩ := Rep.len_raw t7_1; obtain rfl : t7v0 = _ := (by simpa using t7h0)
  clear t7h0
  obtain ⟨t7a1, t7p1, t7h1, _⟩ := Rep.len_raw t7_2; obtain rfl : t7v1 = _ := (by simpa using t7h1)
  clear t7h1
  obtain ⟨t7a2, t7p2, t7h2, _⟩ := Rep.len_raw t7_4; obtain rfl : t7v2 = _ := (by simpa using t7h2)
  clear t7h2
  clear t7_0 t7_1 t7_2 t7_3 t7_4 t7_5 t7_6
  have Z7 := Lib.hid (O7.wide (T := Btw (w6.heap.size + 1) (w7.heap.size)) (fun i hi => ⟨by have h := hi.1; (try simp at h); omega, hi.2⟩)); clear O7
  have D7 : Below w6.heap.size w6 w7 := Below.trans (by repeat (first | (with_reducible exact Below.refl _ _) | refine Below.alloc ?_ (by simp; try omega) _ | refine Below.drew ?_)) (hb7.mono (by first | (simp; done) | (simp; omega)))
  have H7 := Lib.hid (H6.out.trans (D7.mono H6.out.size))
  have L7 := Lib.hid (show w6.heap.size + 1 ≤ w7.heap.size from by have h := hb7.size; (try simp at h); omega)
  have X_aX_7 := Lib.hid (keepBox X_aX_6.out D7); clear X_aX_6
  have X_aT_7 := Lib.hid (keepBox X_aT_6.out D7); clear X_aT_6
  have X_aY_7 := Lib.hid (keepBox X_aY_6.out D7); clear X_aY_6
  have X_x0_7 := Lib.hid (keepBox X_x0_6.out D7); clear X_x0_6
  have X_x1_7 : Hid (w7.heap[w6.heap.size]? = some (.cells #[.slice t6a0 (x1.1).length t6p0, .slice t6a1 (x1.2.1).length t6p1, .slice t6a2 (x1.2.2.1).length t6p2, .slice t6a3 (x1.2.2.2).length t6p3] 62 (0, 0))) := Lib.hid ((hb7.block (w6.heap.size) (by first | (simp; done) | (simp; omega))).trans (heap_new_at (by simp)))
  have O_x0_7 := Lib.hid (O_x0_6.out.below D7); clear O_x0_6
  have O_x1_7 := Lib.hid (Z6.out.below D7); clear Z6
  clear D7 K_aY_0 K_aY_1 K_aY_2 K_aY_3 K_aY_4 J_aY hb7
  have K_x0_0 := boxCell X_x0_7.out (j := 0) (v := .slice t5a0 (x0.1).length t5p0) rfl
  have K_x0_1 := boxCell X_x0_7.out (j := 1) (v := .int .i64 x0.2.1.1) rfl
  have K_x0_2 := boxCell X_x0_7.out (j := 2) (v := .slice t5a2 (x0.2.1.2).length t5p2) rfl
  have K_x0_3 := boxCell X_x0_7.out (j := 3) (v := .slice t5a3 (x0.2.2.1).length t5p3) rfl
  have K_x0_4 := boxCell X_x0_7.out (j := 4) (v := .slice t5a4 (x0.2.2.2.1).length t5p4) rfl
  have K_x0_5 := boxCell X_x0_7.out (j := 5) (v := .slice t5a5 (x0.2.2.2.2.1).length t5p5) rfl
  have K_x0_6 := boxCell X_x0_7.out (j := 6) (v := .slice t5a6 (x0.2.2.2.2.2.1).length t5p6) rfl
  have K_x0_7 := boxCell X_x0_7.out (j := 7) (v := .int .i64 x0.2.2.2.2.2.2) rfl
  have J_x0 : w5.heap.size < w7.heap.size := by have l6 := L6.out; have l7 := L7.out; omega
  have K_x1_0 := boxCell X_x1_7.out (j := 0) (v := .slice t6a0 (x1.1).length t6p0) rfl
  have K_x1_1 := boxCell X_x1_7.out (j := 1) (v := .slice t6a1 (x1.2.1).length t6p1) rfl
  have K_x1_2 := boxCell X_x1_7.out (j := 2) (v := .slice t6a2 (x1.2.2.1).length t6p2) rfl
  have K_x1_3 := boxCell X_x1_7.out (j := 3) (v := .slice t6a3 (x1.2.2.2).length t6p3) rfl
  have J_x1 : w6.heap.size < w7.heap.size := by have l7 := L7.out; omega
  go_wp2_with fail
  refine (implIsSolicited_c (O_x0_7.out.rd.below (by repeat (first | (with_reducible exact Below.refl _ _) | refine Below.alloc ?_ (by simp; try omega) _ | refine Below.drew ?_))) (O_x1_7.out.rd.below (by repeat (first | (with_reducible exact Below.refl _ _) | refine Below.alloc ?_ (by simp; try omega) _ | refine Below.drew ?_))) (Z7.out.rd.below (by repeat (first | (with_reducible exact Below.refl _ _) | refine Below.alloc ?_ (by simp; try omega) _ | refine Below.drew ?_))) hi3.out (G2.out z2) (G3.out z3)).mono ?_
  rintro e w8 ⟨rfl, hb8⟩
  have D8 : Below w7.heap.size w7 w8 := Below.trans (by repeat (first | (with_reducible exact Below.refl _ _) | refine Below.alloc ?_ (by simp; try omega) _ | refine Below.drew ?_)) (hb8.mono (by first | (simp; done) | (simp; omega)))
  have H8 := Lib.hid (H7.out.trans (D8.mono H7.out.size))
  have L8 := Lib.hid (show w7.heap.size + 1 ≤ w8.heap.size from by have h := hb8.size; (try simp at h); omega)
  have X_aX_8 := Lib.hid (keepBox X_aX_7.out D8); clear X_aX_7
  have X_aT_8 := Lib.hid (keepBox X_aT_7.out D8); clear X_aT_7
  have X_aY_8 := Lib.hid (keepBox X_aY_7.out D8); clear X_aY_7
  have X_x0_8 := Lib.hid (keepBox X_x0_7.out D8); clear X_x0_7
  have X_x1_8 := Lib.hid (keepBox X_x1_7.out D8); clear X_x1_7
  have X_x2_8 : Hid (w8.heap[w7.heap.size]? = some (.cells #[.slice t7a0 (x2.1).length t7p0, .slice t7a1 (x2.2.1).length t7p1, .slice t7a2 (x2.2.2.1).length t7p2, .int .i64 x2.2.2.2.1, .int .i64 x2.2.2.2.2] 66 (0, 0))) := Lib.hid ((hb8.block (w7.heap.size) (by first | (simp; done) | (simp; omega))).trans (heap_new_at (by simp)))
  have O_x0_8 := Lib.hid (O_x0_7.out.below D8); clear O_x0_7
  have O_x1_8 := Lib.hid (O_x1_7.out.below D8); clear O_x1_7
  have O_x2_8 := Lib.hid (Z7.out.below D8); clear Z7
  clear D8 K_x0_0 K_x0_1 K_x0_2 K_x0_3 K_x0_4 K_x0_5 K_x0_6 K_x0_7 J_x0 K_x1_0 K_x1_1 K_x1_2 K_x1_3 J_x1 hb8
  have K_aX_0 := boxCell X_aX_8.out (j := 0) (v := a0v0) rfl
  have K_aX_1 := boxCell X_aX_8.out (j := 1) (v := .int .i64 x0.2.1.1) rfl
  have K_aX_2 := boxCell X_aX_8.out (j := 2) (v := a0v2) rfl
  have K_aX_3 := boxCell X_aX_8.out (j := 3) (v := a0v3) rfl
  have K_aX_4 := boxCell X_aX_8.out (j := 4) (v := a0v4) rfl
  have K_aX_5 := boxCell X_aX_8.out (j := 5) (v := a0v5) rfl
  have K_aX_6 := boxCell X_aX_8.out (j := 6) (v := a0v6) rfl
  have K_aX_7 := boxCell X_aX_8.out (j := 7) (v := .int .i64 x0.2.2.2.2.2.2) rfl
  have K_x0_0 := boxCell X_x0_8.out (j := 0) (v := .slice t5a0 (x0.1).length t5p0) rfl
  have K_x0_1 := boxCell X_x0_8.out (j := 1) (v := .int .i64 x0.2.1.1) rfl
  have K_x0_2 := boxCell X_x0_8.out (j := 2) (v := .slice t5a2 (x0.2.1.2).length t5p2) rfl
  have K_x0_3 := boxCell X_x0_8.out (j := 3) (v := .slice t5a3 (x0.2.2.1).length t5p3) rfl
  have K_x0_4 := boxCell X_x0_8.out (j := 4) (v := .slice t5a4 (x0.2.2.2.1).length t5p4) rfl
  have K_x0_5 := boxCell X_x0_8.out (j := 5) (v := .slice t5a5 (x0.2.2.2.2.1).length t5p5) rfl
  have K_x0_6 := boxCell X_x0_8.out (j := 6) (v := .slice t5a6 (x0.2.2.2.2.2.1).length t5p6) rfl
  have K_x0_7 := boxCell X_x0_8.out (j := 7) (v := .int .i64 x0.2.2.2.2.2.2) rfl
  go_wp2_with fail
  go_region_held3 (fun W => W.cell? ⟨w.heap.size, 0, none⟩ = some (a0v0) ∧ W.cell? ⟨w.heap.size, 1, none⟩ = some (.int .i64 x0.2.1.1) ∧ W.cell? ⟨w.heap.size, 2, none⟩ = some (a0v2) ∧ W.cell? ⟨w.heap.size, 3, none⟩ = some (a0v3) ∧ W.cell? ⟨w.heap.size, 4, none⟩ = some (a0v4) ∧ W.cell? ⟨w.heap.size, 5, none⟩ = some (a0v5) ∧ W.cell? ⟨w.heap.size, 6, none⟩ = some (a0v6) ∧ W.cell? ⟨w.heap.size, 7, none⟩ = some (.int .i64 x0.2.2.2.2.2.2) ∧ W.cell? ⟨w5.heap.size, 0, none⟩ = some (.slice t5a0 (x0.1).length t5p0) ∧ W.cell? ⟨w5.heap.size, 1, none⟩ = some (.int .i64 x0.2.1.1) ∧ W.cell? ⟨w5.heap.size, 2, none⟩ = some (.slice t5a2 (x0.2.1.2).length t5p2) ∧ W.cell? ⟨w5.heap.size, 3, none⟩ = some (.slice t5a3 (x0.2.2.1).length t5p3) ∧ W.cell? ⟨w5.heap.size, 4, none⟩ = some (.slice t5a4 (x0.2.2.2.1).length t5p4) ∧ W.cell? ⟨w5.heap.size, 5, none⟩ = some (.slice t5a5 (x0.2.2.2.2.1).length t5p5) ∧ W.cell? ⟨w5.heap.size, 6, none⟩ = some (.slice t5a6 (x0.2.2.2.2.2.1).length t5p6) ∧ W.cell? ⟨w5.heap.size, 7, none⟩ = some (.int .i64 x0.2.2.2.2.2.2)) (first | exact ⟨cell_later hd9 (cell_later hc9 K_aX_0), cell_later hd9 (cell_later hc9 K_aX_1), cell_later hd9 (cell_later hc9 K_aX_2), cell_later hd9 (cell_later hc9 K_aX_3), cell_later hd9 (cell_later hc9 K_aX_4), cell_later hd9 (cell_later hc9 K_aX_5), cell_later hd9 (cell_later hc9 K_aX_6), cell_later hd9 (cell_later hc9 K_aX_7), cell_later hd9 (cell_later hc9 K_x0_0), cell_later hd9 (cell_later hc9 K_x0_1), cell_later hd9 (cell_later hc9 K_x0_2), cell_later hd9 (cell_later hc9 K_x0_3), cell_later hd9 (cell_later hc9 K_x0_4), cell_later hd9 (cell_later hc9 K_x0_5), cell_later hd9 (cell_later hc9 K_x0_6), cell_later hd9 (cell_later hc9 K_x0_7)⟩ | exact ⟨cell_later hc9 K_aX_0, cell_later hc9 K_aX_1, cell_later hc9 K_aX_2, cell_later hc9 K_aX_3, cell_later hc9 K_aX_4, cell_later hc9 K_aX_5, cell_later hc9 K_aX_6, cell_later hc9 K_aX_7, cell_later hc9 K_x0_0, cell_later hc9 K_x0_1, cell_later hc9 K_x0_2, cell_later hc9 K_x0_3, cell_later hc9 K_x0_4, cell_later hc9 K_x0_5, cell_later hc9 K_x0_6, cell_later hc9 K_x0_7⟩ | go_keep)
    (first | (go_at_call 9; refine (toNode_c (r0.below (by repeat (first | (with_reducible exact H8.out) | refine Below.alloc ?_ (by have := H8.out.size; simp; try omega) _ | refine Below.drew ?_)))).mono ?_; rintro e u9 ⟨cs9, rfl, O9, hc9⟩; obtain ⟨t9v0, t9v2, t9v3, t9v4, t9v5, t9v6, rfl, t9_0, t9_1, t9_2, t9_3, t9_4, t9_5, t9_6, t9_7, t9_8⟩ := RNode_raw O9.raw; obtain ⟨t9a0, t9p0, t9h0, _⟩ := Rep.len_raw t9_0; obtain rfl : t9v0 = _ := (by simpa using t9h0); clear t9h0; obtain ⟨t9a2, t9p2, t9h2, _⟩ := Rep.len_raw t9_3; obtain rfl : t9v2 = _ := (by simpa using t9h2); clear t9h2; obtain ⟨t9a3, t9p3, t9h3, _⟩ := Rep.len_raw t9_4; obtain rfl : t9v3 = _ := (by simpa using t9h3); clear t9h3; obtain ⟨t9a4, t9p4, t9h4, _⟩ := Rep.len_raw t9_5; obtain rfl : t9v4 = _ := (by simpa using t9h4); clear t9h4; obtain ⟨t9a5, t9p5, t9h5, _⟩ := Rep.len_raw t9_6; obtain rfl : t9v5 = _ := (by simpa using t9h5); clear t9h5; obtain ⟨t9a6, t9p6, t9h6, _⟩ := Rep.len_raw t9_7; obtain rfl : t9v6 = _ := (by simpa using t9h6); clear t9h6; clear t9_0 t9_1 t9_2 t9_3 t9_4 t9_5 t9_6 t9_7 t9_8) | (go_at_call 13; refine (eqNode_c (O_x0_8.out.raw.below (Below.trans (by repeat (first | (with_reducible exact Below.refl _ _) | refine Below.alloc ?_ (by simp; try omega) _ | refine Below.drew ?_)) (hc9.mono (by simp)))) O9.raw).mono ?_; rintro e w9 ⟨rfl, hd9⟩))
  have hb9 := hc9.trans (hd9.mono hc9.size); clear hc9 hd9 O9
  have D9 : Below w8.heap.size w8 w9 := Below.trans (by repeat (first | (with_reducible exact Below.refl _ _) | refine Below.alloc ?_ (by simp; try omega) _ | refine Below.drew ?_)) (hb9.mono (by first | (simp; done) | (simp; omega)))
  have H9 := Lib.hid (H8.out.trans (D9.mono H8.out.size))
  have L9 := Lib.hid (show w8.heap.size + 0 ≤ w9.heap.size from by have h := hb9.size; (try simp at h); omega)
  have X_aX_9 := Lib.hid (keepBox X_aX_8.out D9); clear X_aX_8
  have X_aT_9 := Lib.hid (keepBox X_aT_8.out D9); clear X_aT_8
  have X_aY_9 := Lib.hid (keepBox X_aY_8.out D9); clear X_aY_8
  have X_x0_9 := Lib.hid (keepBox X_x0_8.out D9); clear X_x0_8
  have X_x1_9 := Lib.hid (keepBox X_x1_8.out D9); clear X_x1_8
  have X_x2_9 := Lib.hid (keepBox X_x2_8.out D9); clear X_x2_8
  have O_x0_9 := Lib.hid (O_x0_8.out.below D9); clear O_x0_8
  have O_x1_9 := Lib.hid (O_x1_8.out.below D9); clear O_x1_8
  have O_x2_9 := Lib.hid (O_x2_8.out.below D9); clear O_x2_8
  clear D9 K_aX_0 K_aX_1 K_aX_2 K_aX_3 K_aX_4 K_aX_5 K_aX_6 K_aX_7 K_x0_0 K_x0_1 K_x0_2 K_x0_3 K_x0_4 K_x0_5 K_x0_6 K_x0_7 hb9
  have K_aT_0 := boxCell X_aT_9.out (j := 0) (v := a1v0) rfl
  have K_aT_1 := boxCell X_aT_9.out (j := 1) (v := a1v1) rfl
  have K_aT_2 := boxCell X_aT_9.out (j := 2) (v := a1v2) rfl
  have K_aT_3 := boxCell X_aT_9.out (j := 3) (v := a1v3) rfl
  have K_x1_0 := boxCell X_x1_9.out (j := 0) (v := .slice t6a0 (x1.1).length t6p0) rfl
  have K_x1_1 := boxCell X_x1_9.out (j := 1) (v := .slice t6a1 (x1.2.1).length t6p1) rfl
  have K_x1_2 := boxCell X_x1_9.out (j := 2) (v := .slice t6a2 (x1.2.2.1).length t6p2) rfl
  have K_x1_3 := boxCell X_x1_9.out (j := 3) (v := .slice t6a3 (x1.2.2.2).length t6p3) rfl
  go_wp2_with fail
  go_region_held3 (fun W => W.cell? ⟨w.heap.size + 1, 0, none⟩ = some (a1v0) ∧ W.cell? ⟨w.heap.size + 1, 1, none⟩ = some (a1v1) ∧ W.cell? ⟨w.heap.size + 1, 2, none⟩ = some (a1v2) ∧ W.cell? ⟨w.heap.size + 1, 3, none⟩ = some (a1v3) ∧ W.cell? ⟨w6.heap.size, 0, none⟩ = some (.slice t6a0 (x1.1).length t6p0) ∧ W.cell? ⟨w6.heap.size, 1, none⟩ = some (.slice t6a1 (x1.2.1).length t6p1) ∧ W.cell? ⟨w6.heap.size, 2, none⟩ = some (.slice t6a2 (x1.2.2.1).length t6p2) ∧ W.cell? ⟨w6.heap.size, 3, none⟩ = some (.slice t6a3 (x1.2.2.2).length t6p3)) (first | exact ⟨cell_later hd10 (cell_later hc10 K_aT_0), cell_later hd10 (cell_later hc10 K_aT_1), cell_later hd10 (cell_later hc10 K_aT_2), cell_later hd10 (cell_later hc10 K_aT_3), cell_later hd10 (cell_later hc10 K_x1_0), cell_later hd10 (cell_later hc10 K_x1_1), cell_later hd10 (cell_later hc10 K_x1_2), cell_later hd10 (cell_later hc10 K_x1_3)⟩ | exact ⟨cell_later hc10 K_aT_0, cell_later hc10 K_aT_1, cell_later hc10 K_aT_2, cell_later hc10 K_aT_3, cell_later hc10 K_x1_0, cell_later hc10 K_x1_1, cell_later hc10 K_x1_2, cell_later hc10 K_x1_3⟩ | go_keep)
    (first | (go_at_call 10; refine (toTrustPolicy_c (r1.below (by repeat (first | (with_reducible exact H9.out) | refine Below.alloc ?_ (by have := H9.out.size; simp; try omega) _ | refine Below.drew ?_)))).mono ?_; rintro e u10 ⟨cs10, rfl, O10, hc10⟩; obtain ⟨t10v0, t10v1, t10v2, t10v3, rfl, t10_0, t10_1, t10_2, t10_3⟩ := RTrustPolicy_raw O10.raw; obtain ⟨t10a0, t10p0, t10h0, _⟩ := Rep.len_raw t10_0; obtain rfl : t10v0 = _ := (by simpa using t10h0); clear t10h0; obtain ⟨t10a1, t10p1, t10h1, _⟩ := Rep.len_raw t10_1; obtain rfl : t10v1 = _ := (by simpa using t10h1); clear t10h1; obtain ⟨t10a2, t10p2, t10h2, _⟩ := Rep.len_raw t10_2; obtain rfl : t10v2 = _ := (by simpa using t10h2); clear t10h2; obtain ⟨t10a3, t10p3, t10h3, _⟩ := Rep.len_raw t10_3; obtain rfl : t10v3 = _ := (by simpa using t10h3); clear t10h3; clear t10_0 t10_1 t10_2 t10_3) | (go_at_call 14; refine (eqTrustPolicy_c (O_x1_9.out.raw.below (Below.trans (by repeat (first | (with_reducible exact Below.refl _ _) | refine Below.alloc ?_ (by simp; try omega) _ | refine Below.drew ?_)) (hc10.mono (by simp)))) O10.raw).mono ?_; rintro e w10 ⟨rfl, hd10⟩))
  have hb10 := hc10.trans (hd10.mono hc10.size); clear hc10 hd10 O10
  have D10 : Below w9.heap.size w9 w10 := Below.trans (by repeat (first | (with_reducible exact Below.refl _ _) | refine Below.alloc ?_ (by simp; try omega) _ | refine Below.drew ?_)) (hb10.mono (by first | (simp; done) | (simp; omega)))
  have H10 := Lib.hid (H9.out.trans (D10.mono H9.out.size))
  have L10 := Lib.hid (show w9.heap.size + 0 ≤ w10.heap.size from by have h := hb10.size; (try simp at h); omega)
  have X_aX_10 := Lib.hid (keepBox X_aX_9.out D10); clear X_aX_9
  have X_aT_10 := Lib.hid (keepBox X_aT_9.out D10); clear X_aT_9
  have X_aY_10 := Lib.hid (keepBox X_aY_9.out D10); clear X_aY_9
  have X_x0_10 := Lib.hid (keepBox X_x0_9.out D10); clear X_x0_9
  have X_x1_10 := Lib.hid (keepBox X_x1_9.out D10); clear X_x1_9
  have X_x2_10 := Lib.hid (keepBox X_x2_9.out D10); clear X_x2_9
  have O_x0_10 := Lib.hid (O_x0_9.out.below D10); clear O_x0_9
  have O_x1_10 := Lib.hid (O_x1_9.out.below D10); clear O_x1_9
  have O_x2_10 := Lib.hid (O_x2_9.out.below D10); clear O_x2_9
  clear D10 K_aT_0 K_aT_1 K_aT_2 K_aT_3 K_x1_0 K_x1_1 K_x1_2 K_x1_3 hb10
  have K_aY_0 := boxCell X_aY_10.out (j := 0) (v := a2v0) rfl
  have K_aY_1 := boxCell X_aY_10.out (j := 1) (v := a2v1) rfl
  have K_aY_2 := boxCell X_aY_10.out (j := 2) (v := a2v2) rfl
  have K_aY_3 := boxCell X_aY_10.out (j := 3) (v := .int .i64 x2.2.2.2.1) rfl
  have K_aY_4 := boxCell X_aY_10.out (j := 4) (v := .int .i64 x2.2.2.2.2) rfl
  have K_x2_0 := boxCell X_x2_10.out (j := 0) (v := .slice t7a0 (x2.1).length t7p0) rfl
  have K_x2_1 := boxCell X_x2_10.out (j := 1) (v := .slice t7a1 (x2.2.1).length t7p1) rfl
  have K_x2_2 := boxCell X_x2_10.out (j := 2) (v := .slice t7a2 (x2.2.2.1).length t7p2) rfl
  have K_x2_3 := boxCell X_x2_10.out (j := 3) (v := .int .i64 x2.2.2.2.1) rfl
  have K_x2_4 := boxCell X_x2_10.out (j := 4) (v := .int .i64 x2.2.2.2.2) rfl
  go_wp2_with fail
  go_region_held3 (fun W => W.cell? ⟨w.heap.size + 1 + 1, 0, none⟩ = some (a2v0) ∧ W.cell? ⟨w.heap.size + 1 + 1, 1, none⟩ = some (a2v1) ∧ W.cell? ⟨w.heap.size + 1 + 1, 2, none⟩ = some (a2v2) ∧ W.cell? ⟨w.heap.size + 1 + 1, 3, none⟩ = some (.int .i64 x2.2.2.2.1) ∧ W.cell? ⟨w.heap.size + 1 + 1, 4, none⟩ = some (.int .i64 x2.2.2.2.2) ∧ W.cell? ⟨w7.heap.size, 0, none⟩ = some (.slice t7a0 (x2.1).length t7p0) ∧ W.cell? ⟨w7.heap.size, 1, none⟩ = some (.slice t7a1 (x2.2.1).length t7p1) ∧ W.cell? ⟨w7.heap.size, 2, none⟩ = some (.slice t7a2 (x2.2.2.1).length t7p2) ∧ W.cell? ⟨w7.heap.size, 3, none⟩ = some (.int .i64 x2.2.2.2.1) ∧ W.cell? ⟨w7.heap.size, 4, none⟩ = some (.int .i64 x2.2.2.2.2)) (first | exact ⟨cell_later hd11 (cell_later hc11 K_aY_0), cell_later hd11 (cell_later hc11 K_aY_1), cell_later hd11 (cell_later hc11 K_aY_2), cell_later hd11 (cell_later hc11 K_aY_3), cell_later hd11 (cell_later hc11 K_aY_4), cell_later hd11 (cell_later hc11 K_x2_0), cell_later hd11 (cell_later hc11 K_x2_1), cell_later hd11 (cell_later hc11 K_x2_2), cell_later hd11 (cell_later hc11 K_x2_3), cell_later hd11 (cell_later hc11 K_x2_4)⟩ | exact ⟨cell_later hc11 K_aY_0, cell_later hc11 K_aY_1, cell_later hc11 K_aY_2, cell_later hc11 K_aY_3, cell_later hc11 K_aY_4, cell_later hc11 K_x2_0, cell_later hc11 K_x2_1, cell_later hc11 K_x2_2, cell_later hc11 K_x2_3, cell_later hc11 K_x2_4⟩ | go_keep)
    (first | (go_at_call 11; refine (toData_c (r2.below (by repeat (first | (with_reducible exact H10.out) | refine Below.alloc ?_ (by have := H10.out.size; simp; try omega) _ | refine Below.drew ?_)))).mono ?_; rintro e u11 ⟨cs11, rfl, O11, hc11⟩; obtain ⟨t11v0, t11v1, t11v2, rfl, t11_0, t11_1, t11_2, t11_3, t11_4, t11_5, t11_6⟩ := RData_raw O11.raw; obtain ⟨t11a0, t11p0, t11h0, _⟩ := Rep.len_raw t11_1; obtain rfl : t11v0 = _ := (by simpa using t11h0); clear t11h0; obtain ⟨t11a1, t11p1, t11h1, _⟩ := Rep.len_raw t11_2; obtain rfl : t11v1 = _ := (by simpa using t11h1); clear t11h1; obtain ⟨t11a2, t11p2, t11h2, _⟩ := Rep.len_raw t11_4; obtain rfl : t11v2 = _ := (by simpa using t11h2); clear t11h2; clear t11_0 t11_1 t11_2 t11_3 t11_4 t11_5 t11_6) | (go_at_call 15; refine (eqData_c (O_x2_10.out.raw.below (Below.trans (by repeat (first | (with_reducible exact Below.refl _ _) | refine Below.alloc ?_ (by simp; try omega) _ | refine Below.drew ?_)) (hc11.mono (by simp)))) O11.raw).mono ?_; rintro e w11 ⟨rfl, hd11⟩))
  have hb11 := hc11.trans (hd11.mono hc11.size); clear hc11 hd11 O11
  have D11 : Below w10.heap.size w10 w11 := Below.trans (by repeat (first | (with_reducible exact Below.refl _ _) | refine Below.alloc ?_ (by simp; try omega) _ | refine Below.drew ?_)) (hb11.mono (by first | (simp; done) | (simp; omega)))
  have H11 := Lib.hid (H10.out.trans (D11.mono H10.out.size))
  have L11 := Lib.hid (show w10.heap.size + 0 ≤ w11.heap.size from by have h := hb11.size; (try simp at h); omega)
  have X_aX_11 := Lib.hid (keepBox X_aX_10.out D11); clear X_aX_10
  have X_aT_11 := Lib.hid (keepBox X_aT_10.out D11); clear X_aT_10
  have X_aY_11 := Lib.hid (keepBox X_aY_10.out D11); clear X_aY_10
  have X_x0_11 := Lib.hid (keepBox X_x0_10.out D11); clear X_x0_10
  have X_x1_11 := Lib.hid (keepBox X_x1_10.out D11); clear X_x1_10
  have X_x2_11 := Lib.hid (keepBox X_x2_10.out D11); clear X_x2_10
  have O_x0_11 := Lib.hid (O_x0_10.out.below D11); clear O_x0_10
  have O_x1_11 := Lib.hid (O_x1_10.out.below D11); clear O_x1_10
  have O_x2_11 := Lib.hid (O_x2_10.out.below D11); clear O_x2_10
  clear D11 K_aY_0 K_aY_1 K_aY_2 K_aY_3 K_aY_4 K_x2_0 K_x2_1 K_x2_2 K_x2_3 K_x2_4 hb11
  go_wp2
  go_ret
  exact ⟨rfl, H11.out⟩

set_option maxRecDepth 100000 in
theorem lawIsSolicited_lifted (os : Os) (started : os.Started) (H : Type) (enc : TypeId × Value → H) :
    ReturnsInHanded {} Tryz.checked os 3 .any (Rows.fnExactIsSolicitedSpec.pre6 enc Tryz.prog Tryz.f3 Rows.fnExactIsSolicitedRow.domain false) (Rows.fnExactIsSolicitedSpec.post enc Tryz.prog Tryz.f3 false true false false) := by
  refine returnsInHanded_of_change (C := Tryz.checked) law_own started (by kernel_rfl) Tryz.func3
    (ChangeSpec.witness6 (enc := enc) (C := Tryz.checked) false ⟨#[], #[.agg #[.slice none 0 0, .int .i64 0, .slice none 0 0, .slice none 0 0, .slice none 0 0, .slice none 0 0, .slice none 0 0, .int .i64 0], .agg #[.slice none 0 0, .slice none 0 0, .slice none 0 0, .slice none 0 0], .agg #[.slice none 0 0, .slice none 0 0, .slice none 0 0, .int .i64 0, .int .i64 0], .int .i64 0], []⟩ 8 (by kernel_rfl) (by kernel_rfl) (by kernel_rfl) (by kernel_rfl)) ?_
  intro W base args ds gs before hval0 hW _ _
  have hval : ∀ (j : Nat) t v, Tryz.f3.params[j]? = some t → args[j]? = some v → Value.okWide Tryz.prog W .any base t v := hval0
  have hW0 : DataW.Whole enc Tryz.prog Tryz.f3.params.toList Rows.fnExactIsSolicitedSpec.vars false W args.toList ds gs before := hW
  obtain ⟨p, q, hA0, hV, rfl, hfz, hnd⟩ := hW
  have hA : DataW.TrodAll enc Tryz.prog W 0 (fun _ => true) true Tryz.f3.params.toList args.toList ds p := hA0
  rw [Tryz.params3] at hA hval
  obtain ⟨v0, vs0, d0, ds0, p0, q0, hargs, rfl, rfl, g0, s0⟩ := trodAll_cons hA
  obtain ⟨v1, vs1, d1, ds1, p1, q1, rfl, rfl, rfl, g1, s1⟩ := trodAll_cons s0
  obtain ⟨v2, vs2, d2, ds2, p2, q2, rfl, rfl, rfl, g2, s2⟩ := trodAll_cons s1
  obtain ⟨v3, vs3, d3, ds3, p3, q3, rfl, rfl, rfl, g3, s3⟩ := trodAll_cons s2
  obtain ⟨rfl, rfl, rfl⟩ := trodAll_nil s3
  obtain rfl : args = #[v0, v1, v2, v3] := by cases args; simp_all
  obtain ⟨rfl, rfl⟩ := trodVars_none hV
  obtain ⟨c0, rfl⟩ : ∃ c : List Value, v0 = .agg c.toArray := by
    have h := hval 0 31 v0 rfl rfl
    unfold Value.okWide at h
    rw [Tryz.underlying31] at h
    obtain ⟨cs, rfl, _⟩ := h
    exact ⟨cs.toList, by simp⟩
  obtain ⟨fu0, hf0⟩ := g0
  obtain ⟨x0, h0⟩ := bridge_Node (w := W) hf0
  have h0 : RNode.raw W c0 x0 := by simpa [Value.cells] using h0
  obtain ⟨c1, rfl⟩ : ∃ c : List Value, v1 = .agg c.toArray := by
    have h := hval 1 36 v1 rfl rfl
    unfold Value.okWide at h
    rw [Tryz.underlying36] at h
    obtain ⟨cs, rfl, _⟩ := h
    exact ⟨cs.toList, by simp⟩
  obtain ⟨fu1, hf1⟩ := g1
  obtain ⟨x1, h1⟩ := bridge_TrustPolicy (w := W) hf1
  have h1 : RTrustPolicy.raw W c1 x1 := by simpa [Value.cells] using h1
  obtain ⟨c2, rfl⟩ : ∃ c : List Value, v2 = .agg c.toArray := by
    have h := hval 2 42 v2 rfl rfl
    unfold Value.okWide at h
    rw [Tryz.underlying42] at h
    obtain ⟨cs, rfl, _⟩ := h
    exact ⟨cs.toList, by simp⟩
  obtain ⟨fu2, hf2⟩ := g2
  obtain ⟨x2, h2⟩ := bridge_Data (w := W) hf2
  have h2 : RData.raw W c2 x2 := by simpa [Value.cells] using h2
  obtain ⟨x3, rfl, rfl, rfl, e3⟩ := open_int Tryz.underlying3 (hval 3 3 v3 rfl rfl) g3
  have h3 : -9223372036854775808 ≤ x3 ∧ x3 ≤ 9223372036854775807 := by simpa [Lit.wf, IntKind.min, IntKind.max, IntKind.signed, IntKind.bits] using e3
  refine (lawIsSolicited_c h0 h1 h2 h3).mono fun e W' ⟨he, hb⟩ => ?_
  subst he
  refine ⟨_, rfl, law_post (tb := 4) hW0 rfl rfl Tryz.underlying4 ⟨rfl, rfl, rfl⟩ ?_ hb⟩
  rw [Tryz.params3]
  intro t ht
  have hall : ([31, 36, 42, 3].all fun t => Tryz.prog.readableRec t && decide (t < Tryz.prog.types.size)) = true := by kernel_rfl
  have h1 := List.all_eq_true.1 hall t ht
  simpa using h1

theorem lawIsSolicited_holds : Rows.FnExactIsSolicitedSaid :=
  OpenClaim.holds_of_wide 3 Tryz.f3 rfl rfl rfl rfl rfl rfl rfl ⟨rfl, rfl, rfl, rfl, rfl⟩ rfl rfl rfl rfl rfl (by kernel_rfl) Tryz.func3 (by kernel_rfl)
    (of_decide_eq_true (by kernel_rfl)) (by unfold Func.isWrapper; first | (rw [if_pos (by decide +kernel)]; kernel_rfl) | (rw [if_neg (by decide +kernel)]; exact ⟨rfl, rfl⟩))
    (fun os started H enc _ => lawIsSolicited_lifted os started H enc)
end Go.Proofs.YtlfblpgkegeaeaaGreat

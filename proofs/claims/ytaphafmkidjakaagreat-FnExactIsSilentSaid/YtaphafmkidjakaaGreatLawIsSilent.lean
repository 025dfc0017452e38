/-
  The law FnExactIsSilent, walked: it returns true, whatever its arguments; then its statement. Printed by genlaw.py.
-/
import Derived.Test.YtaphafmkidjakaaGreatEq
import Derived.Test.YtaphafmkidjakaaGreatSz
import Derived.Test.YtaphafmkidjakaaGreatTo
import Derived.Test.YtaphafmkidjakaaGreatBridge
import Derived.Test.YtaphafmkidjakaaGreatSilent
import Derived.Test.YtaphafmkidjakaaGreatSoftT
import Derived.Deep.RegionHeld3
namespace Go.Proofs.YtaphafmkidjakaaGreat
open Go.ChangeShapes Go.WideShapes Go.ChangeAt Go.RowKit
set_option linter.unusedVariables false
set_option linter.unusedSimpArgs false
set_option linter.unnecessarySimpa false
set_option maxRecDepth 100000 in
set_option maxHeartbeats 4000000 in
theorem lawIsSilent_c {w : World} {c0 : List Value} {x0 : LAction} (h0 : RAction.raw w c0 x0) {c1 : List Value} {x1 : LNode} (h1 : RNode.raw w c1 x1) :
    Calls Tryz.prog 4 #[.agg c0.toArray, .agg c1.toArray] w (LawPost w) := by
  obtain ⟨a0v0, a0v2, a0v3, a0v4, a0v5, a0v6, a0v8, rfl, a0_0, a0_1, a0_2, a0_3, a0_4, a0_5, a0_6, a0_7, a0_8, a0_9, a0_10⟩ := RAction_raw h0
  clear a0_0 a0_1 a0_2 a0_3 a0_4 a0_5 a0_6 a0_7 a0_8 a0_9 a0_10
  obtain ⟨a1v0, a1v2, a1v3, a1v4, a1v5, a1v6, rfl, a1_0, a1_1, a1_2, a1_3, a1_4, a1_5, a1_6, a1_7, a1_8⟩ := RNode_raw h1
  clear a1_0 a1_1 a1_2 a1_3 a1_4 a1_5 a1_6 a1_7 a1_8
  go_enter Tryz.func4, Tryz.ntmps4
  go_wp2_with fail
  refine (szAction_c (h0.below (by repeat (first | (with_reducible exact Below.refl _ _) | refine Below.alloc ?_ (by simp; try omega) _ | refine Below.drew ?_))) (by omega) (by omega)).mono ?_
  rintro e w1 ⟨s1, rfl, p1, q1, g1, hb1⟩
  have G1 := Lib.hid g1; clear g1
  have D1 : Below w.heap.size w w1 := Below.trans (by repeat (first | (with_reducible exact Below.refl _ _) | refine Below.alloc ?_ (by simp; try omega) _ | refine Below.drew ?_)) (hb1.mono (by first | (simp; done) | (simp; omega)))
  have H1 := Lib.hid D1
  have L1 := Lib.hid (show w.heap.size + 2 ≤ w1.heap.size from by have h := hb1.size; (try simp at h); omega)
  have X_aA_1 : Hid (w1.heap[w.heap.size]? = some (.cells #[a0v0, .int .i64 x0.1.2.1.1, a0v2, a0v3, a0v4, a0v5, a0v6, .int .i64 x0.1.2.2.2.2.2.2, a0v8] 49 (0, 0))) := Lib.hid ((hb1.block (w.heap.size) (by first | (simp; done) | (simp; omega))).trans (heap_keep (heap_new_at (by simp))))
  have X_aX_1 : Hid (w1.heap[w.heap.size + 1]? = some (.cells #[a1v0, .int .i64 x1.2.1.1, a1v2, a1v3, a1v4, a1v5, a1v6, .int .i64 x1.2.2.2.2.2.2] 31 (0, 0))) := Lib.hid ((hb1.block (w.heap.size + 1) (by first | (simp; done) | (simp; omega))).trans (heap_new_at (by simp)))
  clear D1 hb1
  by_cases m1 : s1 < 0
  · go_wp2
    go_ret
    exact ⟨rfl, H1.out⟩
  have z1 : 0 ≤ s1 := by omega
  have r0 : RAction.rd w _ x0 := ⟨h0, RAction.bdd_mono (G1.out z1) (by decide)⟩
  have K_aX_0 := boxCell X_aX_1.out (j := 0) (v := a1v0) rfl
  have K_aX_1 := boxCell X_aX_1.out (j := 1) (v := .int .i64 x1.2.1.1) rfl
  have K_aX_2 := boxCell X_aX_1.out (j := 2) (v := a1v2) rfl
  have K_aX_3 := boxCell X_aX_1.out (j := 3) (v := a1v3) rfl
  have K_aX_4 := boxCell X_aX_1.out (j := 4) (v := a1v4) rfl
  have K_aX_5 := boxCell X_aX_1.out (j := 5) (v := a1v5) rfl
  have K_aX_6 := boxCell X_aX_1.out (j := 6) (v := a1v6) rfl
  have K_aX_7 := boxCell X_aX_1.out (j := 7) (v := .int .i64 x1.2.2.2.2.2.2) rfl
  go_wp2_with fail
  refine (szNode_c (h1.below (by repeat (first | (with_reducible exact H1.out) | refine Below.alloc ?_ (by have := H1.out.size; simp; try omega) _ | refine Below.drew ?_))) z1 (by omega)).mono ?_
  rintro e w2 ⟨s2, rfl, p2, q2, g2, hb2⟩
  have G2 := Lib.hid g2; clear g2
  have D2 : Below w1.heap.size w1 w2 := Below.trans (by repeat (first | (with_reducible exact Below.refl _ _) | refine Below.alloc ?_ (by simp; try omega) _ | refine Below.drew ?_)) (hb2.mono (by first | (simp; done) | (simp; omega)))
  have H2 := Lib.hid (H1.out.trans (D2.mono H1.out.size))
  have L2 := Lib.hid (show w1.heap.size + 0 ≤ w2.heap.size from by have h := hb2.size; (try simp at h); omega)
  have X_aA_2 := Lib.hid (keepBox X_aA_1.out D2); clear X_aA_1
  have X_aX_2 := Lib.hid (keepBox X_aX_1.out D2); clear X_aX_1
  clear D2 K_aX_0 K_aX_1 K_aX_2 K_aX_3 K_aX_4 K_aX_5 K_aX_6 K_aX_7 hb2
  by_cases m2 : s2 < 0
  · go_wp2
    go_ret
    exact ⟨rfl, H2.out⟩
  have z2 : 0 ≤ s2 := by omega
  have r1 : RNode.rd w _ x1 := ⟨h1, RNode.bdd_mono (G2.out z2) (by decide)⟩
  have K_aA_0 := boxCell X_aA_2.out (j := 0) (v := a0v0) rfl
  have K_aA_1 := boxCell X_aA_2.out (j := 1) (v := .int .i64 x0.1.2.1.1) rfl
  have K_aA_2 := boxCell X_aA_2.out (j := 2) (v := a0v2) rfl
  have K_aA_3 := boxCell X_aA_2.out (j := 3) (v := a0v3) rfl
  have K_aA_4 := boxCell X_aA_2.out (j := 4) (v := a0v4) rfl
  have K_aA_5 := boxCell X_aA_2.out (j := 5) (v := a0v5) rfl
  have K_aA_6 := boxCell X_aA_2.out (j := 6) (v := a0v6) rfl
  have K_aA_7 := boxCell X_aA_2.out (j := 7) (v := .int .i64 x0.1.2.2.2.2.2.2) rfl
  have K_aA_8 := boxCell X_aA_2.out (j := 8) (v := a0v8) rfl
  have K_aX_0 := boxCell X_aX_2.out (j := 0) (v := a1v0) rfl
  have K_aX_1 := boxCell X_aX_2.out (j := 1) (v := .int .i64 x1.2.1.1) rfl
  have K_aX_2 := boxCell X_aX_2.out (j := 2) (v := a1v2) rfl
  have K_aX_3 := boxCell X_aX_2.out (j := 3) (v := a1v3) rfl
  have K_aX_4 := boxCell X_aX_2.out (j := 4) (v := a1v4) rfl
  have K_aX_5 := boxCell X_aX_2.out (j := 5) (v := a1v5) rfl
  have K_aX_6 := boxCell X_aX_2.out (j := 6) (v := a1v6) rfl
  have K_aX_7 := boxCell X_aX_2.out (j := 7) (v := .int .i64 x1.2.2.2.2.2.2) rfl
  go_wp2_with fail
  refine wp_region_softP (fun W => Below w2.heap.size w2 W) [(0, true), (2, true), (1, false), (3, false), (4, false), (5, true)] (by kernel_rfl) (by kernel_rfl) (fun c a d v w h => by cases d <;> exact h) ((Below.refl _ _).drew) ?_
  intro wS HS
  simp only [pickOps, List.getElem?_cons_succ, List.getElem?_cons_zero, List.map_cons, List.map_nil]
  all_goals first | (refine soft_pass rfl HS ?_) | (refine soft_read (v := ?_) rfl (fun W hW => ?_) ?_; rotate_left; (· have A_K_aA_0 := cell_later hW K_aA_0; have A_K_aA_1 := cell_later hW K_aA_1; have A_K_aA_2 := cell_later hW K_aA_2; have A_K_aA_3 := cell_later hW K_aA_3; have A_K_aA_4 := cell_later hW K_aA_4; have A_K_aA_5 := cell_later hW K_aA_5; have A_K_aA_6 := cell_later hW K_aA_6; have A_K_aA_7 := cell_later hW K_aA_7; have A_K_aA_8 := cell_later hW K_aA_8; have A_K_aX_0 := cell_later hW K_aX_0; have A_K_aX_1 := cell_later hW K_aX_1; have A_K_aX_2 := cell_later hW K_aX_2; have A_K_aX_3 := cell_later hW K_aX_3; have A_K_aX_4 := cell_later hW K_aX_4; have A_K_aX_5 := cell_later hW K_aX_5; have A_K_aX_6 := cell_later hW K_aX_6; have A_K_aX_7 := cell_later hW K_aX_7; clear hW; go_simp; try with_reducible rfl))
  all_goals try simp only [Act.put, List.setIfInBounds_toArray, List.set_cons_zero, List.set_cons_succ]
  all_goals first | (refine soft_pass rfl HS ?_) | (refine soft_read (v := ?_) rfl (fun W hW => ?_) ?_; rotate_left; (· have A_K_aA_0 := cell_later hW K_aA_0; have A_K_aA_1 := cell_later hW K_aA_1; have A_K_aA_2 := cell_later hW K_aA_2; have A_K_aA_3 := cell_later hW K_aA_3; have A_K_aA_4 := cell_later hW K_aA_4; have A_K_aA_5 := cell_later hW K_aA_5; have A_K_aA_6 := cell_later hW K_aA_6; have A_K_aA_7 := cell_later hW K_aA_7; have A_K_aA_8 := cell_later hW K_aA_8; have A_K_aX_0 := cell_later hW K_aX_0; have A_K_aX_1 := cell_later hW K_aX_1; have A_K_aX_2 := cell_later hW K_aX_2; have A_K_aX_3 := cell_later hW K_aX_3; have A_K_aX_4 := cell_later hW K_aX_4; have A_K_aX_5 := cell_later hW K_aX_5; have A_K_aX_6 := cell_later hW K_aX_6; have A_K_aX_7 := cell_later hW K_aX_7; clear hW; go_simp; try with_reducible rfl))
  all_goals try simp only [Act.put, List.setIfInBounds_toArray, List.set_cons_zero, List.set_cons_succ]
  all_goals first | (refine soft_pass rfl HS ?_) | (refine soft_do rfl (fun K hK => ?_); go_simp; refine (toAction_c (r0.below (H2.out.trans (HS.mono H2.out.size)))).mono ?_; rintro e u3_0 ⟨cs3_0, rfl, O3_0, hc⟩; obtain ⟨t3_0v0, t3_0v2, t3_0v3, t3_0v4, t3_0v5, t3_0v6, t3_0v8, rfl, t3_0_0, t3_0_1, t3_0_2, t3_0_3, t3_0_4, t3_0_5, t3_0_6, t3_0_7, t3_0_8, t3_0_9, t3_0_10⟩ := RAction_raw O3_0.raw; obtain ⟨t3_0a0, t3_0p0, t3_0h0, _⟩ := Rep.len_raw t3_0_1; obtain rfl : t3_0v0 = _ := (by simpa using t3_0h0); clear t3_0h0; obtain ⟨t3_0a2, t3_0p2, t3_0h2, _⟩ := Rep.len_raw t3_0_4; obtain rfl : t3_0v2 = _ := (by simpa using t3_0h2); clear t3_0h2; obtain ⟨t3_0a3, t3_0p3, t3_0h3, _⟩ := Rep.len_raw t3_0_5; obtain rfl : t3_0v3 = _ := (by simpa using t3_0h3); clear t3_0h3; obtain ⟨t3_0a4, t3_0p4, t3_0h4, _⟩ := Rep.len_raw t3_0_6; obtain rfl : t3_0v4 = _ := (by simpa using t3_0h4); clear t3_0h4; obtain ⟨t3_0a5, t3_0p5, t3_0h5, _⟩ := Rep.len_raw t3_0_7; obtain rfl : t3_0v5 = _ := (by simpa using t3_0h5); clear t3_0h5; obtain ⟨t3_0a6, t3_0p6, t3_0h6, _⟩ := Rep.len_raw t3_0_8; obtain rfl : t3_0v6 = _ := (by simpa using t3_0h6); clear t3_0h6; obtain ⟨t3_0a8, t3_0p8, t3_0h8, _⟩ := Rep.len_raw t3_0_10; obtain rfl : t3_0v8 = _ := (by simpa using t3_0h8); clear t3_0h8; clear t3_0_0 t3_0_1 t3_0_2 t3_0_3 t3_0_4 t3_0_5 t3_0_6 t3_0_7 t3_0_8 t3_0_9 t3_0_10; replace HS := HS.trans (hc.mono HS.size); refine hK _ _ HS ?_; clear hK K hc)
  all_goals try simp only [Act.put, List.setIfInBounds_toArray, List.set_cons_zero, List.set_cons_succ]
  all_goals first | (refine soft_pass rfl HS ?_) | (refine soft_do rfl (fun K hK => ?_); go_simp; refine (toNode_c (r1.below (H2.out.trans (HS.mono H2.out.size)))).mono ?_; rintro e u3_1 ⟨cs3_1, rfl, O3_1, hc⟩; obtain ⟨t3_1v0, t3_1v2, t3_1v3, t3_1v4, t3_1v5, t3_1v6, rfl, t3_1_0, t3_1_1, t3_1_2, t3_1_3, t3_1_4, t3_1_5, t3_1_6, t3_1_7, t3_1_8⟩ := RNode_raw O3_1.raw; obtain ⟨t3_1a0, t3_1p0, t3_1h0, _⟩ := Rep.len_raw t3_1_0; obtain rfl : t3_1v0 = _ := (by simpa using t3_1h0); clear t3_1h0; obtain ⟨t3_1a2, t3_1p2, t3_1h2, _⟩ := Rep.len_raw t3_1_3; obtain rfl : t3_1v2 = _ := (by simpa using t3_1h2); clear t3_1h2; obtain ⟨t3_1a3, t3_1p3, t3_1h3, _⟩ := Rep.len_raw t3_1_4; obtain rfl : t3_1v3 = _ := (by simpa using t3_1h3); clear t3_1h3; obtain ⟨t3_1a4, t3_1p4, t3_1h4, _⟩ := Rep.len_raw t3_1_5; obtain rfl : t3_1v4 = _ := (by simpa using t3_1h4); clear t3_1h4; obtain ⟨t3_1a5, t3_1p5, t3_1h5, _⟩ := Rep.len_raw t3_1_6; obtain rfl : t3_1v5 = _ := (by simpa using t3_1h5); clear t3_1h5; obtain ⟨t3_1a6, t3_1p6, t3_1h6, _⟩ := Rep.len_raw t3_1_7; obtain rfl : t3_1v6 = _ := (by simpa using t3_1h6); clear t3_1h6; clear t3_1_0 t3_1_1 t3_1_2 t3_1_3 t3_1_4 t3_1_5 t3_1_6 t3_1_7 t3_1_8; replace O3_0 := O3_0.below hc; replace HS := HS.trans (hc.mono HS.size); refine hK _ _ HS ?_; clear hK K hc)
  all_goals try simp only [Act.put, List.setIfInBounds_toArray, List.set_cons_zero, List.set_cons_succ]
  all_goals first | (refine soft_pass rfl HS ?_) | (refine soft_do rfl (fun K hK => ?_); go_simp; refine (specIsSilent_c O3_0.rd O3_1.rd).mono ?_; rintro e w3 ⟨rfl, hc⟩; replace HS := HS.trans (hc.mono HS.size); refine hK _ _ HS ?_; clear hK K hc O3_0 O3_1)
  all_goals try simp only [Act.put, List.setIfInBounds_toArray, List.set_cons_zero, List.set_cons_succ]
  all_goals first | (refine soft_pass rfl HS ?_) | (refine soft_read (v := ?_) rfl (fun W hW => ?_) ?_; rotate_left; (· go_simp; try with_reducible rfl))
  all_goals try simp only [Act.put, List.setIfInBounds_toArray, List.set_cons_zero, List.set_cons_succ]
  all_goals refine soft_nil ?_
  have D3 : Below w2.heap.size w2 w3 := Below.trans (by repeat (first | (with_reducible exact Below.refl _ _) | refine Below.alloc ?_ (by simp; try omega) _ | refine Below.drew ?_)) (HS.mono (by first | (simp; done) | (simp; omega)))
  have H3 := Lib.hid (H2.out.trans (D3.mono H2.out.size))
  have L3 := Lib.hid (show w2.heap.size + 0 ≤ w3.heap.size from by have h := HS.size; (try simp at h); omega)
  have X_aA_3 := Lib.hid (keepBox X_aA_2.out D3); clear X_aA_2
  have X_aX_3 := Lib.hid (keepBox X_aX_2.out D3); clear X_aX_2
  clear D3 K_aA_0 K_aA_1 K_aA_2 K_aA_3 K_aA_4 K_aA_5 K_aA_6 K_aA_7 K_aA_8 K_aX_0 K_aX_1 K_aX_2 K_aX_3 K_aX_4 K_aX_5 K_aX_6 K_aX_7 HS
  have K_aA_0 := boxCell X_aA_3.out (j := 0) (v := a0v0) rfl
  have K_aA_1 := boxCell X_aA_3.out (j := 1) (v := .int .i64 x0.1.2.1.1) rfl
  have K_aA_2 := boxCell X_aA_3.out (j := 2) (v := a0v2) rfl
  have K_aA_3 := boxCell X_aA_3.out (j := 3) (v := a0v3) rfl
  have K_aA_4 := boxCell X_aA_3.out (j := 4) (v := a0v4) rfl
  have K_aA_5 := boxCell X_aA_3.out (j := 5) (v := a0v5) rfl
  have K_aA_6 := boxCell X_aA_3.out (j := 6) (v := a0v6) rfl
  have K_aA_7 := boxCell X_aA_3.out (j := 7) (v := .int .i64 x0.1.2.2.2.2.2.2) rfl
  have K_aA_8 := boxCell X_aA_3.out (j := 8) (v := a0v8) rfl
  go_wp2_with fail
  refine (toAction_c (r0.below (by repeat (first | (with_reducible exact H3.out) | refine Below.alloc ?_ (by have := H3.out.size; simp; try omega) _ | refine Below.drew ?_)))).mono ?_
  rintro e w4 ⟨cs4, rfl, O4, hb4⟩
  obtain ⟨t4v0, t4v2, t4v3, t4v4, t4v5, t4v6, t4v8, rfl, t4_0, t4_1, t4_2, t4_3, t4_4, t4_5, t4_6, t4_7, t4_8, t4_9, t4_10⟩ := RAction_raw O4.raw
  obtain ⟨t4a0, t4p0, t4h0, _⟩ := Rep.len_raw t4_1; obtain rfl : t4v0 = _ := (by simpa using t4h0)
  clear t4h0
  obtain ⟨t4a2, t4p2, t4h2, _⟩ := Rep.len_raw t4_4; obtain rfl : t4v2 = _ := (by simpa using t4h2)
  clear t4h2
  obtain ⟨t4a3, t4p3, t4h3, _⟩ := Rep.len_raw t4_5; obtain rfl : t4v3 = _ := (by simpa using t4h3)
  clear t4h3
  obtain ⟨t4a4, t4p4, t4h4, _⟩ := Rep.len_raw t4_6; obtain rfl : t4v4 = _ := (by simpa using t4h4)
  clear t4h4
  obtain ⟨t4a5, t4p5, t4h5, _⟩ := Rep.len_raw t4_7; obtain rfl : t4v5 = _ := (by simpa using t4h5)
  clear t4h5
  obtain ⟨t4a6, t4p6, t4h6, _⟩ := Rep.len_raw t4_8; obtain rfl : t4v6 = _ := (by simpa using t4h6)
  clear t4h6
  obtain ⟨t4a8, t4p8, t4h8, _⟩ := Rep.len_raw t4_10; obtain rfl : t4v8 = _ := (by simpa using t4h8)
  clear t4h8
  clear t4_0 t4_1 t4_2 t4_3 t4_4 t4_5 t4_6 t4_7 t4_8 t4_9 t4_10
  have Z4 := Lib.hid (O4.wide (T := Btw (w3.heap.size) (w4.heap.size)) (fun i hi => ⟨by have h := hi.1; (try simp at h); omega, hi.2⟩)); clear O4
  have D4 : Below w3.heap.size w3 w4 := Below.trans (by repeat (first | (with_reducible exact Below.refl _ _) | refine Below.alloc ?_ (by simp; try omega) _ | refine Below.drew ?_)) (hb4.mono (by first | (simp; done) | (simp; omega)))
  have H4 := Lib.hid (H3.out.trans (D4.mono H3.out.size))
  have L4 := Lib.hid (show w3.heap.size + 0 ≤ w4.heap.size from by have h := hb4.size; (try simp at h); omega)
  have X_aA_4 := Lib.hid (keepBox X_aA_3.out D4); clear X_aA_3
  have X_aX_4 := Lib.hid (keepBox X_aX_3.out D4); clear X_aX_3
  clear D4 K_aA_0 K_aA_1 K_aA_2 K_aA_3 K_aA_4 K_aA_5 K_aA_6 K_aA_7 K_aA_8 hb4
  have K_aX_0 := boxCell X_aX_4.out (j := 0) (v := a1v0) rfl
  have K_aX_1 := boxCell X_aX_4.out (j := 1) (v := .int .i64 x1.2.1.1) rfl
  have K_aX_2 := boxCell X_aX_4.out (j := 2) (v := a1v2) rfl
  have K_aX_3 := boxCell X_aX_4.out (j := 3) (v := a1v3) rfl
  have K_aX_4 := boxCell X_aX_4.out (j := 4) (v := a1v4) rfl
  have K_aX_5 := boxCell X_aX_4.out (j := 5) (v := a1v5) rfl
  have K_aX_6 := boxCell X_aX_4.out (j := 6) (v := a1v6) rfl
  have K_aX_7 := boxCell X_aX_4.out (j := 7) (v := .int .i64 x1.2.2.2.2.2.2) rfl
  have J_aX : w.heap.size + 1 < w4.heap.size := by have l1 := L1.out; have l2 := L2.out; have l3 := L3.out; have l4 := L4.out; omega
  go_wp2_with fail
  refine (toNode_c (r1.below (by repeat (first | (with_reducible exact H4.out) | refine Below.alloc ?_ (by have := H4.out.size; simp; try omega) _ | refine Below.drew ?_)))).mono ?_
  rintro e w5 ⟨cs5, rfl, O5, hb5⟩
  obtain ⟨t5v0, t5v2, t5v3, t5v4, t5v5, t5v6, rfl, t5_0, t5_1, t5_2, t5_3, t5_4, t5_5, t5_6, t5_7, t5_8⟩ := RNode_raw O5.raw
  obtain ⟨t5a0, t5p0, t5h0, _⟩ := Rep.len_raw t5_0; obtain rfl : t5v0 = _ := (by simpa using t5h0)
  clear t5h0
  obtain ⟨t5a2, t5p2, t5h2, _⟩ := Rep.len_raw t5_3; obtain rfl : t5v2 = _ := (by simpa using t5h2)
  clear t5h2
  obtain ⟨t5a3, t5p3, t5h3, _⟩ := Rep.len_raw t5_4; obtain rfl : t5v3 = _ := (by simpa using t5h3)
  clear t5h3
  obtain ⟨t5a4, t5p4, t5h4, _⟩ := Rep.len_raw t5_5; obtain rfl : t5v4 = _ := (by simpa using t5h4)
  clear t5h4
  obtain ⟨t5a5, t5p5, t5h5, _⟩ := Rep.len_raw t5_6; obtain rfl : t5v5 = _ := (by simpa using t5h5)
  clear t5h5
  obtain ⟨t5a6, t5p6, t5h6, _⟩ := Rep.len_raw t5_7; obtain rfl : t5v6 = _ := (by simpa using t5h6)
  clear t5h6
  clear t5_0 t5_1 t5_2 t5_3 t5_4 t5_5 t5_6 t5_7 t5_8
  have Z5 := Lib.hid (O5.wide (T := Btw (w4.heap.size + 1) (w5.heap.size)) (fun i hi => ⟨by have h := hi.1; (try simp at h); omega, hi.2⟩)); clear O5
  have D5 : Below w4.heap.size w4 w5 := Below.trans (by repeat (first | (with_reducible exact Below.refl _ _) | refine Below.alloc ?_ (by simp; try omega) _ | refine Below.drew ?_)) (hb5.mono (by first | (simp; done) | (simp; omega)))
  have H5 := Lib.hid (H4.out.trans (D5.mono H4.out.size))
  have L5 := Lib.hid (show w4.heap.size + 1 ≤ w5.heap.size from by have h := hb5.size; (try simp at h); omega)
  have X_aA_5 := Lib.hid (keepBox X_aA_4.out D5); clear X_aA_4
  have X_aX_5 := Lib.hid (keepBox X_aX_4.out D5); clear X_aX_4
  have X_x0_5 : Hid (w5.heap[w4.heap.size]? = some (.cells #[.slice t4a0 (x0.1.1).length t4p0, .int .i64 x0.1.2.1.1, .slice t4a2 (x0.1.2.1.2).length t4p2, .slice t4a3 (x0.1.2.2.1).length t4p3, .slice t4a4 (x0.1.2.2.2.1).length t4p4, .slice t4a5 (x0.1.2.2.2.2.1).length t4p5, .slice t4a6 (x0.1.2.2.2.2.2.1).length t4p6, .int .i64 x0.1.2.2.2.2.2.2, .slice t4a8 (x0.2).length t4p8] 54 (0, 0))) := Lib.hid ((hb5.block (w4.heap.size) (by first | (simp; done) | (simp; omega))).trans (heap_new_at (by simp)))
  have O_x0_5 := Lib.hid (Z4.out.below D5); clear Z4
  clear D5 K_aX_0 K_aX_1 K_aX_2 K_aX_3 K_aX_4 K_aX_5 K_aX_6 K_aX_7 J_aX hb5
  have K_x0_0 := boxCell X_x0_5.out (j := 0) (v := .slice t4a0 (x0.1.1).length t4p0) rfl
  have K_x0_1 := boxCell X_x0_5.out (j := 1) (v := .int .i64 x0.1.2.1.1) rfl
  have K_x0_2 := boxCell X_x0_5.out (j := 2) (v := .slice t4a2 (x0.1.2.1.2).length t4p2) rfl
  have K_x0_3 := boxCell X_x0_5.out (j := 3) (v := .slice t4a3 (x0.1.2.2.1).length t4p3) rfl
  have K_x0_4 := boxCell X_x0_5.out (j := 4) (v := .slice t4a4 (x0.1.2.2.2.1).length t4p4) rfl
  have K_x0_5 := boxCell X_x0_5.out (j := 5) (v := .slice t4a5 (x0.1.2.2.2.2.1).length t4p5) rfl
  have K_x0_6 := boxCell X_x0_5.out (j := 6) (v := .slice t4a6 (x0.1.2.2.2.2.2.1).length t4p6) rfl
  have K_x0_7 := boxCell X_x0_5.out (j := 7) (v := .int .i64 x0.1.2.2.2.2.2.2) rfl
  have K_x0_8 := boxCell X_x0_5.out (j := 8) (v := .slice t4a8 (x0.2).length t4p8) rfl
  have J_x0 : w4.heap.size < w5.heap.size := by have l5 := L5.out; omega
  go_wp2_with fail
  refine (implIsSilent_c (O_x0_5.out.rd.below (by repeat (first | (with_reducible exact Below.refl _ _) | refine Below.alloc ?_ (by simp; try omega) _ | refine Below.drew ?_))) (Z5.out.rd.below (by repeat (first | (with_reducible exact Below.refl _ _) | refine Below.alloc ?_ (by simp; try omega) _ | refine Below.drew ?_)))).mono ?_
  rintro e w6 ⟨rfl, hb6⟩
  have D6 : Below w5.heap.size w5 w6 := Below.trans (by repeat (first | (with_reducible exact Below.refl _ _) | refine Below.alloc ?_ (by simp; try omega) _ | refine Below.drew ?_)) (hb6.mono (by first | (simp; done) | (simp; omega)))
  have H6 := Lib.hid (H5.out.trans (D6.mono H5.out.size))
  have L6 := Lib.hid (show w5.heap.size + 1 ≤ w6.heap.size from by have h := hb6.size; (try simp at h); omega)
  have X_aA_6 := Lib.hid (keepBox X_aA_5.out D6); clear X_aA_5
  have X_aX_6 := Lib.hid (keepBox X_aX_5.out D6); clear X_aX_5
  have X_x0_6 := Lib.hid (keepBox X_x0_5.out D6); clear X_x0_5
  have X_x1_6 : Hid (w6.heap[w5.heap.size]? = some (.cells #[.slice t5a0 (x1.1).length t5p0, .int .i64 x1.2.1.1, .slice t5a2 (x1.2.1.2).length t5p2, .slice t5a3 (x1.2.2.1).length t5p3, .slice t5a4 (x1.2.2.2.1).length t5p4, .slice t5a5 (x1.2.2.2.2.1).length t5p5, .slice t5a6 (x1.2.2.2.2.2.1).length t5p6, .int .i64 x1.2.2.2.2.2.2] 43 (0, 0))) := Lib.hid ((hb6.block (w5.heap.size) (by first | (simp; done) | (simp; omega))).trans (heap_new_at (by simp)))
  have O_x0_6 := Lib.hid (O_x0_5.out.below D6); clear O_x0_5
  have O_x1_6 := Lib.hid (Z5.out.below D6); clear Z5
  clear D6 K_x0_0 K_x0_1 K_x0_2 K_x0_3 K_x0_4 K_x0_5 K_x0_6 K_x0_7 K_x0_8 J_x0 hb6
  have K_aA_0 := boxCell X_aA_6.out (j := 0) (v := a0v0) rfl
  have K_aA_1 := boxCell X_aA_6.out (j := 1) (v := .int .i64 x0.1.2.1.1) rfl
  have K_aA_2 := boxCell X_aA_6.out (j := 2) (v := a0v2) rfl
  have K_aA_3 := boxCell X_aA_6.out (j := 3) (v := a0v3) rfl
  have K_aA_4 := boxCell X_aA_6.out (j := 4) (v := a0v4) rfl
  have K_aA_5 := boxCell X_aA_6.out (j := 5) (v := a0v5) rfl
  have K_aA_6 := boxCell X_aA_6.out (j := 6) (v := a0v6) rfl
  have K_aA_7 := boxCell X_aA_6.out (j := 7) (v := .int .i64 x0.1.2.2.2.2.2.2) rfl
  have K_aA_8 := boxCell X_aA_6.out (j := 8) (v := a0v8) rfl
  have K_x0_0 := boxCell X_x0_6.out (j := 0) (v := .slice t4a0 (x0.1.1).length t4p0) rfl
  have K_x0_1 := boxCell X_x0_6.out (j := 1) (v := .int .i64 x0.1.2.1.1) rfl
  have K_x0_2 := boxCell X_x0_6.out (j := 2) (v := .slice t4a2 (x0.1.2.1.2).length t4p2) rfl
  have K_x0_3 := boxCell X_x0_6.out (j := 3) (v := .slice t4a3 (x0.1.2.2.1).length t4p3) rfl
  have K_x0_4 := boxCell X_x0_6.out (j := 4) (v := .slice t4a4 (x0.1.2.2.2.1).length t4p4) rfl
  have K_x0_5 := boxCell X_x0_6.out (j := 5) (v := .slice t4a5 (x0.1.2.2.2.2.1).length t4p5) rfl
  have K_x0_6 := boxCell X_x0_6.out (j := 6) (v := .slice t4a6 (x0.1.2.2.2.2.2.1).length t4p6) rfl
  have K_x0_7 := boxCell X_x0_6.out (j := 7) (v := .int .i64 x0.1.2.2.2.2.2.2) rfl
  have K_x0_8 := boxCell X_x0_6.out (j := 8) (v := .slice t4a8 (x0.2).length t4p8) rfl
  go_wp2_with fail
  go_region_held3 (fun W => W.cell? ⟨w.heap.size, 0, none⟩ = some (a0v0) ∧ W.cell? ⟨w.heap.size, 1, none⟩ = some (.int .i64 x0.1.2.1.1) ∧ W.cell? ⟨w.heap.size, 2, none⟩ = some (a0v2) ∧ W.cell? ⟨w.heap.size, 3, none⟩ = some (a0v3) ∧ W.cell? ⟨w.heap.size, 4, none⟩ = some (a0v4) ∧ W.cell? ⟨w.heap.size, 5, none⟩ = some (a0v5) ∧ W.cell? ⟨w.heap.size, 6, none⟩ = some (a0v6) ∧ W.cell? ⟨w.heap.size, 7, none⟩ = some (.int .i64 x0.1.2.2.2.2.2.2) ∧ W.cell? ⟨w.heap.size, 8, none⟩ = some (a0v8) ∧ W.cell? ⟨w4.heap.size, 0, none⟩ = some (.slice t4a0 (x0.1.1).length t4p0) ∧ W.cell? ⟨w4.heap.size, 1, none⟩ = some (.int .i64 x0.1.2.1.1) ∧ W.cell? ⟨w4.heap.size, 2, none⟩ = some (.slice t4a2 (x0.1.2.1.2).length t4p2) ∧ W.cell? ⟨w4.heap.size, 3, none⟩ = some (.slice t4a3 (x0.1.2.2.1).length t4p3) ∧ W.cell? ⟨w4.heap.size, 4, none⟩ = some (.slice t4a4 (x0.1.2.2.2.1).length t4p4) ∧ W.cell? ⟨w4.heap.size, 5, none⟩ = some (.slice t4a5 (x0.1.2.2.2.2.1).length t4p5) ∧ W.cell? ⟨w4.heap.size, 6, none⟩ = some (.slice t4a6 (x0.1.2.2.2.2.2.1).length t4p6) ∧ W.cell? ⟨w4.heap.size, 7, none⟩ = some (.int .i64 x0.1.2.2.2.2.2.2) ∧ W.cell? ⟨w4.heap.size, 8, none⟩ = some (.slice t4a8 (x0.2).length t4p8)) (first | exact ⟨cell_later hd7 (cell_later hc7 K_aA_0), cell_later hd7 (cell_later hc7 K_aA_1), cell_later hd7 (cell_later hc7 K_aA_2), cell_later hd7 (cell_later hc7 K_aA_3), cell_later hd7 (cell_later hc7 K_aA_4), cell_later hd7 (cell_later hc7 K_aA_5), cell_later hd7 (cell_later hc7 K_aA_6), cell_later hd7 (cell_later hc7 K_aA_7), cell_later hd7 (cell_later hc7 K_aA_8), cell_later hd7 (cell_later hc7 K_x0_0), cell_later hd7 (cell_later hc7 K_x0_1), cell_later hd7 (cell_later hc7 K_x0_2), cell_later hd7 (cell_later hc7 K_x0_3), cell_later hd7 (cell_later hc7 K_x0_4), cell_later hd7 (cell_later hc7 K_x0_5), cell_later hd7 (cell_later hc7 K_x0_6), cell_later hd7 (cell_later hc7 K_x0_7), cell_later hd7 (cell_later hc7 K_x0_8)⟩ | exact ⟨cell_later hc7 K_aA_0, cell_later hc7 K_aA_1, cell_later hc7 K_aA_2, cell_later hc7 K_aA_3, cell_later hc7 K_aA_4, cell_later hc7 K_aA_5, cell_later hc7 K_aA_6, cell_later hc7 K_aA_7, cell_later hc7 K_aA_8, cell_later hc7 K_x0_0, cell_later hc7 K_x0_1, cell_later hc7 K_x0_2, cell_later hc7 K_x0_3, cell_later hc7 K_x0_4, cell_later hc7 K_x0_5, cell_later hc7 K_x0_6, cell_later hc7 K_x0_7, cell_later hc7 K_x0_8⟩ | go_keep)
    (first | (go_at_call 13; refine (toAction_c (r0.below (by repeat (first | (with_reducible exact H6.out) | refine Below.alloc ?_ (by have := H6.out.size; simp; try omega) _ | refine Below.drew ?_)))).mono ?_; rintro e u7 ⟨cs7, rfl, O7, hc7⟩; obtain ⟨t7v0, t7v2, t7v3, t7v4, t7v5, t7v6, t7v8, rfl, t7_0, t7_1, t7_2, t7_3, t7_4, t7_5, t7_6, t7_7, t7_8, t7_9, t7_10⟩ := RAction_raw O7.raw; obtain ⟨t7a0, t7p0, t7h0, _⟩ := Rep.len_raw t7_1; obtain rfl : t7v0 = _ := (by simpa using t7h0); clear t7h0; obtain ⟨t7a2, t7p2, t7h2, _⟩ := Rep.len_raw t7_4; obtain rfl : t7v2 = _ := (by simpa using t7h2); clear t7h2; obtain ⟨t7a3, t7p3, t7h3, _⟩ := Rep.len_raw t7_5; obtain rfl : t7v3 = _ := (by simpa using t7h3); clear t7h3; obtain ⟨t7a4, t7p4, t7h4, _⟩ := Rep.len_raw t7_6; obtain rfl : t7v4 = _ := (by simpa using t7h4); clear t7h4; obtain ⟨t7a5, t7p5, t7h5, _⟩ := Rep.len_raw t7_7; obtain rfl : t7v5 = _ := (by simpa using t7h5); clear t7h5; obtain ⟨t7a6, t7p6, t7h6, _⟩ := Rep.len_raw t7_8; obtain rfl : t7v6 = _ := (by simpa using t7h6); clear t7h6; obtain ⟨t7a8, t7p8, t7h8, _⟩ := Rep.len_raw t7_10; obtain rfl : t7v8 = _ := (by simpa using t7h8); clear t7h8; clear t7_0 t7_1 t7_2 t7_3 t7_4 t7_5 t7_6 t7_7 t7_8 t7_9 t7_10) | (go_at_call 15; refine (eqAction_c (O_x0_6.out.raw.below (Below.trans (by repeat (first | (with_reducible exact Below.refl _ _) | refine Below.alloc ?_ (by simp; try omega) _ | refine Below.drew ?_)) (hc7.mono (by simp)))) O7.raw).mono ?_; rintro e w7 ⟨rfl, hd7⟩))
  have hb7 := hc7.trans (hd7.mono hc7.size); clear hc7 hd7 O7
  have D7 : Below w6.heap.size w6 w7 := Below.trans (by repeat (first | (with_reducible exact Below.refl _ _) | refine Below.alloc ?_ (by simp; try omega) _ | refine Below.drew ?_)) (hb7.mono (by first | (simp; done) | (simp; omega)))
  have H7 := Lib.hid (H6.out.trans (D7.mono H6.out.size))
  have L7 := Lib.hid (show w6.heap.size + 0 ≤ w7.heap.size from by have h := hb7.size; (try simp at h); omega)
  have X_aA_7 := Lib.hid (keepBox X_aA_6.out D7); clear X_aA_6
  have X_aX_7 := Lib.hid (keepBox X_aX_6.out D7); clear X_aX_6
  have X_x0_7 := Lib.hid (keepBox X_x0_6.out D7); clear X_x0_6
  have X_x1_7 := Lib.hid (keepBox X_x1_6.out D7); clear X_x1_6
  have O_x0_7 := Lib.hid (O_x0_6.out.below D7); clear O_x0_6
  have O_x1_7 := Lib.hid (O_x1_6.out.below D7); clear O_x1_6
  clear D7 K_aA_0 K_aA_1 K_aA_2 K_aA_3 K_aA_4 K_aA_5 K_aA_6 K_aA_7 K_aA_8 K_x0_0 K_x0_1 K_x0_2 K_x0_3 K_x0_4 K_x0_5 K_x0_6 K_x0_7 K_x0_8 hb7
  have K_aX_0 := boxCell X_aX_7.out (j := 0) (v := a1v0) rfl
  have K_aX_1 := boxCell X_aX_7.out (j := 1) (v := .int .i64 x1.2.1.1) rfl
  have K_aX_2 := boxCell X_aX_7.out (j := 2) (v := a1v2) rfl
  have K_aX_3 := boxCell X_aX_7.out (j := 3) (v := a1v3) rfl
  have K_aX_4 := boxCell X_aX_7.out (j := 4) (v := a1v4) rfl
  have K_aX_5 := boxCell X_aX_7.out (j := 5) (v := a1v5) rfl
  have K_aX_6 := boxCell X_aX_7.out (j := 6) (v := a1v6) rfl
  have K_aX_7 := boxCell X_aX_7.out (j := 7) (v := .int .i64 x1.2.2.2.2.2.2) rfl
  have K_x1_0 := boxCell X_x1_7.out (j := 0) (v := .slice t5a0 (x1.1).length t5p0) rfl
  have K_x1_1 := boxCell X_x1_7.out (j := 1) (v := .int .i64 x1.2.1.1) rfl
  have K_x1_2 := boxCell X_x1_7.out (j := 2) (v := .slice t5a2 (x1.2.1.2).length t5p2) rfl
  have K_x1_3 := boxCell X_x1_7.out (j := 3) (v := .slice t5a3 (x1.2.2.1).length t5p3) rfl
  have K_x1_4 := boxCell X_x1_7.out (j := 4) (v := .slice t5a4 (x1.2.2.2.1).length t5p4) rfl
  have K_x1_5 := boxCell X_x1_7.out (j := 5) (v := .slice t5a5 (x1.2.2.2.2.1).length t5p5) rfl
  have K_x1_6 := boxCell X_x1_7.out (j := 6) (v := .slice t5a6 (x1.2.2.2.2.2.1).length t5p6) rfl
  have K_x1_7 := boxCell X_x1_7.out (j := 7) (v := .int .i64 x1.2.2.2.2.2.2) rfl
  go_wp2_with fail
  go_region_held3 (fun W => W.cell? ⟨w.heap.size + 1, 0, none⟩ = some (a1v0) ∧ W.cell? ⟨w.heap.size + 1, 1, none⟩ = some (.int .i64 x1.2.1.1) ∧ W.cell? ⟨w.heap.size + 1, 2, none⟩ = some (a1v2) ∧ W.cell? ⟨w.heap.size + 1, 3, none⟩ = some (a1v3) ∧ W.cell? ⟨w.heap.size + 1, 4, none⟩ = some (a1v4) ∧ W.cell? ⟨w.heap.size + 1, 5, none⟩ = some (a1v5) ∧ W.cell? ⟨w.heap.size + 1, 6, none⟩ = some (a1v6) ∧ W.cell? ⟨w.heap.size + 1, 7, none⟩ = some (.int .i64 x1.2.2.2.2.2.2) ∧ W.cell? ⟨w5.heap.size, 0, none⟩ = some (.slice t5a0 (x1.1).length t5p0) ∧ W.cell? ⟨w5.heap.size, 1, none⟩ = some (.int .i64 x1.2.1.1) ∧ W.cell? ⟨w5.heap.size, 2, none⟩ = some (.slice t5a2 (x1.2.1.2).length t5p2) ∧ W.cell? ⟨w5.heap.size, 3, none⟩ = some (.slice t5a3 (x1.2.2.1).length t5p3) ∧ W.cell? ⟨w5.heap.size, 4, none⟩ = some (.slice t5a4 (x1.2.2.2.1).length t5p4) ∧ W.cell? ⟨w5.heap.size, 5, none⟩ = some (.slice t5a5 (x1.2.2.2.2.1).length t5p5) ∧ W.cell? ⟨w5.heap.size, 6, none⟩ = some (.slice t5a6 (x1.2.2.2.2.2.1).length t5p6) ∧ W.cell? ⟨w5.heap.size, 7, none⟩ = some (.int .i64 x1.2.2.2.2.2.2)) (first | exact ⟨cell_later hd8 (cell_later hc8 K_aX_0), cell_later hd8 (cell_later hc8 K_aX_1), cell_later hd8 (cell_later hc8 K_aX_2), cell_later hd8 (cell_later hc8 K_aX_3), cell_later hd8 (cell_later hc8 K_aX_4), cell_later hd8 (cell_later hc8 K_aX_5), cell_later hd8 (cell_later hc8 K_aX_6), cell_later hd8 (cell_later hc8 K_aX_7), cell_later hd8 (cell_later hc8 K_x1_0), cell_later hd8 (cell_later hc8 K_x1_1), cell_later hd8 (cell_later hc8 K_x1_2), cell_later hd8 (cell_later hc8 K_x1_3), cell_later hd8 (cell_later hc8 K_x1_4), cell_later hd8 (cell_later hc8 K_x1_5), cell_later hd8 (cell_later hc8 K_x1_6), cell_later hd8 (cell_later hc8 K_x1_7)⟩ | exact ⟨cell_later hc8 K_aX_0, cell_later hc8 K_aX_1, cell_later hc8 K_aX_2, cell_later hc8 K_aX_3, cell_later hc8 K_aX_4, cell_later hc8 K_aX_5, cell_later hc8 K_aX_6, cell_later hc8 K_aX_7, cell_later hc8 K_x1_0, cell_later hc8 K_x1_1, cell_later hc8 K_x1_2, cell_later hc8 K_x1_3, cell_later hc8 K_x1_4, cell_later hc8 K_x1_5, cell_later hc8 K_x1_6, cell_later hc8 K_x1_7⟩ | go_keep)
    (first | (go_at_call 8; refine (toNode_c (r1.below (by repeat (first | (with_reducible exact H7.out) | refine Below.alloc ?_ (by have := H7.out.size; simp; try omega) _ | refine Below.drew ?_)))).mono ?_; rintro e u8 ⟨cs8, rfl, O8, hc8⟩; obtain ⟨t8v0, t8v2, t8v3, t8v4, t8v5, t8v6, rfl, t8_0, t8_1, t8_2, t8_3, t8_4, t8_5, t8_6, t8_7, t8_8⟩ := RNode_raw O8.raw; obtain ⟨t8a0, t8p0, t8h0, _⟩ := Rep.len_raw t8_0; obtain rfl : t8v0 = _ := (by simpa using t8h0); clear t8h0; obtain ⟨t8a2, t8p2, t8h2, _⟩ := Rep.len_raw t8_3; obtain rfl : t8v2 = _ := (by simpa using t8h2); clear t8h2; obtain ⟨t8a3, t8p3, t8h3, _⟩ := Rep.len_raw t8_4; obtain rfl : t8v3 = _ := (by simpa using t8h3); clear t8h3; obtain ⟨t8a4, t8p4, t8h4, _⟩ := Rep.len_raw t8_5; obtain rfl : t8v4 = _ := (by simpa using t8h4); clear t8h4; obtain ⟨t8a5, t8p5, t8h5, _⟩ := Rep.len_raw t8_6; obtain rfl : t8v5 = _ := (by simpa using t8h5); clear t8h5; obtain ⟨t8a6, t8p6, t8h6, _⟩ := Rep.len_raw t8_7; obtain rfl : t8v6 = _ := (by simpa using t8h6); clear t8h6; clear t8_0 t8_1 t8_2 t8_3 t8_4 t8_5 t8_6 t8_7 t8_8) | (go_at_call 10; refine (eqNode_c (O_x1_7.out.raw.below (Below.trans (by repeat (first | (with_reducible exact Below.refl _ _) | refine Below.alloc ?_ (by simp; try omega) _ | refine Below.drew ?_)) (hc8.mono (by simp)))) O8.raw).mono ?_; rintro e w8 ⟨rfl, hd8⟩))
  have hb8 := hc8.trans (hd8.mono hc8.size); clear hc8 hd8 O8
  have D8 : Below w7.heap.size w7 w8 := Below.trans (by repeat (first | (with_reducible exact Below.refl _ _) | refine Below.alloc ?_ (by simp; try omega) _ | refine Below.drew ?_)) (hb8.mono (by first | (simp; done) | (simp; omega)))
  have H8 := Lib.hid (H7.out.trans (D8.mono H7.out.size))
  have L8 := Lib.hid (show w7.heap.size + 0 ≤ w8.heap.size from by have h := hb8.size; (try simp at h); omega)
  have X_aA_8 := Lib.hid (keepBox X_aA_7.out D8); clear X_aA_7
  have X_aX_8 := Lib.hid (keepBox X_aX_7.out D8); clear X_aX_7
  have X_x0_8 := Lib.hid (keepBox X_x0_7.out D8); clear X_x0_7
  have X_x1_8 := Lib.hid (keepBox X_x1_7.out D8); clear X_x1_7
  have O_x0_8 := Lib.hid (O_x0_7.out.below D8); clear O_x0_7
  have O_x1_8 := Lib.hid (O_x1_7.out.below D8); clear O_x1_7
  clear D8 K_aX_0 K_aX_1 K_aX_2 K_aX_3 K_aX_4 K_aX_5 K_aX_6 K_aX_7 K_x1_0 K_x1_1 K_x1_2 K_x1_3 K_x1_4 K_x1_5 K_x1_6 K_x1_7 hb8
  go_wp2
  go_ret
  exact ⟨rfl, H8.out⟩

set_option maxRecDepth 100000 in
theorem lawIsSilent_lifted (os : Os) (started : os.Started) (H : Type) (enc : TypeId × Value → H) :
    ReturnsInHanded {} Tryz.checked os 4 .any (Rows.fnExactIsSilentSpec.pre6 enc Tryz.prog Tryz.f4 Rows.fnExactIsSilentRow.domain false) (Rows.fnExactIsSilentSpec.post enc Tryz.prog Tryz.f4 false true false false) := by
  refine returnsInHanded_of_change (C := Tryz.checked) law_own started (by kernel_rfl) Tryz.func4
    (ChangeSpec.witness6 (enc := enc) (C := Tryz.checked) false ⟨#[], #[.agg #[.slice none 0 0, .int .i64 0, .slice none 0 0, .slice none 0 0, .slice none 0 0, .slice none 0 0, .slice none 0 0, .int .i64 0, .slice none 0 0], .agg #[.slice none 0 0, .int .i64 0, .slice none 0 0, .slice none 0 0, .slice none 0 0, .slice none 0 0, .slice none 0 0, .int .i64 0]], []⟩ 8 (by kernel_rfl) (by kernel_rfl) (by kernel_rfl) (by kernel_rfl)) ?_
  intro W base args ds gs before hval0 hW _ _
  have hval : ∀ (j : Nat) t v, Tryz.f4.params[j]? = some t → args[j]? = some v → Value.okWide Tryz.prog W .any base t v := hval0
  have hW0 : DataW.Whole enc Tryz.prog Tryz.f4.params.toList Rows.fnExactIsSilentSpec.vars false W args.toList ds gs before := hW
  obtain ⟨p, q, hA0, hV, rfl, hfz, hnd⟩ := hW
  have hA : DataW.TrodAll enc Tryz.prog W 0 (fun _ => true) true Tryz.f4.params.toList args.toList ds p := hA0
  rw [Tryz.params4] at hA hval
  obtain ⟨v0, vs0, d0, ds0, p0, q0, hargs, rfl, rfl, g0, s0⟩ := trodAll_cons hA
  obtain ⟨v1, vs1, d1, ds1, p1, q1, rfl, rfl, rfl, g1, s1⟩ := trodAll_cons s0
  obtain ⟨rfl, rfl, rfl⟩ := trodAll_nil s1
  obtain rfl : args = #[v0, v1] := by cases args; simp_all
  obtain ⟨rfl, rfl⟩ := trodVars_none hV
  obtain ⟨c0, rfl⟩ : ∃ c : List Value, v0 = .agg c.toArray := by
    have h := hval 0 49 v0 rfl rfl
    unfold Value.okWide at h
    rw [Tryz.underlying49] at h
    obtain ⟨cs, rfl, _⟩ := h
    exact ⟨cs.toList, by simp⟩
  obtain ⟨fu0, hf0⟩ := g0
  obtain ⟨x0, h0⟩ := bridge_Action (w := W) hf0
  have h0 : RAction.raw W c0 x0 := by simpa [Value.cells] using h0
  obtain ⟨c1, rfl⟩ : ∃ c : List Value, v1 = .agg c.toArray := by
    have h := hval 1 31 v1 rfl rfl
    unfold Value.okWide at h
    rw [Tryz.underlying31] at h
    obtain ⟨cs, rfl, _⟩ := h
    exact ⟨cs.toList, by simp⟩
  obtain ⟨fu1, hf1⟩ := g1
  obtain ⟨x1, h1⟩ := bridge_Node (w := W) hf1
  have h1 : RNode.raw W c1 x1 := by simpa [Value.cells] using h1
  refine (lawIsSilent_c h0 h1).mono fun e W' ⟨he, hb⟩ => ?_
  subst he
  refine ⟨_, rfl, law_post (tb := 4) hW0 rfl rfl Tryz.underlying4 ⟨rfl, rfl, rfl⟩ ?_ hb⟩
  rw [Tryz.params4]
  intro t ht
  have hall : ([49, 31].all fun t => Tryz.prog.readableRec t && decide (t < Tryz.prog.types.size)) = true := by kernel_rfl
  have h1 := List.all_eq_true.1 hall t ht
  simpa using h1

theorem lawIsSilent_holds : Rows.FnExactIsSilentSaid :=
  OpenClaim.holds_of_wide 4 Tryz.f4 rfl rfl rfl rfl rfl rfl rfl ⟨rfl, rfl, rfl, rfl, rfl⟩ rfl rfl rfl rfl rfl (by kernel_rfl) Tryz.func4 (by kernel_rfl)
    (of_decide_eq_true (by kernel_rfl)) (by unfold Func.isWrapper; first | (rw [if_pos (by decide +kernel)]; kernel_rfl) | (rw [if_neg (by decide +kernel)]; exact ⟨rfl, rfl⟩))
    (fun os started H enc _ => lawIsSilent_lifted os started H enc)
end Go.Proofs.YtaphafmkidjakaaGreat

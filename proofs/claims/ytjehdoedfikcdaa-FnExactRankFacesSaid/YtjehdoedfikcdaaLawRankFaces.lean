/-
  The law FnExactRankFaces, walked: it returns true, whatever its arguments; then its statement. Printed by genlaw.py.
-/
import Derived.Test.YtjehdoedfikcdaaEq
import Derived.Test.YtjehdoedfikcdaaSz
import Derived.Test.YtjehdoedfikcdaaTo
import Derived.Test.YtjehdoedfikcdaaBridge
import Derived.Test.YtjehdoedfikcdaaMark
import Derived.Test.YtjehdoedfikcdaaHeld
import Derived.Test.YtjehdoedfikcdaaRank
import Derived.Test.YtjehdoedfikcdaaSoftT
import Derived.Deep.RegionHeld3
namespace Go.Proofs.Ytjehdoedfikcdaa
open Go.ChangeShapes Go.WideShapes Go.ChangeAt Go.RowKit
set_option linter.unusedVariables false
set_option linter.unusedSimpArgs false
set_option linter.unnecessarySimpa false
set_option maxRecDepth 100000 in
set_option maxHeartbeats 4000000 in
theorem lawRankFaces_c {w : World} {v0 : Value} {x0 : (List LMeasurement)} (h0 : (Rep.slice 84 RMeasurement).raw w [v0] x0) {c1 : List Value} {x1 : LName} (h1 : RName.raw w c1 x1) {v2 : Value} {x2 : (List Int)} (h2 : (Rep.slice 3 Rep.int).raw w [v2] x2) :
    Calls Try.prog 4 #[v0, .agg c1.toArray, v2] w (LawPost w) := by
  obtain ⟨a0a, a0p, a0h, a0l⟩ := Rep.len_raw h0; obtain rfl : v0 = _ := by simpa using a0h
  clear a0h
  obtain ⟨a1v0, rfl, a1_0⟩ := RName_raw h1
  clear a1_0
  obtain ⟨a2a, a2p, a2h, a2l⟩ := Rep.len_raw h2; obtain rfl : v2 = _ := by simpa using a2h
  clear a2h
  go_enter Try.func4, Try.ntmps4
  by_cases g2 : (1048576 : Int) < (x2.length : Int)
  · go_wp2
    go_ret
    exact ⟨rfl, (by repeat (first | (with_reducible exact Below.refl _ _) | refine Below.alloc ?_ (by simp; try omega) _ | refine Below.drew ?_))⟩
  have r2 : (Rep.slice 3 Rep.int).rd w _ x2 := ⟨h2, by unfold Big; omega, fun _ _ => trivial⟩
  go_wp2_with fail
  refine (szMeasurementS_c (h0.below (by repeat (first | (with_reducible exact Below.refl _ _) | refine Below.alloc ?_ (by simp; try omega) _ | refine Below.drew ?_))) (by omega) (by omega)).mono ?_
  rintro e w1 ⟨s1, rfl, p1, q1, g1, hb1⟩
  have G1 := Lib.hid g1; clear g1
  have D1 : Below w.heap.size w w1 := Below.trans (by repeat (first | (with_reducible exact Below.refl _ _) | refine Below.alloc ?_ (by simp; try omega) _ | refine Below.drew ?_)) (hb1.mono (by first | (simp; done) | (simp; omega)))
  have H1 := Lib.hid D1
  have L1 := Lib.hid (show w.heap.size + 1 ≤ w1.heap.size from by have h := hb1.size; (try simp at h); omega)
  have X_aN_1 : Hid (w1.heap[w.heap.size]? = some (.cells #[a1v0] 25 (0, 0))) := Lib.hid ((hb1.block (w.heap.size) (by first | (simp; done) | (simp; omega))).trans (heap_new_at (by simp)))
  clear D1 hb1
  by_cases m1 : s1 < 0
  · go_wp2
    go_ret
    exact ⟨rfl, H1.out⟩
  have z1 : 0 ≤ s1 := by omega
  have r0 : (Rep.slice 84 RMeasurement).rd w _ x0 := ⟨h0, (Rep.slice 84 RMeasurement).bdd_mono (G1.out z1) (by decide)⟩
  have K_aN_0 := boxCell X_aN_1.out (j := 0) (v := a1v0) rfl
  go_wp2_with fail
  refine (szName_c (h1.below (by repeat (first | (with_reducible exact H1.out) | refine Below.alloc ?_ (by have := H1.out.size; simp; try omega) _ | refine Below.drew ?_))) z1 (by omega)).mono ?_
  rintro e w2 ⟨s2, rfl, p2, q2, g2, hb2⟩
  have G2 := Lib.hid g2; clear g2
  have D2 : Below w1.heap.size w1 w2 := Below.trans (by repeat (first | (with_reducible exact Below.refl _ _) | refine Below.alloc ?_ (by simp; try omega) _ | refine Below.drew ?_)) (hb2.mono (by first | (simp; done) | (simp; omega)))
  have H2 := Lib.hid (H1.out.trans (D2.mono H1.out.size))
  have L2 := Lib.hid (show w1.heap.size + 0 ≤ w2.heap.size from by have h := hb2.size; (try simp at h); omega)
  have X_aN_2 := Lib.hid (keepBox X_aN_1.out D2); clear X_aN_1
  clear D2 K_aN_0 hb2
  by_cases m2 : s2 < 0
  · go_wp2
    go_ret
    exact ⟨rfl, H2.out⟩
  have z2 : 0 ≤ s2 := by omega
  have r1 : RName.rd w _ x1 := ⟨h1, RName.bdd_mono (G2.out z2) (by decide)⟩
  have K_aN_0 := boxCell X_aN_2.out (j := 0) (v := a1v0) rfl
  go_wp2_with fail
  refine wp_region_softP (fun W => Below w2.heap.size w2 W) [(0, true), (2, true), (4, true), (1, false), (3, false), (5, false), (6, false), (7, true)] (by kernel_rfl) (by kernel_rfl) (fun c a d v w h => by cases d <;> exact h) ((Below.refl _ _).drew) ?_
  intro wS HS
  simp only [pickOps, List.getElem?_cons_succ, List.getElem?_cons_zero, List.map_cons, List.map_nil]
  all_goals first | (refine soft_pass rfl HS ?_) | (refine soft_read (v := ?_) rfl (fun W hW => ?_) ?_; rotate_left; (· go_simp; try with_reducible rfl))
  all_goals try simp only [Act.put, List.setIfInBounds_toArray, List.set_cons_zero, List.set_cons_succ]
  all_goals first | (refine soft_pass rfl HS ?_) | (refine soft_read (v := ?_) rfl (fun W hW => ?_) ?_; rotate_left; (· have A_K_aN_0 := cell_later hW K_aN_0; clear hW; go_simp; try with_reducible rfl))
  all_goals try simp only [Act.put, List.setIfInBounds_toArray, List.set_cons_zero, List.set_cons_succ]
  all_goals first | (refine soft_pass rfl HS ?_) | (refine soft_read (v := ?_) rfl (fun W hW => ?_) ?_; rotate_left; (· go_simp; try with_reducible rfl))
  all_goals try simp only [Act.put, List.setIfInBounds_toArray, List.set_cons_zero, List.set_cons_succ]
  all_goals first | (refine soft_pass rfl HS ?_) | (refine soft_do rfl (fun K hK => ?_); go_simp; refine (toMeasurementS_c (r0.below (H2.out.trans (HS.mono H2.out.size)))).mono ?_; rintro e u3_0 ⟨tv3_0, rfl, O3_0, hc⟩; obtain ⟨t3_0a, t3_0p, t3_0h, _⟩ := Rep.len_raw O3_0.raw; obtain rfl : tv3_0 = _ := (by simpa using t3_0h); clear t3_0h; replace HS := HS.trans (hc.mono HS.size); refine hK _ _ HS ?_; clear hK K hc)
  all_goals try simp only [Act.put, List.setIfInBounds_toArray, List.set_cons_zero, List.set_cons_succ]
  all_goals first | (refine soft_pass rfl HS ?_) | (refine soft_do rfl (fun K hK => ?_); go_simp; refine (toName_c (r1.below (H2.out.trans (HS.mono H2.out.size)))).mono ?_; rintro e u3_1 ⟨cs3_1, rfl, O3_1, hc⟩; obtain ⟨t3_1v0, rfl, t3_1_0⟩ := RName_raw O3_1.raw; obtain ⟨t3_1a0, t3_1p0, t3_1h0, _⟩ := Rep.len_raw t3_1_0; obtain rfl : t3_1v0 = _ := (by simpa using t3_1h0); clear t3_1h0; clear t3_1_0; replace O3_0 := O3_0.below hc; replace HS := HS.trans (hc.mono HS.size); refine hK _ _ HS ?_; clear hK K hc)
  all_goals try simp only [Act.put, List.setIfInBounds_toArray, List.set_cons_zero, List.set_cons_succ]
  all_goals first | (refine soft_pass rfl HS ?_) | (refine soft_do rfl (fun K hK => ?_); go_simp; refine (toIntS_c (r2.below (H2.out.trans (HS.mono H2.out.size)))).mono ?_; rintro e u3_2 ⟨tv3_2, rfl, O3_2, hc⟩; obtain ⟨t3_2a, t3_2p, t3_2h, _⟩ := Rep.len_raw O3_2.raw; obtain rfl : tv3_2 = _ := (by simpa using t3_2h); clear t3_2h; replace O3_0 := O3_0.below hc; replace O3_1 := O3_1.below hc; replace HS := HS.trans (hc.mono HS.size); refine hK _ _ HS ?_; clear hK K hc)
  all_goals try simp only [Act.put, List.setIfInBounds_toArray, List.set_cons_zero, List.set_cons_succ]
  all_goals first | (refine soft_pass rfl HS ?_) | (refine soft_do rfl (fun K hK => ?_); go_simp; refine (specRankFaces_c O3_0.rd O3_1.rd O3_2.rd).mono ?_; rintro e w3 ⟨tv3, rfl, O3, hc⟩; obtain ⟨t3a, t3p, t3h, _⟩ := Rep.len_raw O3.raw; obtain rfl : tv3 = _ := (by simpa using t3h); clear t3h; have sz := HS.size; have Z3 := Lib.hid (O3.wide (T := Btw (w2.heap.size) (w3.heap.size)) (fun i hi => ⟨Nat.le_trans sz hi.1, hi.2⟩)); clear O3 sz; replace HS := HS.trans (hc.mono HS.size); refine hK _ _ HS ?_; clear hK K hc O3_0 O3_1 O3_2)
  all_goals try simp only [Act.put, List.setIfInBounds_toArray, List.set_cons_zero, List.set_cons_succ]
  all_goals first | (refine soft_pass rfl HS ?_) | (refine soft_read (v := ?_) rfl (fun W hW => ?_) ?_; rotate_left; (· go_simp; try with_reducible rfl))
  all_goals try simp only [Act.put, List.setIfInBounds_toArray, List.set_cons_zero, List.set_cons_succ]
  all_goals refine soft_nil ?_
  have D3 : Below w2.heap.size w2 w3 := Below.trans (by repeat (first | (with_reducible exact Below.refl _ _) | refine Below.alloc ?_ (by simp; try omega) _ | refine Below.drew ?_)) (HS.mono (by first | (simp; done) | (simp; omega)))
  have H3 := Lib.hid (H2.out.trans (D3.mono H2.out.size))
  have L3 := Lib.hid (show w2.heap.size + 0 ≤ w3.heap.size from by have h := HS.size; (try simp at h); omega)
  have X_aN_3 := Lib.hid (keepBox X_aN_2.out D3); clear X_aN_2
  clear D3 K_aN_0 HS
  go_wp2_with fail
  refine (toMeasurementS_c (r0.below (by repeat (first | (with_reducible exact H3.out) | refine Below.alloc ?_ (by have := H3.out.size; simp; try omega) _ | refine Below.drew ?_)))).mono ?_
  rintro e w4 ⟨tv4, rfl, O4, hb4⟩
  obtain ⟨t4a, t4p, t4h, _⟩ := Rep.len_raw O4.raw; obtain rfl : tv4 = _ := (by simpa using t4h)
  clear t4h
  have Z4 := Lib.hid (O4.wide (T := Btw (w3.heap.size) (w4.heap.size)) (fun i hi => ⟨by have h := hi.1; (try simp at h); omega, hi.2⟩)); clear O4
  have D4 : Below w3.heap.size w3 w4 := Below.trans (by repeat (first | (with_reducible exact Below.refl _ _) | refine Below.alloc ?_ (by simp; try omega) _ | refine Below.drew ?_)) (hb4.mono (by first | (simp; done) | (simp; omega)))
  have H4 := Lib.hid (H3.out.trans (D4.mono H3.out.size))
  have L4 := Lib.hid (show w3.heap.size + 0 ≤ w4.heap.size from by have h := hb4.size; (try simp at h); omega)
  have X_aN_4 := Lib.hid (keepBox X_aN_3.out D4); clear X_aN_3
  have O_w0_4 := Lib.hid (Z3.out.below D4); clear Z3
  clear D4 hb4
  have K_aN_0 := boxCell X_aN_4.out (j := 0) (v := a1v0) rfl
  go_wp2_with fail
  refine (toName_c (r1.below (by repeat (first | (with_reducible exact H4.out) | refine Below.alloc ?_ (by have := H4.out.size; simp; try omega) _ | refine Below.drew ?_)))).mono ?_
  rintro e w5 ⟨cs5, rfl, O5, hb5⟩
  obtain ⟨t5v0, rfl, t5_0⟩ := RName_raw O5.raw
  obtain ⟨t5a0, t5p0, t5h0, _⟩ := Rep.len_raw t5_0; obtain rfl : t5v0 = _ := (by simpa using t5h0)
  clear t5h0
  clear t5_0
  have Z5 := Lib.hid (O5.wide (T := Btw (w4.heap.size) (w5.heap.size)) (fun i hi => ⟨by have h := hi.1; (try simp at h); omega, hi.2⟩)); clear O5
  have D5 : Below w4.heap.size w4 w5 := Below.trans (by repeat (first | (with_reducible exact Below.refl _ _) | refine Below.alloc ?_ (by simp; try omega) _ | refine Below.drew ?_)) (hb5.mono (by first | (simp; done) | (simp; omega)))
  have H5 := Lib.hid (H4.out.trans (D5.mono H4.out.size))
  have L5 := Lib.hid (show w4.heap.size + 0 ≤ w5.heap.size from by have h := hb5.size; (try simp at h); omega)
  have X_aN_5 := Lib.hid (keepBox X_aN_4.out D5); clear X_aN_4
  have O_w0_5 := Lib.hid (O_w0_4.out.below D5); clear O_w0_4
  have O_x0_5 := Lib.hid (Z4.out.below D5); clear Z4
  clear D5 K_aN_0 hb5
  go_wp2_with fail
  refine (toIntS_c (r2.below (by repeat (first | (with_reducible exact H5.out) | refine Below.alloc ?_ (by have := H5.out.size; simp; try omega) _ | refine Below.drew ?_)))).mono ?_
  rintro e w6 ⟨tv6, rfl, O6, hb6⟩
  obtain ⟨t6a, t6p, t6h, _⟩ := Rep.len_raw O6.raw; obtain rfl : tv6 = _ := (by simpa using t6h)
  clear t6h
  have Z6 := Lib.hid (O6.wide (T := Btw (w5.heap.size + 1) (w6.heap.size)) (fun i hi => ⟨by have h := hi.1; (try simp at h); omega, hi.2⟩)); clear O6
  have D6 : Below w5.heap.size w5 w6 := Below.trans (by repeat (first | (with_reducible exact Below.refl _ _) | refine Below.alloc ?_ (by simp; try omega) _ | refine Below.drew ?_)) (hb6.mono (by first | (simp; done) | (simp; omega)))
  have H6 := Lib.hid (H5.out.trans (D6.mono H5.out.size))
  have L6 := Lib.hid (show w5.heap.size + 1 ≤ w6.heap.size from by have h := hb6.size; (try simp at h); omega)
  have X_aN_6 := Lib.hid (keepBox X_aN_5.out D6); clear X_aN_5
  have X_x1_6 : Hid (w6.heap[w5.heap.size]? = some (.cells #[.slice t5a0 (x1).length t5p0] 33 (0, 0))) := Lib.hid ((hb6.block (w5.heap.size) (by first | (simp; done) | (simp; omega))).trans (heap_new_at (by simp)))
  have O_w0_6 := Lib.hid (O_w0_5.out.below D6); clear O_w0_5
  have O_x0_6 := Lib.hid (O_x0_5.out.below D6); clear O_x0_5
  have O_x1_6 := Lib.hid (Z5.out.below D6); clear Z5
  clear D6 hb6
  have K_x1_0 := boxCell X_x1_6.out (j := 0) (v := .slice t5a0 (x1).length t5p0) rfl
  go_wp2_with fail
  refine (implRankFaces_c (O_x0_6.out.rd.below (by repeat (first | (with_reducible exact Below.refl _ _) | refine Below.alloc ?_ (by simp; try omega) _ | refine Below.drew ?_))) (O_x1_6.out.rd.below (by repeat (first | (with_reducible exact Below.refl _ _) | refine Below.alloc ?_ (by simp; try omega) _ | refine Below.drew ?_))) (Z6.out.rd.below (by repeat (first | (with_reducible exact Below.refl _ _) | refine Below.alloc ?_ (by simp; try omega) _ | refine Below.drew ?_)))).mono ?_
  rintro e w7 ⟨tv7, rfl, O7, hb7⟩
  obtain ⟨t7a, t7p, t7h, _⟩ := Rep.len_raw O7.raw; obtain rfl : tv7 = _ := (by simpa using t7h)
  clear t7h
  have Z7 := Lib.hid (O7.wide (T := Btw (w6.heap.size) (w7.heap.size)) (fun i hi => ⟨by have h := hi.1; (try simp at h); omega, hi.2⟩)); clear O7
  have D7 : Below w6.heap.size w6 w7 := Below.trans (by repeat (first | (with_reducible exact Below.refl _ _) | refine Below.alloc ?_ (by simp; try omega) _ | refine Below.drew ?_)) (hb7.mono (by first | (simp; done) | (simp; omega)))
  have H7 := Lib.hid (H6.out.trans (D7.mono H6.out.size))
  have L7 := Lib.hid (show w6.heap.size + 0 ≤ w7.heap.size from by have h := hb7.size; (try simp at h); omega)
  have X_aN_7 := Lib.hid (keepBox X_aN_6.out D7); clear X_aN_6
  have X_x1_7 := Lib.hid (keepBox X_x1_6.out D7); clear X_x1_6
  have O_w0_7 := Lib.hid (O_w0_6.out.below D7); clear O_w0_6
  have O_x0_7 := Lib.hid (O_x0_6.out.below D7); clear O_x0_6
  have O_x1_7 := Lib.hid (O_x1_6.out.below D7); clear O_x1_6
  have O_x2_7 := Lib.hid (Z6.out.below D7); clear Z6
  clear D7 K_x1_0 hb7
  go_wp2_with fail
  refine (eqIntS_c (Z7.out.raw.below (by repeat (first | (with_reducible exact Below.refl _ _) | refine Below.alloc ?_ (by simp; try omega) _ | refine Below.drew ?_))) (O_w0_7.out.raw.below (by repeat (first | (with_reducible exact Below.refl _ _) | refine Below.alloc ?_ (by simp; try omega) _ | refine Below.drew ?_)))).mono ?_
  rintro e w8 ⟨rfl, hb8⟩
  have D8 : Below w7.heap.size w7 w8 := Below.trans (by repeat (first | (with_reducible exact Below.refl _ _) | refine Below.alloc ?_ (by simp; try omega) _ | refine Below.drew ?_)) (hb8.mono (by first | (simp; done) | (simp; omega)))
  have H8 := Lib.hid (H7.out.trans (D8.mono H7.out.size))
  have L8 := Lib.hid (show w7.heap.size + 0 ≤ w8.heap.size from by have h := hb8.size; (try simp at h); omega)
  have X_aN_8 := Lib.hid (keepBox X_aN_7.out D8); clear X_aN_7
  have X_x1_8 := Lib.hid (keepBox X_x1_7.out D8); clear X_x1_7
  have O_w0_8 := Lib.hid (O_w0_7.out.below D8); clear O_w0_7
  have O_x0_8 := Lib.hid (O_x0_7.out.below D8); clear O_x0_7
  have O_x1_8 := Lib.hid (O_x1_7.out.below D8); clear O_x1_7
  have O_x2_8 := Lib.hid (O_x2_7.out.below D8); clear O_x2_7
  have O_g0_8 := Lib.hid (Z7.out.below D8); clear Z7
  clear D8 hb8
  go_wp2_with fail
  refine (toMeasurementS_c (r0.below (by repeat (first | (with_reducible exact H8.out) | refine Below.alloc ?_ (by have := H8.out.size; simp; try omega) _ | refine Below.drew ?_)))).mono ?_
  rintro e w9 ⟨tv9, rfl, O9, hb9⟩
  obtain ⟨t9a, t9p, t9h, _⟩ := Rep.len_raw O9.raw; obtain rfl : tv9 = _ := (by simpa using t9h)
  clear t9h
  have Z9 := Lib.hid (O9.wide (T := Btw (w8.heap.size) (w9.heap.size)) (fun i hi => ⟨by have h := hi.1; (try simp at h); omega, hi.2⟩)); clear O9
  have D9 : Below w8.heap.size w8 w9 := Below.trans (by repeat (first | (with_reducible exact Below.refl _ _) | refine Below.alloc ?_ (by simp; try omega) _ | refine Below.drew ?_)) (hb9.mono (by first | (simp; done) | (simp; omega)))
  have H9 := Lib.hid (H8.out.trans (D9.mono H8.out.size))
  have L9 := Lib.hid (show w8.heap.size + 0 ≤ w9.heap.size from by have h := hb9.size; (try simp at h); omega)
  have X_aN_9 := Lib.hid (keepBox X_aN_8.out D9); clear X_aN_8
  have X_x1_9 := Lib.hid (keepBox X_x1_8.out D9); clear X_x1_8
  have O_w0_9 := Lib.hid (O_w0_8.out.below D9); clear O_w0_8
  have O_x0_9 := Lib.hid (O_x0_8.out.below D9); clear O_x0_8
  have O_x1_9 := Lib.hid (O_x1_8.out.below D9); clear O_x1_8
  have O_x2_9 := Lib.hid (O_x2_8.out.below D9); clear O_x2_8
  have O_g0_9 := Lib.hid (O_g0_8.out.below D9); clear O_g0_8
  clear D9 hb9
  go_wp2_with fail
  refine (eqMeasurementS_c (O_x0_9.out.raw.below (by repeat (first | (with_reducible exact Below.refl _ _) | refine Below.alloc ?_ (by simp; try omega) _ | refine Below.drew ?_))) (Z9.out.raw.below (by repeat (first | (with_reducible exact Below.refl _ _) | refine Below.alloc ?_ (by simp; try omega) _ | refine Below.drew ?_)))).mono ?_
  rintro e w10 ⟨rfl, hb10⟩
  clear Z9
  have D10 : Below w9.heap.size w9 w10 := Below.trans (by repeat (first | (with_reducible exact Below.refl _ _) | refine Below.alloc ?_ (by simp; try omega) _ | refine Below.drew ?_)) (hb10.mono (by first | (simp; done) | (simp; omega)))
  have H10 := Lib.hid (H9.out.trans (D10.mono H9.out.size))
  have L10 := Lib.hid (show w9.heap.size + 0 ≤ w10.heap.size from by have h := hb10.size; (try simp at h); omega)
  have X_aN_10 := Lib.hid (keepBox X_aN_9.out D10); clear X_aN_9
  have X_x1_10 := Lib.hid (keepBox X_x1_9.out D10); clear X_x1_9
  have O_w0_10 := Lib.hid (O_w0_9.out.below D10); clear O_w0_9
  have O_x0_10 := Lib.hid (O_x0_9.out.below D10); clear O_x0_9
  have O_x1_10 := Lib.hid (O_x1_9.out.below D10); clear O_x1_9
  have O_x2_10 := Lib.hid (O_x2_9.out.below D10); clear O_x2_9
  have O_g0_10 := Lib.hid (O_g0_9.out.below D10); clear O_g0_9
  clear D10 hb10
  have K_aN_0 := boxCell X_aN_10.out (j := 0) (v := a1v0) rfl
  have K_x1_0 := boxCell X_x1_10.out (j := 0) (v := .slice t5a0 (x1).length t5p0) rfl
  go_wp2_with fail
  go_region_held3 (fun W => W.cell? ⟨w.heap.size, 0, none⟩ = some (a1v0) ∧ W.cell? ⟨w5.heap.size, 0, none⟩ = some (.slice t5a0 (x1).length t5p0)) (first | exact ⟨cell_later hd11 (cell_later hc11 K_aN_0), cell_later hd11 (cell_later hc11 K_x1_0)⟩ | exact ⟨cell_later hc11 K_aN_0, cell_later hc11 K_x1_0⟩ | go_keep)
    (first | (go_at_call 10; refine (toName_c (r1.below (by repeat (first | (with_reducible exact H10.out) | refine Below.alloc ?_ (by have := H10.out.size; simp; try omega) _ | refine Below.drew ?_)))).mono ?_; rintro e u11 ⟨cs11, rfl, O11, hc11⟩; obtain ⟨t11v0, rfl, t11_0⟩ := RName_raw O11.raw; obtain ⟨t11a0, t11p0, t11h0, _⟩ := Rep.len_raw t11_0; obtain rfl : t11v0 = _ := (by simpa using t11h0); clear t11h0; clear t11_0) | (go_at_call 14; refine (eqName_c (O_x1_10.out.raw.below (Below.trans (by repeat (first | (with_reducible exact Below.refl _ _) | refine Below.alloc ?_ (by simp; try omega) _ | refine Below.drew ?_)) (hc11.mono (by simp)))) O11.raw).mono ?_; rintro e w11 ⟨rfl, hd11⟩))
  have hb11 := hc11.trans (hd11.mono hc11.size); clear hc11 hd11 O11
  have D11 : Below w10.heap.size w10 w11 := Below.trans (by repeat (first | (with_reducible exact Below.refl _ _) | refine Below.alloc ?_ (by simp; try omega) _ | refine Below.drew ?_)) (hb11.mono (by first | (simp; done) | (simp; omega)))
  have H11 := Lib.hid (H10.out.trans (D11.mono H10.out.size))
  have L11 := Lib.hid (show w10.heap.size + 0 ≤ w11.heap.size from by have h := hb11.size; (try simp at h); omega)
  have X_aN_11 := Lib.hid (keepBox X_aN_10.out D11); clear X_aN_10
  have X_x1_11 := Lib.hid (keepBox X_x1_10.out D11); clear X_x1_10
  have O_w0_11 := Lib.hid (O_w0_10.out.below D11); clear O_w0_10
  have O_x0_11 := Lib.hid (O_x0_10.out.below D11); clear O_x0_10
  have O_x1_11 := Lib.hid (O_x1_10.out.below D11); clear O_x1_10
  have O_x2_11 := Lib.hid (O_x2_10.out.below D11); clear O_x2_10
  have O_g0_11 := Lib.hid (O_g0_10.out.below D11); clear O_g0_10
  clear D11 K_aN_0 K_x1_0 hb11
  go_wp2_with fail
  refine (toIntS_c (r2.below (by repeat (first | (with_reducible exact H11.out) | refine Below.alloc ?_ (by have := H11.out.size; simp; try omega) _ | refine Below.drew ?_)))).mono ?_
  rintro e w12 ⟨tv12, rfl, O12, hb12⟩
  obtain ⟨t12a, t12p, t12h, _⟩ := Rep.len_raw O12.raw; obtain rfl : tv12 = _ := (by simpa using t12h)
  clear t12h
  have Z12 := Lib.hid (O12.wide (T := Btw (w11.heap.size) (w12.heap.size)) (fun i hi => ⟨by have h := hi.1; (try simp at h); omega, hi.2⟩)); clear O12
  have D12 : Below w11.heap.size w11 w12 := Below.trans (by repeat (first | (with_reducible exact Below.refl _ _) | refine Below.alloc ?_ (by simp; try omega) _ | refine Below.drew ?_)) (hb12.mono (by first | (simp; done) | (simp; omega)))
  have H12 := Lib.hid (H11.out.trans (D12.mono H11.out.size))
  have L12 := Lib.hid (show w11.heap.size + 0 ≤ w12.heap.size from by have h := hb12.size; (try simp at h); omega)
  have X_aN_12 := Lib.hid (keepBox X_aN_11.out D12); clear X_aN_11
  have X_x1_12 := Lib.hid (keepBox X_x1_11.out D12); clear X_x1_11
  have O_w0_12 := Lib.hid (O_w0_11.out.below D12); clear O_w0_11
  have O_x0_12 := Lib.hid (O_x0_11.out.below D12); clear O_x0_11
  have O_x1_12 := Lib.hid (O_x1_11.out.below D12); clear O_x1_11
  have O_x2_12 := Lib.hid (O_x2_11.out.below D12); clear O_x2_11
  have O_g0_12 := Lib.hid (O_g0_11.out.below D12); clear O_g0_11
  clear D12 hb12
  go_wp2_with fail
  refine (eqIntS_c (O_x2_12.out.raw.below (by repeat (first | (with_reducible exact Below.refl _ _) | refine Below.alloc ?_ (by simp; try omega) _ | refine Below.drew ?_))) (Z12.out.raw.below (by repeat (first | (with_reducible exact Below.refl _ _) | refine Below.alloc ?_ (by simp; try omega) _ | refine Below.drew ?_)))).mono ?_
  rintro e w13 ⟨rfl, hb13⟩
  clear Z12
  have D13 : Below w12.heap.size w12 w13 := Below.trans (by repeat (first | (with_reducible exact Below.refl _ _) | refine Below.alloc ?_ (by simp; try omega) _ | refine Below.drew ?_)) (hb13.mono (by first | (simp; done) | (simp; omega)))
  have H13 := Lib.hid (H12.out.trans (D13.mono H12.out.size))
  have L13 := Lib.hid (show w12.heap.size + 0 ≤ w13.heap.size from by have h := hb13.size; (try simp at h); omega)
  have X_aN_13 := Lib.hid (keepBox X_aN_12.out D13); clear X_aN_12
  have X_x1_13 := Lib.hid (keepBox X_x1_12.out D13); clear X_x1_12
  have O_w0_13 := Lib.hid (O_w0_12.out.below D13); clear O_w0_12
  have O_x0_13 := Lib.hid (O_x0_12.out.below D13); clear O_x0_12
  have O_x1_13 := Lib.hid (O_x1_12.out.below D13); clear O_x1_12
  have O_x2_13 := Lib.hid (O_x2_12.out.below D13); clear O_x2_12
  have O_g0_13 := Lib.hid (O_g0_12.out.below D13); clear O_g0_12
  clear D13 hb13
  go_wp2_with fail
  refine (markMeasurementS_c (k := 1) (O_x0_13.out.below (by repeat (first | (with_reducible exact Below.refl _ _) | refine Below.alloc ?_ (by simp; try omega) _ | refine Below.drew ?_))) (by  omega) (by have e : ((Rep.slice 84 RMeasurement).cnt : Int) = 281475010265088 := (by decide); unfold Top; omega)).mono ?_
  rintro e w14 ⟨rfl, P14, Y14⟩
  have B14 : Hid (1 ≤ ((Rep.slice 84 RMeasurement).mark true (x0) (1)).2 ∧ ((Rep.slice 84 RMeasurement).mark true (x0) (1)).2 ≤ 1 + 281475010265088) := Lib.hid ⟨by have := (Rep.slice 84 RMeasurement).mark_ge (e := true) (x := x0) (k := 1); omega, by have := (Rep.slice 84 RMeasurement).mark_le (e := true) (k := 1) O_x0_13.out.2; have e : ((Rep.slice 84 RMeasurement).cnt : Int) = 281475010265088 := (by decide); omega⟩
  have D14 : Touch (Btw (w3.heap.size) (w4.heap.size)) w13 w14 := (Touch.of_below (by repeat (first | (with_reducible exact Below.refl _ _) | refine Below.alloc ?_ (by simp; try omega) _ | refine Below.drew ?_))).trans Y14
  have H14 := Lib.hid (H13.out.trans (D14.below (by have := H13.out.size; omega) (fun i hi => by have a := hi.1; have b : w.heap.size ≤ w3.heap.size := H3.out.size; omega)))
  have L14 := Lib.hid (show w13.heap.size ≤ w14.heap.size from D14.size)
  have X_aN_14 := Lib.hid (D14.keepBox X_aN_13.out (fun q => by have q1 := q.1; have q2 := q.2; have l1 := L1.out; have l2 := L2.out; have l3 := L3.out; have l4 := L4.out; omega)); clear X_aN_13
  have X_x1_14 := Lib.hid (D14.keepBox X_x1_13.out (fun q => by have q1 := q.1; have q2 := q.2; have l4 := L4.out; have l5 := L5.out; omega)); clear X_x1_13
  have O_w0_14 := Lib.hid (O_w0_13.out.touch D14 (fun i p q => by have p1 := p.1; have p2 := p.2; have q1 := q.1; have q2 := q.2; have l3 := L3.out; have l4 := L4.out; omega)); clear O_w0_13
  have O_x1_14 := Lib.hid (O_x1_13.out.touch D14 (fun i p q => by have p1 := p.1; have p2 := p.2; have q1 := q.1; have q2 := q.2; have l4 := L4.out; have l5 := L5.out; omega)); clear O_x1_13
  have O_x2_14 := Lib.hid (O_x2_13.out.touch D14 (fun i p q => by have p1 := p.1; have p2 := p.2; have q1 := q.1; have q2 := q.2; have l4 := L4.out; have l5 := L5.out; have l6 := L6.out; omega)); clear O_x2_13
  have O_g0_14 := Lib.hid (O_g0_13.out.touch D14 (fun i p q => by have p1 := p.1; have p2 := p.2; have q1 := q.1; have q2 := q.2; have l4 := L4.out; have l5 := L5.out; have l6 := L6.out; have l7 := L7.out; omega)); clear O_g0_13
  clear D14 Y14
  have Z14 := Lib.hid P14; clear P14 O_x0_13
  have U14 : 0 ≤ ((Rep.slice 84 RMeasurement).mark true (x0) (1)).2 := by have := B14.out.1; omega
  have K_x1_0 := boxCell X_x1_14.out (j := 0) (v := .slice t5a0 (x1).length t5p0) rfl
  go_wp2_with fail
  refine (markName_c (k := ((Rep.slice 84 RMeasurement).mark true (x0) (1)).2) (O_x1_14.out.below (by repeat (first | (with_reducible exact Below.refl _ _) | refine Below.alloc ?_ (by simp; try omega) _ | refine Below.drew ?_))) (by have := B14.out.1;  omega) (by have := B14.out.2; have e : (RName.cnt : Int) = 16777216 := (by decide); unfold Top; omega)).mono ?_
  rintro e w15 ⟨rfl, P15, Y15⟩
  have B15 : Hid (1 ≤ (RName.mark false (x1) (((Rep.slice 84 RMeasurement).mark true (x0) (1)).2)).2 ∧ (RName.mark false (x1) (((Rep.slice 84 RMeasurement).mark true (x0) (1)).2)).2 ≤ ((Rep.slice 84 RMeasurement).mark true (x0) (1)).2 + 16777216) := Lib.hid ⟨by have := RName.mark_ge (e := false) (x := x1) (k := ((Rep.slice 84 RMeasurement).mark true (x0) (1)).2); have := B14.out.1; omega, by have := RName.mark_le (e := false) (k := ((Rep.slice 84 RMeasurement).mark true (x0) (1)).2) O_x1_14.out.2; have e : (RName.cnt : Int) = 16777216 := (by decide); omega⟩
  have D15 : Touch (Btw (w4.heap.size) (w5.heap.size)) w14 w15 := (Touch.of_below (by repeat (first | (with_reducible exact Below.refl _ _) | refine Below.alloc ?_ (by simp; try omega) _ | refine Below.drew ?_))).trans Y15
  have H15 := Lib.hid (H14.out.trans (D15.below (by have := H14.out.size; omega) (fun i hi => by have a := hi.1; have b : w.heap.size ≤ w4.heap.size := H4.out.size; omega)))
  have L15 := Lib.hid (show w14.heap.size ≤ w15.heap.size from D15.size)
  have X_aN_15 := Lib.hid (D15.keepBox X_aN_14.out (fun q => by have q1 := q.1; have q2 := q.2; have l1 := L1.out; have l2 := L2.out; have l3 := L3.out; have l4 := L4.out; have l5 := L5.out; omega)); clear X_aN_14
  have X_x1_15 := Lib.hid (D15.keepBox X_x1_14.out (fun q => by have q1 := q.1; have q2 := q.2; have l5 := L5.out; omega)); clear X_x1_14
  have O_w0_15 := Lib.hid (O_w0_14.out.touch D15 (fun i p q => by have p1 := p.1; have p2 := p.2; have q1 := q.1; have q2 := q.2; have l3 := L3.out; have l4 := L4.out; have l5 := L5.out; omega)); clear O_w0_14
  have O_x0_15 := Lib.hid (Z14.out.touch D15 (fun i p q => by have p1 := p.1; have p2 := p.2; have q1 := q.1; have q2 := q.2; have l4 := L4.out; have l5 := L5.out; omega)); clear Z14
  have O_x2_15 := Lib.hid (O_x2_14.out.touch D15 (fun i p q => by have p1 := p.1; have p2 := p.2; have q1 := q.1; have q2 := q.2; have l5 := L5.out; have l6 := L6.out; omega)); clear O_x2_14
  have O_g0_15 := Lib.hid (O_g0_14.out.touch D15 (fun i p q => by have p1 := p.1; have p2 := p.2; have q1 := q.1; have q2 := q.2; have l5 := L5.out; have l6 := L6.out; have l7 := L7.out; omega)); clear O_g0_14
  clear D15 K_x1_0 Y15
  have Z15 := Lib.hid P15; clear P15 O_x1_14
  have U15 : 0 ≤ (RName.mark false (x1) (((Rep.slice 84 RMeasurement).mark true (x0) (1)).2)).2 := by have := B15.out.1; omega
  go_wp2_with fail
  refine (markIntS_c (k := (RName.mark false (x1) (((Rep.slice 84 RMeasurement).mark true (x0) (1)).2)).2) (O_x2_15.out.below (by repeat (first | (with_reducible exact Below.refl _ _) | refine Below.alloc ?_ (by simp; try omega) _ | refine Below.drew ?_))) (by have := B14.out.1; have := B15.out.1;  omega) (by have := B14.out.2; have := B15.out.2; have e : ((Rep.slice 3 Rep.int).cnt : Int) = 16777216 := (by decide); unfold Top; omega)).mono ?_
  rintro e w16 ⟨rfl, P16, Y16⟩
  have B16 : Hid (1 ≤ ((Rep.slice 3 Rep.int).mark true (x2) ((RName.mark false (x1) (((Rep.slice 84 RMeasurement).mark true (x0) (1)).2)).2)).2 ∧ ((Rep.slice 3 Rep.int).mark true (x2) ((RName.mark false (x1) (((Rep.slice 84 RMeasurement).mark true (x0) (1)).2)).2)).2 ≤ (RName.mark false (x1) (((Rep.slice 84 RMeasurement).mark true (x0) (1)).2)).2 + 16777216) := Lib.hid ⟨by have := (Rep.slice 3 Rep.int).mark_ge (e := true) (x := x2) (k := (RName.mark false (x1) (((Rep.slice 84 RMeasurement).mark true (x0) (1)).2)).2); have := B14.out.1; have := B15.out.1; omega, by have := (Rep.slice 3 Rep.int).mark_le (e := true) (k := (RName.mark false (x1) (((Rep.slice 84 RMeasurement).mark true (x0) (1)).2)).2) O_x2_15.out.2; have e : ((Rep.slice 3 Rep.int).cnt : Int) = 16777216 := (by decide); omega⟩
  have D16 : Touch (Btw (w5.heap.size + 1) (w6.heap.size)) w15 w16 := (Touch.of_below (by repeat (first | (with_reducible exact Below.refl _ _) | refine Below.alloc ?_ (by simp; try omega) _ | refine Below.drew ?_))).trans Y16
  have H16 := Lib.hid (H15.out.trans (D16.below (by have := H15.out.size; omega) (fun i hi => by have a := hi.1; have b : w.heap.size ≤ w5.heap.size := H5.out.size; omega)))
  have L16 := Lib.hid (show w15.heap.size ≤ w16.heap.size from D16.size)
  have X_aN_16 := Lib.hid (D16.keepBox X_aN_15.out (fun q => by have q1 := q.1; have q2 := q.2; have l1 := L1.out; have l2 := L2.out; have l3 := L3.out; have l4 := L4.out; have l5 := L5.out; have l6 := L6.out; omega)); clear X_aN_15
  have X_x1_16 := Lib.hid (D16.keepBox X_x1_15.out (fun q => by have q1 := q.1; have q2 := q.2; have l6 := L6.out; omega)); clear X_x1_15
  have O_w0_16 := Lib.hid (O_w0_15.out.touch D16 (fun i p q => by have p1 := p.1; have p2 := p.2; have q1 := q.1; have q2 := q.2; have l3 := L3.out; have l4 := L4.out; have l5 := L5.out; have l6 := L6.out; omega)); clear O_w0_15
  have O_x0_16 := Lib.hid (O_x0_15.out.touch D16 (fun i p q => by have p1 := p.1; have p2 := p.2; have q1 := q.1; have q2 := q.2; have l4 := L4.out; have l5 := L5.out; have l6 := L6.out; omega)); clear O_x0_15
  have O_x1_16 := Lib.hid (Z15.out.touch D16 (fun i p q => by have p1 := p.1; have p2 := p.2; have q1 := q.1; have q2 := q.2; have l5 := L5.out; have l6 := L6.out; omega)); clear Z15
  have O_g0_16 := Lib.hid (O_g0_15.out.touch D16 (fun i p q => by have p1 := p.1; have p2 := p.2; have q1 := q.1; have q2 := q.2; have l6 := L6.out; have l7 := L7.out; omega)); clear O_g0_15
  clear D16 Y16
  have Z16 := Lib.hid P16; clear P16 O_x2_15
  have U16 : 0 ≤ ((Rep.slice 3 Rep.int).mark true (x2) ((RName.mark false (x1) (((Rep.slice 84 RMeasurement).mark true (x0) (1)).2)).2)).2 := by have := B16.out.1; omega
  go_wp2_with fail
  refine (eqIntS_c (O_g0_16.out.raw.below (by repeat (first | (with_reducible exact Below.refl _ _) | refine Below.alloc ?_ (by simp; try omega) _ | refine Below.drew ?_))) (O_w0_16.out.raw.below (by repeat (first | (with_reducible exact Below.refl _ _) | refine Below.alloc ?_ (by simp; try omega) _ | refine Below.drew ?_)))).mono ?_
  rintro e w17 ⟨rfl, hb17⟩
  have D17 : Below w16.heap.size w16 w17 := Below.trans (by repeat (first | (with_reducible exact Below.refl _ _) | refine Below.alloc ?_ (by simp; try omega) _ | refine Below.drew ?_)) (hb17.mono (by first | (simp; done) | (simp; omega)))
  have H17 := Lib.hid (H16.out.trans (D17.mono H16.out.size))
  have L17 := Lib.hid (show w16.heap.size + 0 ≤ w17.heap.size from by have h := hb17.size; (try simp at h); omega)
  have X_aN_17 := Lib.hid (keepBox X_aN_16.out D17); clear X_aN_16
  have X_x1_17 := Lib.hid (keepBox X_x1_16.out D17); clear X_x1_16
  have O_w0_17 := Lib.hid (O_w0_16.out.below D17); clear O_w0_16
  have O_x0_17 := Lib.hid (O_x0_16.out.below D17); clear O_x0_16
  have O_x1_17 := Lib.hid (O_x1_16.out.below D17); clear O_x1_16
  have O_x2_17 := Lib.hid (Z16.out.below D17); clear Z16
  have O_g0_17 := Lib.hid (O_g0_16.out.below D17); clear O_g0_16
  clear D17 hb17
  go_wp2_with fail
  refine (markIntS_c (k := 1) (O_g0_17.out.below (by repeat (first | (with_reducible exact Below.refl _ _) | refine Below.alloc ?_ (by simp; try omega) _ | refine Below.drew ?_))) (by  omega) (by have e : ((Rep.slice 3 Rep.int).cnt : Int) = 16777216 := (by decide); unfold Top; omega)).mono ?_
  rintro e w18 ⟨rfl, P18, Y18⟩
  have B18 : Hid (1 ≤ ((Rep.slice 3 Rep.int).mark true ((rankF x0 x1 x2)) (1)).2 ∧ ((Rep.slice 3 Rep.int).mark true ((rankF x0 x1 x2)) (1)).2 ≤ 1 + 16777216) := Lib.hid ⟨by have := (Rep.slice 3 Rep.int).mark_ge (e := true) (x := (rankF x0 x1 x2)) (k := 1); omega, by have := (Rep.slice 3 Rep.int).mark_le (e := true) (k := 1) O_g0_17.out.2; have e : ((Rep.slice 3 Rep.int).cnt : Int) = 16777216 := (by decide); omega⟩
  have D18 : Touch (Btw (w6.heap.size) (w7.heap.size)) w17 w18 := (Touch.of_below (by repeat (first | (with_reducible exact Below.refl _ _) | refine Below.alloc ?_ (by simp; try omega) _ | refine Below.drew ?_))).trans Y18
  have H18 := Lib.hid (H17.out.trans (D18.below (by have := H17.out.size; omega) (fun i hi => by have a := hi.1; have b : w.heap.size ≤ w6.heap.size := H6.out.size; omega)))
  have L18 := Lib.hid (show w17.heap.size ≤ w18.heap.size from D18.size)
  have X_aN_18 := Lib.hid (D18.keepBox X_aN_17.out (fun q => by have q1 := q.1; have q2 := q.2; have l1 := L1.out; have l2 := L2.out; have l3 := L3.out; have l4 := L4.out; have l5 := L5.out; have l6 := L6.out; have l7 := L7.out; omega)); clear X_aN_17
  have X_x1_18 := Lib.hid (D18.keepBox X_x1_17.out (fun q => by have q1 := q.1; have q2 := q.2; have l6 := L6.out; have l7 := L7.out; omega)); clear X_x1_17
  have O_w0_18 := Lib.hid (O_w0_17.out.touch D18 (fun i p q => by have p1 := p.1; have p2 := p.2; have q1 := q.1; have q2 := q.2; have l3 := L3.out; have l4 := L4.out; have l5 := L5.out; have l6 := L6.out; have l7 := L7.out; omega)); clear O_w0_17
  have O_x0_18 := Lib.hid (O_x0_17.out.touch D18 (fun i p q => by have p1 := p.1; have p2 := p.2; have q1 := q.1; have q2 := q.2; have l4 := L4.out; have l5 := L5.out; have l6 := L6.out; have l7 := L7.out; omega)); clear O_x0_17
  have O_x1_18 := Lib.hid (O_x1_17.out.touch D18 (fun i p q => by have p1 := p.1; have p2 := p.2; have q1 := q.1; have q2 := q.2; have l5 := L5.out; have l6 := L6.out; have l7 := L7.out; omega)); clear O_x1_17
  have O_x2_18 := Lib.hid (O_x2_17.out.touch D18 (fun i p q => by have p1 := p.1; have p2 := p.2; have q1 := q.1; have q2 := q.2; have l6 := L6.out; have l7 := L7.out; omega)); clear O_x2_17
  clear D18 Y18
  have Z18 := Lib.hid P18; clear P18 O_g0_17
  have U18 : 0 ≤ ((Rep.slice 3 Rep.int).mark true ((rankF x0 x1 x2)) (1)).2 := by have := B18.out.1; omega
  go_wp2_with fail
  refine (heldIntS_c (Z18.out.raw.below (by repeat (first | (with_reducible exact Below.refl _ _) | refine Below.alloc ?_ (by simp; try omega) _ | refine Below.drew ?_))) ((Rep.slice 3 Rep.int).mark_held (e := true) (x := (rankF x0 x1 x2)) (k := 1)) (by have := B18.out.1;  omega) (by have := B18.out.2;  omega)).mono ?_
  rintro e w19 ⟨rfl, hb19⟩
  have D19 : Below w18.heap.size w18 w19 := Below.trans (by repeat (first | (with_reducible exact Below.refl _ _) | refine Below.alloc ?_ (by simp; try omega) _ | refine Below.drew ?_)) (hb19.mono (by first | (simp; done) | (simp; omega)))
  have H19 := Lib.hid (H18.out.trans (D19.mono H18.out.size))
  have L19 := Lib.hid (show w18.heap.size + 0 ≤ w19.heap.size from by have h := hb19.size; (try simp at h); omega)
  have X_aN_19 := Lib.hid (keepBox X_aN_18.out D19); clear X_aN_18
  have X_x1_19 := Lib.hid (keepBox X_x1_18.out D19); clear X_x1_18
  have O_w0_19 := Lib.hid (O_w0_18.out.below D19); clear O_w0_18
  have O_x0_19 := Lib.hid (O_x0_18.out.below D19); clear O_x0_18
  have O_x1_19 := Lib.hid (O_x1_18.out.below D19); clear O_x1_18
  have O_x2_19 := Lib.hid (O_x2_18.out.below D19); clear O_x2_18
  have O_g0_19 := Lib.hid (Z18.out.below D19); clear Z18
  clear D19 hb19
  have K_aN_0 := boxCell X_aN_19.out (j := 0) (v := a1v0) rfl
  go_wp2_with fail
  refine wp_region_softP (fun W => Below w19.heap.size w19 W) [(0, true), (2, true), (4, true), (1, false), (3, false), (5, false), (6, false), (7, true)] (by kernel_rfl) (by kernel_rfl) (fun c a d v w h => by cases d <;> exact h) ((Below.refl _ _).drew) ?_
  intro wS HS
  simp only [pickOps, List.getElem?_cons_succ, List.getElem?_cons_zero, List.map_cons, List.map_nil]
  all_goals first | (refine soft_pass rfl HS ?_) | (refine soft_read (v := ?_) rfl (fun W hW => ?_) ?_; rotate_left; (· go_simp; try with_reducible rfl))
  all_goals try simp only [Act.put, List.setIfInBounds_toArray, List.set_cons_zero, List.set_cons_succ]
  all_goals first | (refine soft_pass rfl HS ?_) | (refine soft_read (v := ?_) rfl (fun W hW => ?_) ?_; rotate_left; (· have A_K_aN_0 := cell_later hW K_aN_0; clear hW; go_simp; try with_reducible rfl))
  all_goals try simp only [Act.put, List.setIfInBounds_toArray, List.set_cons_zero, List.set_cons_succ]
  all_goals first | (refine soft_pass rfl HS ?_) | (refine soft_read (v := ?_) rfl (fun W hW => ?_) ?_; rotate_left; (· go_simp; try with_reducible rfl))
  all_goals try simp only [Act.put, List.setIfInBounds_toArray, List.set_cons_zero, List.set_cons_succ]
  all_goals first | (refine soft_pass rfl HS ?_) | (refine soft_do rfl (fun K hK => ?_); go_simp; refine (toMeasurementS_c (r0.below (H19.out.trans (HS.mono H19.out.size)))).mono ?_; rintro e u20_0 ⟨tv20_0, rfl, O20_0, hc⟩; obtain ⟨t20_0a, t20_0p, t20_0h, _⟩ := Rep.len_raw O20_0.raw; obtain rfl : tv20_0 = _ := (by simpa using t20_0h); clear t20_0h; replace HS := HS.trans (hc.mono HS.size); refine hK _ _ HS ?_; clear hK K hc)
  all_goals try simp only [Act.put, List.setIfInBounds_toArray, List.set_cons_zero, List.set_cons_succ]
  all_goals first | (refine soft_pass rfl HS ?_) | (refine soft_do rfl (fun K hK => ?_); go_simp; refine (toName_c (r1.below (H19.out.trans (HS.mono H19.out.size)))).mono ?_; rintro e u20_1 ⟨cs20_1, rfl, O20_1, hc⟩; obtain ⟨t20_1v0, rfl, t20_1_0⟩ := RName_raw O20_1.raw; obtain ⟨t20_1a0, t20_1p0, t20_1h0, _⟩ := Rep.len_raw t20_1_0; obtain rfl : t20_1v0 = _ := (by simpa using t20_1h0); clear t20_1h0; clear t20_1_0; replace O20_0 := O20_0.below hc; replace HS := HS.trans (hc.mono HS.size); refine hK _ _ HS ?_; clear hK K hc)
  all_goals try simp only [Act.put, List.setIfInBounds_toArray, List.set_cons_zero, List.set_cons_succ]
  all_goals first | (refine soft_pass rfl HS ?_) | (refine soft_do rfl (fun K hK => ?_); go_simp; refine (toIntS_c (r2.below (H19.out.trans (HS.mono H19.out.size)))).mono ?_; rintro e u20_2 ⟨tv20_2, rfl, O20_2, hc⟩; obtain ⟨t20_2a, t20_2p, t20_2h, _⟩ := Rep.len_raw O20_2.raw; obtain rfl : tv20_2 = _ := (by simpa using t20_2h); clear t20_2h; replace O20_0 := O20_0.below hc; replace O20_1 := O20_1.below hc; replace HS := HS.trans (hc.mono HS.size); refine hK _ _ HS ?_; clear hK K hc)
  all_goals try simp only [Act.put, List.setIfInBounds_toArray, List.set_cons_zero, List.set_cons_succ]
  all_goals first | (refine soft_pass rfl HS ?_) | (refine soft_do rfl (fun K hK => ?_); go_simp; refine (implRankFaces_c O20_0.rd O20_1.rd O20_2.rd).mono ?_; rintro e w20 ⟨tv20, rfl, O20, hc⟩; obtain ⟨t20a, t20p, t20h, _⟩ := Rep.len_raw O20.raw; obtain rfl : tv20 = _ := (by simpa using t20h); clear t20h; have sz := HS.size; have Z20 := Lib.hid (O20.wide (T := Btw (w19.heap.size) (w20.heap.size)) (fun i hi => ⟨Nat.le_trans sz hi.1, hi.2⟩)); clear O20 sz; replace HS := HS.trans (hc.mono HS.size); refine hK _ _ HS ?_; clear hK K hc O20_0 O20_1 O20_2)
  all_goals try simp only [Act.put, List.setIfInBounds_toArray, List.set_cons_zero, List.set_cons_succ]
  all_goals first | (refine soft_pass rfl HS ?_) | (refine soft_read (v := ?_) rfl (fun W hW => ?_) ?_; rotate_left; (· go_simp; try with_reducible rfl))
  all_goals try simp only [Act.put, List.setIfInBounds_toArray, List.set_cons_zero, List.set_cons_succ]
  all_goals refine soft_nil ?_
  have D20 : Below w19.heap.size w19 w20 := Below.trans (by repeat (first | (with_reducible exact Below.refl _ _) | refine Below.alloc ?_ (by simp; try omega) _ | refine Below.drew ?_)) (HS.mono (by first | (simp; done) | (simp; omega)))
  have H20 := Lib.hid (H19.out.trans (D20.mono H19.out.size))
  have L20 := Lib.hid (show w19.heap.size + 0 ≤ w20.heap.size from by have h := HS.size; (try simp at h); omega)
  have X_aN_20 := Lib.hid (keepBox X_aN_19.out D20); clear X_aN_19
  have X_x1_20 := Lib.hid (keepBox X_x1_19.out D20); clear X_x1_19
  have O_w0_20 := Lib.hid (O_w0_19.out.below D20); clear O_w0_19
  have O_x0_20 := Lib.hid (O_x0_19.out.below D20); clear O_x0_19
  have O_x1_20 := Lib.hid (O_x1_19.out.below D20); clear O_x1_19
  have O_x2_20 := Lib.hid (O_x2_19.out.below D20); clear O_x2_19
  have O_g0_20 := Lib.hid (O_g0_19.out.below D20); clear O_g0_19
  clear D20 K_aN_0 HS
  go_wp2_with fail
  refine (eqIntS_c (Z20.out.raw.below (by repeat (first | (with_reducible exact Below.refl _ _) | refine Below.alloc ?_ (by simp; try omega) _ | refine Below.drew ?_))) (O_w0_20.out.raw.below (by repeat (first | (with_reducible exact Below.refl _ _) | refine Below.alloc ?_ (by simp; try omega) _ | refine Below.drew ?_)))).mono ?_
  rintro e w21 ⟨rfl, hb21⟩
  have D21 : Below w20.heap.size w20 w21 := Below.trans (by repeat (first | (with_reducible exact Below.refl _ _) | refine Below.alloc ?_ (by simp; try omega) _ | refine Below.drew ?_)) (hb21.mono (by first | (simp; done) | (simp; omega)))
  have H21 := Lib.hid (H20.out.trans (D21.mono H20.out.size))
  have L21 := Lib.hid (show w20.heap.size + 0 ≤ w21.heap.size from by have h := hb21.size; (try simp at h); omega)
  have X_aN_21 := Lib.hid (keepBox X_aN_20.out D21); clear X_aN_20
  have X_x1_21 := Lib.hid (keepBox X_x1_20.out D21); clear X_x1_20
  have O_w0_21 := Lib.hid (O_w0_20.out.below D21); clear O_w0_20
  have O_x0_21 := Lib.hid (O_x0_20.out.below D21); clear O_x0_20
  have O_x1_21 := Lib.hid (O_x1_20.out.below D21); clear O_x1_20
  have O_x2_21 := Lib.hid (O_x2_20.out.below D21); clear O_x2_20
  have O_g0_21 := Lib.hid (O_g0_20.out.below D21); clear O_g0_20
  have O_h0_21 := Lib.hid (Z20.out.below D21); clear Z20
  clear D21 hb21
  go_wp2_with fail
  refine (heldIntS_c (O_g0_21.out.raw.below (by repeat (first | (with_reducible exact Below.refl _ _) | refine Below.alloc ?_ (by simp; try omega) _ | refine Below.drew ?_))) ((Rep.slice 3 Rep.int).mark_held (e := true) (x := (rankF x0 x1 x2)) (k := 1)) (by have := B18.out.1;  omega) (by have := B18.out.2;  omega)).mono ?_
  rintro e w22 ⟨rfl, hb22⟩
  have D22 : Below w21.heap.size w21 w22 := Below.trans (by repeat (first | (with_reducible exact Below.refl _ _) | refine Below.alloc ?_ (by simp; try omega) _ | refine Below.drew ?_)) (hb22.mono (by first | (simp; done) | (simp; omega)))
  have H22 := Lib.hid (H21.out.trans (D22.mono H21.out.size))
  have L22 := Lib.hid (show w21.heap.size + 0 ≤ w22.heap.size from by have h := hb22.size; (try simp at h); omega)
  have X_aN_22 := Lib.hid (keepBox X_aN_21.out D22); clear X_aN_21
  have X_x1_22 := Lib.hid (keepBox X_x1_21.out D22); clear X_x1_21
  have O_w0_22 := Lib.hid (O_w0_21.out.below D22); clear O_w0_21
  have O_x0_22 := Lib.hid (O_x0_21.out.below D22); clear O_x0_21
  have O_x1_22 := Lib.hid (O_x1_21.out.below D22); clear O_x1_21
  have O_x2_22 := Lib.hid (O_x2_21.out.below D22); clear O_x2_21
  have O_g0_22 := Lib.hid (O_g0_21.out.below D22); clear O_g0_21
  have O_h0_22 := Lib.hid (O_h0_21.out.below D22); clear O_h0_21
  clear D22 hb22
  go_wp2
  go_ret
  exact ⟨rfl, H22.out⟩

set_option maxRecDepth 100000 in
theorem lawRankFaces_lifted (os : Os) (started : os.Started) (H : Type) (enc : TypeId × Value → H) :
    ReturnsInHanded {} Try.checked os 4 .any (Rows.fnExactRankFacesSpec.pre6 enc Try.prog Try.f4 Rows.fnExactRankFacesRow.domain false) (Rows.fnExactRankFacesSpec.post enc Try.prog Try.f4 false true false false) := by
  refine returnsInHanded_of_change (C := Try.checked) law_own started (by kernel_rfl) Try.func4
    (ChangeSpec.witness6 (enc := enc) (C := Try.checked) false ⟨#[], #[.slice none 0 0, .agg #[.slice none 0 0], .slice none 0 0], []⟩ 8 (by kernel_rfl) (by kernel_rfl) (by kernel_rfl) (by kernel_rfl)) ?_
  intro W base args ds gs before hval0 hW _ _
  have hval : ∀ (j : Nat) t v, Try.f4.params[j]? = some t → args[j]? = some v → Value.okWide Try.prog W .any base t v := hval0
  have hW0 : DataW.Whole enc Try.prog Try.f4.params.toList Rows.fnExactRankFacesSpec.vars false W args.toList ds gs before := hW
  obtain ⟨p, q, hA0, hV, rfl, hfz, hnd⟩ := hW
  have hA : DataW.TrodAll enc Try.prog W 0 (fun _ => true) true Try.f4.params.toList args.toList ds p := hA0
  rw [Try.params4] at hA hval
  obtain ⟨v0, vs0, d0, ds0, p0, q0, hargs, rfl, rfl, g0, s0⟩ := trodAll_cons hA
  obtain ⟨v1, vs1, d1, ds1, p1, q1, rfl, rfl, rfl, g1, s1⟩ := trodAll_cons s0
  obtain ⟨v2, vs2, d2, ds2, p2, q2, rfl, rfl, rfl, g2, s2⟩ := trodAll_cons s1
  obtain ⟨rfl, rfl, rfl⟩ := trodAll_nil s2
  obtain rfl : args = #[v0, v1, v2] := by cases args; simp_all
  obtain ⟨rfl, rfl⟩ := trodVars_none hV
  obtain ⟨a0, len0, cap0, rfl⟩ := okWide_slice Try.underlying42 (hval 0 42 v0 rfl rfl)
  obtain ⟨fu0, hf0⟩ := g0
  obtain ⟨x0, h0⟩ := bridge_MeasurementS (w := W) hf0
  have h0 : (Rep.slice 84 RMeasurement).raw W [.slice a0 len0 cap0] x0 := by simpa [Value.cells] using h0
  obtain ⟨c1, rfl⟩ : ∃ c : List Value, v1 = .agg c.toArray := by
    have h := hval 1 25 v1 rfl rfl
    unfold Value.okWide at h
    rw [Try.underlying25] at h
    obtain ⟨cs, rfl, _⟩ := h
    exact ⟨cs.toList, by simp⟩
  obtain ⟨fu1, hf1⟩ := g1
  obtain ⟨x1, h1⟩ := bridge_Name (w := W) hf1
  have h1 : RName.raw W c1 x1 := by simpa [Value.cells] using h1
  obtain ⟨a2, len2, cap2, rfl⟩ := okWide_slice Try.underlying43 (hval 2 43 v2 rfl rfl)
  obtain ⟨fu2, hf2⟩ := g2
  obtain ⟨x2, h2⟩ := bridge_IntS (w := W) hf2
  have h2 : (Rep.slice 3 Rep.int).raw W [.slice a2 len2 cap2] x2 := by simpa [Value.cells] using h2
  refine (lawRankFaces_c h0 h1 h2).mono fun e W' ⟨he, hb⟩ => ?_
  subst he
  refine ⟨_, rfl, law_post (tb := 4) hW0 rfl rfl Try.underlying4 ⟨rfl, rfl, rfl⟩ ?_ hb⟩
  rw [Try.params4]
  intro t ht
  have hall : ([42, 25, 43].all fun t => Try.prog.readableRec t && decide (t < Try.prog.types.size)) = true := by kernel_rfl
  have h1 := List.all_eq_true.1 hall t ht
  simpa using h1

theorem lawRankFaces_holds : Rows.FnExactRankFacesSaid :=
  OpenClaim.holds_of_wide 4 Try.f4 rfl rfl rfl rfl rfl rfl rfl ⟨rfl, rfl, rfl, rfl, rfl⟩ rfl rfl rfl rfl rfl (by kernel_rfl) Try.func4 (by kernel_rfl)
    (of_decide_eq_true (by kernel_rfl)) (by unfold Func.isWrapper; first | (rw [if_pos (by decide +kernel)]; kernel_rfl) | (rw [if_neg (by decide +kernel)]; exact ⟨rfl, rfl⟩))
    (fun os started H enc _ => lawRankFaces_lifted os started H enc)
end Go.Proofs.Ytjehdoedfikcdaa

/-
  The law FnExactAddRequester, walked: it returns true, whatever its arguments; then its statement. Printed by genlaw.py.
-/
import Derived.Test.YtdgncogfmchhmaaEq
import Derived.Test.YtdgncogfmchhmaaSz
import Derived.Test.YtdgncogfmchhmaaTo
import Derived.Test.YtdgncogfmchhmaaBridge
import Derived.Test.YtdgncogfmchhmaaMark
import Derived.Test.YtdgncogfmchhmaaMarkI
import Derived.Test.YtdgncogfmchhmaaHeld
import Derived.Test.YtdgncogfmchhmaaAddQ
import Derived.Test.YtdgncogfmchhmaaSoftT
import Derived.Deep.RegionHeld3
namespace Go.Proofs.Ytdgncogfmchhmaa
open Go.ChangeShapes Go.WideShapes Go.ChangeAt Go.RowKit
set_option linter.unusedVariables false
set_option linter.unusedSimpArgs false
set_option linter.unnecessarySimpa false
set_option maxRecDepth 100000 in
set_option maxHeartbeats 4000000 in
theorem lawAddRequester_c {w : World} {v0 : Value} {x0 : (List LPendingInterest)} (h0 : (Rep.slice 57 RPendingInterest).raw w [v0] x0) {c1 : List Value} {x1 : LInterest} (h1 : RInterest.raw w c1 x1) {x2 : Int} (h2 : -9223372036854775808 ≤ x2 ∧ x2 ≤ 9223372036854775807) {x3 : Int} (h3 : -9223372036854775808 ≤ x3 ∧ x3 ≤ 9223372036854775807) :
    Calls Try.prog 3 #[v0, .agg c1.toArray, .int .i64 x2, .int .i64 x3] w (LawPost w) := by
  obtain ⟨a0a, a0p, a0h, a0l⟩ := Rep.len_raw h0; obtain rfl : v0 = _ := by simpa using a0h
  clear a0h
  obtain ⟨a1v0, rfl, a1_0, a1_1, a1_2, a1_3, a1_4⟩ := RInterest_raw h1
  clear a1_0 a1_1 a1_2 a1_3 a1_4
  have hi2 := Lib.hid h2; clear h2
  have hi3 := Lib.hid h3; clear h3
  go_enter Try.func3, Try.ntmps3
  go_wp2_with fail
  refine (szPendingInterestS_c (h0.below (by repeat (first | (with_reducible exact Below.refl _ _) | refine Below.alloc ?_ (by simp; try omega) _ | refine Below.drew ?_))) (by omega) (by omega)).mono ?_
  rintro e w1 ⟨s1, rfl, p1, q1, g1, hb1⟩
  have G1 := Lib.hid g1; clear g1
  have D1 : Below w.heap.size w w1 := Below.trans (by repeat (first | (with_reducible exact Below.refl _ _) | refine Below.alloc ?_ (by simp; try omega) _ | refine Below.drew ?_)) (hb1.mono (by first | (simp; done) | (simp; omega)))
  have H1 := Lib.hid D1
  have L1 := Lib.hid (show w.heap.size + 1 ≤ w1.heap.size from by have h := hb1.size; (try simp at h); omega)
  have X_aW_1 : Hid (w1.heap[w.heap.size]? = some (.cells #[a1v0, .int .i64 x1.2.1, .int .i64 x1.2.2.1, .int .i64 x1.2.2.2] 27 (0, 0))) := Lib.hid ((hb1.block (w.heap.size) (by first | (simp; done) | (simp; omega))).trans (heap_new_at (by simp)))
  clear D1 hb1
  by_cases m1 : s1 < 0
  · go_wp2
    go_ret
    exact ⟨rfl, H1.out⟩
  have z1 : 0 ≤ s1 := by omega
  have r0 : (Rep.slice 57 RPendingInterest).rd w _ x0 := ⟨h0, (Rep.slice 57 RPendingInterest).bdd_mono (G1.out z1) (by decide)⟩
  have K_aW_0 := boxCell X_aW_1.out (j := 0) (v := a1v0) rfl
  have K_aW_1 := boxCell X_aW_1.out (j := 1) (v := .int .i64 x1.2.1) rfl
  have K_aW_2 := boxCell X_aW_1.out (j := 2) (v := .int .i64 x1.2.2.1) rfl
  have K_aW_3 := boxCell X_aW_1.out (j := 3) (v := .int .i64 x1.2.2.2) rfl
  go_wp2_with fail
  refine (szInterest_c (h1.below (by repeat (first | (with_reducible exact H1.out) | refine Below.alloc ?_ (by have := H1.out.size; simp; try omega) _ | refine Below.drew ?_))) z1 (by omega)).mono ?_
  rintro e w2 ⟨s2, rfl, p2, q2, g2, hb2⟩
  have G2 := Lib.hid g2; clear g2
  have D2 : Below w1.heap.size w1 w2 := Below.trans (by repeat (first | (with_reducible exact Below.refl _ _) | refine Below.alloc ?_ (by simp; try omega) _ | refine Below.drew ?_)) (hb2.mono (by first | (simp; done) | (simp; omega)))
  have H2 := Lib.hid (H1.out.trans (D2.mono H1.out.size))
  have L2 := Lib.hid (show w1.heap.size + 0 ≤ w2.heap.size from by have h := hb2.size; (try simp at h); omega)
  have X_aW_2 := Lib.hid (keepBox X_aW_1.out D2); clear X_aW_1
  clear D2 K_aW_0 K_aW_1 K_aW_2 K_aW_3 hb2
  by_cases m2 : s2 < 0
  · go_wp2
    go_ret
    exact ⟨rfl, H2.out⟩
  have z2 : 0 ≤ s2 := by omega
  have r1 : RInterest.rd w _ x1 := ⟨h1, RInterest.bdd_mono (G2.out z2) (by decide)⟩
  have K_aW_0 := boxCell X_aW_2.out (j := 0) (v := a1v0) rfl
  have K_aW_1 := boxCell X_aW_2.out (j := 1) (v := .int .i64 x1.2.1) rfl
  have K_aW_2 := boxCell X_aW_2.out (j := 2) (v := .int .i64 x1.2.2.1) rfl
  have K_aW_3 := boxCell X_aW_2.out (j := 3) (v := .int .i64 x1.2.2.2) rfl
  go_wp2_with fail
  refine wp_region_softP (fun W => Below w2.heap.size w2 W) [(0, true), (2, true), (4, true), (5, true), (1, false), (3, false), (6, false), (7, true), (8, true), (9, true), (10, true), (11, true)] (by kernel_rfl) (by kernel_rfl) (fun c a d v w h => by cases d <;> exact h) ((Below.refl _ _).drew) ?_
  intro wS HS
  simp only [pickOps, List.getElem?_cons_succ, List.getElem?_cons_zero, List.map_cons, List.map_nil]
  all_goals first | (refine soft_pass rfl HS ?_) | (refine soft_read (v := ?_) rfl (fun W hW => ?_) ?_; rotate_left; (· go_simp; try with_reducible rfl))
  all_goals try simp only [Act.put, List.setIfInBounds_toArray, List.set_cons_zero, List.set_cons_succ]
  all_goals first | (refine soft_pass rfl HS ?_) | (refine soft_read (v := ?_) rfl (fun W hW => ?_) ?_; rotate_left; (· have A_K_aW_0 := cell_later hW K_aW_0; have A_K_aW_1 := cell_later hW K_aW_1; have A_K_aW_2 := cell_later hW K_aW_2; have A_K_aW_3 := cell_later hW K_aW_3; clear hW; go_simp; try with_reducible rfl))
  all_goals try simp only [Act.put, List.setIfInBounds_toArray, List.set_cons_zero, List.set_cons_succ]
  all_goals first | (refine soft_pass rfl HS ?_) | (refine soft_read (v := ?_) rfl (fun W hW => ?_) ?_; rotate_left; (· go_simp; try with_reducible rfl))
  all_goals try simp only [Act.put, List.setIfInBounds_toArray, List.set_cons_zero, List.set_cons_succ]
  all_goals first | (refine soft_pass rfl HS ?_) | (refine soft_read (v := ?_) rfl (fun W hW => ?_) ?_; rotate_left; (· go_simp; try with_reducible rfl))
  all_goals try simp only [Act.put, List.setIfInBounds_toArray, List.set_cons_zero, List.set_cons_succ]
  all_goals first | (refine soft_pass rfl HS ?_) | (refine soft_do rfl (fun K hK => ?_); go_simp; refine (toPendingInterestS_c (r0.below (H2.out.trans (HS.mono H2.out.size)))).mono ?_; rintro e u3_0 ⟨tv3_0, rfl, O3_0, hc⟩; obtain ⟨t3_0a, t3_0p, t3_0h, _⟩ := Rep.len_raw O3_0.raw; obtain rfl : tv3_0 = _ := (by simpa using t3_0h); clear t3_0h; replace HS := HS.trans (hc.mono HS.size); refine hK _ _ HS ?_; clear hK K hc)
  all_goals try simp only [Act.put, List.setIfInBounds_toArray, List.set_cons_zero, List.set_cons_succ]
  all_goals first | (refine soft_pass rfl HS ?_) | (refine soft_do rfl (fun K hK => ?_); go_simp; refine (toInterest_c (r1.below (H2.out.trans (HS.mono H2.out.size)))).mono ?_; rintro e u3_1 ⟨cs3_1, rfl, O3_1, hc⟩; obtain ⟨t3_1v0, rfl, t3_1_0, t3_1_1, t3_1_2, t3_1_3, t3_1_4⟩ := RInterest_raw O3_1.raw; obtain ⟨t3_1a0, t3_1p0, t3_1h0, _⟩ := Rep.len_raw t3_1_1; obtain rfl : t3_1v0 = _ := (by simpa using t3_1h0); clear t3_1h0; clear t3_1_0 t3_1_1 t3_1_2 t3_1_3 t3_1_4; replace O3_0 := O3_0.below hc; replace HS := HS.trans (hc.mono HS.size); refine hK _ _ HS ?_; clear hK K hc)
  all_goals try simp only [Act.put, List.setIfInBounds_toArray, List.set_cons_zero, List.set_cons_succ]
  all_goals first | (refine soft_pass rfl HS ?_) | (refine soft_do rfl (fun K hK => ?_); go_simp; refine (specAddRequester_c O3_0.rd O3_1.rd hi2.out hi3.out (G1.out z1)).mono ?_; rintro e w3 ⟨tv3, rfl, O3, hc⟩; obtain ⟨t3a, t3p, t3h, _⟩ := Rep.len_raw O3.raw; obtain rfl : tv3 = _ := (by simpa using t3h); clear t3h; have sz := HS.size; have Z3 := Lib.hid (O3.wide (T := Btw (w2.heap.size) (w3.heap.size)) (fun i hi => ⟨Nat.le_trans sz hi.1, hi.2⟩)); clear O3 sz; replace HS := HS.trans (hc.mono HS.size); refine hK _ _ HS ?_; clear hK K hc O3_0 O3_1)
  all_goals try simp only [Act.put, List.setIfInBounds_toArray, List.set_cons_zero, List.set_cons_succ]
  all_goals first | (refine soft_pass rfl HS ?_) | (refine soft_read (v := ?_) rfl (fun W hW => ?_) ?_; rotate_left; (· go_simp; try with_reducible rfl))
  all_goals try simp only [Act.put, List.setIfInBounds_toArray, List.set_cons_zero, List.set_cons_succ]
  all_goals first | (refine soft_pass rfl HS ?_) | (refine soft_read (v := ?_) rfl (fun W hW => ?_) ?_; rotate_left; (· go_simp; try with_reducible rfl))
  all_goals try simp only [Act.put, List.setIfInBounds_toArray, List.set_cons_zero, List.set_cons_succ]
  all_goals first | (refine soft_pass rfl HS ?_) | (refine soft_read (v := ?_) rfl (fun W hW => ?_) ?_; rotate_left; (· go_simp; try with_reducible rfl))
  all_goals try simp only [Act.put, List.setIfInBounds_toArray, List.set_cons_zero, List.set_cons_succ]
  all_goals first | (refine soft_pass rfl HS ?_) | (refine soft_read (v := ?_) rfl (fun W hW => ?_) ?_; rotate_left; (· go_simp; try with_reducible rfl))
  all_goals try simp only [Act.put, List.setIfInBounds_toArray, List.set_cons_zero, List.set_cons_succ]
  all_goals first | (refine soft_pass rfl HS ?_) | (refine soft_read (v := ?_) rfl (fun W hW => ?_) ?_; rotate_left; (· go_simp; try with_reducible rfl))
  all_goals try simp only [Act.put, List.setIfInBounds_toArray, List.set_cons_zero, List.set_cons_succ]
  all_goals refine soft_nil ?_
  have D3 : Below w2.heap.size w2 w3 := Below.trans (by repeat (first | (with_reducible exact Below.refl _ _) | refine Below.alloc ?_ (by simp; try omega) _ | refine Below.drew ?_)) (HS.mono (by first | (simp; done) | (simp; omega)))
  have H3 := Lib.hid (H2.out.trans (D3.mono H2.out.size))
  have L3 := Lib.hid (show w2.heap.size + 0 ≤ w3.heap.size from by have h := HS.size; (try simp at h); omega)
  have X_aW_3 := Lib.hid (keepBox X_aW_2.out D3); clear X_aW_2
  clear D3 K_aW_0 K_aW_1 K_aW_2 K_aW_3 HS
  go_wp2_with fail
  refine (toPendingInterestS_c (r0.below (by repeat (first | (with_reducible exact H3.out) | refine Below.alloc ?_ (by have := H3.out.size; simp; try omega) _ | refine Below.drew ?_)))).mono ?_
  rintro e w4 ⟨tv4, rfl, O4, hb4⟩
  obtain ⟨t4a, t4p, t4h, _⟩ := Rep.len_raw O4.raw; obtain rfl : tv4 = _ := (by simpa using t4h)
  clear t4h
  have Z4 := Lib.hid (O4.wide (T := Btw (w3.heap.size) (w4.heap.size)) (fun i hi => ⟨by have h := hi.1; (try simp at h); omega, hi.2⟩)); clear O4
  have D4 : Below w3.heap.size w3 w4 := Below.trans (by repeat (first | (with_reducible exact Below.refl _ _) | refine Below.alloc ?_ (by simp; try omega) _ | refine Below.drew ?_)) (hb4.mono (by first | (simp; done) | (simp; omega)))
  have H4 := Lib.hid (H3.out.trans (D4.mono H3.out.size))
  have L4 := Lib.hid (show w3.heap.size + 0 ≤ w4.heap.size from by have h := hb4.size; (try simp at h); omega)
  have X_aW_4 := Lib.hid (keepBox X_aW_3.out D4); clear X_aW_3
  have O_w0_4 := Lib.hid (Z3.out.below D4); clear Z3
  clear D4 hb4
  have K_aW_0 := boxCell X_aW_4.out (j := 0) (v := a1v0) rfl
  have K_aW_1 := boxCell X_aW_4.out (j := 1) (v := .int .i64 x1.2.1) rfl
  have K_aW_2 := boxCell X_aW_4.out (j := 2) (v := .int .i64 x1.2.2.1) rfl
  have K_aW_3 := boxCell X_aW_4.out (j := 3) (v := .int .i64 x1.2.2.2) rfl
  go_wp2_with fail
  refine (toInterest_c (r1.below (by repeat (first | (with_reducible exact H4.out) | refine Below.alloc ?_ (by have := H4.out.size; simp; try omega) _ | refine Below.drew ?_)))).mono ?_
  rintro e w5 ⟨cs5, rfl, O5, hb5⟩
  obtain ⟨t5v0, rfl, t5_0, t5_1, t5_2, t5_3, t5_4⟩ := RInterest_raw O5.raw
  obtain ⟨t5a0, t5p0, t5h0, _⟩ := Rep.len_raw t5_1; obtain rfl : t5v0 = _ := (by simpa using t5h0)
  clear t5h0
  clear t5_0 t5_1 t5_2 t5_3 t5_4
  have Z5 := Lib.hid (O5.wide (T := Btw (w4.heap.size) (w5.heap.size)) (fun i hi => ⟨by have h := hi.1; (try simp at h); omega, hi.2⟩)); clear O5
  have D5 : Below w4.heap.size w4 w5 := Below.trans (by repeat (first | (with_reducible exact Below.refl _ _) | refine Below.alloc ?_ (by simp; try omega) _ | refine Below.drew ?_)) (hb5.mono (by first | (simp; done) | (simp; omega)))
  have H5 := Lib.hid (H4.out.trans (D5.mono H4.out.size))
  have L5 := Lib.hid (show w4.heap.size + 0 ≤ w5.heap.size from by have h := hb5.size; (try simp at h); omega)
  have X_aW_5 := Lib.hid (keepBox X_aW_4.out D5); clear X_aW_4
  have O_w0_5 := Lib.hid (O_w0_4.out.below D5); clear O_w0_4
  have O_x0_5 := Lib.hid (Z4.out.below D5); clear Z4
  clear D5 K_aW_0 K_aW_1 K_aW_2 K_aW_3 hb5
  go_wp2_with fail
  refine (implAddRequester_c (O_x0_5.out.rd.below (by repeat (first | (with_reducible exact Below.refl _ _) | refine Below.alloc ?_ (by simp; try omega) _ | refine Below.drew ?_))) (Z5.out.rd.below (by repeat (first | (with_reducible exact Below.refl _ _) | refine Below.alloc ?_ (by simp; try omega) _ | refine Below.drew ?_))) hi2.out hi3.out (G1.out z1)).mono ?_
  rintro e w6 ⟨tv6, rfl, O6, hb6⟩
  obtain ⟨t6a, t6p, t6h, _⟩ := Rep.len_raw O6.raw; obtain rfl : tv6 = _ := (by simpa using t6h)
  clear t6h
  have Z6 := Lib.hid (O6.wide (T := Btw (w5.heap.size + 1) (w6.heap.size)) (fun i hi => ⟨by have h := hi.1; (try simp at h); omega, hi.2⟩)); clear O6
  have D6 : Below w5.heap.size w5 w6 := Below.trans (by repeat (first | (with_reducible exact Below.refl _ _) | refine Below.alloc ?_ (by simp; try omega) _ | refine Below.drew ?_)) (hb6.mono (by first | (simp; done) | (simp; omega)))
  have H6 := Lib.hid (H5.out.trans (D6.mono H5.out.size))
  have L6 := Lib.hid (show w5.heap.size + 1 ≤ w6.heap.size from by have h := hb6.size; (try simp at h); omega)
  have X_aW_6 := Lib.hid (keepBox X_aW_5.out D6); clear X_aW_5
  have X_x1_6 : Hid (w6.heap[w5.heap.size]? = some (.cells #[.slice t5a0 (x1.1).length t5p0, .int .i64 x1.2.1, .int .i64 x1.2.2.1, .int .i64 x1.2.2.2] 36 (0, 0))) := Lib.hid ((hb6.block (w5.heap.size) (by first | (simp; done) | (simp; omega))).trans (heap_new_at (by simp)))
  have O_w0_6 := Lib.hid (O_w0_5.out.below D6); clear O_w0_5
  have O_x0_6 := Lib.hid (O_x0_5.out.below D6); clear O_x0_5
  have O_x1_6 := Lib.hid (Z5.out.below D6); clear Z5
  clear D6 hb6
  go_wp2_with fail
  refine (eqPendingInterestS_c (Z6.out.raw.below (by repeat (first | (with_reducible exact Below.refl _ _) | refine Below.alloc ?_ (by simp; try omega) _ | refine Below.drew ?_))) (O_w0_6.out.raw.below (by repeat (first | (with_reducible exact Below.refl _ _) | refine Below.alloc ?_ (by simp; try omega) _ | refine Below.drew ?_)))).mono ?_
  rintro e w7 ⟨rfl, hb7⟩
  have D7 : Below w6.heap.size w6 w7 := Below.trans (by repeat (first | (with_reducible exact Below.refl _ _) | refine Below.alloc ?_ (by simp; try omega) _ | refine Below.drew ?_)) (hb7.mono (by first | (simp; done) | (simp; omega)))
  have H7 := Lib.hid (H6.out.trans (D7.mono H6.out.size))
  have L7 := Lib.hid (show w6.heap.size + 0 ≤ w7.heap.size from by have h := hb7.size; (try simp at h); omega)
  have X_aW_7 := Lib.hid (keepBox X_aW_6.out D7); clear X_aW_6
  have X_x1_7 := Lib.hid (keepBox X_x1_6.out D7); clear X_x1_6
  have O_w0_7 := Lib.hid (O_w0_6.out.below D7); clear O_w0_6
  have O_x0_7 := Lib.hid (O_x0_6.out.below D7); clear O_x0_6
  have O_x1_7 := Lib.hid (O_x1_6.out.below D7); clear O_x1_6
  have O_g0_7 := Lib.hid (Z6.out.below D7); clear Z6
  clear D7 hb7
  go_wp2_with fail
  refine (toPendingInterestS_c (r0.below (by repeat (first | (with_reducible exact H7.out) | refine Below.alloc ?_ (by have := H7.out.size; simp; try omega) _ | refine Below.drew ?_)))).mono ?_
  rintro e w8 ⟨tv8, rfl, O8, hb8⟩
  obtain ⟨t8a, t8p, t8h, _⟩ := Rep.len_raw O8.raw; obtain rfl : tv8 = _ := (by simpa using t8h)
  clear t8h
  have Z8 := Lib.hid (O8.wide (T := Btw (w7.heap.size) (w8.heap.size)) (fun i hi => ⟨by have h := hi.1; (try simp at h); omega, hi.2⟩)); clear O8
  have D8 : Below w7.heap.size w7 w8 := Below.trans (by repeat (first | (with_reducible exact Below.refl _ _) | refine Below.alloc ?_ (by simp; try omega) _ | refine Below.drew ?_)) (hb8.mono (by first | (simp; done) | (simp; omega)))
  have H8 := Lib.hid (H7.out.trans (D8.mono H7.out.size))
  have L8 := Lib.hid (show w7.heap.size + 0 ≤ w8.heap.size from by have h := hb8.size; (try simp at h); omega)
  have X_aW_8 := Lib.hid (keepBox X_aW_7.out D8); clear X_aW_7
  have X_x1_8 := Lib.hid (keepBox X_x1_7.out D8); clear X_x1_7
  have O_w0_8 := Lib.hid (O_w0_7.out.below D8); clear O_w0_7
  have O_x0_8 := Lib.hid (O_x0_7.out.below D8); clear O_x0_7
  have O_x1_8 := Lib.hid (O_x1_7.out.below D8); clear O_x1_7
  have O_g0_8 := Lib.hid (O_g0_7.out.below D8); clear O_g0_7
  clear D8 hb8
  go_wp2_with fail
  refine (eqPendingInterestS_c (O_x0_8.out.raw.below (by repeat (first | (with_reducible exact Below.refl _ _) | refine Below.alloc ?_ (by simp; try omega) _ | refine Below.drew ?_))) (Z8.out.raw.below (by repeat (first | (with_reducible exact Below.refl _ _) | refine Below.alloc ?_ (by simp; try omega) _ | refine Below.drew ?_)))).mono ?_
  rintro e w9 ⟨rfl, hb9⟩
  clear Z8
  have D9 : Below w8.heap.size w8 w9 := Below.trans (by repeat (first | (with_reducible exact Below.refl _ _) | refine Below.alloc ?_ (by simp; try omega) _ | refine Below.drew ?_)) (hb9.mono (by first | (simp; done) | (simp; omega)))
  have H9 := Lib.hid (H8.out.trans (D9.mono H8.out.size))
  have L9 := Lib.hid (show w8.heap.size + 0 ≤ w9.heap.size from by have h := hb9.size; (try simp at h); omega)
  have X_aW_9 := Lib.hid (keepBox X_aW_8.out D9); clear X_aW_8
  have X_x1_9 := Lib.hid (keepBox X_x1_8.out D9); clear X_x1_8
  have O_w0_9 := Lib.hid (O_w0_8.out.below D9); clear O_w0_8
  have O_x0_9 := Lib.hid (O_x0_8.out.below D9); clear O_x0_8
  have O_x1_9 := Lib.hid (O_x1_8.out.below D9); clear O_x1_8
  have O_g0_9 := Lib.hid (O_g0_8.out.below D9); clear O_g0_8
  clear D9 hb9
  have K_aW_0 := boxCell X_aW_9.out (j := 0) (v := a1v0) rfl
  have K_aW_1 := boxCell X_aW_9.out (j := 1) (v := .int .i64 x1.2.1) rfl
  have K_aW_2 := boxCell X_aW_9.out (j := 2) (v := .int .i64 x1.2.2.1) rfl
  have K_aW_3 := boxCell X_aW_9.out (j := 3) (v := .int .i64 x1.2.2.2) rfl
  have K_x1_0 := boxCell X_x1_9.out (j := 0) (v := .slice t5a0 (x1.1).length t5p0) rfl
  have K_x1_1 := boxCell X_x1_9.out (j := 1) (v := .int .i64 x1.2.1) rfl
  have K_x1_2 := boxCell X_x1_9.out (j := 2) (v := .int .i64 x1.2.2.1) rfl
  have K_x1_3 := boxCell X_x1_9.out (j := 3) (v := .int .i64 x1.2.2.2) rfl
  go_wp2_with fail
  go_region_held3 (fun W => W.cell? ⟨w.heap.size, 0, none⟩ = some (a1v0) ∧ W.cell? ⟨w.heap.size, 1, none⟩ = some (.int .i64 x1.2.1) ∧ W.cell? ⟨w.heap.size, 2, none⟩ = some (.int .i64 x1.2.2.1) ∧ W.cell? ⟨w.heap.size, 3, none⟩ = some (.int .i64 x1.2.2.2) ∧ W.cell? ⟨w5.heap.size, 0, none⟩ = some (.slice t5a0 (x1.1).length t5p0) ∧ W.cell? ⟨w5.heap.size, 1, none⟩ = some (.int .i64 x1.2.1) ∧ W.cell? ⟨w5.heap.size, 2, none⟩ = some (.int .i64 x1.2.2.1) ∧ W.cell? ⟨w5.heap.size, 3, none⟩ = some (.int .i64 x1.2.2.2)) (first | exact ⟨cell_later hd10 (cell_later hc10 K_aW_0), cell_later hd10 (cell_later hc10 K_aW_1), cell_later hd10 (cell_later hc10 K_aW_2), cell_later hd10 (cell_later hc10 K_aW_3), cell_later hd10 (cell_later hc10 K_x1_0), cell_later hd10 (cell_later hc10 K_x1_1), cell_later hd10 (cell_later hc10 K_x1_2), cell_later hd10 (cell_later hc10 K_x1_3)⟩ | exact ⟨cell_later hc10 K_aW_0, cell_later hc10 K_aW_1, cell_later hc10 K_aW_2, cell_later hc10 K_aW_3, cell_later hc10 K_x1_0, cell_later hc10 K_x1_1, cell_later hc10 K_x1_2, cell_later hc10 K_x1_3⟩ | go_keep)
    (first | (go_at_call 8; refine (toInterest_c (r1.below (by repeat (first | (with_reducible exact H9.out) | refine Below.alloc ?_ (by have := H9.out.size; simp; try omega) _ | refine Below.drew ?_)))).mono ?_; rintro e u10 ⟨cs10, rfl, O10, hc10⟩; obtain ⟨t10v0, rfl, t10_0, t10_1, t10_2, t10_3, t10_4⟩ := RInterest_raw O10.raw; obtain ⟨t10a0, t10p0, t10h0, _⟩ := Rep.len_raw t10_1; obtain rfl : t10v0 = _ := (by simpa using t10h0); clear t10h0; clear t10_0 t10_1 t10_2 t10_3 t10_4) | (go_at_call 11; refine (eqInterest_c (O_x1_9.out.raw.below (Below.trans (by repeat (first | (with_reducible exact Below.refl _ _) | refine Below.alloc ?_ (by simp; try omega) _ | refine Below.drew ?_)) (hc10.mono (by simp)))) O10.raw).mono ?_; rintro e w10 ⟨rfl, hd10⟩))
  have hb10 := hc10.trans (hd10.mono hc10.size); clear hc10 hd10 O10
  have D10 : Below w9.heap.size w9 w10 := Below.trans (by repeat (first | (with_reducible exact Below.refl _ _) | refine Below.alloc ?_ (by simp; try omega) _ | refine Below.drew ?_)) (hb10.mono (by first | (simp; done) | (simp; omega)))
  have H10 := Lib.hid (H9.out.trans (D10.mono H9.out.size))
  have L10 := Lib.hid (show w9.heap.size + 0 ≤ w10.heap.size from by have h := hb10.size; (try simp at h); omega)
  have X_aW_10 := Lib.hid (keepBox X_aW_9.out D10); clear X_aW_9
  have X_x1_10 := Lib.hid (keepBox X_x1_9.out D10); clear X_x1_9
  have O_w0_10 := Lib.hid (O_w0_9.out.below D10); clear O_w0_9
  have O_x0_10 := Lib.hid (O_x0_9.out.below D10); clear O_x0_9
  have O_x1_10 := Lib.hid (O_x1_9.out.below D10); clear O_x1_9
  have O_g0_10 := Lib.hid (O_g0_9.out.below D10); clear O_g0_9
  clear D10 K_aW_0 K_aW_1 K_aW_2 K_aW_3 K_x1_0 K_x1_1 K_x1_2 K_x1_3 hb10
  go_wp2_with fail
  refine (markPendingInterestS_c (k := 1) (O_x0_10.out.below (by repeat (first | (with_reducible exact Below.refl _ _) | refine Below.alloc ?_ (by simp; try omega) _ | refine Below.drew ?_))) (by  omega) (by have e : ((Rep.slice 57 RPendingInterest).cnt : Int) = 1125899923619840 := (by decide); unfold Top; omega)).mono ?_
  rintro e w11 ⟨rfl, P11, Y11⟩
  have B11 : Hid (1 ≤ ((Rep.slice 57 RPendingInterest).mark true (x0) (1)).2 ∧ ((Rep.slice 57 RPendingInterest).mark true (x0) (1)).2 ≤ 1 + 1125899923619840) := Lib.hid ⟨by have := (Rep.slice 57 RPendingInterest).mark_ge (e := true) (x := x0) (k := 1); omega, by have := (Rep.slice 57 RPendingInterest).mark_le (e := true) (k := 1) O_x0_10.out.2; have e : ((Rep.slice 57 RPendingInterest).cnt : Int) = 1125899923619840 := (by decide); omega⟩
  have D11 : Touch (Btw (w3.heap.size) (w4.heap.size)) w10 w11 := (Touch.of_below (by repeat (first | (with_reducible exact Below.refl _ _) | refine Below.alloc ?_ (by simp; try omega) _ | refine Below.drew ?_))).trans Y11
  have H11 := Lib.hid (H10.out.trans (D11.below (by have := H10.out.size; omega) (fun i hi => by have a := hi.1; have b : w.heap.size ≤ w3.heap.size := H3.out.size; omega)))
  have L11 := Lib.hid (show w10.heap.size ≤ w11.heap.size from D11.size)
  have X_aW_11 := Lib.hid (D11.keepBox X_aW_10.out (fun q => by have q1 := q.1; have q2 := q.2; have l1 := L1.out; have l2 := L2.out; have l3 := L3.out; have l4 := L4.out; omega)); clear X_aW_10
  have X_x1_11 := Lib.hid (D11.keepBox X_x1_10.out (fun q => by have q1 := q.1; have q2 := q.2; have l4 := L4.out; have l5 := L5.out; omega)); clear X_x1_10
  have O_w0_11 := Lib.hid (O_w0_10.out.touch D11 (fun i p q => by have p1 := p.1; have p2 := p.2; have q1 := q.1; have q2 := q.2; have l3 := L3.out; have l4 := L4.out; omega)); clear O_w0_10
  have O_x1_11 := Lib.hid (O_x1_10.out.touch D11 (fun i p q => by have p1 := p.1; have p2 := p.2; have q1 := q.1; have q2 := q.2; have l4 := L4.out; have l5 := L5.out; omega)); clear O_x1_10
  have O_g0_11 := Lib.hid (O_g0_10.out.touch D11 (fun i p q => by have p1 := p.1; have p2 := p.2; have q1 := q.1; have q2 := q.2; have l4 := L4.out; have l5 := L5.out; have l6 := L6.out; omega)); clear O_g0_10
  clear D11 Y11
  have Z11 := Lib.hid P11; clear P11 O_x0_10
  have U11 : 0 ≤ ((Rep.slice 57 RPendingInterest).mark true (x0) (1)).2 := by have := B11.out.1; omega
  have K_x1_0 := boxCell X_x1_11.out (j := 0) (v := .slice t5a0 (x1.1).length t5p0) rfl
  have K_x1_1 := boxCell X_x1_11.out (j := 1) (v := .int .i64 x1.2.1) rfl
  have K_x1_2 := boxCell X_x1_11.out (j := 2) (v := .int .i64 x1.2.2.1) rfl
  have K_x1_3 := boxCell X_x1_11.out (j := 3) (v := .int .i64 x1.2.2.2) rfl
  go_wp2_with fail
  refine (markInterest_c (k := ((Rep.slice 57 RPendingInterest).mark true (x0) (1)).2) (O_x1_11.out.below (by repeat (first | (with_reducible exact Below.refl _ _) | refine Below.alloc ?_ (by simp; try omega) _ | refine Below.drew ?_))) (by have := B11.out.1;  omega) (by have := B11.out.2; have e : (RInterest.cnt : Int) = 16777219 := (by decide); unfold Top; omega)).mono ?_
  rintro e w12 ⟨rfl, P12, Y12⟩
  have B12 : Hid (1 ≤ (RInterest.mark false (x1) (((Rep.slice 57 RPendingInterest).mark true (x0) (1)).2)).2 ∧ (RInterest.mark false (x1) (((Rep.slice 57 RPendingInterest).mark true (x0) (1)).2)).2 ≤ ((Rep.slice 57 RPendingInterest).mark true (x0) (1)).2 + 16777219) := Lib.hid ⟨by have := RInterest.mark_ge (e := false) (x := x1) (k := ((Rep.slice 57 RPendingInterest).mark true (x0) (1)).2); have := B11.out.1; omega, by have := RInterest.mark_le (e := false) (k := ((Rep.slice 57 RPendingInterest).mark true (x0) (1)).2) O_x1_11.out.2; have e : (RInterest.cnt : Int) = 16777219 := (by decide); omega⟩
  have D12 : Touch (Btw (w4.heap.size) (w5.heap.size)) w11 w12 := (Touch.of_below (by repeat (first | (with_reducible exact Below.refl _ _) | refine Below.alloc ?_ (by simp; try omega) _ | refine Below.drew ?_))).trans Y12
  have H12 := Lib.hid (H11.out.trans (D12.below (by have := H11.out.size; omega) (fun i hi => by have a := hi.1; have b : w.heap.size ≤ w4.heap.size := H4.out.size; omega)))
  have L12 := Lib.hid (show w11.heap.size ≤ w12.heap.size from D12.size)
  have X_aW_12 := Lib.hid (D12.keepBox X_aW_11.out (fun q => by have q1 := q.1; have q2 := q.2; have l1 := L1.out; have l2 := L2.out; have l3 := L3.out; have l4 := L4.out; have l5 := L5.out; omega)); clear X_aW_11
  have X_x1_12 := Lib.hid (D12.keepBox X_x1_11.out (fun q => by have q1 := q.1; have q2 := q.2; have l5 := L5.out; omega)); clear X_x1_11
  have O_w0_12 := Lib.hid (O_w0_11.out.touch D12 (fun i p q => by have p1 := p.1; have p2 := p.2; have q1 := q.1; have q2 := q.2; have l3 := L3.out; have l4 := L4.out; have l5 := L5.out; omega)); clear O_w0_11
  have O_x0_12 := Lib.hid (Z11.out.touch D12 (fun i p q => by have p1 := p.1; have p2 := p.2; have q1 := q.1; have q2 := q.2; have l4 := L4.out; have l5 := L5.out; omega)); clear Z11
  have O_g0_12 := Lib.hid (O_g0_11.out.touch D12 (fun i p q => by have p1 := p.1; have p2 := p.2; have q1 := q.1; have q2 := q.2; have l5 := L5.out; have l6 := L6.out; omega)); clear O_g0_11
  clear D12 K_x1_0 K_x1_1 K_x1_2 K_x1_3 Y12
  have Z12 := Lib.hid P12; clear P12 O_x1_11
  have U12 : 0 ≤ (RInterest.mark false (x1) (((Rep.slice 57 RPendingInterest).mark true (x0) (1)).2)).2 := by have := B12.out.1; omega
  go_wp2_with fail
  refine (eqPendingInterestS_c (O_g0_12.out.raw.below (by repeat (first | (with_reducible exact Below.refl _ _) | refine Below.alloc ?_ (by simp; try omega) _ | refine Below.drew ?_))) (O_w0_12.out.raw.below (by repeat (first | (with_reducible exact Below.refl _ _) | refine Below.alloc ?_ (by simp; try omega) _ | refine Below.drew ?_)))).mono ?_
  rintro e w13 ⟨rfl, hb13⟩
  have D13 : Below w12.heap.size w12 w13 := Below.trans (by repeat (first | (with_reducible exact Below.refl _ _) | refine Below.alloc ?_ (by simp; try omega) _ | refine Below.drew ?_)) (hb13.mono (by first | (simp; done) | (simp; omega)))
  have H13 := Lib.hid (H12.out.trans (D13.mono H12.out.size))
  have L13 := Lib.hid (show w12.heap.size + 0 ≤ w13.heap.size from by have h := hb13.size; (try simp at h); omega)
  have X_aW_13 := Lib.hid (keepBox X_aW_12.out D13); clear X_aW_12
  have X_x1_13 := Lib.hid (keepBox X_x1_12.out D13); clear X_x1_12
  have O_w0_13 := Lib.hid (O_w0_12.out.below D13); clear O_w0_12
  have O_x0_13 := Lib.hid (O_x0_12.out.below D13); clear O_x0_12
  have O_x1_13 := Lib.hid (Z12.out.below D13); clear Z12
  have O_g0_13 := Lib.hid (O_g0_12.out.below D13); clear O_g0_12
  clear D13 hb13
  go_wp2_with fail
  refine (markPendingInterestS_c (k := 1) (O_g0_13.out.below (by repeat (first | (with_reducible exact Below.refl _ _) | refine Below.alloc ?_ (by simp; try omega) _ | refine Below.drew ?_))) (by  omega) (by have e : ((Rep.slice 57 RPendingInterest).cnt : Int) = 1125899923619840 := (by decide); unfold Top; omega)).mono ?_
  rintro e w14 ⟨rfl, P14, Y14⟩
  have B14 : Hid (1 ≤ ((Rep.slice 57 RPendingInterest).mark true ((addQ x1 x2 x3 x0)) (1)).2 ∧ ((Rep.slice 57 RPendingInterest).mark true ((addQ x1 x2 x3 x0)) (1)).2 ≤ 1 + 1125899923619840) := Lib.hid ⟨by have := (Rep.slice 57 RPendingInterest).mark_ge (e := true) (x := (addQ x1 x2 x3 x0)) (k := 1); omega, by have := (Rep.slice 57 RPendingInterest).mark_le (e := true) (k := 1) O_g0_13.out.2; have e : ((Rep.slice 57 RPendingInterest).cnt : Int) = 1125899923619840 := (by decide); omega⟩
  have D14 : Touch (Btw (w5.heap.size + 1) (w6.heap.size)) w13 w14 := (Touch.of_below (by repeat (first | (with_reducible exact Below.refl _ _) | refine Below.alloc ?_ (by simp; try omega) _ | refine Below.drew ?_))).trans Y14
  have H14 := Lib.hid (H13.out.trans (D14.below (by have := H13.out.size; omega) (fun i hi => by have a := hi.1; have b : w.heap.size ≤ w5.heap.size := H5.out.size; omega)))
  have L14 := Lib.hid (show w13.heap.size ≤ w14.heap.size from D14.size)
  have X_aW_14 := Lib.hid (D14.keepBox X_aW_13.out (fun q => by have q1 := q.1; have q2 := q.2; have l1 := L1.out; have l2 := L2.out; have l3 := L3.out; have l4 := L4.out; have l5 := L5.out; have l6 := L6.out; omega)); clear X_aW_13
  have X_x1_14 := Lib.hid (D14.keepBox X_x1_13.out (fun q => by have q1 := q.1; have q2 := q.2; have l6 := L6.out; omega)); clear X_x1_13
  have O_w0_14 := Lib.hid (O_w0_13.out.touch D14 (fun i p q => by have p1 := p.1; have p2 := p.2; have q1 := q.1; have q2 := q.2; have l3 := L3.out; have l4 := L4.out; have l5 := L5.out; have l6 := L6.out; omega)); clear O_w0_13
  have O_x0_14 := Lib.hid (O_x0_13.out.touch D14 (fun i p q => by have p1 := p.1; have p2 := p.2; have q1 := q.1; have q2 := q.2; have l4 := L4.out; have l5 := L5.out; have l6 := L6.out; omega)); clear O_x0_13
  have O_x1_14 := Lib.hid (O_x1_13.out.touch D14 (fun i p q => by have p1 := p.1; have p2 := p.2; have q1 := q.1; have q2 := q.2; have l5 := L5.out; have l6 := L6.out; omega)); clear O_x1_13
  clear D14 Y14
  have Z14 := Lib.hid P14; clear P14 O_g0_13
  have U14 : 0 ≤ ((Rep.slice 57 RPendingInterest).mark true ((addQ x1 x2 x3 x0)) (1)).2 := by have := B14.out.1; omega
  go_wp2_with fail
  refine (heldPendingInterestS_c (Z14.out.raw.below (by repeat (first | (with_reducible exact Below.refl _ _) | refine Below.alloc ?_ (by simp; try omega) _ | refine Below.drew ?_))) ((Rep.slice 57 RPendingInterest).mark_held (e := true) (x := (addQ x1 x2 x3 x0)) (k := 1)) (by have := B14.out.1;  omega) (by have := B14.out.2;  omega)).mono ?_
  rintro e w15 ⟨rfl, hb15⟩
  have D15 : Below w14.heap.size w14 w15 := Below.trans (by repeat (first | (with_reducible exact Below.refl _ _) | refine Below.alloc ?_ (by simp; try omega) _ | refine Below.drew ?_)) (hb15.mono (by first | (simp; done) | (simp; omega)))
  have H15 := Lib.hid (H14.out.trans (D15.mono H14.out.size))
  have L15 := Lib.hid (show w14.heap.size + 0 ≤ w15.heap.size from by have h := hb15.size; (try simp at h); omega)
  have X_aW_15 := Lib.hid (keepBox X_aW_14.out D15); clear X_aW_14
  have X_x1_15 := Lib.hid (keepBox X_x1_14.out D15); clear X_x1_14
  have O_w0_15 := Lib.hid (O_w0_14.out.below D15); clear O_w0_14
  have O_x0_15 := Lib.hid (O_x0_14.out.below D15); clear O_x0_14
  have O_x1_15 := Lib.hid (O_x1_14.out.below D15); clear O_x1_14
  have O_g0_15 := Lib.hid (Z14.out.below D15); clear Z14
  clear D15 hb15
  have K_aW_0 := boxCell X_aW_15.out (j := 0) (v := a1v0) rfl
  have K_aW_1 := boxCell X_aW_15.out (j := 1) (v := .int .i64 x1.2.1) rfl
  have K_aW_2 := boxCell X_aW_15.out (j := 2) (v := .int .i64 x1.2.2.1) rfl
  have K_aW_3 := boxCell X_aW_15.out (j := 3) (v := .int .i64 x1.2.2.2) rfl
  go_wp2_with fail
  refine wp_region_softP (fun W => Below w15.heap.size w15 W) [(0, true), (2, true), (4, true), (5, true), (1, false), (3, false), (6, false), (7, true), (8, true), (9, true), (10, true), (11, true)] (by kernel_rfl) (by kernel_rfl) (fun c a d v w h => by cases d <;> exact h) ((Below.refl _ _).drew) ?_
  intro wS HS
  simp only [pickOps, List.getElem?_cons_succ, List.getElem?_cons_zero, List.map_cons, List.map_nil]
  all_goals first | (refine soft_pass rfl HS ?_) | (refine soft_read (v := ?_) rfl (fun W hW => ?_) ?_; rotate_left; (· go_simp; try with_reducible rfl))
  all_goals try simp only [Act.put, List.setIfInBounds_toArray, List.set_cons_zero, List.set_cons_succ]
  all_goals first | (refine soft_pass rfl HS ?_) | (refine soft_read (v := ?_) rfl (fun W hW => ?_) ?_; rotate_left; (· have A_K_aW_0 := cell_later hW K_aW_0; have A_K_aW_1 := cell_later hW K_aW_1; have A_K_aW_2 := cell_later hW K_aW_2; have A_K_aW_3 := cell_later hW K_aW_3; clear hW; go_simp; try with_reducible rfl))
  all_goals try simp only [Act.put, List.setIfInBounds_toArray, List.set_cons_zero, List.set_cons_succ]
  all_goals first | (refine soft_pass rfl HS ?_) | (refine soft_read (v := ?_) rfl (fun W hW => ?_) ?_; rotate_left; (· go_simp; try with_reducible rfl))
  all_goals try simp only [Act.put, List.setIfInBounds_toArray, List.set_cons_zero, List.set_cons_succ]
  all_goals first | (refine soft_pass rfl HS ?_) | (refine soft_read (v := ?_) rfl (fun W hW => ?_) ?_; rotate_left; (· go_simp; try with_reducible rfl))
  all_goals try simp only [Act.put, List.setIfInBounds_toArray, List.set_cons_zero, List.set_cons_succ]
  all_goals first | (refine soft_pass rfl HS ?_) | (refine soft_do rfl (fun K hK => ?_); go_simp; refine (toPendingInterestS_c (r0.below (H15.out.trans (HS.mono H15.out.size)))).mono ?_; rintro e u16_0 ⟨tv16_0, rfl, O16_0, hc⟩; obtain ⟨t16_0a, t16_0p, t16_0h, _⟩ := Rep.len_raw O16_0.raw; obtain rfl : tv16_0 = _ := (by simpa using t16_0h); clear t16_0h; replace HS := HS.trans (hc.mono HS.size); refine hK _ _ HS ?_; clear hK K hc)
  all_goals try simp only [Act.put, List.setIfInBounds_toArray, List.set_cons_zero, List.set_cons_succ]
  all_goals first | (refine soft_pass rfl HS ?_) | (refine soft_do rfl (fun K hK => ?_); go_simp; refine (toInterest_c (r1.below (H15.out.trans (HS.mono H15.out.size)))).mono ?_; rintro e u16_1 ⟨cs16_1, rfl, O16_1, hc⟩; obtain ⟨t16_1v0, rfl, t16_1_0, t16_1_1, t16_1_2, t16_1_3, t16_1_4⟩ := RInterest_raw O16_1.raw; obtain ⟨t16_1a0, t16_1p0, t16_1h0, _⟩ := Rep.len_raw t16_1_1; obtain rfl : t16_1v0 = _ := (by simpa using t16_1h0); clear t16_1h0; clear t16_1_0 t16_1_1 t16_1_2 t16_1_3 t16_1_4; replace O16_0 := O16_0.below hc; replace HS := HS.trans (hc.mono HS.size); refine hK _ _ HS ?_; clear hK K hc)
  all_goals try simp only [Act.put, List.setIfInBounds_toArray, List.set_cons_zero, List.set_cons_succ]
  all_goals first | (refine soft_pass rfl HS ?_) | (refine soft_do rfl (fun K hK => ?_); go_simp; refine (implAddRequester_c O16_0.rd O16_1.rd hi2.out hi3.out (G1.out z1)).mono ?_; rintro e w16 ⟨tv16, rfl, O16, hc⟩; obtain ⟨t16a, t16p, t16h, _⟩ := Rep.len_raw O16.raw; obtain rfl : tv16 = _ := (by simpa using t16h); clear t16h; have sz := HS.size; have Z16 := Lib.hid (O16.wide (T := Btw (w15.heap.size) (w16.heap.size)) (fun i hi => ⟨Nat.le_trans sz hi.1, hi.2⟩)); clear O16 sz; replace HS := HS.trans (hc.mono HS.size); refine hK _ _ HS ?_; clear hK K hc O16_0 O16_1)
  all_goals try simp only [Act.put, List.setIfInBounds_toArray, List.set_cons_zero, List.set_cons_succ]
  all_goals first | (refine soft_pass rfl HS ?_) | (refine soft_read (v := ?_) rfl (fun W hW => ?_) ?_; rotate_left; (· go_simp; try with_reducible rfl))
  all_goals try simp only [Act.put, List.setIfInBounds_toArray, List.set_cons_zero, List.set_cons_succ]
  all_goals first | (refine soft_pass rfl HS ?_) | (refine soft_read (v := ?_) rfl (fun W hW => ?_) ?_; rotate_left; (· go_simp; try with_reducible rfl))
  all_goals try simp only [Act.put, List.setIfInBounds_toArray, List.set_cons_zero, List.set_cons_succ]
  all_goals first | (refine soft_pass rfl HS ?_) | (refine soft_read (v := ?_) rfl (fun W hW => ?_) ?_; rotate_left; (· go_simp; try with_reducible rfl))
  all_goals try simp only [Act.put, List.setIfInBounds_toArray, List.set_cons_zero, List.set_cons_succ]
  all_goals first | (refine soft_pass rfl HS ?_) | (refine soft_read (v := ?_) rfl (fun W hW => ?_) ?_; rotate_left; (· go_simp; try with_reducible rfl))
  all_goals try simp only [Act.put, List.setIfInBounds_toArray, List.set_cons_zero, List.set_cons_succ]
  all_goals first | (refine soft_pass rfl HS ?_) | (refine soft_read (v := ?_) rfl (fun W hW => ?_) ?_; rotate_left; (· go_simp; try with_reducible rfl))
  all_goals try simp only [Act.put, List.setIfInBounds_toArray, List.set_cons_zero, List.set_cons_succ]
  all_goals refine soft_nil ?_
  have D16 : Below w15.heap.size w15 w16 := Below.trans (by repeat (first | (with_reducible exact Below.refl _ _) | refine Below.alloc ?_ (by simp; try omega) _ | refine Below.drew ?_)) (HS.mono (by first | (simp; done) | (simp; omega)))
  have H16 := Lib.hid (H15.out.trans (D16.mono H15.out.size))
  have L16 := Lib.hid (show w15.heap.size + 0 ≤ w16.heap.size from by have h := HS.size; (try simp at h); omega)
  have X_aW_16 := Lib.hid (keepBox X_aW_15.out D16); clear X_aW_15
  have X_x1_16 := Lib.hid (keepBox X_x1_15.out D16); clear X_x1_15
  have O_w0_16 := Lib.hid (O_w0_15.out.below D16); clear O_w0_15
  have O_x0_16 := Lib.hid (O_x0_15.out.below D16); clear O_x0_15
  have O_x1_16 := Lib.hid (O_x1_15.out.below D16); clear O_x1_15
  have O_g0_16 := Lib.hid (O_g0_15.out.below D16); clear O_g0_15
  clear D16 K_aW_0 K_aW_1 K_aW_2 K_aW_3 HS
  go_wp2_with fail
  refine (eqPendingInterestS_c (Z16.out.raw.below (by repeat (first | (with_reducible exact Below.refl _ _) | refine Below.alloc ?_ (by simp; try omega) _ | refine Below.drew ?_))) (O_w0_16.out.raw.below (by repeat (first | (with_reducible exact Below.refl _ _) | refine Below.alloc ?_ (by simp; try omega) _ | refine Below.drew ?_)))).mono ?_
  rintro e w17 ⟨rfl, hb17⟩
  have D17 : Below w16.heap.size w16 w17 := Below.trans (by repeat (first | (with_reducible exact Below.refl _ _) | refine Below.alloc ?_ (by simp; try omega) _ | refine Below.drew ?_)) (hb17.mono (by first | (simp; done) | (simp; omega)))
  have H17 := Lib.hid (H16.out.trans (D17.mono H16.out.size))
  have L17 := Lib.hid (show w16.heap.size + 0 ≤ w17.heap.size from by have h := hb17.size; (try simp at h); omega)
  have X_aW_17 := Lib.hid (keepBox X_aW_16.out D17); clear X_aW_16
  have X_x1_17 := Lib.hid (keepBox X_x1_16.out D17); clear X_x1_16
  have O_w0_17 := Lib.hid (O_w0_16.out.below D17); clear O_w0_16
  have O_x0_17 := Lib.hid (O_x0_16.out.below D17); clear O_x0_16
  have O_x1_17 := Lib.hid (O_x1_16.out.below D17); clear O_x1_16
  have O_g0_17 := Lib.hid (O_g0_16.out.below D17); clear O_g0_16
  have O_h0_17 := Lib.hid (Z16.out.below D17); clear Z16
  clear D17 hb17
  go_wp2_with fail
  refine (heldPendingInterestS_c (O_g0_17.out.raw.below (by repeat (first | (with_reducible exact Below.refl _ _) | refine Below.alloc ?_ (by simp; try omega) _ | refine Below.drew ?_))) ((Rep.slice 57 RPendingInterest).mark_held (e := true) (x := (addQ x1 x2 x3 x0)) (k := 1)) (by have := B14.out.1;  omega) (by have := B14.out.2;  omega)).mono ?_
  rintro e w18 ⟨rfl, hb18⟩
  have D18 : Below w17.heap.size w17 w18 := Below.trans (by repeat (first | (with_reducible exact Below.refl _ _) | refine Below.alloc ?_ (by simp; try omega) _ | refine Below.drew ?_)) (hb18.mono (by first | (simp; done) | (simp; omega)))
  have H18 := Lib.hid (H17.out.trans (D18.mono H17.out.size))
  have L18 := Lib.hid (show w17.heap.size + 0 ≤ w18.heap.size from by have h := hb18.size; (try simp at h); omega)
  have X_aW_18 := Lib.hid (keepBox X_aW_17.out D18); clear X_aW_17
  have X_x1_18 := Lib.hid (keepBox X_x1_17.out D18); clear X_x1_17
  have O_w0_18 := Lib.hid (O_w0_17.out.below D18); clear O_w0_17
  have O_x0_18 := Lib.hid (O_x0_17.out.below D18); clear O_x0_17
  have O_x1_18 := Lib.hid (O_x1_17.out.below D18); clear O_x1_17
  have O_g0_18 := Lib.hid (O_g0_17.out.below D18); clear O_g0_17
  have O_h0_18 := Lib.hid (O_h0_17.out.below D18); clear O_h0_17
  clear D18 hb18
  go_wp2
  go_ret
  exact ⟨rfl, H18.out⟩

set_option maxRecDepth 100000 in
theorem lawAddRequester_lifted (os : Os) (started : os.Started) (H : Type) (enc : TypeId × Value → H) :
    ReturnsInHanded {} Try.checked os 3 .any (Rows.fnExactAddRequesterSpec.pre6 enc Try.prog Try.f3 Rows.fnExactAddRequesterRow.domain false) (Rows.fnExactAddRequesterSpec.post enc Try.prog Try.f3 false true false false) := by
  refine returnsInHanded_of_change (C := Try.checked) law_own started (by kernel_rfl) Try.func3
    (ChangeSpec.witness6 (enc := enc) (C := Try.checked) false ⟨#[], #[.slice none 0 0, .agg #[.slice none 0 0, .int .i64 0, .int .i64 0, .int .i64 0], .int .i64 0, .int .i64 0], []⟩ 8 (by kernel_rfl) (by kernel_rfl) (by kernel_rfl) (by kernel_rfl)) ?_
  intro W base args ds gs before hval0 hW _ _
  have hval : ∀ (j : Nat) t v, Try.f3.params[j]? = some t → args[j]? = some v → Value.okWide Try.prog W .any base t v := hval0
  have hW0 : DataW.Whole enc Try.prog Try.f3.params.toList Rows.fnExactAddRequesterSpec.vars false W args.toList ds gs before := hW
  obtain ⟨p, q, hA0, hV, rfl, hfz, hnd⟩ := hW
  have hA : DataW.TrodAll enc Try.prog W 0 (fun _ => true) true Try.f3.params.toList args.toList ds p := hA0
  rw [Try.params3] at hA hval
  obtain ⟨v0, vs0, d0, ds0, p0, q0, hargs, rfl, rfl, g0, s0⟩ := trodAll_cons hA
  obtain ⟨v1, vs1, d1, ds1, p1, q1, rfl, rfl, rfl, g1, s1⟩ := trodAll_cons s0
  obtain ⟨v2, vs2, d2, ds2, p2, q2, rfl, rfl, rfl, g2, s2⟩ := trodAll_cons s1
  obtain ⟨v3, vs3, d3, ds3, p3, q3, rfl, rfl, rfl, g3, s3⟩ := trodAll_cons s2
  obtain ⟨rfl, rfl, rfl⟩ := trodAll_nil s3
  obtain rfl : args = #[v0, v1, v2, v3] := by cases args; simp_all
  obtain ⟨rfl, rfl⟩ := trodVars_none hV
  obtain ⟨a0, len0, cap0, rfl⟩ := okWide_slice Try.underlying22 (hval 0 22 v0 rfl rfl)
  obtain ⟨fu0, hf0⟩ := g0
  obtain ⟨x0, h0⟩ := bridge_PendingInterestS (w := W) hf0
  have h0 : (Rep.slice 57 RPendingInterest).raw W [.slice a0 len0 cap0] x0 := by simpa [Value.cells] using h0
  obtain ⟨c1, rfl⟩ : ∃ c : List Value, v1 = .agg c.toArray := by
    have h := hval 1 27 v1 rfl rfl
    unfold Value.okWide at h
    rw [Try.underlying27] at h
    obtain ⟨cs, rfl, _⟩ := h
    exact ⟨cs.toList, by simp⟩
  obtain ⟨fu1, hf1⟩ := g1
  obtain ⟨x1, h1⟩ := bridge_Interest (w := W) hf1
  have h1 : RInterest.raw W c1 x1 := by simpa [Value.cells] using h1
  obtain ⟨x2, rfl, rfl, rfl, e2⟩ := open_int Try.underlying3 (hval 2 3 v2 rfl rfl) g2
  have h2 : -9223372036854775808 ≤ x2 ∧ x2 ≤ 9223372036854775807 := by simpa [Lit.wf, IntKind.min, IntKind.max, IntKind.signed, IntKind.bits] using e2
  obtain ⟨x3, rfl, rfl, rfl, e3⟩ := open_int Try.underlying3 (hval 3 3 v3 rfl rfl) g3
  have h3 : -9223372036854775808 ≤ x3 ∧ x3 ≤ 9223372036854775807 := by simpa [Lit.wf, IntKind.min, IntKind.max, IntKind.signed, IntKind.bits] using e3
  refine (lawAddRequester_c h0 h1 h2 h3).mono fun e W' ⟨he, hb⟩ => ?_
  subst he
  refine ⟨_, rfl, law_post (tb := 4) hW0 rfl rfl Try.underlying4 ⟨rfl, rfl, rfl⟩ ?_ hb⟩
  rw [Try.params3]
  intro t ht
  have hall : ([22, 27, 3, 3].all fun t => Try.prog.readableRec t && decide (t < Try.prog.types.size)) = true := by kernel_rfl
  have h1 := List.all_eq_true.1 hall t ht
  simpa using h1

theorem lawAddRequester_holds : Rows.FnExactAddRequesterSaid :=
  OpenClaim.holds_of_wide 3 Try.f3 rfl rfl rfl rfl rfl rfl rfl ⟨rfl, rfl, rfl, rfl, rfl⟩ rfl rfl rfl rfl rfl (by kernel_rfl) Try.func3 (by kernel_rfl)
    (of_decide_eq_true (by kernel_rfl)) (by unfold Func.isWrapper; first | (rw [if_pos (by decide +kernel)]; kernel_rfl) | (rw [if_neg (by decide +kernel)]; exact ⟨rfl, rfl⟩))
    (fun os started H enc _ => lawAddRequester_lifted os started H enc)
end Go.Proofs.Ytdgncogfmchhmaa

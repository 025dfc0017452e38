/-
  The law FnExactSatisfy, walked: it returns true, whatever its arguments; then its statement. Printed by genlaw.py.
-/
import Derived.Test.YtjehdoedfikcdaaEq
import Derived.Test.YtjehdoedfikcdaaSz
import Derived.Test.YtjehdoedfikcdaaTo
import Derived.Test.YtjehdoedfikcdaaBridge
import Derived.Test.YtjehdoedfikcdaaMark
import Derived.Test.YtjehdoedfikcdaaHeld
import Derived.Test.YtjehdoedfikcdaaSat
import Derived.Test.YtjehdoedfikcdaaSoftT
import Derived.Deep.RegionHeld3
namespace Go.Proofs.Ytjehdoedfikcdaa
open Go.ChangeShapes Go.WideShapes Go.ChangeAt Go.RowKit
set_option linter.unusedVariables false
set_option linter.unusedSimpArgs false
set_option linter.unnecessarySimpa false
set_option maxRecDepth 100000 in
set_option maxHeartbeats 4000000 in
theorem lawSatisfy_c {w : World} {v0 : Value} {x0 : (List LPendingInterest)} (h0 : (Rep.slice 70 RPendingInterest).raw w [v0] x0) {c1 : List Value} {x1 : LName} (h1 : RName.raw w c1 x1) :
    Calls Try.prog 3 #[v0, .agg c1.toArray] w (LawPost w) := by
  obtain ⟨a0a, a0p, a0h, a0l⟩ := Rep.len_raw h0; obtain rfl : v0 = _ := by simpa using a0h
  clear a0h
  obtain ⟨a1v0, rfl, a1_0⟩ := RName_raw h1
  clear a1_0
  go_enter Try.func3, Try.ntmps3
  go_wp2_with fail
  refine (szPendingInterestS_c (h0.below (by repeat (first | (with_reducible exact Below.refl _ _) | refine Below.alloc ?_ (by simp; try omega) _ | refine Below.drew ?_))) (by omega) (by omega)).mono ?_
  rintro e w1 ⟨s1, rfl, p1, q1, g1, hb1⟩
  have G1 := Lib.hid g1; clear g1
  have D1 : Below w.heap.size w w1 := Below.trans (by repeat (first | (with_reducible exact Below.refl _ _) | refine Below.alloc ?_ (by simp; try omega) _ | refine Below.drew ?_)) (hb1.mono (by first | (simp; done) | (simp; omega)))
  have H1 := Lib.hid D1
  have L1 := Lib.hid (show w.heap.size + 1 ≤ w1.heap.size from by have h := hb1.size; (try simp at h); omega)
  have X_aN_1 : Hid (w1.heap[w.heap.size]? = some (.cells #[a1v0] 25 (0, 0))) := Lib.hid ((hb1.block (w.heap.size) (by first | (simp; done) | (simp; omega))).trans (heap_new_at (by simp)))
  clear D1 hb1
  by_cases m1 : s1 < 0
  · go_wp2
    go_ret
    exact ⟨rfl, H1.out⟩
  have z1 : 0 ≤ s1 := by omega
  have r0 : (Rep.slice 70 RPendingInterest).rd w _ x0 := ⟨h0, (Rep.slice 70 RPendingInterest).bdd_mono (G1.out z1) (by decide)⟩
  have K_aN_0 := boxCell X_aN_1.out (j := 0) (v := a1v0) rfl
  go_wp2_with fail
  refine (szName_c (h1.below (by repeat (first | (with_reducible exact H1.out) | refine Below.alloc ?_ (by have := H1.out.size; simp; try omega) _ | refine Below.drew ?_))) z1 (by omega)).mono ?_
  rintro e w2 ⟨s2, rfl, p2, q2, g2, hb2⟩
  have G2 := Lib.hid g2; clear g2
  have D2 : Below w1.heap.size w1 w2 := Below.trans (by repeat (first | (with_reducible exact Below.refl _ _) | refine Below.alloc ?_ (by simp; try omega) _ | refine Below.drew ?_)) (hb2.mono (by first | (simp; done) | (simp; omega)))
  have H2 := Lib.hid (H1.out.trans (D2.mono H1.out.size))
  have L2 := Lib.hid (show w1.heap.size + 0 ≤ w2.heap.size from by have h := hb2.size; (try simp at h); omega)
  have X_aN_2 := Lib.hid (keepBox X_aN_1.out D2); clear X_aN_1
  clear D2 K_aN_0 hb2
  by_cases m2 : s2 < 0
  · go_wp2
    go_ret
    exact ⟨rfl, H2.out⟩
  have z2 : 0 ≤ s2 := by omega
  have r1 : RName.rd w _ x1 := ⟨h1, RName.bdd_mono (G2.out z2) (by decide)⟩
  have K_aN_0 := boxCell X_aN_2.out (j := 0) (v := a1v0) rfl
  go_wp2_with fail
  refine wp_region_softP (fun W => Below w2.heap.size w2 W) [(0, true), (2, true), (1, false), (3, false), (4, false), (5, true), (6, true), (7, true), (8, true), (9, true)] (by kernel_rfl) (by kernel_rfl) (fun c a d v w h => by cases d <;> exact h) ((Below.refl _ _).drew) ?_
  intro wS HS
  simp only [pickOps, List.getElem?_cons_succ, List.getElem?_cons_zero, List.map_cons, List.map_nil]
  all_goals first | (refine soft_pass rfl HS ?_) | (refine soft_read (v := ?_) rfl (fun W hW => ?_) ?_; rotate_left; (· go_simp; try with_reducible rfl))
  all_goals try simp only [Act.put, List.setIfInBounds_toArray, List.set_cons_zero, List.set_cons_succ]
  all_goals first | (refine soft_pass rfl HS ?_) | (refine soft_read (v := ?_) rfl (fun W hW => ?_) ?_; rotate_left; (· have A_K_aN_0 := cell_later hW K_aN_0; clear hW; go_simp; try with_reducible rfl))
  all_goals try simp only [Act.put, List.setIfInBounds_toArray, List.set_cons_zero, List.set_cons_succ]
  all_goals first | (refine soft_pass rfl HS ?_) | (refine soft_do rfl (fun K hK => ?_); go_simp; refine (toPendingInterestS_c (r0.below (H2.out.trans (HS.mono H2.out.size)))).mono ?_; rintro e u3_0 ⟨tv3_0, rfl, O3_0, hc⟩; obtain ⟨t3_0a, t3_0p, t3_0h, _⟩ := Rep.len_raw O3_0.raw; obtain rfl : tv3_0 = _ := (by simpa using t3_0h); clear t3_0h; replace HS := HS.trans (hc.mono HS.size); refine hK _ _ HS ?_; clear hK K hc)
  all_goals try simp only [Act.put, List.setIfInBounds_toArray, List.set_cons_zero, List.set_cons_succ]
  all_goals first | (refine soft_pass rfl HS ?_) | (refine soft_do rfl (fun K hK => ?_); go_simp; refine (toName_c (r1.below (H2.out.trans (HS.mono H2.out.size)))).mono ?_; rintro e u3_1 ⟨cs3_1, rfl, O3_1, hc⟩; obtain ⟨t3_1v0, rfl, t3_1_0⟩ := RName_raw O3_1.raw; obtain ⟨t3_1a0, t3_1p0, t3_1h0, _⟩ := Rep.len_raw t3_1_0; obtain rfl : t3_1v0 = _ := (by simpa using t3_1h0); clear t3_1h0; clear t3_1_0; replace O3_0 := O3_0.below hc; replace HS := HS.trans (hc.mono HS.size); refine hK _ _ HS ?_; clear hK K hc)
  all_goals try simp only [Act.put, List.setIfInBounds_toArray, List.set_cons_zero, List.set_cons_succ]
  all_goals first | (refine soft_pass rfl HS ?_) | (refine soft_do rfl (fun K hK => ?_); go_simp; refine (specSatisfy_c O3_0.rd O3_1.rd).mono ?_; have sz := HS.size; rintro e w3 ⟨tv3, tu3, rfl, OO3, hc⟩; obtain ⟨A3, B3, O3, V3, AS3, BS3, DIS3⟩ := Rep.pair_own2 OO3; clear OO3; obtain ⟨t3a, t3p, t3h, _⟩ := Rep.len_raw O3.raw; obtain rfl : tv3 = _ := (by simpa using t3h); clear t3h; obtain ⟨u3a, u3p, u3h, _⟩ := Rep.len_raw V3.raw; obtain rfl : tu3 = _ := (by simpa using u3h); clear u3h; have Z3 := Lib.hid O3; clear O3; have Y3_2 := Lib.hid V3; clear V3; have AI3 : Hid (∀ i, A3 i → Btw (w2.heap.size) (w3.heap.size) i) := Lib.hid (fun i hi => ⟨by have h := (AS3 i hi).1; omega, (AS3 i hi).2⟩); have BI3 : Hid (∀ i, B3 i → Btw (w2.heap.size) (w3.heap.size) i) := Lib.hid (fun i hi => ⟨by have h := (BS3 i hi).1; omega, (BS3 i hi).2⟩); have DI3 := Lib.hid DIS3; clear AS3 BS3 DIS3; clear sz; replace HS := HS.trans (hc.mono HS.size); refine hK _ _ HS ?_; clear hK K hc O3_0 O3_1)
  all_goals try simp only [Act.put, List.setIfInBounds_toArray, List.set_cons_zero, List.set_cons_succ]
  all_goals first | (refine soft_pass rfl HS ?_) | (refine soft_read (v := ?_) rfl (fun W hW => ?_) ?_; rotate_left; (· go_simp; try with_reducible rfl))
  all_goals try simp only [Act.put, List.setIfInBounds_toArray, List.set_cons_zero, List.set_cons_succ]
  all_goals first | (refine soft_pass rfl HS ?_) | (refine soft_read (v := ?_) rfl (fun W hW => ?_) ?_; rotate_left; (· go_simp; try with_reducible rfl))
  all_goals try simp only [Act.put, List.setIfInBounds_toArray, List.set_cons_zero, List.set_cons_succ]
  all_goals first | (refine soft_pass rfl HS ?_) | (refine soft_read (v := ?_) rfl (fun W hW => ?_) ?_; rotate_left; (· go_simp; try with_reducible rfl))
  all_goals try simp only [Act.put, List.setIfInBounds_toArray, List.set_cons_zero, List.set_cons_succ]
  all_goals first | (refine soft_pass rfl HS ?_) | (refine soft_read (v := ?_) rfl (fun W hW => ?_) ?_; rotate_left; (· go_simp; try with_reducible rfl))
  all_goals try simp only [Act.put, List.setIfInBounds_toArray, List.set_cons_zero, List.set_cons_succ]
  all_goals first | (refine soft_pass rfl HS ?_) | (refine soft_read (v := ?_) rfl (fun W hW => ?_) ?_; rotate_left; (· go_simp; try with_reducible rfl))
  all_goals try simp only [Act.put, List.setIfInBounds_toArray, List.set_cons_zero, List.set_cons_succ]
  all_goals refine soft_nil ?_
  have D3 : Below w2.heap.size w2 w3 := Below.trans (by repeat (first | (with_reducible exact Below.refl _ _) | refine Below.alloc ?_ (by simp; try omega) _ | refine Below.drew ?_)) (HS.mono (by first | (simp; done) | (simp; omega)))
  have H3 := Lib.hid (H2.out.trans (D3.mono H2.out.size))
  have L3 := Lib.hid (show w2.heap.size + 0 ≤ w3.heap.size from by have h := HS.size; (try simp at h); omega)
  have X_aN_3 := Lib.hid (keepBox X_aN_2.out D3); clear X_aN_2
  clear D3 K_aN_0 HS
  go_wp2_with fail
  refine (toPendingInterestS_c (r0.below (by repeat (first | (with_reducible exact H3.out) | refine Below.alloc ?_ (by have := H3.out.size; simp; try omega) _ | refine Below.drew ?_)))).mono ?_
  rintro e w4 ⟨tv4, rfl, O4, hb4⟩
  obtain ⟨t4a, t4p, t4h, _⟩ := Rep.len_raw O4.raw; obtain rfl : tv4 = _ := (by simpa using t4h)
  clear t4h
  have Z4 := Lib.hid (O4.wide (T := Btw (w3.heap.size) (w4.heap.size)) (fun i hi => ⟨by have h := hi.1; (try simp at h); omega, hi.2⟩)); clear O4
  have D4 : Below w3.heap.size w3 w4 := Below.trans (by repeat (first | (with_reducible exact Below.refl _ _) | refine Below.alloc ?_ (by simp; try omega) _ | refine Below.drew ?_)) (hb4.mono (by first | (simp; done) | (simp; omega)))
  have H4 := Lib.hid (H3.out.trans (D4.mono H3.out.size))
  have L4 := Lib.hid (show w3.heap.size + 0 ≤ w4.heap.size from by have h := hb4.size; (try simp at h); omega)
  have X_aN_4 := Lib.hid (keepBox X_aN_3.out D4); clear X_aN_3
  have O_w0_4 := Lib.hid (Z3.out.below D4); clear Z3
  have O_w1_4 := Lib.hid (Y3_2.out.below D4); clear Y3_2
  clear D4 hb4
  have K_aN_0 := boxCell X_aN_4.out (j := 0) (v := a1v0) rfl
  go_wp2_with fail
  refine (toName_c (r1.below (by repeat (first | (with_reducible exact H4.out) | refine Below.alloc ?_ (by have := H4.out.size; simp; try omega) _ | refine Below.drew ?_)))).mono ?_
  rintro e w5 ⟨cs5, rfl, O5, hb5⟩
  obtain ⟨t5v0, rfl, t5_0⟩ := RName_raw O5.raw
  obtain ⟨t5a0, t5p0, t5h0, _⟩ := Rep.len_raw t5_0; obtain rfl : t5v0 = _ := (by simpa using t5h0)
  clear t5h0
  clear t5_0
  have Z5 := Lib.hid (O5.wide (T := Btw (w4.heap.size) (w5.heap.size)) (fun i hi => ⟨by have h := hi.1; (try simp at h); omega, hi.2⟩)); clear O5
  have D5 : Below w4.heap.size w4 w5 := Below.trans (by repeat (first | (with_reducible exact Below.refl _ _) | refine Below.alloc ?_ (by simp; try omega) _ | refine Below.drew ?_)) (hb5.mono (by first | (simp; done) | (simp; omega)))
  have H5 := Lib.hid (H4.out.trans (D5.mono H4.out.size))
  have L5 := Lib.hid (show w4.heap.size + 0 ≤ w5.heap.size from by have h := hb5.size; (try simp at h); omega)
  have X_aN_5 := Lib.hid (keepBox X_aN_4.out D5); clear X_aN_4
  have O_w0_5 := Lib.hid (O_w0_4.out.below D5); clear O_w0_4
  have O_w1_5 := Lib.hid (O_w1_4.out.below D5); clear O_w1_4
  have O_x0_5 := Lib.hid (Z4.out.below D5); clear Z4
  clear D5 K_aN_0 hb5
  go_wp2_with fail
  refine (implSatisfy_c (O_x0_5.out.rd.below (by repeat (first | (with_reducible exact Below.refl _ _) | refine Below.alloc ?_ (by simp; try omega) _ | refine Below.drew ?_))) (Z5.out.rd.below (by repeat (first | (with_reducible exact Below.refl _ _) | refine Below.alloc ?_ (by simp; try omega) _ | refine Below.drew ?_)))).mono ?_
  rintro e w6 ⟨tv6, tu6, rfl, OO6, hb6⟩
  obtain ⟨A6, B6, O6, V6, AS6, BS6, DIS6⟩ := Rep.pair_own2 OO6
  clear OO6
  obtain ⟨t6a, t6p, t6h, _⟩ := Rep.len_raw O6.raw; obtain rfl : tv6 = _ := (by simpa using t6h)
  clear t6h
  obtain ⟨u6a, u6p, u6h, _⟩ := Rep.len_raw V6.raw; obtain rfl : tu6 = _ := (by simpa using u6h)
  clear u6h
  have Z6 := Lib.hid O6; clear O6
  have Y6_2 := Lib.hid V6; clear V6
  have AI6 : Hid (∀ i, A6 i → Btw (w5.heap.size + 1) (w6.heap.size) i) := Lib.hid (fun i hi => ⟨by have h := (AS6 i hi).1; (try simp at h); omega, (AS6 i hi).2⟩)
  have BI6 : Hid (∀ i, B6 i → Btw (w5.heap.size + 1) (w6.heap.size) i) := Lib.hid (fun i hi => ⟨by have h := (BS6 i hi).1; (try simp at h); omega, (BS6 i hi).2⟩)
  have DI6 := Lib.hid DIS6; clear AS6 BS6 DIS6
  have D6 : Below w5.heap.size w5 w6 := Below.trans (by repeat (first | (with_reducible exact Below.refl _ _) | refine Below.alloc ?_ (by simp; try omega) _ | refine Below.drew ?_)) (hb6.mono (by first | (simp; done) | (simp; omega)))
  have H6 := Lib.hid (H5.out.trans (D6.mono H5.out.size))
  have L6 := Lib.hid (show w5.heap.size + 1 ≤ w6.heap.size from by have h := hb6.size; (try simp at h); omega)
  have X_aN_6 := Lib.hid (keepBox X_aN_5.out D6); clear X_aN_5
  have X_x1_6 : Hid (w6.heap[w5.heap.size]? = some (.cells #[.slice t5a0 (x1).length t5p0] 33 (0, 0))) := Lib.hid ((hb6.block (w5.heap.size) (by first | (simp; done) | (simp; omega))).trans (heap_new_at (by simp)))
  have O_w0_6 := Lib.hid (O_w0_5.out.below D6); clear O_w0_5
  have O_w1_6 := Lib.hid (O_w1_5.out.below D6); clear O_w1_5
  have O_x0_6 := Lib.hid (O_x0_5.out.below D6); clear O_x0_5
  have O_x1_6 := Lib.hid (Z5.out.below D6); clear Z5
  clear D6 hb6
  go_wp2_with fail
  refine (eqPendingInterestS_c (Z6.out.raw.below (by repeat (first | (with_reducible exact Below.refl _ _) | refine Below.alloc ?_ (by simp; try omega) _ | refine Below.drew ?_))) (O_w0_6.out.raw.below (by repeat (first | (with_reducible exact Below.refl _ _) | refine Below.alloc ?_ (by simp; try omega) _ | refine Below.drew ?_)))).mono ?_
  rintro e w7 ⟨rfl, hb7⟩
  have D7 : Below w6.heap.size w6 w7 := Below.trans (by repeat (first | (with_reducible exact Below.refl _ _) | refine Below.alloc ?_ (by simp; try omega) _ | refine Below.drew ?_)) (hb7.mono (by first | (simp; done) | (simp; omega)))
  have H7 := Lib.hid (H6.out.trans (D7.mono H6.out.size))
  have L7 := Lib.hid (show w6.heap.size + 0 ≤ w7.heap.size from by have h := hb7.size; (try simp at h); omega)
  have X_aN_7 := Lib.hid (keepBox X_aN_6.out D7); clear X_aN_6
  have X_x1_7 := Lib.hid (keepBox X_x1_6.out D7); clear X_x1_6
  have O_w0_7 := Lib.hid (O_w0_6.out.below D7); clear O_w0_6
  have O_w1_7 := Lib.hid (O_w1_6.out.below D7); clear O_w1_6
  have O_x0_7 := Lib.hid (O_x0_6.out.below D7); clear O_x0_6
  have O_x1_7 := Lib.hid (O_x1_6.out.below D7); clear O_x1_6
  have O_g0_7 := Lib.hid (Z6.out.below D7); clear Z6
  have O_g1_7 := Lib.hid (Y6_2.out.below D7); clear Y6_2
  clear D7 hb7
  go_wp2_with fail
  refine (eqRequesterS_c (O_g1_7.out.raw.below (by repeat (first | (with_reducible exact Below.refl _ _) | refine Below.alloc ?_ (by simp; try omega) _ | refine Below.drew ?_))) (O_w1_7.out.raw.below (by repeat (first | (with_reducible exact Below.refl _ _) | refine Below.alloc ?_ (by simp; try omega) _ | refine Below.drew ?_)))).mono ?_
  rintro e w8 ⟨rfl, hb8⟩
  have D8 : Below w7.heap.size w7 w8 := Below.trans (by repeat (first | (with_reducible exact Below.refl _ _) | refine Below.alloc ?_ (by simp; try omega) _ | refine Below.drew ?_)) (hb8.mono (by first | (simp; done) | (simp; omega)))
  have H8 := Lib.hid (H7.out.trans (D8.mono H7.out.size))
  have L8 := Lib.hid (show w7.heap.size + 0 ≤ w8.heap.size from by have h := hb8.size; (try simp at h); omega)
  have X_aN_8 := Lib.hid (keepBox X_aN_7.out D8); clear X_aN_7
  have X_x1_8 := Lib.hid (keepBox X_x1_7.out D8); clear X_x1_7
  have O_w0_8 := Lib.hid (O_w0_7.out.below D8); clear O_w0_7
  have O_w1_8 := Lib.hid (O_w1_7.out.below D8); clear O_w1_7
  have O_x0_8 := Lib.hid (O_x0_7.out.below D8); clear O_x0_7
  have O_x1_8 := Lib.hid (O_x1_7.out.below D8); clear O_x1_7
  have O_g0_8 := Lib.hid (O_g0_7.out.below D8); clear O_g0_7
  have O_g1_8 := Lib.hid (O_g1_7.out.below D8); clear O_g1_7
  clear D8 hb8
  go_wp2_with fail
  refine (toPendingInterestS_c (r0.below (by repeat (first | (with_reducible exact H8.out) | refine Below.alloc ?_ (by have := H8.out.size; simp; try omega) _ | refine Below.drew ?_)))).mono ?_
  rintro e w9 ⟨tv9, rfl, O9, hb9⟩
  obtain ⟨t9a, t9p, t9h, _⟩ := Rep.len_raw O9.raw; obtain rfl : tv9 = _ := (by simpa using t9h)
  clear t9h
  have Z9 := Lib.hid (O9.wide (T := Btw (w8.heap.size) (w9.heap.size)) (fun i hi => ⟨by have h := hi.1; (try simp at h); omega, hi.2⟩)); clear O9
  have D9 : Below w8.heap.size w8 w9 := Below.trans (by repeat (first | (with_reducible exact Below.refl _ _) | refine Below.alloc ?_ (by simp; try omega) _ | refine Below.drew ?_)) (hb9.mono (by first | (simp; done) | (simp; omega)))
  have H9 := Lib.hid (H8.out.trans (D9.mono H8.out.size))
  have L9 := Lib.hid (show w8.heap.size + 0 ≤ w9.heap.size from by have h := hb9.size; (try simp at h); omega)
  have X_aN_9 := Lib.hid (keepBox X_aN_8.out D9); clear X_aN_8
  have X_x1_9 := Lib.hid (keepBox X_x1_8.out D9); clear X_x1_8
  have O_w0_9 := Lib.hid (O_w0_8.out.below D9); clear O_w0_8
  have O_w1_9 := Lib.hid (O_w1_8.out.below D9); clear O_w1_8
  have O_x0_9 := Lib.hid (O_x0_8.out.below D9); clear O_x0_8
  have O_x1_9 := Lib.hid (O_x1_8.out.below D9); clear O_x1_8
  have O_g0_9 := Lib.hid (O_g0_8.out.below D9); clear O_g0_8
  have O_g1_9 := Lib.hid (O_g1_8.out.below D9); clear O_g1_8
  clear D9 hb9
  go_wp2_with fail
  refine (eqPendingInterestS_c (O_x0_9.out.raw.below (by repeat (first | (with_reducible exact Below.refl _ _) | refine Below.alloc ?_ (by simp; try omega) _ | refine Below.drew ?_))) (Z9.out.raw.below (by repeat (first | (with_reducible exact Below.refl _ _) | refine Below.alloc ?_ (by simp; try omega) _ | refine Below.drew ?_)))).mono ?_
  rintro e w10 ⟨rfl, hb10⟩
  clear Z9
  have D10 : Below w9.heap.size w9 w10 := Below.trans (by repeat (first | (with_reducible exact Below.refl _ _) | refine Below.alloc ?_ (by simp; try omega) _ | refine Below.drew ?_)) (hb10.mono (by first | (simp; done) | (simp; omega)))
  have H10 := Lib.hid (H9.out.trans (D10.mono H9.out.size))
  have L10 := Lib.hid (show w9.heap.size + 0 ≤ w10.heap.size from by have h := hb10.size; (try simp at h); omega)
  have X_aN_10 := Lib.hid (keepBox X_aN_9.out D10); clear X_aN_9
  have X_x1_10 := Lib.hid (keepBox X_x1_9.out D10); clear X_x1_9
  have O_w0_10 := Lib.hid (O_w0_9.out.below D10); clear O_w0_9
  have O_w1_10 := Lib.hid (O_w1_9.out.below D10); clear O_w1_9
  have O_x0_10 := Lib.hid (O_x0_9.out.below D10); clear O_x0_9
  have O_x1_10 := Lib.hid (O_x1_9.out.below D10); clear O_x1_9
  have O_g0_10 := Lib.hid (O_g0_9.out.below D10); clear O_g0_9
  have O_g1_10 := Lib.hid (O_g1_9.out.below D10); clear O_g1_9
  clear D10 hb10
  have K_aN_0 := boxCell X_aN_10.out (j := 0) (v := a1v0) rfl
  have K_x1_0 := boxCell X_x1_10.out (j := 0) (v := .slice t5a0 (x1).length t5p0) rfl
  go_wp2_with fail
  go_region_held3 (fun W => W.cell? ⟨w.heap.size, 0, none⟩ = some (a1v0) ∧ W.cell? ⟨w5.heap.size, 0, none⟩ = some (.slice t5a0 (x1).length t5p0)) (first | exact ⟨cell_later hd11 (cell_later hc11 K_aN_0), cell_later hd11 (cell_later hc11 K_x1_0)⟩ | exact ⟨cell_later hc11 K_aN_0, cell_later hc11 K_x1_0⟩ | go_keep)
    (first | (go_at_call 10; refine (toName_c (r1.below (by repeat (first | (with_reducible exact H10.out) | refine Below.alloc ?_ (by have := H10.out.size; simp; try omega) _ | refine Below.drew ?_)))).mono ?_; rintro e u11 ⟨cs11, rfl, O11, hc11⟩; obtain ⟨t11v0, rfl, t11_0⟩ := RName_raw O11.raw; obtain ⟨t11a0, t11p0, t11h0, _⟩ := Rep.len_raw t11_0; obtain rfl : t11v0 = _ := (by simpa using t11h0); clear t11h0; clear t11_0) | (go_at_call 14; refine (eqName_c (O_x1_10.out.raw.below (Below.trans (by repeat (first | (with_reducible exact Below.refl _ _) | refine Below.alloc ?_ (by simp; try omega) _ | refine Below.drew ?_)) (hc11.mono (by simp)))) O11.raw).mono ?_; rintro e w11 ⟨rfl, hd11⟩))
  have hb11 := hc11.trans (hd11.mono hc11.size); clear hc11 hd11 O11
  have D11 : Below w10.heap.size w10 w11 := Below.trans (by repeat (first | (with_reducible exact Below.refl _ _) | refine Below.alloc ?_ (by simp; try omega) _ | refine Below.drew ?_)) (hb11.mono (by first | (simp; done) | (simp; omega)))
  have H11 := Lib.hid (H10.out.trans (D11.mono H10.out.size))
  have L11 := Lib.hid (show w10.heap.size + 0 ≤ w11.heap.size from by have h := hb11.size; (try simp at h); omega)
  have X_aN_11 := Lib.hid (keepBox X_aN_10.out D11); clear X_aN_10
  have X_x1_11 := Lib.hid (keepBox X_x1_10.out D11); clear X_x1_10
  have O_w0_11 := Lib.hid (O_w0_10.out.below D11); clear O_w0_10
  have O_w1_11 := Lib.hid (O_w1_10.out.below D11); clear O_w1_10
  have O_x0_11 := Lib.hid (O_x0_10.out.below D11); clear O_x0_10
  have O_x1_11 := Lib.hid (O_x1_10.out.below D11); clear O_x1_10
  have O_g0_11 := Lib.hid (O_g0_10.out.below D11); clear O_g0_10
  have O_g1_11 := Lib.hid (O_g1_10.out.below D11); clear O_g1_10
  clear D11 K_aN_0 K_x1_0 hb11
  go_wp2_with fail
  refine (markPendingInterestS_c (k := 1) (O_x0_11.out.below (by repeat (first | (with_reducible exact Below.refl _ _) | refine Below.alloc ?_ (by simp; try omega) _ | refine Below.drew ?_))) (by  omega) (by have e : ((Rep.slice 70 RPendingInterest).cnt : Int) = 1125899923619840 := (by decide); unfold Top; omega)).mono ?_
  rintro e w12 ⟨rfl, P12, Y12⟩
  have B12 : Hid (1 ≤ ((Rep.slice 70 RPendingInterest).mark true (x0) (1)).2 ∧ ((Rep.slice 70 RPendingInterest).mark true (x0) (1)).2 ≤ 1 + 1125899923619840) := Lib.hid ⟨by have := (Rep.slice 70 RPendingInterest).mark_ge (e := true) (x := x0) (k := 1); omega, by have := (Rep.slice 70 RPendingInterest).mark_le (e := true) (k := 1) O_x0_11.out.2; have e : ((Rep.slice 70 RPendingInterest).cnt : Int) = 1125899923619840 := (by decide); omega⟩
  have D12 : Touch (Btw (w3.heap.size) (w4.heap.size)) w11 w12 := (Touch.of_below (by repeat (first | (with_reducible exact Below.refl _ _) | refine Below.alloc ?_ (by simp; try omega) _ | refine Below.drew ?_))).trans Y12
  have H12 := Lib.hid (H11.out.trans (D12.below (by have := H11.out.size; omega) (fun i hi => by have a := hi.1; have b : w.heap.size ≤ w3.heap.size := H3.out.size; omega)))
  have L12 := Lib.hid (show w11.heap.size ≤ w12.heap.size from D12.size)
  have X_aN_12 := Lib.hid (D12.keepBox X_aN_11.out (fun q => by have q1 := q.1; have q2 := q.2; have l1 := L1.out; have l2 := L2.out; have l3 := L3.out; have l4 := L4.out; omega)); clear X_aN_11
  have X_x1_12 := Lib.hid (D12.keepBox X_x1_11.out (fun q => by have q1 := q.1; have q2 := q.2; have l4 := L4.out; have l5 := L5.out; omega)); clear X_x1_11
  have O_w0_12 := Lib.hid (O_w0_11.out.touch D12 (fun i p q => by have p := AI3.out i p; have p1 := p.1; have p2 := p.2; have q1 := q.1; have q2 := q.2; have l3 := L3.out; have l4 := L4.out; omega)); clear O_w0_11
  have O_w1_12 := Lib.hid (O_w1_11.out.touch D12 (fun i p q => by have p := BI3.out i p; have p1 := p.1; have p2 := p.2; have q1 := q.1; have q2 := q.2; have l3 := L3.out; have l4 := L4.out; omega)); clear O_w1_11
  have O_x1_12 := Lib.hid (O_x1_11.out.touch D12 (fun i p q => by have p1 := p.1; have p2 := p.2; have q1 := q.1; have q2 := q.2; have l4 := L4.out; have l5 := L5.out; omega)); clear O_x1_11
  have O_g0_12 := Lib.hid (O_g0_11.out.touch D12 (fun i p q => by have p := AI6.out i p; have p1 := p.1; have p2 := p.2; have q1 := q.1; have q2 := q.2; have l4 := L4.out; have l5 := L5.out; have l6 := L6.out; omega)); clear O_g0_11
  have O_g1_12 := Lib.hid (O_g1_11.out.touch D12 (fun i p q => by have p := BI6.out i p; have p1 := p.1; have p2 := p.2; have q1 := q.1; have q2 := q.2; have l4 := L4.out; have l5 := L5.out; have l6 := L6.out; omega)); clear O_g1_11
  clear D12 Y12
  have Z12 := Lib.hid P12; clear P12 O_x0_11
  have U12 : 0 ≤ ((Rep.slice 70 RPendingInterest).mark true (x0) (1)).2 := by have := B12.out.1; omega
  have K_x1_0 := boxCell X_x1_12.out (j := 0) (v := .slice t5a0 (x1).length t5p0) rfl
  go_wp2_with fail
  refine (markName_c (k := ((Rep.slice 70 RPendingInterest).mark true (x0) (1)).2) (O_x1_12.out.below (by repeat (first | (with_reducible exact Below.refl _ _) | refine Below.alloc ?_ (by simp; try omega) _ | refine Below.drew ?_))) (by have := B12.out.1;  omega) (by have := B12.out.2; have e : (RName.cnt : Int) = 16777216 := (by decide); unfold Top; omega)).mono ?_
  rintro e w13 ⟨rfl, P13, Y13⟩
  have B13 : Hid (1 ≤ (RName.mark false (x1) (((Rep.slice 70 RPendingInterest).mark true (x0) (1)).2)).2 ∧ (RName.mark false (x1) (((Rep.slice 70 RPendingInterest).mark true (x0) (1)).2)).2 ≤ ((Rep.slice 70 RPendingInterest).mark true (x0) (1)).2 + 16777216) := Lib.hid ⟨by have := RName.mark_ge (e := false) (x := x1) (k := ((Rep.slice 70 RPendingInterest).mark true (x0) (1)).2); have := B12.out.1; omega, by have := RName.mark_le (e := false) (k := ((Rep.slice 70 RPendingInterest).mark true (x0) (1)).2) O_x1_12.out.2; have e : (RName.cnt : Int) = 16777216 := (by decide); omega⟩
  have D13 : Touch (Btw (w4.heap.size) (w5.heap.size)) w12 w13 := (Touch.of_below (by repeat (first | (with_reducible exact Below.refl _ _) | refine Below.alloc ?_ (by simp; try omega) _ | refine Below.drew ?_))).trans Y13
  have H13 := Lib.hid (H12.out.trans (D13.below (by have := H12.out.size; omega) (fun i hi => by have a := hi.1; have b : w.heap.size ≤ w4.heap.size := H4.out.size; omega)))
  have L13 := Lib.hid (show w12.heap.size ≤ w13.heap.size from D13.size)
  have X_aN_13 := Lib.hid (D13.keepBox X_aN_12.out (fun q => by have q1 := q.1; have q2 := q.2; have l1 := L1.out; have l2 := L2.out; have l3 := L3.out; have l4 := L4.out; have l5 := L5.out; omega)); clear X_aN_12
  have X_x1_13 := Lib.hid (D13.keepBox X_x1_12.out (fun q => by have q1 := q.1; have q2 := q.2; have l5 := L5.out; omega)); clear X_x1_12
  have O_w0_13 := Lib.hid (O_w0_12.out.touch D13 (fun i p q => by have p := AI3.out i p; have p1 := p.1; have p2 := p.2; have q1 := q.1; have q2 := q.2; have l3 := L3.out; have l4 := L4.out; have l5 := L5.out; omega)); clear O_w0_12
  have O_w1_13 := Lib.hid (O_w1_12.out.touch D13 (fun i p q => by have p := BI3.out i p; have p1 := p.1; have p2 := p.2; have q1 := q.1; have q2 := q.2; have l3 := L3.out; have l4 := L4.out; have l5 := L5.out; omega)); clear O_w1_12
  have O_x0_13 := Lib.hid (Z12.out.touch D13 (fun i p q => by have p1 := p.1; have p2 := p.2; have q1 := q.1; have q2 := q.2; have l4 := L4.out; have l5 := L5.out; omega)); clear Z12
  have O_g0_13 := Lib.hid (O_g0_12.out.touch D13 (fun i p q => by have p := AI6.out i p; have p1 := p.1; have p2 := p.2; have q1 := q.1; have q2 := q.2; have l5 := L5.out; have l6 := L6.out; omega)); clear O_g0_12
  have O_g1_13 := Lib.hid (O_g1_12.out.touch D13 (fun i p q => by have p := BI6.out i p; have p1 := p.1; have p2 := p.2; have q1 := q.1; have q2 := q.2; have l5 := L5.out; have l6 := L6.out; omega)); clear O_g1_12
  clear D13 K_x1_0 Y13
  have Z13 := Lib.hid P13; clear P13 O_x1_12
  have U13 : 0 ≤ (RName.mark false (x1) (((Rep.slice 70 RPendingInterest).mark true (x0) (1)).2)).2 := by have := B13.out.1; omega
  go_wp2_with fail
  refine (eqPendingInterestS_c (O_g0_13.out.raw.below (by repeat (first | (with_reducible exact Below.refl _ _) | refine Below.alloc ?_ (by simp; try omega) _ | refine Below.drew ?_))) (O_w0_13.out.raw.below (by repeat (first | (with_reducible exact Below.refl _ _) | refine Below.alloc ?_ (by simp; try omega) _ | refine Below.drew ?_)))).mono ?_
  rintro e w14 ⟨rfl, hb14⟩
  have D14 : Below w13.heap.size w13 w14 := Below.trans (by repeat (first | (with_reducible exact Below.refl _ _) | refine Below.alloc ?_ (by simp; try omega) _ | refine Below.drew ?_)) (hb14.mono (by first | (simp; done) | (simp; omega)))
  have H14 := Lib.hid (H13.out.trans (D14.mono H13.out.size))
  have L14 := Lib.hid (show w13.heap.size + 0 ≤ w14.heap.size from by have h := hb14.size; (try simp at h); omega)
  have X_aN_14 := Lib.hid (keepBox X_aN_13.out D14); clear X_aN_13
  have X_x1_14 := Lib.hid (keepBox X_x1_13.out D14); clear X_x1_13
  have O_w0_14 := Lib.hid (O_w0_13.out.below D14); clear O_w0_13
  have O_w1_14 := Lib.hid (O_w1_13.out.below D14); clear O_w1_13
  have O_x0_14 := Lib.hid (O_x0_13.out.below D14); clear O_x0_13
  have O_x1_14 := Lib.hid (Z13.out.below D14); clear Z13
  have O_g0_14 := Lib.hid (O_g0_13.out.below D14); clear O_g0_13
  have O_g1_14 := Lib.hid (O_g1_13.out.below D14); clear O_g1_13
  clear D14 hb14
  go_wp2_with fail
  refine (eqRequesterS_c (O_g1_14.out.raw.below (by repeat (first | (with_reducible exact Below.refl _ _) | refine Below.alloc ?_ (by simp; try omega) _ | refine Below.drew ?_))) (O_w1_14.out.raw.below (by repeat (first | (with_reducible exact Below.refl _ _) | refine Below.alloc ?_ (by simp; try omega) _ | refine Below.drew ?_)))).mono ?_
  rintro e w15 ⟨rfl, hb15⟩
  have D15 : Below w14.heap.size w14 w15 := Below.trans (by repeat (first | (with_reducible exact Below.refl _ _) | refine Below.alloc ?_ (by simp; try omega) _ | refine Below.drew ?_)) (hb15.mono (by first | (simp; done) | (simp; omega)))
  have H15 := Lib.hid (H14.out.trans (D15.mono H14.out.size))
  have L15 := Lib.hid (show w14.heap.size + 0 ≤ w15.heap.size from by have h := hb15.size; (try simp at h); omega)
  have X_aN_15 := Lib.hid (keepBox X_aN_14.out D15); clear X_aN_14
  have X_x1_15 := Lib.hid (keepBox X_x1_14.out D15); clear X_x1_14
  have O_w0_15 := Lib.hid (O_w0_14.out.below D15); clear O_w0_14
  have O_w1_15 := Lib.hid (O_w1_14.out.below D15); clear O_w1_14
  have O_x0_15 := Lib.hid (O_x0_14.out.below D15); clear O_x0_14
  have O_x1_15 := Lib.hid (O_x1_14.out.below D15); clear O_x1_14
  have O_g0_15 := Lib.hid (O_g0_14.out.below D15); clear O_g0_14
  have O_g1_15 := Lib.hid (O_g1_14.out.below D15); clear O_g1_14
  clear D15 hb15
  go_wp2_with fail
  refine (markPendingInterestS_c (k := 1) (O_g0_15.out.below (by repeat (first | (with_reducible exact Below.refl _ _) | refine Below.alloc ?_ (by simp; try omega) _ | refine Below.drew ?_))) (by  omega) (by have e : ((Rep.slice 70 RPendingInterest).cnt : Int) = 1125899923619840 := (by decide); unfold Top; omega)).mono ?_
  rintro e w16 ⟨rfl, P16, Y16⟩
  have B16 : Hid (1 ≤ ((Rep.slice 70 RPendingInterest).mark true ((satP x1 x0)) (1)).2 ∧ ((Rep.slice 70 RPendingInterest).mark true ((satP x1 x0)) (1)).2 ≤ 1 + 1125899923619840) := Lib.hid ⟨by have := (Rep.slice 70 RPendingInterest).mark_ge (e := true) (x := (satP x1 x0)) (k := 1); omega, by have := (Rep.slice 70 RPendingInterest).mark_le (e := true) (k := 1) O_g0_15.out.2; have e : ((Rep.slice 70 RPendingInterest).cnt : Int) = 1125899923619840 := (by decide); omega⟩
  have D16 : Touch A6 w15 w16 := (Touch.of_below (by repeat (first | (with_reducible exact Below.refl _ _) | refine Below.alloc ?_ (by simp; try omega) _ | refine Below.drew ?_))).trans Y16
  have H16 := Lib.hid (H15.out.trans (D16.below (by have := H15.out.size; omega) (fun i hi => by have hi := AI6.out i hi; have a := hi.1; have b : w.heap.size ≤ w5.heap.size := H5.out.size; omega)))
  have L16 := Lib.hid (show w15.heap.size ≤ w16.heap.size from D16.size)
  have X_aN_16 := Lib.hid (D16.keepBox X_aN_15.out (fun q => by have q := AI6.out _ q; have q1 := q.1; have q2 := q.2; have l1 := L1.out; have l2 := L2.out; have l3 := L3.out; have l4 := L4.out; have l5 := L5.out; have l6 := L6.out; omega)); clear X_aN_15
  have X_x1_16 := Lib.hid (D16.keepBox X_x1_15.out (fun q => by have q := AI6.out _ q; have q1 := q.1; have q2 := q.2; have l6 := L6.out; omega)); clear X_x1_15
  have O_w0_16 := Lib.hid (O_w0_15.out.touch D16 (fun i p q => by have p := AI3.out i p; have q := AI6.out i q; have p1 := p.1; have p2 := p.2; have q1 := q.1; have q2 := q.2; have l3 := L3.out; have l4 := L4.out; have l5 := L5.out; have l6 := L6.out; omega)); clear O_w0_15
  have O_w1_16 := Lib.hid (O_w1_15.out.touch D16 (fun i p q => by have p := BI3.out i p; have q := AI6.out i q; have p1 := p.1; have p2 := p.2; have q1 := q.1; have q2 := q.2; have l3 := L3.out; have l4 := L4.out; have l5 := L5.out; have l6 := L6.out; omega)); clear O_w1_15
  have O_x0_16 := Lib.hid (O_x0_15.out.touch D16 (fun i p q => by have q := AI6.out i q; have p1 := p.1; have p2 := p.2; have q1 := q.1; have q2 := q.2; have l4 := L4.out; have l5 := L5.out; have l6 := L6.out; omega)); clear O_x0_15
  have O_x1_16 := Lib.hid (O_x1_15.out.touch D16 (fun i p q => by have q := AI6.out i q; have p1 := p.1; have p2 := p.2; have q1 := q.1; have q2 := q.2; have l5 := L5.out; have l6 := L6.out; omega)); clear O_x1_15
  have O_g1_16 := Lib.hid (O_g1_15.out.touch D16 (fun i p q => DI6.out i q p)); clear O_g1_15
  clear D16 Y16
  have Z16 := Lib.hid P16; clear P16 O_g0_15
  have U16 : 0 ≤ ((Rep.slice 70 RPendingInterest).mark true ((satP x1 x0)) (1)).2 := by have := B16.out.1; omega
  go_wp2_with fail
  refine (markRequesterS_c (k := ((Rep.slice 70 RPendingInterest).mark true ((satP x1 x0)) (1)).2) (O_g1_16.out.below (by repeat (first | (with_reducible exact Below.refl _ _) | refine Below.alloc ?_ (by simp; try omega) _ | refine Below.drew ?_))) (by have := B16.out.1;  omega) (by have := B16.out.2; have e : ((Rep.slice 77 RRequester).cnt : Int) = 50331648 := (by decide); unfold Top; omega)).mono ?_
  rintro e w17 ⟨rfl, P17, Y17⟩
  have B17 : Hid (1 ≤ ((Rep.slice 77 RRequester).mark true ((satR x1 x0)) (((Rep.slice 70 RPendingInterest).mark true ((satP x1 x0)) (1)).2)).2 ∧ ((Rep.slice 77 RRequester).mark true ((satR x1 x0)) (((Rep.slice 70 RPendingInterest).mark true ((satP x1 x0)) (1)).2)).2 ≤ ((Rep.slice 70 RPendingInterest).mark true ((satP x1 x0)) (1)).2 + 50331648) := Lib.hid ⟨by have := (Rep.slice 77 RRequester).mark_ge (e := true) (x := (satR x1 x0)) (k := ((Rep.slice 70 RPendingInterest).mark true ((satP x1 x0)) (1)).2); have := B16.out.1; omega, by have := (Rep.slice 77 RRequester).mark_le (e := true) (k := ((Rep.slice 70 RPendingInterest).mark true ((satP x1 x0)) (1)).2) O_g1_16.out.2; have e : ((Rep.slice 77 RRequester).cnt : Int) = 50331648 := (by decide); omega⟩
  have D17 : Touch B6 w16 w17 := (Touch.of_below (by repeat (first | (with_reducible exact Below.refl _ _) | refine Below.alloc ?_ (by simp; try omega) _ | refine Below.drew ?_))).trans Y17
  have H17 := Lib.hid (H16.out.trans (D17.below (by have := H16.out.size; omega) (fun i hi => by have hi := BI6.out i hi; have a := hi.1; have b : w.heap.size ≤ w5.heap.size := H5.out.size; omega)))
  have L17 := Lib.hid (show w16.heap.size ≤ w17.heap.size from D17.size)
  have X_aN_17 := Lib.hid (D17.keepBox X_aN_16.out (fun q => by have q := BI6.out _ q; have q1 := q.1; have q2 := q.2; have l1 := L1.out; have l2 := L2.out; have l3 := L3.out; have l4 := L4.out; have l5 := L5.out; have l6 := L6.out; omega)); clear X_aN_16
  have X_x1_17 := Lib.hid (D17.keepBox X_x1_16.out (fun q => by have q := BI6.out _ q; have q1 := q.1; have q2 := q.2; have l6 := L6.out; omega)); clear X_x1_16
  have O_w0_17 := Lib.hid (O_w0_16.out.touch D17 (fun i p q => by have p := AI3.out i p; have q := BI6.out i q; have p1 := p.1; have p2 := p.2; have q1 := q.1; have q2 := q.2; have l3 := L3.out; have l4 := L4.out; have l5 := L5.out; have l6 := L6.out; omega)); clear O_w0_16
  have O_w1_17 := Lib.hid (O_w1_16.out.touch D17 (fun i p q => by have p := BI3.out i p; have q := BI6.out i q; have p1 := p.1; have p2 := p.2; have q1 := q.1; have q2 := q.2; have l3 := L3.out; have l4 := L4.out; have l5 := L5.out; have l6 := L6.out; omega)); clear O_w1_16
  have O_x0_17 := Lib.hid (O_x0_16.out.touch D17 (fun i p q => by have q := BI6.out i q; have p1 := p.1; have p2 := p.2; have q1 := q.1; have q2 := q.2; have l4 := L4.out; have l5 := L5.out; have l6 := L6.out; omega)); clear O_x0_16
  have O_x1_17 := Lib.hid (O_x1_16.out.touch D17 (fun i p q => by have q := BI6.out i q; have p1 := p.1; have p2 := p.2; have q1 := q.1; have q2 := q.2; have l5 := L5.out; have l6 := L6.out; omega)); clear O_x1_16
  have O_g0_17 := Lib.hid (Z16.out.touch D17 (fun i p q => DI6.out i p q)); clear Z16
  clear D17 Y17
  have Z17 := Lib.hid P17; clear P17 O_g1_16
  have U17 : 0 ≤ ((Rep.slice 77 RRequester).mark true ((satR x1 x0)) (((Rep.slice 70 RPendingInterest).mark true ((satP x1 x0)) (1)).2)).2 := by have := B17.out.1; omega
  go_wp2_with fail
  refine (heldPendingInterestS_c (O_g0_17.out.raw.below (by repeat (first | (with_reducible exact Below.refl _ _) | refine Below.alloc ?_ (by simp; try omega) _ | refine Below.drew ?_))) ((Rep.slice 70 RPendingInterest).mark_held (e := true) (x := (satP x1 x0)) (k := 1)) (by have := B16.out.1; have := B17.out.1;  omega) (by have := B16.out.2; have := B17.out.2;  omega)).mono ?_
  rintro e w18 ⟨rfl, hb18⟩
  have D18 : Below w17.heap.size w17 w18 := Below.trans (by repeat (first | (with_reducible exact Below.refl _ _) | refine Below.alloc ?_ (by simp; try omega) _ | refine Below.drew ?_)) (hb18.mono (by first | (simp; done) | (simp; omega)))
  have H18 := Lib.hid (H17.out.trans (D18.mono H17.out.size))
  have L18 := Lib.hid (show w17.heap.size + 0 ≤ w18.heap.size from by have h := hb18.size; (try simp at h); omega)
  have X_aN_18 := Lib.hid (keepBox X_aN_17.out D18); clear X_aN_17
  have X_x1_18 := Lib.hid (keepBox X_x1_17.out D18); clear X_x1_17
  have O_w0_18 := Lib.hid (O_w0_17.out.below D18); clear O_w0_17
  have O_w1_18 := Lib.hid (O_w1_17.out.below D18); clear O_w1_17
  have O_x0_18 := Lib.hid (O_x0_17.out.below D18); clear O_x0_17
  have O_x1_18 := Lib.hid (O_x1_17.out.below D18); clear O_x1_17
  have O_g0_18 := Lib.hid (O_g0_17.out.below D18); clear O_g0_17
  have O_g1_18 := Lib.hid (Z17.out.below D18); clear Z17
  clear D18 hb18
  go_wp2_with fail
  refine (heldRequesterS_c (O_g1_18.out.raw.below (by repeat (first | (with_reducible exact Below.refl _ _) | refine Below.alloc ?_ (by simp; try omega) _ | refine Below.drew ?_))) ((Rep.slice 77 RRequester).mark_held (e := true) (x := (satR x1 x0)) (k := ((Rep.slice 70 RPendingInterest).mark true ((satP x1 x0)) (1)).2)) (by have := B16.out.1; have := B17.out.1;  omega) (by have := B16.out.2; have := B17.out.2;  omega)).mono ?_
  rintro e w19 ⟨rfl, hb19⟩
  have D19 : Below w18.heap.size w18 w19 := Below.trans (by repeat (first | (with_reducible exact Below.refl _ _) | refine Below.alloc ?_ (by simp; try omega) _ | refine Below.drew ?_)) (hb19.mono (by first | (simp; done) | (simp; omega)))
  have H19 := Lib.hid (H18.out.trans (D19.mono H18.out.size))
  have L19 := Lib.hid (show w18.heap.size + 0 ≤ w19.heap.size from by have h := hb19.size; (try simp at h); omega)
  have X_aN_19 := Lib.hid (keepBox X_aN_18.out D19); clear X_aN_18
  have X_x1_19 := Lib.hid (keepBox X_x1_18.out D19); clear X_x1_18
  have O_w0_19 := Lib.hid (O_w0_18.out.below D19); clear O_w0_18
  have O_w1_19 := Lib.hid (O_w1_18.out.below D19); clear O_w1_18
  have O_x0_19 := Lib.hid (O_x0_18.out.below D19); clear O_x0_18
  have O_x1_19 := Lib.hid (O_x1_18.out.below D19); clear O_x1_18
  have O_g0_19 := Lib.hid (O_g0_18.out.below D19); clear O_g0_18
  have O_g1_19 := Lib.hid (O_g1_18.out.below D19); clear O_g1_18
  clear D19 hb19
  have K_aN_0 := boxCell X_aN_19.out (j := 0) (v := a1v0) rfl
  go_wp2_with fail
  refine wp_region_softP (fun W => Below w19.heap.size w19 W) [(0, true), (2, true), (1, false), (3, false), (4, false), (5, true), (6, true), (7, true), (8, true), (9, true)] (by kernel_rfl) (by kernel_rfl) (fun c a d v w h => by cases d <;> exact h) ((Below.refl _ _).drew) ?_
  intro wS HS
  simp only [pickOps, List.getElem?_cons_succ, List.getElem?_cons_zero, List.map_cons, List.map_nil]
  all_goals first | (refine soft_pass rfl HS ?_) | (refine soft_read (v := ?_) rfl (fun W hW => ?_) ?_; rotate_left; (· go_simp; try with_reducible rfl))
  all_goals try simp only [Act.put, List.setIfInBounds_toArray, List.set_cons_zero, List.set_cons_succ]
  all_goals first | (refine soft_pass rfl HS ?_) | (refine soft_read (v := ?_) rfl (fun W hW => ?_) ?_; rotate_left; (· have A_K_aN_0 := cell_later hW K_aN_0; clear hW; go_simp; try with_reducible rfl))
  all_goals try simp only [Act.put, List.setIfInBounds_toArray, List.set_cons_zero, List.set_cons_succ]
  all_goals first | (refine soft_pass rfl HS ?_) | (refine soft_do rfl (fun K hK => ?_); go_simp; refine (toPendingInterestS_c (r0.below (H19.out.trans (HS.mono H19.out.size)))).mono ?_; rintro e u20_0 ⟨tv20_0, rfl, O20_0, hc⟩; obtain ⟨t20_0a, t20_0p, t20_0h, _⟩ := Rep.len_raw O20_0.raw; obtain rfl : tv20_0 = _ := (by simpa using t20_0h); clear t20_0h; replace HS := HS.trans (hc.mono HS.size); refine hK _ _ HS ?_; clear hK K hc)
  all_goals try simp only [Act.put, List.setIfInBounds_toArray, List.set_cons_zero, List.set_cons_succ]
  all_goals first | (refine soft_pass rfl HS ?_) | (refine soft_do rfl (fun K hK => ?_); go_simp; refine (toName_c (r1.below (H19.out.trans (HS.mono H19.out.size)))).mono ?_; rintro e u20_1 ⟨cs20_1, rfl, O20_1, hc⟩; obtain ⟨t20_1v0, rfl, t20_1_0⟩ := RName_raw O20_1.raw; obtain ⟨t20_1a0, t20_1p0, t20_1h0, _⟩ := Rep.len_raw t20_1_0; obtain rfl : t20_1v0 = _ := (by simpa using t20_1h0); clear t20_1h0; clear t20_1_0; replace O20_0 := O20_0.below hc; replace HS := HS.trans (hc.mono HS.size); refine hK _ _ HS ?_; clear hK K hc)
  all_goals try simp only [Act.put, List.setIfInBounds_toArray, List.set_cons_zero, List.set_cons_succ]
  all_goals first | (refine soft_pass rfl HS ?_) | (refine soft_do rfl (fun K hK => ?_); go_simp; refine (implSatisfy_c O20_0.rd O20_1.rd).mono ?_; have sz := HS.size; rintro e w20 ⟨tv20, tu20, rfl, OO20, hc⟩; obtain ⟨A20, B20, O20, V20, AS20, BS20, DIS20⟩ := Rep.pair_own2 OO20; clear OO20; obtain ⟨t20a, t20p, t20h, _⟩ := Rep.len_raw O20.raw; obtain rfl : tv20 = _ := (by simpa using t20h); clear t20h; obtain ⟨u20a, u20p, u20h, _⟩ := Rep.len_raw V20.raw; obtain rfl : tu20 = _ := (by simpa using u20h); clear u20h; have Z20 := Lib.hid O20; clear O20; have Y20_2 := Lib.hid V20; clear V20; have AI20 : Hid (∀ i, A20 i → Btw (w19.heap.size) (w20.heap.size) i) := Lib.hid (fun i hi => ⟨by have h := (AS20 i hi).1; omega, (AS20 i hi).2⟩); have BI20 : Hid (∀ i, B20 i → Btw (w19.heap.size) (w20.heap.size) i) := Lib.hid (fun i hi => ⟨by have h := (BS20 i hi).1; omega, (BS20 i hi).2⟩); have DI20 := Lib.hid DIS20; clear AS20 BS20 DIS20; clear sz; replace HS := HS.trans (hc.mono HS.size); refine hK _ _ HS ?_; clear hK K hc O20_0 O20_1)
  all_goals try simp only [Act.put, List.setIfInBounds_toArray, List.set_cons_zero, List.set_cons_succ]
  all_goals first | (refine soft_pass rfl HS ?_) | (refine soft_read (v := ?_) rfl (fun W hW => ?_) ?_; rotate_left; (· go_simp; try with_reducible rfl))
  all_goals try simp only [Act.put, List.setIfInBounds_toArray, List.set_cons_zero, List.set_cons_succ]
  all_goals first | (refine soft_pass rfl HS ?_) | (refine soft_read (v := ?_) rfl (fun W hW => ?_) ?_; rotate_left; (· go_simp; try with_reducible rfl))
  all_goals try simp only [Act.put, List.setIfInBounds_toArray, List.set_cons_zero, List.set_cons_succ]
  all_goals first | (refine soft_pass rfl HS ?_) | (refine soft_read (v := ?_) rfl (fun W hW => ?_) ?_; rotate_left; (· go_simp; try with_reducible rfl))
  all_goals try simp only [Act.put, List.setIfInBounds_toArray, List.set_cons_zero, List.set_cons_succ]
  all_goals first | (refine soft_pass rfl HS ?_) | (refine soft_read (v := ?_) rfl (fun W hW => ?_) ?_; rotate_left; (· go_simp; try with_reducible rfl))
  all_goals try simp only [Act.put, List.setIfInBounds_toArray, List.set_cons_zero, List.set_cons_succ]
  all_goals first | (refine soft_pass rfl HS ?_) | (refine soft_read (v := ?_) rfl (fun W hW => ?_) ?_; rotate_left; (· go_simp; try with_reducible rfl))
  all_goals try simp only [Act.put, List.setIfInBounds_toArray, List.set_cons_zero, List.set_cons_succ]
  all_goals refine soft_nil ?_
  have D20 : Below w19.heap.size w19 w20 := Below.trans (by repeat (first | (with_reducible exact Below.refl _ _) | refine Below.alloc ?_ (by simp; try omega) _ | refine Below.drew ?_)) (HS.mono (by first | (simp; done) | (simp; omega)))
  have H20 := Lib.hid (H19.out.trans (D20.mono H19.out.size))
  have L20 := Lib.hid (show w19.heap.size + 0 ≤ w20.heap.size from by have h := HS.size; (try simp at h); omega)
  have X_aN_20 := Lib.hid (keepBox X_aN_19.out D20); clear X_aN_19
  have X_x1_20 := Lib.hid (keepBox X_x1_19.out D20); clear X_x1_19
  have O_w0_20 := Lib.hid (O_w0_19.out.below D20); clear O_w0_19
  have O_w1_20 := Lib.hid (O_w1_19.out.below D20); clear O_w1_19
  have O_x0_20 := Lib.hid (O_x0_19.out.below D20); clear O_x0_19
  have O_x1_20 := Lib.hid (O_x1_19.out.below D20); clear O_x1_19
  have O_g0_20 := Lib.hid (O_g0_19.out.below D20); clear O_g0_19
  have O_g1_20 := Lib.hid (O_g1_19.out.below D20); clear O_g1_19
  clear D20 K_aN_0 HS
  go_wp2_with fail
  refine (eqPendingInterestS_c (Z20.out.raw.below (by repeat (first | (with_reducible exact Below.refl _ _) | refine Below.alloc ?_ (by simp; try omega) _ | refine Below.drew ?_))) (O_w0_20.out.raw.below (by repeat (first | (with_reducible exact Below.refl _ _) | refine Below.alloc ?_ (by simp; try omega) _ | refine Below.drew ?_)))).mono ?_
  rintro e w21 ⟨rfl, hb21⟩
  have D21 : Below w20.heap.size w20 w21 := Below.trans (by repeat (first | (with_reducible exact Below.refl _ _) | refine Below.alloc ?_ (by simp; try omega) _ | refine Below.drew ?_)) (hb21.mono (by first | (simp; done) | (simp; omega)))
  have H21 := Lib.hid (H20.out.trans (D21.mono H20.out.size))
  have L21 := Lib.hid (show w20.heap.size + 0 ≤ w21.heap.size from by have h := hb21.size; (try simp at h); omega)
  have X_aN_21 := Lib.hid (keepBox X_aN_20.out D21); clear X_aN_20
  have X_x1_21 := Lib.hid (keepBox X_x1_20.out D21); clear X_x1_20
  have O_w0_21 := Lib.hid (O_w0_20.out.below D21); clear O_w0_20
  have O_w1_21 := Lib.hid (O_w1_20.out.below D21); clear O_w1_20
  have O_x0_21 := Lib.hid (O_x0_20.out.below D21); clear O_x0_20
  have O_x1_21 := Lib.hid (O_x1_20.out.below D21); clear O_x1_20
  have O_g0_21 := Lib.hid (O_g0_20.out.below D21); clear O_g0_20
  have O_g1_21 := Lib.hid (O_g1_20.out.below D21); clear O_g1_20
  have O_h0_21 := Lib.hid (Z20.out.below D21); clear Z20
  have O_h1_21 := Lib.hid (Y20_2.out.below D21); clear Y20_2
  clear D21 hb21
  go_wp2_with fail
  refine (eqRequesterS_c (O_h1_21.out.raw.below (by repeat (first | (with_reducible exact Below.refl _ _) | refine Below.alloc ?_ (by simp; try omega) _ | refine Below.drew ?_))) (O_w1_21.out.raw.below (by repeat (first | (with_reducible exact Below.refl _ _) | refine Below.alloc ?_ (by simp; try omega) _ | refine Below.drew ?_)))).mono ?_
  rintro e w22 ⟨rfl, hb22⟩
  have D22 : Below w21.heap.size w21 w22 := Below.trans (by repeat (first | (with_reducible exact Below.refl _ _) | refine Below.alloc ?_ (by simp; try omega) _ | refine Below.drew ?_)) (hb22.mono (by first | (simp; done) | (simp; omega)))
  have H22 := Lib.hid (H21.out.trans (D22.mono H21.out.size))
  have L22 := Lib.hid (show w21.heap.size + 0 ≤ w22.heap.size from by have h := hb22.size; (try simp at h); omega)
  have X_aN_22 := Lib.hid (keepBox X_aN_21.out D22); clear X_aN_21
  have X_x1_22 := Lib.hid (keepBox X_x1_21.out D22); clear X_x1_21
  have O_w0_22 := Lib.hid (O_w0_21.out.below D22); clear O_w0_21
  have O_w1_22 := Lib.hid (O_w1_21.out.below D22); clear O_w1_21
  have O_x0_22 := Lib.hid (O_x0_21.out.below D22); clear O_x0_21
  have O_x1_22 := Lib.hid (O_x1_21.out.below D22); clear O_x1_21
  have O_g0_22 := Lib.hid (O_g0_21.out.below D22); clear O_g0_21
  have O_g1_22 := Lib.hid (O_g1_21.out.below D22); clear O_g1_21
  have O_h0_22 := Lib.hid (O_h0_21.out.below D22); clear O_h0_21
  have O_h1_22 := Lib.hid (O_h1_21.out.below D22); clear O_h1_21
  clear D22 hb22
  go_wp2_with fail
  refine (heldPendingInterestS_c (O_g0_22.out.raw.below (by repeat (first | (with_reducible exact Below.refl _ _) | refine Below.alloc ?_ (by simp; try omega) _ | refine Below.drew ?_))) ((Rep.slice 70 RPendingInterest).mark_held (e := true) (x := (satP x1 x0)) (k := 1)) (by have := B16.out.1; have := B17.out.1;  omega) (by have := B16.out.2; have := B17.out.2;  omega)).mono ?_
  rintro e w23 ⟨rfl, hb23⟩
  have D23 : Below w22.heap.size w22 w23 := Below.trans (by repeat (first | (with_reducible exact Below.refl _ _) | refine Below.alloc ?_ (by simp; try omega) _ | refine Below.drew ?_)) (hb23.mono (by first | (simp; done) | (simp; omega)))
  have H23 := Lib.hid (H22.out.trans (D23.mono H22.out.size))
  have L23 := Lib.hid (show w22.heap.size + 0 ≤ w23.heap.size from by have h := hb23.size; (try simp at h); omega)
  have X_aN_23 := Lib.hid (keepBox X_aN_22.out D23); clear X_aN_22
  have X_x1_23 := Lib.hid (keepBox X_x1_22.out D23); clear X_x1_22
  have O_w0_23 := Lib.hid (O_w0_22.out.below D23); clear O_w0_22
  have O_w1_23 := Lib.hid (O_w1_22.out.below D23); clear O_w1_22
  have O_x0_23 := Lib.hid (O_x0_22.out.below D23); clear O_x0_22
  have O_x1_23 := Lib.hid (O_x1_22.out.below D23); clear O_x1_22
  have O_g0_23 := Lib.hid (O_g0_22.out.below D23); clear O_g0_22
  have O_g1_23 := Lib.hid (O_g1_22.out.below D23); clear O_g1_22
  have O_h0_23 := Lib.hid (O_h0_22.out.below D23); clear O_h0_22
  have O_h1_23 := Lib.hid (O_h1_22.out.below D23); clear O_h1_22
  clear D23 hb23
  go_wp2_with fail
  refine (heldRequesterS_c (O_g1_23.out.raw.below (by repeat (first | (with_reducible exact Below.refl _ _) | refine Below.alloc ?_ (by simp; try omega) _ | refine Below.drew ?_))) ((Rep.slice 77 RRequester).mark_held (e := true) (x := (satR x1 x0)) (k := ((Rep.slice 70 RPendingInterest).mark true ((satP x1 x0)) (1)).2)) (by have := B16.out.1; have := B17.out.1;  omega) (by have := B16.out.2; have := B17.out.2;  omega)).mono ?_
  rintro e w24 ⟨rfl, hb24⟩
  have D24 : Below w23.heap.size w23 w24 := Below.trans (by repeat (first | (with_reducible exact Below.refl _ _) | refine Below.alloc ?_ (by simp; try omega) _ | refine Below.drew ?_)) (hb24.mono (by first | (simp; done) | (simp; omega)))
  have H24 := Lib.hid (H23.out.trans (D24.mono H23.out.size))
  have L24 := Lib.hid (show w23.heap.size + 0 ≤ w24.heap.size from by have h := hb24.size; (try simp at h); omega)
  have X_aN_24 := Lib.hid (keepBox X_aN_23.out D24); clear X_aN_23
  have X_x1_24 := Lib.hid (keepBox X_x1_23.out D24); clear X_x1_23
  have O_w0_24 := Lib.hid (O_w0_23.out.below D24); clear O_w0_23
  have O_w1_24 := Lib.hid (O_w1_23.out.below D24); clear O_w1_23
  have O_x0_24 := Lib.hid (O_x0_23.out.below D24); clear O_x0_23
  have O_x1_24 := Lib.hid (O_x1_23.out.below D24); clear O_x1_23
  have O_g0_24 := Lib.hid (O_g0_23.out.below D24); clear O_g0_23
  have O_g1_24 := Lib.hid (O_g1_23.out.below D24); clear O_g1_23
  have O_h0_24 := Lib.hid (O_h0_23.out.below D24); clear O_h0_23
  have O_h1_24 := Lib.hid (O_h1_23.out.below D24); clear O_h1_23
  clear D24 hb24
  go_wp2
  go_ret
  exact ⟨rfl, H24.out⟩

set_option maxRecDepth 100000 in
theorem lawSatisfy_lifted (os : Os) (started : os.Started) (H : Type) (enc : TypeId × Value → H) :
    ReturnsInHanded {} Try.checked os 3 .any (Rows.fnExactSatisfySpec.pre6 enc Try.prog Try.f3 Rows.fnExactSatisfyRow.domain false) (Rows.fnExactSatisfySpec.post enc Try.prog Try.f3 false true false false) := by
  refine returnsInHanded_of_change (C := Try.checked) law_own started (by kernel_rfl) Try.func3
    (ChangeSpec.witness6 (enc := enc) (C := Try.checked) false ⟨#[], #[.slice none 0 0, .agg #[.slice none 0 0]], []⟩ 8 (by kernel_rfl) (by kernel_rfl) (by kernel_rfl) (by kernel_rfl)) ?_
  intro W base args ds gs before hval0 hW _ _
  have hval : ∀ (j : Nat) t v, Try.f3.params[j]? = some t → args[j]? = some v → Value.okWide Try.prog W .any base t v := hval0
  have hW0 : DataW.Whole enc Try.prog Try.f3.params.toList Rows.fnExactSatisfySpec.vars false W args.toList ds gs before := hW
  obtain ⟨p, q, hA0, hV, rfl, hfz, hnd⟩ := hW
  have hA : DataW.TrodAll enc Try.prog W 0 (fun _ => true) true Try.f3.params.toList args.toList ds p := hA0
  rw [Try.params3] at hA hval
  obtain ⟨v0, vs0, d0, ds0, p0, q0, hargs, rfl, rfl, g0, s0⟩ := trodAll_cons hA
  obtain ⟨v1, vs1, d1, ds1, p1, q1, rfl, rfl, rfl, g1, s1⟩ := trodAll_cons s0
  obtain ⟨rfl, rfl, rfl⟩ := trodAll_nil s1
  obtain rfl : args = #[v0, v1] := by cases args; simp_all
  obtain ⟨rfl, rfl⟩ := trodVars_none hV
  obtain ⟨a0, len0, cap0, rfl⟩ := okWide_slice Try.underlying22 (hval 0 22 v0 rfl rfl)
  obtain ⟨fu0, hf0⟩ := g0
  obtain ⟨x0, h0⟩ := bridge_PendingInterestS (w := W) hf0
  have h0 : (Rep.slice 70 RPendingInterest).raw W [.slice a0 len0 cap0] x0 := by simpa [Value.cells] using h0
  obtain ⟨c1, rfl⟩ : ∃ c : List Value, v1 = .agg c.toArray := by
    have h := hval 1 25 v1 rfl rfl
    unfold Value.okWide at h
    rw [Try.underlying25] at h
    obtain ⟨cs, rfl, _⟩ := h
    exact ⟨cs.toList, by simp⟩
  obtain ⟨fu1, hf1⟩ := g1
  obtain ⟨x1, h1⟩ := bridge_Name (w := W) hf1
  have h1 : RName.raw W c1 x1 := by simpa [Value.cells] using h1
  refine (lawSatisfy_c h0 h1).mono fun e W' ⟨he, hb⟩ => ?_
  subst he
  refine ⟨_, rfl, law_post (tb := 4) hW0 rfl rfl Try.underlying4 ⟨rfl, rfl, rfl⟩ ?_ hb⟩
  rw [Try.params3]
  intro t ht
  have hall : ([22, 25].all fun t => Try.prog.readableRec t && decide (t < Try.prog.types.size)) = true := by kernel_rfl
  have h1 := List.all_eq_true.1 hall t ht
  simpa using h1

theorem lawSatisfy_holds : Rows.FnExactSatisfySaid :=
  OpenClaim.holds_of_wide 3 Try.f3 rfl rfl rfl rfl rfl rfl rfl ⟨rfl, rfl, rfl, rfl, rfl⟩ rfl rfl rfl rfl rfl (by kernel_rfl) Try.func3 (by kernel_rfl)
    (of_decide_eq_true (by kernel_rfl)) (by unfold Func.isWrapper; first | (rw [if_pos (by decide +kernel)]; kernel_rfl) | (rw [if_neg (by decide +kernel)]; exact ⟨rfl, rfl⟩))
    (fun os started H enc _ => lawSatisfy_lifted os started H enc)
end Go.Proofs.Ytjehdoedfikcdaa

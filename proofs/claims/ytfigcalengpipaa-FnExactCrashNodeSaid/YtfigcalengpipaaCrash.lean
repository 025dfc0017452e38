/-
  A node that crashes.
-/
import Derived.Test.YtfigcalengpipaaNode1
import Derived.Test.YtfigcalengpipaaCopyE
import Derived.Test.YtfigcalengpipaaCopyR
import Derived.IntWalk
import Derived.Deep.Cut
import Derived.WalkSpells
import Derived.WalkLawsBesides
namespace Go.Proofs.Ytfigcalengpipaa
open Go.RowKit
set_option linter.unusedVariables false
set_option linter.unusedSimpArgs false
set_option linter.unnecessarySimpa false
def crashN (x : LNode) : LNode := (x.1, newC x.2.1.1, [], [], x.2.2.2.2.1, [], 0)
set_option maxRecDepth 100000 in
set_option maxHeartbeats 4000000 in
theorem specCrashNode_c {w : World} {cx : List Value} {x : LNode} (hx : RNode.rd w cx x) : Calls Try.prog 29 #[.agg cx.toArray] w (MadeAgg RNode (crashN x) w) := by
  obtain ⟨q1, q2, q3, q4, q5, q6, q7⟩ := hx.2
  have HA : Hid (x.1.length ≤ 16777216) := Lib.hid q1.1
  have HB : Hid (x.2.2.2.2.1.length ≤ 16777216) := Lib.hid q5.1
  obtain ⟨av0, av2, av3, av4, av5, av6, rfl, a_0, a_1, a_2, a_3, a_4, a_5, a_6, a_7, a_8⟩ := RNode_raw hx.1
  obtain ⟨aa0, ap0, ah0, al0⟩ := Rep.len_raw a_0; obtain rfl : av0 = _ := by simpa using ah0
  clear ah0
  obtain ⟨aa2, ap2, ah2, al2⟩ := Rep.len_raw a_3; obtain rfl : av2 = _ := by simpa using ah2
  clear ah2
  obtain ⟨aa3, ap3, ah3, al3⟩ := Rep.len_raw a_4; obtain rfl : av3 = _ := by simpa using ah3
  clear ah3
  obtain ⟨aa4, ap4, ah4, al4⟩ := Rep.len_raw a_5; obtain rfl : av4 = _ := by simpa using ah4
  clear ah4
  obtain ⟨aa5, ap5, ah5, al5⟩ := Rep.len_raw a_6; obtain rfl : av5 = _ := by simpa using ah5
  clear ah5
  obtain ⟨aa6, ap6, ah6, al6⟩ := Rep.len_raw a_7; obtain rfl : av6 = _ := by simpa using ah6
  clear ah6
  have RA : Hid ((Rep.slice 105 RData).rd w [.slice aa0 x.1.length ap0] x.1) := Lib.hid ⟨a_0, q1⟩
  have RR : Hid ((Rep.slice 116 RRoute).rd w [.slice aa5 x.2.2.2.2.1.length ap5] x.2.2.2.2.1) := Lib.hid ⟨a_6, q5⟩
  have HC := Lib.hid a_2
  clear hx q1 q2 q3 q4 q5 q6 q7 a_0 a_1 a_2 a_3 a_4 a_5 a_6 a_7 a_8
  go_enter Try.func29, Try.ntmps29
  go_upto_region 1 with fail
  generalize hwB : World.alloc (World.alloc w _) _ = wB
  have EB : Below w.heap.size w wB := by rw [← hwB]; exact (by repeat (first | (with_reducible exact Below.refl _ _) | refine Below.alloc ?_ (by simp; try omega) _ | refine Below.drew ?_ | refine Below.setCell ?_ (by simp; try omega) _))
  have K0 : wB.cell? ⟨w.heap.size, 0, none⟩ = some (.slice aa0 x.1.length ap0) := by rw [← hwB]; simp [go_sem]
  have K1 : wB.cell? ⟨w.heap.size, 1, none⟩ = some (.int .i64 x.2.1.1) := by rw [← hwB]; simp [go_sem]
  have K2 : wB.cell? ⟨w.heap.size, 2, none⟩ = some (.slice aa2 x.2.1.2.length ap2) := by rw [← hwB]; simp [go_sem]
  have K3 : wB.cell? ⟨w.heap.size, 3, none⟩ = some (.slice aa3 x.2.2.1.length ap3) := by rw [← hwB]; simp [go_sem]
  have K4 : wB.cell? ⟨w.heap.size, 4, none⟩ = some (.slice aa4 x.2.2.2.1.length ap4) := by rw [← hwB]; simp [go_sem]
  have K5 : wB.cell? ⟨w.heap.size, 5, none⟩ = some (.slice aa5 x.2.2.2.2.1.length ap5) := by rw [← hwB]; simp [go_sem]
  have K6 : wB.cell? ⟨w.heap.size, 6, none⟩ = some (.slice aa6 x.2.2.2.2.2.1.length ap6) := by rw [← hwB]; simp [go_sem]
  have K7 : wB.cell? ⟨w.heap.size, 7, none⟩ = some (.int .i64 x.2.2.2.2.2.2) := by rw [← hwB]; simp [go_sem]
  have XR : wB.heap[w.heap.size + 1]? = some (.cells #[.slice none 0 0, .int .i64 0, .slice none 0 0, .slice none 0 0, .slice none 0 0, .slice none 0 0, .slice none 0 0, .int .i64 0] 31 (0, 0)) := by rw [← hwB]; exact heap_new_at (by simp)
  have hzB : wB.heap.size = w.heap.size + 2 := by rw [← hwB]; simp
  clear hwB
  refine wp_region_softP_tail (fun W => Below wB.heap.size wB W) [(0, true), (1, true), (3, true), (4, true), (5, true), (7, true), (8, true), (2, false), (6, false), (9, false), (10, true)] (by kernel_rfl) (by kernel_rfl) (fun c a d v w h => by cases d <;> exact h) ((Below.refl _ _).drew) ?_
  intro wS HS
  simp only [pickOps, List.length_cons, List.length_nil, List.getElem?_cons_succ, List.getElem?_cons_zero, List.map_cons, List.map_nil, List.cons_append, List.nil_append, List.drop_succ_cons, List.drop_zero]
  all_goals first | (refine soft_pass rfl HS ?_) | (refine soft_read (v := ?_) rfl (fun W hW => ?_) ?_; rotate_left; (· go_simp; try with_reducible rfl))
  all_goals try simp only [Act.put, List.setIfInBounds_toArray, List.set_cons_zero, List.set_cons_succ]
  all_goals first | (refine soft_pass rfl HS ?_) | (refine soft_read (v := ?_) rfl (fun W hW => ?_) ?_; rotate_left; (· have A_K0 := cell_later hW K0; have A_K1 := cell_later hW K1; have A_K2 := cell_later hW K2; have A_K3 := cell_later hW K3; have A_K4 := cell_later hW K4; have A_K5 := cell_later hW K5; have A_K6 := cell_later hW K6; have A_K7 := cell_later hW K7; clear hW; go_simp; try with_reducible rfl))
  all_goals try simp only [Act.put, List.setIfInBounds_toArray, List.set_cons_zero, List.set_cons_succ]
  all_goals first | (refine soft_pass rfl HS ?_) | (refine soft_read (v := ?_) rfl (fun W hW => ?_) ?_; rotate_left; (· go_simp; try with_reducible rfl))
  all_goals try simp only [Act.put, List.setIfInBounds_toArray, List.set_cons_zero, List.set_cons_succ]
  all_goals first | (refine soft_pass rfl HS ?_) | (refine soft_read (v := ?_) rfl (fun W hW => ?_) ?_; rotate_left; (· go_simp; try with_reducible rfl))
  all_goals try simp only [Act.put, List.setIfInBounds_toArray, List.set_cons_zero, List.set_cons_succ]
  all_goals first | (refine soft_pass rfl HS ?_) | (refine soft_read (v := ?_) rfl (fun W hW => ?_) ?_; rotate_left; (· have A_K0 := cell_later hW K0; have A_K1 := cell_later hW K1; have A_K2 := cell_later hW K2; have A_K3 := cell_later hW K3; have A_K4 := cell_later hW K4; have A_K5 := cell_later hW K5; have A_K6 := cell_later hW K6; have A_K7 := cell_later hW K7; clear hW; go_simp; try with_reducible rfl))
  all_goals try simp only [Act.put, List.setIfInBounds_toArray, List.set_cons_zero, List.set_cons_succ]
  all_goals first | (refine soft_pass rfl HS ?_) | (refine soft_read (v := ?_) rfl (fun W hW => ?_) ?_; rotate_left; (· go_simp; try with_reducible rfl))
  all_goals try simp only [Act.put, List.setIfInBounds_toArray, List.set_cons_zero, List.set_cons_succ]
  all_goals first | (refine soft_pass rfl HS ?_) | (refine soft_read (v := ?_) rfl (fun W hW => ?_) ?_; rotate_left; (· have A_K0 := cell_later hW K0; have A_K1 := cell_later hW K1; have A_K2 := cell_later hW K2; have A_K3 := cell_later hW K3; have A_K4 := cell_later hW K4; have A_K5 := cell_later hW K5; have A_K6 := cell_later hW K6; have A_K7 := cell_later hW K7; clear hW; go_simp; try with_reducible rfl))
  all_goals try simp only [Act.put, List.setIfInBounds_toArray, List.set_cons_zero, List.set_cons_succ]
  all_goals first | (refine soft_pass rfl HS ?_) | (refine soft_do rfl (fun K hK => ?_); go_simp; refine (specl11Things_c (RA.out.below (EB.trans (HS.mono EB.size)))).mono ?_; rintro e wT ⟨v1, rfl, O1, hbT⟩; obtain ⟨ta, tn, tp, hv1, HTN⟩ := O1.parts; obtain rfl := hv1; have HO1 := Lib.hid (O1.own HA.out); have hzT := hbT.size; have hzS := HS.size; replace HS := HS.trans (hbT.mono HS.size); clear O1 hbT; refine hK _ _ HS ?_; clear hK K)
  all_goals try simp only [Act.put, List.setIfInBounds_toArray, List.set_cons_zero, List.set_cons_succ]
  all_goals first | (refine soft_pass rfl HS ?_) | (refine soft_do rfl (fun K hK => ?_); go_simp; refine (specNewContentStore_c (w := wT) HC.out).mono ?_; rintro e wU ⟨cs, rfl, O2, hbU⟩; obtain ⟨cv, rfl, c_0, c_1⟩ := RContentStore_raw O2.raw; obtain ⟨ca, cp, hcv, _⟩ := Rep.len_raw c_1; obtain rfl : cv = _ := (by simpa using hcv); have HO2 := Lib.hid O2; replace HO1 := Lib.hid (HO1.out.below hbU); have hzU := hbU.size; replace HS := HS.trans (hbU.mono HS.size); clear O2 hbU c_0 c_1 hcv; refine hK _ _ HS ?_; clear hK K)
  all_goals try simp only [Act.put, List.setIfInBounds_toArray, List.set_cons_zero, List.set_cons_succ]
  all_goals first | (refine soft_pass rfl HS ?_) | (refine soft_do rfl (fun K hK => ?_); go_simp; refine (specl14Copy_c (RR.out.below (EB.trans (HS.mono EB.size)))).mono ?_; rintro e wV ⟨v3, rfl, O3, hbV⟩; obtain ⟨ra, rn, rp, hv3, HRN⟩ := O3.parts; obtain rfl := hv3; have HO3 := Lib.hid (O3.own HB.out); replace HO1 := Lib.hid (HO1.out.below hbV); replace HO2 := Lib.hid (HO2.out.below hbV); have hzV := hbV.size; replace HS := HS.trans (hbV.mono HS.size); clear O3 hbV; refine hK _ _ HS ?_; clear hK K)
  all_goals try simp only [Act.put, List.setIfInBounds_toArray, List.set_cons_zero, List.set_cons_succ]
  all_goals first | (refine soft_pass rfl HS ?_) | (refine soft_read (v := ?_) rfl (fun W hW => ?_) ?_; rotate_left; (· go_simp; try with_reducible rfl))
  all_goals try simp only [Act.put, List.setIfInBounds_toArray, List.set_cons_zero, List.set_cons_succ]
  all_goals refine soft_rest ?_
  have X1 := keepBox XR HS
  have E1 := EB.trans (HS.mono EB.size)
  have M0 := boxCell (b := w.heap.size + 1) X1 (j := 0) rfl
  have F0 := frozen_of_row wV (w.heap.size + 1) 0 _ _ X1
  have M1 := boxCell (b := w.heap.size + 1) X1 (j := 1) rfl
  have F1 := frozen_of_row wV (w.heap.size + 1) 1 _ _ X1
  have M2 := boxCell (b := w.heap.size + 1) X1 (j := 2) rfl
  have F2 := frozen_of_row wV (w.heap.size + 1) 2 _ _ X1
  have M3 := boxCell (b := w.heap.size + 1) X1 (j := 3) rfl
  have F3 := frozen_of_row wV (w.heap.size + 1) 3 _ _ X1
  have M4 := boxCell (b := w.heap.size + 1) X1 (j := 4) rfl
  have F4 := frozen_of_row wV (w.heap.size + 1) 4 _ _ X1
  have M5 := boxCell (b := w.heap.size + 1) X1 (j := 5) rfl
  have F5 := frozen_of_row wV (w.heap.size + 1) 5 _ _ X1
  have M6 := boxCell (b := w.heap.size + 1) X1 (j := 6) rfl
  have F6 := frozen_of_row wV (w.heap.size + 1) 6 _ _ X1
  have M7 := boxCell (b := w.heap.size + 1) X1 (j := 7) rfl
  have F7 := frozen_of_row wV (w.heap.size + 1) 7 _ _ X1
  go_wp2
  refine bodyPost_ret (v := .agg #[.slice ta tn tp, .int .i64 (newC x.2.1.1).1, .slice ca (newC x.2.1.1).2.length cp, .slice none 0 0, .slice none 0 0, .slice ra rn rp, .slice none 0 0, .int .i64 0]) (by simp [results, Try.results29, go_sem, M0, F0, M1, F1, M2, F2, M3, F3, M4, F4, M5, F5, M6, F6, M7, F7]) rfl ⟨[_, _, _, _, _, _, _, _], rfl, ?_, ?_⟩
  · refine Rep.own.wide (S := Btw wS.heap.size wV.heap.size) ?_ (fun j hj => ⟨by have := hj.1; omega, by have := hj.2; simp [World.setCell]; omega⟩)
    exact Rep.own_pair (r := Rep.slice 105 RData) (q := Rep.pair RContentStore (Rep.pair (Rep.slice 95 RPendingInterest) (Rep.pair (Rep.slice 109 RSeenNonce) (Rep.pair (Rep.slice 116 RRoute) (Rep.pair (Rep.slice 119 RMeasurement) Rep.int))))) (A := Btw wS.heap.size wT.heap.size) (B := Btw wT.heap.size wV.heap.size) (Rep.own.out HO1.out (fun j h1 h2 => by simp (discharger := (simp; omega)) only [heap_setCell_other])) (Rep.own_pair (A := Btw wT.heap.size wU.heap.size) (B := Btw wU.heap.size wV.heap.size) (Rep.own.out HO2.out (fun j h1 h2 => by simp (discharger := (simp; omega)) only [heap_setCell_other])) (own_void (own_void (Rep.own_pair (A := Btw wU.heap.size wV.heap.size) (B := fun _ => False) (Rep.own.out HO3.out (fun j h1 h2 => by simp (discharger := (simp; omega)) only [heap_setCell_other])) (own_void (Rep.flat.own (Rep.flat_int (n := 0) (by omega)))) (fun _ h => h) (fun _ h => h.elim) (fun _ _ h => h)))) (fun j hj => ⟨hj.1, by have := hj.2; omega⟩) (fun j hj => ⟨by have := hj.1; omega, hj.2⟩) (fun j h1 h2 => by have p := h1.2; have q := h2.1; omega)) (fun j hj => ⟨hj.1, by have := hj.2; omega⟩) (fun j hj => ⟨by have := hj.1; omega, hj.2⟩) (fun j h1 h2 => by have p := h1.2; have q := h2.1; omega)
  · repeat (first | (with_reducible exact E1) | refine Below.setCell ?_ (by first | (simp; done) | (simp; omega)) _)
set_option maxRecDepth 100000 in
set_option maxHeartbeats 4000000 in
theorem implCrashNode_c {w : World} {cx : List Value} {x : LNode} (hx : RNode.rd w cx x) : Calls Try.prog 30 #[.agg cx.toArray] w (MadeAgg RNode (crashN x) w) := by
  obtain ⟨q1, q2, q3, q4, q5, q6, q7⟩ := hx.2
  have HA : Hid (x.1.length ≤ 16777216) := Lib.hid q1.1
  have HB : Hid (x.2.2.2.2.1.length ≤ 16777216) := Lib.hid q5.1
  obtain ⟨av0, av2, av3, av4, av5, av6, rfl, a_0, a_1, a_2, a_3, a_4, a_5, a_6, a_7, a_8⟩ := RNode_raw hx.1
  obtain ⟨aa0, ap0, ah0, al0⟩ := Rep.len_raw a_0; obtain rfl : av0 = _ := by simpa using ah0
  clear ah0
  obtain ⟨aa2, ap2, ah2, al2⟩ := Rep.len_raw a_3; obtain rfl : av2 = _ := by simpa using ah2
  clear ah2
  obtain ⟨aa3, ap3, ah3, al3⟩ := Rep.len_raw a_4; obtain rfl : av3 = _ := by simpa using ah3
  clear ah3
  obtain ⟨aa4, ap4, ah4, al4⟩ := Rep.len_raw a_5; obtain rfl : av4 = _ := by simpa using ah4
  clear ah4
  obtain ⟨aa5, ap5, ah5, al5⟩ := Rep.len_raw a_6; obtain rfl : av5 = _ := by simpa using ah5
  clear ah5
  obtain ⟨aa6, ap6, ah6, al6⟩ := Rep.len_raw a_7; obtain rfl : av6 = _ := by simpa using ah6
  clear ah6
  have RA : Hid ((Rep.slice 105 RData).rd w [.slice aa0 x.1.length ap0] x.1) := Lib.hid ⟨a_0, q1⟩
  have RR : Hid ((Rep.slice 116 RRoute).rd w [.slice aa5 x.2.2.2.2.1.length ap5] x.2.2.2.2.1) := Lib.hid ⟨a_6, q5⟩
  have HC := Lib.hid a_2
  clear hx q1 q2 q3 q4 q5 q6 q7 a_0 a_1 a_2 a_3 a_4 a_5 a_6 a_7 a_8
  go_enter Try.func30, Try.ntmps30
  go_upto_region 1 with fail
  generalize hwB : World.alloc (World.alloc w _) _ = wB
  have EB : Below w.heap.size w wB := by rw [← hwB]; exact (by repeat (first | (with_reducible exact Below.refl _ _) | refine Below.alloc ?_ (by simp; try omega) _ | refine Below.drew ?_ | refine Below.setCell ?_ (by simp; try omega) _))
  have K0 : wB.cell? ⟨w.heap.size, 0, none⟩ = some (.slice aa0 x.1.length ap0) := by rw [← hwB]; simp [go_sem]
  have K1 : wB.cell? ⟨w.heap.size, 1, none⟩ = some (.int .i64 x.2.1.1) := by rw [← hwB]; simp [go_sem]
  have K2 : wB.cell? ⟨w.heap.size, 2, none⟩ = some (.slice aa2 x.2.1.2.length ap2) := by rw [← hwB]; simp [go_sem]
  have K3 : wB.cell? ⟨w.heap.size, 3, none⟩ = some (.slice aa3 x.2.2.1.length ap3) := by rw [← hwB]; simp [go_sem]
  have K4 : wB.cell? ⟨w.heap.size, 4, none⟩ = some (.slice aa4 x.2.2.2.1.length ap4) := by rw [← hwB]; simp [go_sem]
  have K5 : wB.cell? ⟨w.heap.size, 5, none⟩ = some (.slice aa5 x.2.2.2.2.1.length ap5) := by rw [← hwB]; simp [go_sem]
  have K6 : wB.cell? ⟨w.heap.size, 6, none⟩ = some (.slice aa6 x.2.2.2.2.2.1.length ap6) := by rw [← hwB]; simp [go_sem]
  have K7 : wB.cell? ⟨w.heap.size, 7, none⟩ = some (.int .i64 x.2.2.2.2.2.2) := by rw [← hwB]; simp [go_sem]
  have XR : wB.heap[w.heap.size + 1]? = some (.cells #[.slice none 0 0, .int .i64 0, .slice none 0 0, .slice none 0 0, .slice none 0 0, .slice none 0 0, .slice none 0 0, .int .i64 0] 31 (0, 0)) := by rw [← hwB]; exact heap_new_at (by simp)
  have hzB : wB.heap.size = w.heap.size + 2 := by rw [← hwB]; simp
  clear hwB
  refine wp_region_softP_tail (fun W => Below wB.heap.size wB W) [(0, true), (1, true), (3, true), (4, true), (5, true), (7, true), (8, true), (2, false), (6, false), (9, false), (10, true)] (by kernel_rfl) (by kernel_rfl) (fun c a d v w h => by cases d <;> exact h) ((Below.refl _ _).drew) ?_
  intro wS HS
  simp only [pickOps, List.length_cons, List.length_nil, List.getElem?_cons_succ, List.getElem?_cons_zero, List.map_cons, List.map_nil, List.cons_append, List.nil_append, List.drop_succ_cons, List.drop_zero]
  all_goals first | (refine soft_pass rfl HS ?_) | (refine soft_read (v := ?_) rfl (fun W hW => ?_) ?_; rotate_left; (· go_simp; try with_reducible rfl))
  all_goals try simp only [Act.put, List.setIfInBounds_toArray, List.set_cons_zero, List.set_cons_succ]
  all_goals first | (refine soft_pass rfl HS ?_) | (refine soft_read (v := ?_) rfl (fun W hW => ?_) ?_; rotate_left; (· have A_K0 := cell_later hW K0; have A_K1 := cell_later hW K1; have A_K2 := cell_later hW K2; have A_K3 := cell_later hW K3; have A_K4 := cell_later hW K4; have A_K5 := cell_later hW K5; have A_K6 := cell_later hW K6; have A_K7 := cell_later hW K7; clear hW; go_simp; try with_reducible rfl))
  all_goals try simp only [Act.put, List.setIfInBounds_toArray, List.set_cons_zero, List.set_cons_succ]
  all_goals first | (refine soft_pass rfl HS ?_) | (refine soft_read (v := ?_) rfl (fun W hW => ?_) ?_; rotate_left; (· go_simp; try with_reducible rfl))
  all_goals try simp only [Act.put, List.setIfInBounds_toArray, List.set_cons_zero, List.set_cons_succ]
  all_goals first | (refine soft_pass rfl HS ?_) | (refine soft_read (v := ?_) rfl (fun W hW => ?_) ?_; rotate_left; (· go_simp; try with_reducible rfl))
  all_goals try simp only [Act.put, List.setIfInBounds_toArray, List.set_cons_zero, List.set_cons_succ]
  all_goals first | (refine soft_pass rfl HS ?_) | (refine soft_read (v := ?_) rfl (fun W hW => ?_) ?_; rotate_left; (· have A_K0 := cell_later hW K0; have A_K1 := cell_later hW K1; have A_K2 := cell_later hW K2; have A_K3 := cell_later hW K3; have A_K4 := cell_later hW K4; have A_K5 := cell_later hW K5; have A_K6 := cell_later hW K6; have A_K7 := cell_later hW K7; clear hW; go_simp; try with_reducible rfl))
  all_goals try simp only [Act.put, List.setIfInBounds_toArray, List.set_cons_zero, List.set_cons_succ]
  all_goals first | (refine soft_pass rfl HS ?_) | (refine soft_read (v := ?_) rfl (fun W hW => ?_) ?_; rotate_left; (· go_simp; try with_reducible rfl))
  all_goals try simp only [Act.put, List.setIfInBounds_toArray, List.set_cons_zero, List.set_cons_succ]
  all_goals first | (refine soft_pass rfl HS ?_) | (refine soft_read (v := ?_) rfl (fun W hW => ?_) ?_; rotate_left; (· have A_K0 := cell_later hW K0; have A_K1 := cell_later hW K1; have A_K2 := cell_later hW K2; have A_K3 := cell_later hW K3; have A_K4 := cell_later hW K4; have A_K5 := cell_later hW K5; have A_K6 := cell_later hW K6; have A_K7 := cell_later hW K7; clear hW; go_simp; try with_reducible rfl))
  all_goals try simp only [Act.put, List.setIfInBounds_toArray, List.set_cons_zero, List.set_cons_succ]
  all_goals first | (refine soft_pass rfl HS ?_) | (refine soft_do rfl (fun K hK => ?_); go_simp; refine (implcopyDatas_c (RA.out.below (EB.trans (HS.mono EB.size)))).mono ?_; rintro e wT ⟨v1, rfl, O1, hbT⟩; obtain ⟨ta, tn, tp, hv1, HTN⟩ := O1.parts; obtain rfl := hv1; have HO1 := Lib.hid (O1.own HA.out); have hzT := hbT.size; have hzS := HS.size; replace HS := HS.trans (hbT.mono HS.size); clear O1 hbT; refine hK _ _ HS ?_; clear hK K)
  all_goals try simp only [Act.put, List.setIfInBounds_toArray, List.set_cons_zero, List.set_cons_succ]
  all_goals first | (refine soft_pass rfl HS ?_) | (refine soft_do rfl (fun K hK => ?_); go_simp; refine (implNewContentStore_c (w := wT) HC.out).mono ?_; rintro e wU ⟨cs, rfl, O2, hbU⟩; obtain ⟨cv, rfl, c_0, c_1⟩ := RContentStore_raw O2.raw; obtain ⟨ca, cp, hcv, _⟩ := Rep.len_raw c_1; obtain rfl : cv = _ := (by simpa using hcv); have HO2 := Lib.hid O2; replace HO1 := Lib.hid (HO1.out.below hbU); have hzU := hbU.size; replace HS := HS.trans (hbU.mono HS.size); clear O2 hbU c_0 c_1 hcv; refine hK _ _ HS ?_; clear hK K)
  all_goals try simp only [Act.put, List.setIfInBounds_toArray, List.set_cons_zero, List.set_cons_succ]
  all_goals first | (refine soft_pass rfl HS ?_) | (refine soft_do rfl (fun K hK => ?_); go_simp; refine (implcopyRoutes_c (RR.out.below (EB.trans (HS.mono EB.size)))).mono ?_; rintro e wV ⟨v3, rfl, O3, hbV⟩; obtain ⟨ra, rn, rp, hv3, HRN⟩ := O3.parts; obtain rfl := hv3; have HO3 := Lib.hid (O3.own HB.out); replace HO1 := Lib.hid (HO1.out.below hbV); replace HO2 := Lib.hid (HO2.out.below hbV); have hzV := hbV.size; replace HS := HS.trans (hbV.mono HS.size); clear O3 hbV; refine hK _ _ HS ?_; clear hK K)
  all_goals try simp only [Act.put, List.setIfInBounds_toArray, List.set_cons_zero, List.set_cons_succ]
  all_goals first | (refine soft_pass rfl HS ?_) | (refine soft_read (v := ?_) rfl (fun W hW => ?_) ?_; rotate_left; (· go_simp; try with_reducible rfl))
  all_goals try simp only [Act.put, List.setIfInBounds_toArray, List.set_cons_zero, List.set_cons_succ]
  all_goals refine soft_rest ?_
  have X1 := keepBox XR HS
  have E1 := EB.trans (HS.mono EB.size)
  have M0 := boxCell (b := w.heap.size + 1) X1 (j := 0) rfl
  have F0 := frozen_of_row wV (w.heap.size + 1) 0 _ _ X1
  have M1 := boxCell (b := w.heap.size + 1) X1 (j := 1) rfl
  have F1 := frozen_of_row wV (w.heap.size + 1) 1 _ _ X1
  have M2 := boxCell (b := w.heap.size + 1) X1 (j := 2) rfl
  have F2 := frozen_of_row wV (w.heap.size + 1) 2 _ _ X1
  have M3 := boxCell (b := w.heap.size + 1) X1 (j := 3) rfl
  have F3 := frozen_of_row wV (w.heap.size + 1) 3 _ _ X1
  have M4 := boxCell (b := w.heap.size + 1) X1 (j := 4) rfl
  have F4 := frozen_of_row wV (w.heap.size + 1) 4 _ _ X1
  have M5 := boxCell (b := w.heap.size + 1) X1 (j := 5) rfl
  have F5 := frozen_of_row wV (w.heap.size + 1) 5 _ _ X1
  have M6 := boxCell (b := w.heap.size + 1) X1 (j := 6) rfl
  have F6 := frozen_of_row wV (w.heap.size + 1) 6 _ _ X1
  have M7 := boxCell (b := w.heap.size + 1) X1 (j := 7) rfl
  have F7 := frozen_of_row wV (w.heap.size + 1) 7 _ _ X1
  go_wp2
  refine bodyPost_ret (v := .agg #[.slice ta tn tp, .int .i64 (newC x.2.1.1).1, .slice ca (newC x.2.1.1).2.length cp, .slice none 0 0, .slice none 0 0, .slice ra rn rp, .slice none 0 0, .int .i64 0]) (by simp [results, Try.results30, go_sem, M0, F0, M1, F1, M2, F2, M3, F3, M4, F4, M5, F5, M6, F6, M7, F7]) rfl ⟨[_, _, _, _, _, _, _, _], rfl, ?_, ?_⟩
  · refine Rep.own.wide (S := Btw wS.heap.size wV.heap.size) ?_ (fun j hj => ⟨by have := hj.1; omega, by have := hj.2; simp [World.setCell]; omega⟩)
    exact Rep.own_pair (r := Rep.slice 105 RData) (q := Rep.pair RContentStore (Rep.pair (Rep.slice 95 RPendingInterest) (Rep.pair (Rep.slice 109 RSeenNonce) (Rep.pair (Rep.slice 116 RRoute) (Rep.pair (Rep.slice 119 RMeasurement) Rep.int))))) (A := Btw wS.heap.size wT.heap.size) (B := Btw wT.heap.size wV.heap.size) (Rep.own.out HO1.out (fun j h1 h2 => by simp (discharger := (simp; omega)) only [heap_setCell_other])) (Rep.own_pair (A := Btw wT.heap.size wU.heap.size) (B := Btw wU.heap.size wV.heap.size) (Rep.own.out HO2.out (fun j h1 h2 => by simp (discharger := (simp; omega)) only [heap_setCell_other])) (own_void (own_void (Rep.own_pair (A := Btw wU.heap.size wV.heap.size) (B := fun _ => False) (Rep.own.out HO3.out (fun j h1 h2 => by simp (discharger := (simp; omega)) only [heap_setCell_other])) (own_void (Rep.flat.own (Rep.flat_int (n := 0) (by omega)))) (fun _ h => h) (fun _ h => h.elim) (fun _ _ h => h)))) (fun j hj => ⟨hj.1, by have := hj.2; omega⟩) (fun j hj => ⟨by have := hj.1; omega, hj.2⟩) (fun j h1 h2 => by have p := h1.2; have q := h2.1; omega)) (fun j hj => ⟨hj.1, by have := hj.2; omega⟩) (fun j hj => ⟨by have := hj.1; omega, hj.2⟩) (fun j h1 h2 => by have p := h1.2; have q := h2.1; omega)
  · repeat (first | (with_reducible exact E1) | refine Below.setCell ?_ (by first | (simp; done) | (simp; omega)) _)
end Go.Proofs.Ytfigcalengpipaa

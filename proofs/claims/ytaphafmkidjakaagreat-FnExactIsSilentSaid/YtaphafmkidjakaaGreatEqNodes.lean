/-
  Nodes: equal.
-/
import Derived.Test.YtaphafmkidjakaaGreatEqSt2
import Derived.Test.YtaphafmkidjakaaGreatEqPend
import Derived.Test.YtaphafmkidjakaaGreatRoute
import Derived.Test.YtaphafmkidjakaaGreatMeas
import Derived.IntWalk
import Derived.Deep.Cut
import Derived.WalkSpells
import Derived.WalkLawsBesides
namespace Go.Proofs.YtaphafmkidjakaaGreat
open Go.RowKit
set_option linter.unusedVariables false
set_option linter.unusedSimpArgs false
set_option linter.unnecessarySimpa false
def vNode (x y : LNode) : Bool := (((((decide (x.1 = y.1) && decide (x.2.1 = y.2.1)) && decide (x.2.2.1 = y.2.2.1)) && decide (x.2.2.2.1 = y.2.2.2.1)) && decide (x.2.2.2.2.1 = y.2.2.2.2.1)) && decide (x.2.2.2.2.2.1 = y.2.2.2.2.2.1)) && (x.2.2.2.2.2.2 == y.2.2.2.2.2.2)
theorem vNode_eq (x y : LNode) : vNode x y = decide (x = y) := by
  obtain ⟨x0, x1, x2, x3, x4, x5, x6⟩ := x
  obtain ⟨y0, y1, y2, y3, y4, y5, y6⟩ := y
  rw [Bool.eq_iff_iff]
  simp [vNode, and_assoc]
set_option maxRecDepth 100000 in
set_option maxHeartbeats 2000000 in
theorem specEqualNodes_v {w : World} {cx : List Value} {x : LNode} (hx : RNode.raw w cx x) {cy : List Value} {y : LNode} (hy : RNode.raw w cy y) :
    Calls Tryz.prog 55 #[.agg cx.toArray, .agg cy.toArray] w fun e w' => e = .returned (.bool (vNode x y)) ∧ Below w.heap.size w w' := by
  have Hx := Lib.hid hx
  obtain ⟨fxv0, fxv2, fxv3, fxv4, fxv5, fxv6, rfl, fx_0, fx_1, fx_2, fx_3, fx_4, fx_5, fx_6, fx_7, fx_8⟩ := RNode_raw hx
  obtain ⟨fxa0, fxp0, fxh0, fxl0⟩ := Rep.len_raw fx_0; obtain rfl : fxv0 = _ := by simpa using fxh0
  clear fxh0
  obtain ⟨fxa2, fxp2, fxh2, fxl2⟩ := Rep.len_raw fx_3; obtain rfl : fxv2 = _ := by simpa using fxh2
  clear fxh2
  obtain ⟨fxa3, fxp3, fxh3, fxl3⟩ := Rep.len_raw fx_4; obtain rfl : fxv3 = _ := by simpa using fxh3
  clear fxh3
  obtain ⟨fxa4, fxp4, fxh4, fxl4⟩ := Rep.len_raw fx_5; obtain rfl : fxv4 = _ := by simpa using fxh4
  clear fxh4
  obtain ⟨fxa5, fxp5, fxh5, fxl5⟩ := Rep.len_raw fx_6; obtain rfl : fxv5 = _ := by simpa using fxh5
  clear fxh5
  obtain ⟨fxa6, fxp6, fxh6, fxl6⟩ := Rep.len_raw fx_7; obtain rfl : fxv6 = _ := by simpa using fxh6
  clear fxh6
  have Hy := Lib.hid hy
  obtain ⟨fyv0, fyv2, fyv3, fyv4, fyv5, fyv6, rfl, fy_0, fy_1, fy_2, fy_3, fy_4, fy_5, fy_6, fy_7, fy_8⟩ := RNode_raw hy
  obtain ⟨fya0, fyp0, fyh0, fyl0⟩ := Rep.len_raw fy_0; obtain rfl : fyv0 = _ := by simpa using fyh0
  clear fyh0
  obtain ⟨fya2, fyp2, fyh2, fyl2⟩ := Rep.len_raw fy_3; obtain rfl : fyv2 = _ := by simpa using fyh2
  clear fyh2
  obtain ⟨fya3, fyp3, fyh3, fyl3⟩ := Rep.len_raw fy_4; obtain rfl : fyv3 = _ := by simpa using fyh3
  clear fyh3
  obtain ⟨fya4, fyp4, fyh4, fyl4⟩ := Rep.len_raw fy_5; obtain rfl : fyv4 = _ := by simpa using fyh4
  clear fyh4
  obtain ⟨fya5, fyp5, fyh5, fyl5⟩ := Rep.len_raw fy_6; obtain rfl : fyv5 = _ := by simpa using fyh5
  clear fyh5
  obtain ⟨fya6, fyp6, fyh6, fyl6⟩ := Rep.len_raw fy_7; obtain rfl : fyv6 = _ := by simpa using fyh6
  clear fyh6
  go_enter Tryz.func55, Tryz.ntmps55
  go_upto_region 1 with fail
  generalize hwB : World.alloc (World.alloc w _) _ = wB
  have EB : Below w.heap.size w wB := by rw [← hwB]; exact (by repeat (first | (with_reducible exact Below.refl _ _) | refine Below.alloc ?_ (by simp; try omega) _ | refine Below.drew ?_ | refine Below.setCell ?_ (by simp; try omega) _))
  have K2_0 : wB.cell? ⟨w.heap.size, 0, none⟩ = some (.slice fxa0 (x.1).length fxp0) := by rw [← hwB]; simp [go_sem]
  have K2_1 : wB.cell? ⟨w.heap.size, 1, none⟩ = some (.int .i64 x.2.1.1) := by rw [← hwB]; simp [go_sem]
  have K2_2 : wB.cell? ⟨w.heap.size, 2, none⟩ = some (.slice fxa2 (x.2.1.2).length fxp2) := by rw [← hwB]; simp [go_sem]
  have K2_3 : wB.cell? ⟨w.heap.size, 3, none⟩ = some (.slice fxa3 (x.2.2.1).length fxp3) := by rw [← hwB]; simp [go_sem]
  have K2_4 : wB.cell? ⟨w.heap.size, 4, none⟩ = some (.slice fxa4 (x.2.2.2.1).length fxp4) := by rw [← hwB]; simp [go_sem]
  have K2_5 : wB.cell? ⟨w.heap.size, 5, none⟩ = some (.slice fxa5 (x.2.2.2.2.1).length fxp5) := by rw [← hwB]; simp [go_sem]
  have K2_6 : wB.cell? ⟨w.heap.size, 6, none⟩ = some (.slice fxa6 (x.2.2.2.2.2.1).length fxp6) := by rw [← hwB]; simp [go_sem]
  have K2_7 : wB.cell? ⟨w.heap.size, 7, none⟩ = some (.int .i64 x.2.2.2.2.2.2) := by rw [← hwB]; simp [go_sem]
  have K3_0 : wB.cell? ⟨w.heap.size + 1, 0, none⟩ = some (.slice fya0 (y.1).length fyp0) := by rw [← hwB]; simp [go_sem]
  have K3_1 : wB.cell? ⟨w.heap.size + 1, 1, none⟩ = some (.int .i64 y.2.1.1) := by rw [← hwB]; simp [go_sem]
  have K3_2 : wB.cell? ⟨w.heap.size + 1, 2, none⟩ = some (.slice fya2 (y.2.1.2).length fyp2) := by rw [← hwB]; simp [go_sem]
  have K3_3 : wB.cell? ⟨w.heap.size + 1, 3, none⟩ = some (.slice fya3 (y.2.2.1).length fyp3) := by rw [← hwB]; simp [go_sem]
  have K3_4 : wB.cell? ⟨w.heap.size + 1, 4, none⟩ = some (.slice fya4 (y.2.2.2.1).length fyp4) := by rw [← hwB]; simp [go_sem]
  have K3_5 : wB.cell? ⟨w.heap.size + 1, 5, none⟩ = some (.slice fya5 (y.2.2.2.2.1).length fyp5) := by rw [← hwB]; simp [go_sem]
  have K3_6 : wB.cell? ⟨w.heap.size + 1, 6, none⟩ = some (.slice fya6 (y.2.2.2.2.2.1).length fyp6) := by rw [← hwB]; simp [go_sem]
  have K3_7 : wB.cell? ⟨w.heap.size + 1, 7, none⟩ = some (.int .i64 y.2.2.2.2.2.2) := by rw [← hwB]; simp [go_sem]
  clear hwB
  refine wp_region_soft_plain (fun W => Below wB.heap.size wB W) [true, true, true, true, false, true, true, true, true, true, false, true, true, true, true, true, true, false, true, true, true, true, true, true, false, true, true, true, true, true, true, false, true, true, true, true, true, true, false, true, true, true, true, true, true, true, true, true] (Below.refl _ _) ?_
  intro wS HS
  all_goals first | (refine soft_pass rfl HS ?_) | (refine soft_read (v := ?_) rfl (fun W hW => ?_) ?_; rotate_left; (· go_simp; try with_reducible rfl))
  all_goals try simp only [Act.put, List.setIfInBounds_toArray, List.set_cons_zero, List.set_cons_succ]
  all_goals first | (refine soft_pass rfl HS ?_) | (refine soft_read (v := ?_) rfl (fun W hW => ?_) ?_; rotate_left; (· have A_K2_0 := cell_later hW K2_0; have A_K2_1 := cell_later hW K2_1; have A_K2_2 := cell_later hW K2_2; have A_K2_3 := cell_later hW K2_3; have A_K2_4 := cell_later hW K2_4; have A_K2_5 := cell_later hW K2_5; have A_K2_6 := cell_later hW K2_6; have A_K2_7 := cell_later hW K2_7; have A_K3_0 := cell_later hW K3_0; have A_K3_1 := cell_later hW K3_1; have A_K3_2 := cell_later hW K3_2; have A_K3_3 := cell_later hW K3_3; have A_K3_4 := cell_later hW K3_4; have A_K3_5 := cell_later hW K3_5; have A_K3_6 := cell_later hW K3_6; have A_K3_7 := cell_later hW K3_7; clear hW; go_simp; try with_reducible rfl))
  all_goals try simp only [Act.put, List.setIfInBounds_toArray, List.set_cons_zero, List.set_cons_succ]
  all_goals first | (refine soft_pass rfl HS ?_) | (refine soft_read (v := ?_) rfl (fun W hW => ?_) ?_; rotate_left; (· go_simp; try with_reducible rfl))
  all_goals try simp only [Act.put, List.setIfInBounds_toArray, List.set_cons_zero, List.set_cons_succ]
  all_goals first | (refine soft_pass rfl HS ?_) | (refine soft_read (v := ?_) rfl (fun W hW => ?_) ?_; rotate_left; (· have A_K2_0 := cell_later hW K2_0; have A_K2_1 := cell_later hW K2_1; have A_K2_2 := cell_later hW K2_2; have A_K2_3 := cell_later hW K2_3; have A_K2_4 := cell_later hW K2_4; have A_K2_5 := cell_later hW K2_5; have A_K2_6 := cell_later hW K2_6; have A_K2_7 := cell_later hW K2_7; have A_K3_0 := cell_later hW K3_0; have A_K3_1 := cell_later hW K3_1; have A_K3_2 := cell_later hW K3_2; have A_K3_3 := cell_later hW K3_3; have A_K3_4 := cell_later hW K3_4; have A_K3_5 := cell_later hW K3_5; have A_K3_6 := cell_later hW K3_6; have A_K3_7 := cell_later hW K3_7; clear hW; go_simp; try with_reducible rfl))
  all_goals try simp only [Act.put, List.setIfInBounds_toArray, List.set_cons_zero, List.set_cons_succ]
  all_goals first | (refine soft_pass rfl HS ?_) | (refine soft_do rfl (fun K hK => ?_); go_simp; refine (specl16SameThings_c (Rep.raw.below fx_0 (EB.trans (HS.mono EB.size))) (Rep.raw.below fy_0 (EB.trans (HS.mono EB.size)))).mono ?_; rintro e wS1 ⟨rfl, hbS⟩; replace HS := HS.trans (hbS.mono HS.size); refine hK _ _ HS ?_; clear hK K hbS)
  all_goals try simp only [Act.put, List.setIfInBounds_toArray, List.set_cons_zero, List.set_cons_succ]
  all_goals first | (refine soft_pass rfl HS ?_; have hg5 := True.intro) | (refine soft_part (v := ?_) (b := ?_) rfl (fun W hW => ?_) ?_ (fun b hg5 => ?_); rotate_left; rotate_left; (· go_simp; try with_reducible rfl); (· with_reducible rfl); cases b; all_goals first | (exact Bool.noConfusion hg5) | (simp only [Bool.not_eq_true', Bool.not_eq_false'] at hg5) | skip)
  all_goals try simp only [Act.put, List.setIfInBounds_toArray, List.set_cons_zero, List.set_cons_succ]
  all_goals first | (refine soft_pass rfl HS ?_) | (refine soft_read (v := ?_) rfl (fun W hW => ?_) ?_; rotate_left; (· go_simp; try with_reducible rfl))
  all_goals try simp only [Act.put, List.setIfInBounds_toArray, List.set_cons_zero, List.set_cons_succ]
  all_goals first | (refine soft_pass rfl HS ?_) | (refine soft_read (v := ?_) rfl (fun W hW => ?_) ?_; rotate_left; (· have A_K2_0 := cell_later hW K2_0; have A_K2_1 := cell_later hW K2_1; have A_K2_2 := cell_later hW K2_2; have A_K2_3 := cell_later hW K2_3; have A_K2_4 := cell_later hW K2_4; have A_K2_5 := cell_later hW K2_5; have A_K2_6 := cell_later hW K2_6; have A_K2_7 := cell_later hW K2_7; have A_K3_0 := cell_later hW K3_0; have A_K3_1 := cell_later hW K3_1; have A_K3_2 := cell_later hW K3_2; have A_K3_3 := cell_later hW K3_3; have A_K3_4 := cell_later hW K3_4; have A_K3_5 := cell_later hW K3_5; have A_K3_6 := cell_later hW K3_6; have A_K3_7 := cell_later hW K3_7; clear hW; go_simp; try with_reducible rfl))
  all_goals try simp only [Act.put, List.setIfInBounds_toArray, List.set_cons_zero, List.set_cons_succ]
  all_goals first | (refine soft_pass rfl HS ?_) | (refine soft_read (v := ?_) rfl (fun W hW => ?_) ?_; rotate_left; (· go_simp; try with_reducible rfl))
  all_goals try simp only [Act.put, List.setIfInBounds_toArray, List.set_cons_zero, List.set_cons_succ]
  all_goals first | (refine soft_pass rfl HS ?_) | (refine soft_read (v := ?_) rfl (fun W hW => ?_) ?_; rotate_left; (· have A_K2_0 := cell_later hW K2_0; have A_K2_1 := cell_later hW K2_1; have A_K2_2 := cell_later hW K2_2; have A_K2_3 := cell_later hW K2_3; have A_K2_4 := cell_later hW K2_4; have A_K2_5 := cell_later hW K2_5; have A_K2_6 := cell_later hW K2_6; have A_K2_7 := cell_later hW K2_7; have A_K3_0 := cell_later hW K3_0; have A_K3_1 := cell_later hW K3_1; have A_K3_2 := cell_later hW K3_2; have A_K3_3 := cell_later hW K3_3; have A_K3_4 := cell_later hW K3_4; have A_K3_5 := cell_later hW K3_5; have A_K3_6 := cell_later hW K3_6; have A_K3_7 := cell_later hW K3_7; clear hW; go_simp; try with_reducible rfl))
  all_goals try simp only [Act.put, List.setIfInBounds_toArray, List.set_cons_zero, List.set_cons_succ]
  all_goals first | (refine soft_pass rfl HS ?_) | (refine soft_do rfl (fun K hK => ?_); go_simp; refine (specEqualContentStores_c (Rep.raw.below fx_1 (EB.trans (HS.mono EB.size))) (Rep.raw.below fy_1 (EB.trans (HS.mono EB.size)))).mono ?_; rintro e wS1 ⟨rfl, hbS⟩; replace HS := HS.trans (hbS.mono HS.size); refine hK _ _ HS ?_; clear hK K hbS)
  all_goals try simp only [Act.put, List.setIfInBounds_toArray, List.set_cons_zero, List.set_cons_succ]
  all_goals first | (refine soft_pass rfl HS ?_) | (refine soft_read (v := ?_) rfl (fun W hW => ?_) ?_; rotate_left; (· go_simp; try with_reducible rfl))
  all_goals try simp only [Act.put, List.setIfInBounds_toArray, List.set_cons_zero, List.set_cons_succ]
  all_goals first | (refine soft_pass rfl HS ?_; have hg12 := True.intro) | (refine soft_part (v := ?_) (b := ?_) rfl (fun W hW => ?_) ?_ (fun b hg12 => ?_); rotate_left; rotate_left; (· go_simp; try with_reducible rfl); (· with_reducible rfl); cases b; all_goals first | (exact Bool.noConfusion hg12) | (simp only [Bool.not_eq_true', Bool.not_eq_false'] at hg12) | skip)
  all_goals try simp only [Act.put, List.setIfInBounds_toArray, List.set_cons_zero, List.set_cons_succ]
  all_goals first | (refine soft_pass rfl HS ?_) | (refine soft_read (v := ?_) rfl (fun W hW => ?_) ?_; rotate_left; (· go_simp; try with_reducible rfl))
  all_goals try simp only [Act.put, List.setIfInBounds_toArray, List.set_cons_zero, List.set_cons_succ]
  all_goals first | (refine soft_pass rfl HS ?_) | (refine soft_read (v := ?_) rfl (fun W hW => ?_) ?_; rotate_left; (· have A_K2_0 := cell_later hW K2_0; have A_K2_1 := cell_later hW K2_1; have A_K2_2 := cell_later hW K2_2; have A_K2_3 := cell_later hW K2_3; have A_K2_4 := cell_later hW K2_4; have A_K2_5 := cell_later hW K2_5; have A_K2_6 := cell_later hW K2_6; have A_K2_7 := cell_later hW K2_7; have A_K3_0 := cell_later hW K3_0; have A_K3_1 := cell_later hW K3_1; have A_K3_2 := cell_later hW K3_2; have A_K3_3 := cell_later hW K3_3; have A_K3_4 := cell_later hW K3_4; have A_K3_5 := cell_later hW K3_5; have A_K3_6 := cell_later hW K3_6; have A_K3_7 := cell_later hW K3_7; clear hW; go_simp; try with_reducible rfl))
  all_goals try simp only [Act.put, List.setIfInBounds_toArray, List.set_cons_zero, List.set_cons_succ]
  all_goals first | (refine soft_pass rfl HS ?_) | (refine soft_read (v := ?_) rfl (fun W hW => ?_) ?_; rotate_left; (· go_simp; try with_reducible rfl))
  all_goals try simp only [Act.put, List.setIfInBounds_toArray, List.set_cons_zero, List.set_cons_succ]
  all_goals first | (refine soft_pass rfl HS ?_) | (refine soft_read (v := ?_) rfl (fun W hW => ?_) ?_; rotate_left; (· have A_K2_0 := cell_later hW K2_0; have A_K2_1 := cell_later hW K2_1; have A_K2_2 := cell_later hW K2_2; have A_K2_3 := cell_later hW K2_3; have A_K2_4 := cell_later hW K2_4; have A_K2_5 := cell_later hW K2_5; have A_K2_6 := cell_later hW K2_6; have A_K2_7 := cell_later hW K2_7; have A_K3_0 := cell_later hW K3_0; have A_K3_1 := cell_later hW K3_1; have A_K3_2 := cell_later hW K3_2; have A_K3_3 := cell_later hW K3_3; have A_K3_4 := cell_later hW K3_4; have A_K3_5 := cell_later hW K3_5; have A_K3_6 := cell_later hW K3_6; have A_K3_7 := cell_later hW K3_7; clear hW; go_simp; try with_reducible rfl))
  all_goals try simp only [Act.put, List.setIfInBounds_toArray, List.set_cons_zero, List.set_cons_succ]
  all_goals first | (refine soft_pass rfl HS ?_) | (refine soft_do rfl (fun K hK => ?_); go_simp; refine (specEqualPending_w (Rep.raw.below fx_4 (EB.trans (HS.mono EB.size))) (Rep.raw.below fy_4 (EB.trans (HS.mono EB.size)))).mono ?_; rintro e wS1 ⟨rfl, hbS⟩; replace HS := HS.trans (hbS.mono HS.size); refine hK _ _ HS ?_; clear hK K hbS)
  all_goals try simp only [Act.put, List.setIfInBounds_toArray, List.set_cons_zero, List.set_cons_succ]
  all_goals first | (refine soft_pass rfl HS ?_) | (refine soft_read (v := ?_) rfl (fun W hW => ?_) ?_; rotate_left; (· go_simp; try with_reducible rfl))
  all_goals try simp only [Act.put, List.setIfInBounds_toArray, List.set_cons_zero, List.set_cons_succ]
  all_goals first | (refine soft_pass rfl HS ?_; have hg19 := True.intro) | (refine soft_part (v := ?_) (b := ?_) rfl (fun W hW => ?_) ?_ (fun b hg19 => ?_); rotate_left; rotate_left; (· go_simp; try with_reducible rfl); (· with_reducible rfl); cases b; all_goals first | (exact Bool.noConfusion hg19) | (simp only [Bool.not_eq_true', Bool.not_eq_false'] at hg19) | skip)
  all_goals try simp only [Act.put, List.setIfInBounds_toArray, List.set_cons_zero, List.set_cons_succ]
  all_goals first | (refine soft_pass rfl HS ?_) | (refine soft_read (v := ?_) rfl (fun W hW => ?_) ?_; rotate_left; (· go_simp; try with_reducible rfl))
  all_goals try simp only [Act.put, List.setIfInBounds_toArray, List.set_cons_zero, List.set_cons_succ]
  all_goals first | (refine soft_pass rfl HS ?_) | (refine soft_read (v := ?_) rfl (fun W hW => ?_) ?_; rotate_left; (· have A_K2_0 := cell_later hW K2_0; have A_K2_1 := cell_later hW K2_1; have A_K2_2 := cell_later hW K2_2; have A_K2_3 := cell_later hW K2_3; have A_K2_4 := cell_later hW K2_4; have A_K2_5 := cell_later hW K2_5; have A_K2_6 := cell_later hW K2_6; have A_K2_7 := cell_later hW K2_7; have A_K3_0 := cell_later hW K3_0; have A_K3_1 := cell_later hW K3_1; have A_K3_2 := cell_later hW K3_2; have A_K3_3 := cell_later hW K3_3; have A_K3_4 := cell_later hW K3_4; have A_K3_5 := cell_later hW K3_5; have A_K3_6 := cell_later hW K3_6; have A_K3_7 := cell_later hW K3_7; clear hW; go_simp; try with_reducible rfl))
  all_goals try simp only [Act.put, List.setIfInBounds_toArray, List.set_cons_zero, List.set_cons_succ]
  all_goals first | (refine soft_pass rfl HS ?_) | (refine soft_read (v := ?_) rfl (fun W hW => ?_) ?_; rotate_left; (· go_simp; try with_reducible rfl))
  all_goals try simp only [Act.put, List.setIfInBounds_toArray, List.set_cons_zero, List.set_cons_succ]
  all_goals first | (refine soft_pass rfl HS ?_) | (refine soft_read (v := ?_) rfl (fun W hW => ?_) ?_; rotate_left; (· have A_K2_0 := cell_later hW K2_0; have A_K2_1 := cell_later hW K2_1; have A_K2_2 := cell_later hW K2_2; have A_K2_3 := cell_later hW K2_3; have A_K2_4 := cell_later hW K2_4; have A_K2_5 := cell_later hW K2_5; have A_K2_6 := cell_later hW K2_6; have A_K2_7 := cell_later hW K2_7; have A_K3_0 := cell_later hW K3_0; have A_K3_1 := cell_later hW K3_1; have A_K3_2 := cell_later hW K3_2; have A_K3_3 := cell_later hW K3_3; have A_K3_4 := cell_later hW K3_4; have A_K3_5 := cell_later hW K3_5; have A_K3_6 := cell_later hW K3_6; have A_K3_7 := cell_later hW K3_7; clear hW; go_simp; try with_reducible rfl))
  all_goals try simp only [Act.put, List.setIfInBounds_toArray, List.set_cons_zero, List.set_cons_succ]
  all_goals first | (refine soft_pass rfl HS ?_) | (refine soft_do rfl (fun K hK => ?_); go_simp; refine (specl16SameSeen_c (Rep.raw.below fx_5 (EB.trans (HS.mono EB.size))) (Rep.raw.below fy_5 (EB.trans (HS.mono EB.size)))).mono ?_; rintro e wS1 ⟨rfl, hbS⟩; replace HS := HS.trans (hbS.mono HS.size); refine hK _ _ HS ?_; clear hK K hbS)
  all_goals try simp only [Act.put, List.setIfInBounds_toArray, List.set_cons_zero, List.set_cons_succ]
  all_goals first | (refine soft_pass rfl HS ?_) | (refine soft_read (v := ?_) rfl (fun W hW => ?_) ?_; rotate_left; (· go_simp; try with_reducible rfl))
  all_goals try simp only [Act.put, List.setIfInBounds_toArray, List.set_cons_zero, List.set_cons_succ]
  all_goals first | (refine soft_pass rfl HS ?_; have hg26 := True.intro) | (refine soft_part (v := ?_) (b := ?_) rfl (fun W hW => ?_) ?_ (fun b hg26 => ?_); rotate_left; rotate_left; (· go_simp; try with_reducible rfl); (· with_reducible rfl); cases b; all_goals first | (exact Bool.noConfusion hg26) | (simp only [Bool.not_eq_true', Bool.not_eq_false'] at hg26) | skip)
  all_goals try simp only [Act.put, List.setIfInBounds_toArray, List.set_cons_zero, List.set_cons_succ]
  all_goals first | (refine soft_pass rfl HS ?_) | (refine soft_read (v := ?_) rfl (fun W hW => ?_) ?_; rotate_left; (· go_simp; try with_reducible rfl))
  all_goals try simp only [Act.put, List.setIfInBounds_toArray, List.set_cons_zero, List.set_cons_succ]
  all_goals first | (refine soft_pass rfl HS ?_) | (refine soft_read (v := ?_) rfl (fun W hW => ?_) ?_; rotate_left; (· have A_K2_0 := cell_later hW K2_0; have A_K2_1 := cell_later hW K2_1; have A_K2_2 := cell_later hW K2_2; have A_K2_3 := cell_later hW K2_3; have A_K2_4 := cell_later hW K2_4; have A_K2_5 := cell_later hW K2_5; have A_K2_6 := cell_later hW K2_6; have A_K2_7 := cell_later hW K2_7; have A_K3_0 := cell_later hW K3_0; have A_K3_1 := cell_later hW K3_1; have A_K3_2 := cell_later hW K3_2; have A_K3_3 := cell_later hW K3_3; have A_K3_4 := cell_later hW K3_4; have A_K3_5 := cell_later hW K3_5; have A_K3_6 := cell_later hW K3_6; have A_K3_7 := cell_later hW K3_7; clear hW; go_simp; try with_reducible rfl))
  all_goals try simp only [Act.put, List.setIfInBounds_toArray, List.set_cons_zero, List.set_cons_succ]
  all_goals first | (refine soft_pass rfl HS ?_) | (refine soft_read (v := ?_) rfl (fun W hW => ?_) ?_; rotate_left; (· go_simp; try with_reducible rfl))
  all_goals try simp only [Act.put, List.setIfInBounds_toArray, List.set_cons_zero, List.set_cons_succ]
  all_goals first | (refine soft_pass rfl HS ?_) | (refine soft_read (v := ?_) rfl (fun W hW => ?_) ?_; rotate_left; (· have A_K2_0 := cell_later hW K2_0; have A_K2_1 := cell_later hW K2_1; have A_K2_2 := cell_later hW K2_2; have A_K2_3 := cell_later hW K2_3; have A_K2_4 := cell_later hW K2_4; have A_K2_5 := cell_later hW K2_5; have A_K2_6 := cell_later hW K2_6; have A_K2_7 := cell_later hW K2_7; have A_K3_0 := cell_later hW K3_0; have A_K3_1 := cell_later hW K3_1; have A_K3_2 := cell_later hW K3_2; have A_K3_3 := cell_later hW K3_3; have A_K3_4 := cell_later hW K3_4; have A_K3_5 := cell_later hW K3_5; have A_K3_6 := cell_later hW K3_6; have A_K3_7 := cell_later hW K3_7; clear hW; go_simp; try with_reducible rfl))
  all_goals try simp only [Act.put, List.setIfInBounds_toArray, List.set_cons_zero, List.set_cons_succ]
  all_goals first | (refine soft_pass rfl HS ?_) | (refine soft_do rfl (fun K hK => ?_); go_simp; refine (specEqualRoutes_w (Rep.raw.below fx_6 (EB.trans (HS.mono EB.size))) (Rep.raw.below fy_6 (EB.trans (HS.mono EB.size)))).mono ?_; rintro e wS1 ⟨rfl, hbS⟩; replace HS := HS.trans (hbS.mono HS.size); refine hK _ _ HS ?_; clear hK K hbS)
  all_goals try simp only [Act.put, List.setIfInBounds_toArray, List.set_cons_zero, List.set_cons_succ]
  all_goals first | (refine soft_pass rfl HS ?_) | (refine soft_read (v := ?_) rfl (fun W hW => ?_) ?_; rotate_left; (· go_simp; try with_reducible rfl))
  all_goals try simp only [Act.put, List.setIfInBounds_toArray, List.set_cons_zero, List.set_cons_succ]
  all_goals first | (refine soft_pass rfl HS ?_; have hg33 := True.intro) | (refine soft_part (v := ?_) (b := ?_) rfl (fun W hW => ?_) ?_ (fun b hg33 => ?_); rotate_left; rotate_left; (· go_simp; try with_reducible rfl); (· with_reducible rfl); cases b; all_goals first | (exact Bool.noConfusion hg33) | (simp only [Bool.not_eq_true', Bool.not_eq_false'] at hg33) | skip)
  all_goals try simp only [Act.put, List.setIfInBounds_toArray, List.set_cons_zero, List.set_cons_succ]
  all_goals first | (refine soft_pass rfl HS ?_) | (refine soft_read (v := ?_) rfl (fun W hW => ?_) ?_; rotate_left; (· go_simp; try with_reducible rfl))
  all_goals try simp only [Act.put, List.setIfInBounds_toArray, List.set_cons_zero, List.set_cons_succ]
  all_goals first | (refine soft_pass rfl HS ?_) | (refine soft_read (v := ?_) rfl (fun W hW => ?_) ?_; rotate_left; (· have A_K2_0 := cell_later hW K2_0; have A_K2_1 := cell_later hW K2_1; have A_K2_2 := cell_later hW K2_2; have A_K2_3 := cell_later hW K2_3; have A_K2_4 := cell_later hW K2_4; have A_K2_5 := cell_later hW K2_5; have A_K2_6 := cell_later hW K2_6; have A_K2_7 := cell_later hW K2_7; have A_K3_0 := cell_later hW K3_0; have A_K3_1 := cell_later hW K3_1; have A_K3_2 := cell_later hW K3_2; have A_K3_3 := cell_later hW K3_3; have A_K3_4 := cell_later hW K3_4; have A_K3_5 := cell_later hW K3_5; have A_K3_6 := cell_later hW K3_6; have A_K3_7 := cell_later hW K3_7; clear hW; go_simp; try with_reducible rfl))
  all_goals try simp only [Act.put, List.setIfInBounds_toArray, List.set_cons_zero, List.set_cons_succ]
  all_goals first | (refine soft_pass rfl HS ?_) | (refine soft_read (v := ?_) rfl (fun W hW => ?_) ?_; rotate_left; (· go_simp; try with_reducible rfl))
  all_goals try simp only [Act.put, List.setIfInBounds_toArray, List.set_cons_zero, List.set_cons_succ]
  all_goals first | (refine soft_pass rfl HS ?_) | (refine soft_read (v := ?_) rfl (fun W hW => ?_) ?_; rotate_left; (· have A_K2_0 := cell_later hW K2_0; have A_K2_1 := cell_later hW K2_1; have A_K2_2 := cell_later hW K2_2; have A_K2_3 := cell_later hW K2_3; have A_K2_4 := cell_later hW K2_4; have A_K2_5 := cell_later hW K2_5; have A_K2_6 := cell_later hW K2_6; have A_K2_7 := cell_later hW K2_7; have A_K3_0 := cell_later hW K3_0; have A_K3_1 := cell_later hW K3_1; have A_K3_2 := cell_later hW K3_2; have A_K3_3 := cell_later hW K3_3; have A_K3_4 := cell_later hW K3_4; have A_K3_5 := cell_later hW K3_5; have A_K3_6 := cell_later hW K3_6; have A_K3_7 := cell_later hW K3_7; clear hW; go_simp; try with_reducible rfl))
  all_goals try simp only [Act.put, List.setIfInBounds_toArray, List.set_cons_zero, List.set_cons_succ]
  all_goals first | (refine soft_pass rfl HS ?_) | (refine soft_do rfl (fun K hK => ?_); go_simp; refine (specEqualMeasurements_w (Rep.raw.below fx_7 (EB.trans (HS.mono EB.size))) (Rep.raw.below fy_7 (EB.trans (HS.mono EB.size)))).mono ?_; rintro e wS1 ⟨rfl, hbS⟩; replace HS := HS.trans (hbS.mono HS.size); refine hK _ _ HS ?_; clear hK K hbS)
  all_goals try simp only [Act.put, List.setIfInBounds_toArray, List.set_cons_zero, List.set_cons_succ]
  all_goals first | (refine soft_pass rfl HS ?_) | (refine soft_read (v := ?_) rfl (fun W hW => ?_) ?_; rotate_left; (· go_simp; try with_reducible rfl))
  all_goals try simp only [Act.put, List.setIfInBounds_toArray, List.set_cons_zero, List.set_cons_succ]
  all_goals first | (refine soft_pass rfl HS ?_; have hg40 := True.intro) | (refine soft_part (v := ?_) (b := ?_) rfl (fun W hW => ?_) ?_ (fun b hg40 => ?_); rotate_left; rotate_left; (· go_simp; try with_reducible rfl); (· with_reducible rfl); cases b; all_goals first | (exact Bool.noConfusion hg40) | (simp only [Bool.not_eq_true', Bool.not_eq_false'] at hg40) | skip)
  all_goals try simp only [Act.put, List.setIfInBounds_toArray, List.set_cons_zero, List.set_cons_succ]
  all_goals first | (refine soft_pass rfl HS ?_) | (refine soft_read (v := ?_) rfl (fun W hW => ?_) ?_; rotate_left; (· go_simp; try with_reducible rfl))
  all_goals try simp only [Act.put, List.setIfInBounds_toArray, List.set_cons_zero, List.set_cons_succ]
  all_goals first | (refine soft_pass rfl HS ?_) | (refine soft_read (v := ?_) rfl (fun W hW => ?_) ?_; rotate_left; (· have A_K2_0 := cell_later hW K2_0; have A_K2_1 := cell_later hW K2_1; have A_K2_2 := cell_later hW K2_2; have A_K2_3 := cell_later hW K2_3; have A_K2_4 := cell_later hW K2_4; have A_K2_5 := cell_later hW K2_5; have A_K2_6 := cell_later hW K2_6; have A_K2_7 := cell_later hW K2_7; have A_K3_0 := cell_later hW K3_0; have A_K3_1 := cell_later hW K3_1; have A_K3_2 := cell_later hW K3_2; have A_K3_3 := cell_later hW K3_3; have A_K3_4 := cell_later hW K3_4; have A_K3_5 := cell_later hW K3_5; have A_K3_6 := cell_later hW K3_6; have A_K3_7 := cell_later hW K3_7; clear hW; go_simp; try with_reducible rfl))
  all_goals try simp only [Act.put, List.setIfInBounds_toArray, List.set_cons_zero, List.set_cons_succ]
  all_goals first | (refine soft_pass rfl HS ?_) | (refine soft_read (v := ?_) rfl (fun W hW => ?_) ?_; rotate_left; (· go_simp; try with_reducible rfl))
  all_goals try simp only [Act.put, List.setIfInBounds_toArray, List.set_cons_zero, List.set_cons_succ]
  all_goals first | (refine soft_pass rfl HS ?_) | (refine soft_read (v := ?_) rfl (fun W hW => ?_) ?_; rotate_left; (· have A_K2_0 := cell_later hW K2_0; have A_K2_1 := cell_later hW K2_1; have A_K2_2 := cell_later hW K2_2; have A_K2_3 := cell_later hW K2_3; have A_K2_4 := cell_later hW K2_4; have A_K2_5 := cell_later hW K2_5; have A_K2_6 := cell_later hW K2_6; have A_K2_7 := cell_later hW K2_7; have A_K3_0 := cell_later hW K3_0; have A_K3_1 := cell_later hW K3_1; have A_K3_2 := cell_later hW K3_2; have A_K3_3 := cell_later hW K3_3; have A_K3_4 := cell_later hW K3_4; have A_K3_5 := cell_later hW K3_5; have A_K3_6 := cell_later hW K3_6; have A_K3_7 := cell_later hW K3_7; clear hW; go_simp; try with_reducible rfl))
  all_goals try simp only [Act.put, List.setIfInBounds_toArray, List.set_cons_zero, List.set_cons_succ]
  all_goals first | (refine soft_pass rfl HS ?_) | (refine soft_read (v := ?_) rfl (fun W hW => ?_) ?_; rotate_left; (· go_simp; try with_reducible rfl))
  all_goals try simp only [Act.put, List.setIfInBounds_toArray, List.set_cons_zero, List.set_cons_succ]
  all_goals first | (refine soft_pass rfl HS ?_) | (refine soft_read (v := ?_) rfl (fun W hW => ?_) ?_; rotate_left; (· go_simp; try with_reducible rfl))
  all_goals try simp only [Act.put, List.setIfInBounds_toArray, List.set_cons_zero, List.set_cons_succ]
  all_goals first | (refine soft_pass rfl HS ?_; have hg47 := True.intro) | (refine soft_part (v := ?_) (b := ?_) rfl (fun W hW => ?_) ?_ (fun b hg47 => ?_); rotate_left; rotate_left; (· go_simp; try with_reducible rfl); (· with_reducible rfl); cases b; all_goals first | (exact Bool.noConfusion hg47) | (simp only [Bool.not_eq_true', Bool.not_eq_false'] at hg47) | skip)
  all_goals try simp only [Act.put, List.setIfInBounds_toArray, List.set_cons_zero, List.set_cons_succ]
  all_goals refine soft_nil ?_
  all_goals have EG := EB.trans (HS.mono EB.size)
  all_goals first
    | (have HT := Lib.hid (show (vNode x y) = false by simp only [vNode, Bool.not_true, Bool.not_false, Bool.and_true, Bool.true_and, Bool.and_false, Bool.false_and, Bool.or_true, Bool.true_or, Bool.or_false, Bool.false_or, Bool.not_not, hg5, hg12, hg19, hg26, hg33, hg40, hg47]); go_wp2; go_ret; exact ⟨ret_bool HT.out.symm, EG⟩)
    | (have HT := Lib.hid (show (vNode x y) = true by simp only [vNode, Bool.not_true, Bool.not_false, Bool.and_true, Bool.true_and, Bool.and_false, Bool.false_and, Bool.or_true, Bool.true_or, Bool.or_false, Bool.false_or, Bool.not_not, hg5, hg12, hg19, hg26, hg33, hg40, hg47]); go_wp2; go_ret; exact ⟨ret_bool HT.out.symm, EG⟩)
set_option maxRecDepth 100000 in
set_option maxHeartbeats 2000000 in
theorem implEqualNodes_v {w : World} {cx : List Value} {x : LNode} (hx : RNode.raw w cx x) {cy : List Value} {y : LNode} (hy : RNode.raw w cy y) :
    Calls Tryz.prog 57 #[.agg cx.toArray, .agg cy.toArray] w fun e w' => e = .returned (.bool (vNode x y)) ∧ Below w.heap.size w w' := by
  have Hx := Lib.hid hx
  obtain ⟨fxv0, fxv2, fxv3, fxv4, fxv5, fxv6, rfl, fx_0, fx_1, fx_2, fx_3, fx_4, fx_5, fx_6, fx_7, fx_8⟩ := RNode_raw hx
  obtain ⟨fxa0, fxp0, fxh0, fxl0⟩ := Rep.len_raw fx_0; obtain rfl : fxv0 = _ := by simpa using fxh0
  clear fxh0
  obtain ⟨fxa2, fxp2, fxh2, fxl2⟩ := Rep.len_raw fx_3; obtain rfl : fxv2 = _ := by simpa using fxh2
  clear fxh2
  obtain ⟨fxa3, fxp3, fxh3, fxl3⟩ := Rep.len_raw fx_4; obtain rfl : fxv3 = _ := by simpa using fxh3
  clear fxh3
  obtain ⟨fxa4, fxp4, fxh4, fxl4⟩ := Rep.len_raw fx_5; obtain rfl : fxv4 = _ := by simpa using fxh4
  clear fxh4
  obtain ⟨fxa5, fxp5, fxh5, fxl5⟩ := Rep.len_raw fx_6; obtain rfl : fxv5 = _ := by simpa using fxh5
  clear fxh5
  obtain ⟨fxa6, fxp6, fxh6, fxl6⟩ := Rep.len_raw fx_7; obtain rfl : fxv6 = _ := by simpa using fxh6
  clear fxh6
  have Hy := Lib.hid hy
  obtain ⟨fyv0, fyv2, fyv3, fyv4, fyv5, fyv6, rfl, fy_0, fy_1, fy_2, fy_3, fy_4, fy_5, fy_6, fy_7, fy_8⟩ := RNode_raw hy
  obtain ⟨fya0, fyp0, fyh0, fyl0⟩ := Rep.len_raw fy_0; obtain rfl : fyv0 = _ := by simpa using fyh0
  clear fyh0
  obtain ⟨fya2, fyp2, fyh2, fyl2⟩ := Rep.len_raw fy_3; obtain rfl : fyv2 = _ := by simpa using fyh2
  clear fyh2
  obtain ⟨fya3, fyp3, fyh3, fyl3⟩ := Rep.len_raw fy_4; obtain rfl : fyv3 = _ := by simpa using fyh3
  clear fyh3
  obtain ⟨fya4, fyp4, fyh4, fyl4⟩ := Rep.len_raw fy_5; obtain rfl : fyv4 = _ := by simpa using fyh4
  clear fyh4
  obtain ⟨fya5, fyp5, fyh5, fyl5⟩ := Rep.len_raw fy_6; obtain rfl : fyv5 = _ := by simpa using fyh5
  clear fyh5
  obtain ⟨fya6, fyp6, fyh6, fyl6⟩ := Rep.len_raw fy_7; obtain rfl : fyv6 = _ := by simpa using fyh6
  clear fyh6
  go_enter Tryz.func57, Tryz.ntmps57
  go_upto_region 1 with fail
  generalize hwB : World.alloc (World.alloc w _) _ = wB
  have EB : Below w.heap.size w wB := by rw [← hwB]; exact (by repeat (first | (with_reducible exact Below.refl _ _) | refine Below.alloc ?_ (by simp; try omega) _ | refine Below.drew ?_ | refine Below.setCell ?_ (by simp; try omega) _))
  have K2_0 : wB.cell? ⟨w.heap.size, 0, none⟩ = some (.slice fxa0 (x.1).length fxp0) := by rw [← hwB]; simp [go_sem]
  have K2_1 : wB.cell? ⟨w.heap.size, 1, none⟩ = some (.int .i64 x.2.1.1) := by rw [← hwB]; simp [go_sem]
  have K2_2 : wB.cell? ⟨w.heap.size, 2, none⟩ = some (.slice fxa2 (x.2.1.2).length fxp2) := by rw [← hwB]; simp [go_sem]
  have K2_3 : wB.cell? ⟨w.heap.size, 3, none⟩ = some (.slice fxa3 (x.2.2.1).length fxp3) := by rw [← hwB]; simp [go_sem]
  have K2_4 : wB.cell? ⟨w.heap.size, 4, none⟩ = some (.slice fxa4 (x.2.2.2.1).length fxp4) := by rw [← hwB]; simp [go_sem]
  have K2_5 : wB.cell? ⟨w.heap.size, 5, none⟩ = some (.slice fxa5 (x.2.2.2.2.1).length fxp5) := by rw [← hwB]; simp [go_sem]
  have K2_6 : wB.cell? ⟨w.heap.size, 6, none⟩ = some (.slice fxa6 (x.2.2.2.2.2.1).length fxp6) := by rw [← hwB]; simp [go_sem]
  have K2_7 : wB.cell? ⟨w.heap.size, 7, none⟩ = some (.int .i64 x.2.2.2.2.2.2) := by rw [← hwB]; simp [go_sem]
  have K3_0 : wB.cell? ⟨w.heap.size + 1, 0, none⟩ = some (.slice fya0 (y.1).length fyp0) := by rw [← hwB]; simp [go_sem]
  have K3_1 : wB.cell? ⟨w.heap.size + 1, 1, none⟩ = some (.int .i64 y.2.1.1) := by rw [← hwB]; simp [go_sem]
  have K3_2 : wB.cell? ⟨w.heap.size + 1, 2, none⟩ = some (.slice fya2 (y.2.1.2).length fyp2) := by rw [← hwB]; simp [go_sem]
  have K3_3 : wB.cell? ⟨w.heap.size + 1, 3, none⟩ = some (.slice fya3 (y.2.2.1).length fyp3) := by rw [← hwB]; simp [go_sem]
  have K3_4 : wB.cell? ⟨w.heap.size + 1, 4, none⟩ = some (.slice fya4 (y.2.2.2.1).length fyp4) := by rw [← hwB]; simp [go_sem]
  have K3_5 : wB.cell? ⟨w.heap.size + 1, 5, none⟩ = some (.slice fya5 (y.2.2.2.2.1).length fyp5) := by rw [← hwB]; simp [go_sem]
  have K3_6 : wB.cell? ⟨w.heap.size + 1, 6, none⟩ = some (.slice fya6 (y.2.2.2.2.2.1).length fyp6) := by rw [← hwB]; simp [go_sem]
  have K3_7 : wB.cell? ⟨w.heap.size + 1, 7, none⟩ = some (.int .i64 y.2.2.2.2.2.2) := by rw [← hwB]; simp [go_sem]
  clear hwB
  refine wp_region_soft_plain (fun W => Below wB.heap.size wB W) [true, true, true, true, false, true, true, true, true, true, false, true, true, true, true, true, true, false, true, true, true, true, true, true, false, true, true, true, true, true, true, false, true, true, true, true, true, true, false, true, true, true, true, true, true, true, true, true] (Below.refl _ _) ?_
  intro wS HS
  all_goals first | (refine soft_pass rfl HS ?_) | (refine soft_read (v := ?_) rfl (fun W hW => ?_) ?_; rotate_left; (· go_simp; try with_reducible rfl))
  all_goals try simp only [Act.put, List.setIfInBounds_toArray, List.set_cons_zero, List.set_cons_succ]
  all_goals first | (refine soft_pass rfl HS ?_) | (refine soft_read (v := ?_) rfl (fun W hW => ?_) ?_; rotate_left; (· have A_K2_0 := cell_later hW K2_0; have A_K2_1 := cell_later hW K2_1; have A_K2_2 := cell_later hW K2_2; have A_K2_3 := cell_later hW K2_3; have A_K2_4 := cell_later hW K2_4; have A_K2_5 := cell_later hW K2_5; have A_K2_6 := cell_later hW K2_6; have A_K2_7 := cell_later hW K2_7; have A_K3_0 := cell_later hW K3_0; have A_K3_1 := cell_later hW K3_1; have A_K3_2 := cell_later hW K3_2; have A_K3_3 := cell_later hW K3_3; have A_K3_4 := cell_later hW K3_4; have A_K3_5 := cell_later hW K3_5; have A_K3_6 := cell_later hW K3_6; have A_K3_7 := cell_later hW K3_7; clear hW; go_simp; try with_reducible rfl))
  all_goals try simp only [Act.put, List.setIfInBounds_toArray, List.set_cons_zero, List.set_cons_succ]
  all_goals first | (refine soft_pass rfl HS ?_) | (refine soft_read (v := ?_) rfl (fun W hW => ?_) ?_; rotate_left; (· go_simp; try with_reducible rfl))
  all_goals try simp only [Act.put, List.setIfInBounds_toArray, List.set_cons_zero, List.set_cons_succ]
  all_goals first | (refine soft_pass rfl HS ?_) | (refine soft_read (v := ?_) rfl (fun W hW => ?_) ?_; rotate_left; (· have A_K2_0 := cell_later hW K2_0; have A_K2_1 := cell_later hW K2_1; have A_K2_2 := cell_later hW K2_2; have A_K2_3 := cell_later hW K2_3; have A_K2_4 := cell_later hW K2_4; have A_K2_5 := cell_later hW K2_5; have A_K2_6 := cell_later hW K2_6; have A_K2_7 := cell_later hW K2_7; have A_K3_0 := cell_later hW K3_0; have A_K3_1 := cell_later hW K3_1; have A_K3_2 := cell_later hW K3_2; have A_K3_3 := cell_later hW K3_3; have A_K3_4 := cell_later hW K3_4; have A_K3_5 := cell_later hW K3_5; have A_K3_6 := cell_later hW K3_6; have A_K3_7 := cell_later hW K3_7; clear hW; go_simp; try with_reducible rfl))
  all_goals try simp only [Act.put, List.setIfInBounds_toArray, List.set_cons_zero, List.set_cons_succ]
  all_goals first | (refine soft_pass rfl HS ?_) | (refine soft_do rfl (fun K hK => ?_); go_simp; refine (EqualFunc_Data_c callable_EqualData (Rep.raw.below fx_0 (EB.trans (HS.mono EB.size))) (Rep.raw.below fy_0 (EB.trans (HS.mono EB.size))) (fun wr hb cs ds x y hx hy => by have h := implEqualData_c hx hy; exact h)).mono ?_; rintro e wS1 ⟨rfl, hbS⟩; replace HS := HS.trans (hbS.mono HS.size); refine hK _ _ HS ?_; clear hK K hbS)
  all_goals try simp only [Act.put, List.setIfInBounds_toArray, List.set_cons_zero, List.set_cons_succ]
  all_goals first | (refine soft_pass rfl HS ?_; have hg5 := True.intro) | (refine soft_part (v := ?_) (b := ?_) rfl (fun W hW => ?_) ?_ (fun b hg5 => ?_); rotate_left; rotate_left; (· go_simp; try with_reducible rfl); (· with_reducible rfl); cases b; all_goals first | (exact Bool.noConfusion hg5) | (simp only [Bool.not_eq_true', Bool.not_eq_false'] at hg5) | skip)
  all_goals try simp only [Act.put, List.setIfInBounds_toArray, List.set_cons_zero, List.set_cons_succ]
  all_goals first | (refine soft_pass rfl HS ?_) | (refine soft_read (v := ?_) rfl (fun W hW => ?_) ?_; rotate_left; (· go_simp; try with_reducible rfl))
  all_goals try simp only [Act.put, List.setIfInBounds_toArray, List.set_cons_zero, List.set_cons_succ]
  all_goals first | (refine soft_pass rfl HS ?_) | (refine soft_read (v := ?_) rfl (fun W hW => ?_) ?_; rotate_left; (· have A_K2_0 := cell_later hW K2_0; have A_K2_1 := cell_later hW K2_1; have A_K2_2 := cell_later hW K2_2; have A_K2_3 := cell_later hW K2_3; have A_K2_4 := cell_later hW K2_4; have A_K2_5 := cell_later hW K2_5; have A_K2_6 := cell_later hW K2_6; have A_K2_7 := cell_later hW K2_7; have A_K3_0 := cell_later hW K3_0; have A_K3_1 := cell_later hW K3_1; have A_K3_2 := cell_later hW K3_2; have A_K3_3 := cell_later hW K3_3; have A_K3_4 := cell_later hW K3_4; have A_K3_5 := cell_later hW K3_5; have A_K3_6 := cell_later hW K3_6; have A_K3_7 := cell_later hW K3_7; clear hW; go_simp; try with_reducible rfl))
  all_goals try simp only [Act.put, List.setIfInBounds_toArray, List.set_cons_zero, List.set_cons_succ]
  all_goals first | (refine soft_pass rfl HS ?_) | (refine soft_read (v := ?_) rfl (fun W hW => ?_) ?_; rotate_left; (· go_simp; try with_reducible rfl))
  all_goals try simp only [Act.put, List.setIfInBounds_toArray, List.set_cons_zero, List.set_cons_succ]
  all_goals first | (refine soft_pass rfl HS ?_) | (refine soft_read (v := ?_) rfl (fun W hW => ?_) ?_; rotate_left; (· have A_K2_0 := cell_later hW K2_0; have A_K2_1 := cell_later hW K2_1; have A_K2_2 := cell_later hW K2_2; have A_K2_3 := cell_later hW K2_3; have A_K2_4 := cell_later hW K2_4; have A_K2_5 := cell_later hW K2_5; have A_K2_6 := cell_later hW K2_6; have A_K2_7 := cell_later hW K2_7; have A_K3_0 := cell_later hW K3_0; have A_K3_1 := cell_later hW K3_1; have A_K3_2 := cell_later hW K3_2; have A_K3_3 := cell_later hW K3_3; have A_K3_4 := cell_later hW K3_4; have A_K3_5 := cell_later hW K3_5; have A_K3_6 := cell_later hW K3_6; have A_K3_7 := cell_later hW K3_7; clear hW; go_simp; try with_reducible rfl))
  all_goals try simp only [Act.put, List.setIfInBounds_toArray, List.set_cons_zero, List.set_cons_succ]
  all_goals first | (refine soft_pass rfl HS ?_) | (refine soft_do rfl (fun K hK => ?_); go_simp; refine (implEqualContentStores_c (Rep.raw.below fx_1 (EB.trans (HS.mono EB.size))) (Rep.raw.below fy_1 (EB.trans (HS.mono EB.size)))).mono ?_; rintro e wS1 ⟨rfl, hbS⟩; replace HS := HS.trans (hbS.mono HS.size); refine hK _ _ HS ?_; clear hK K hbS)
  all_goals try simp only [Act.put, List.setIfInBounds_toArray, List.set_cons_zero, List.set_cons_succ]
  all_goals first | (refine soft_pass rfl HS ?_) | (refine soft_read (v := ?_) rfl (fun W hW => ?_) ?_; rotate_left; (· go_simp; try with_reducible rfl))
  all_goals try simp only [Act.put, List.setIfInBounds_toArray, List.set_cons_zero, List.set_cons_succ]
  all_goals first | (refine soft_pass rfl HS ?_; have hg12 := True.intro) | (refine soft_part (v := ?_) (b := ?_) rfl (fun W hW => ?_) ?_ (fun b hg12 => ?_); rotate_left; rotate_left; (· go_simp; try with_reducible rfl); (· with_reducible rfl); cases b; all_goals first | (exact Bool.noConfusion hg12) | (simp only [Bool.not_eq_true', Bool.not_eq_false'] at hg12) | skip)
  all_goals try simp only [Act.put, List.setIfInBounds_toArray, List.set_cons_zero, List.set_cons_succ]
  all_goals first | (refine soft_pass rfl HS ?_) | (refine soft_read (v := ?_) rfl (fun W hW => ?_) ?_; rotate_left; (· go_simp; try with_reducible rfl))
  all_goals try simp only [Act.put, List.setIfInBounds_toArray, List.set_cons_zero, List.set_cons_succ]
  all_goals first | (refine soft_pass rfl HS ?_) | (refine soft_read (v := ?_) rfl (fun W hW => ?_) ?_; rotate_left; (· have A_K2_0 := cell_later hW K2_0; have A_K2_1 := cell_later hW K2_1; have A_K2_2 := cell_later hW K2_2; have A_K2_3 := cell_later hW K2_3; have A_K2_4 := cell_later hW K2_4; have A_K2_5 := cell_later hW K2_5; have A_K2_6 := cell_later hW K2_6; have A_K2_7 := cell_later hW K2_7; have A_K3_0 := cell_later hW K3_0; have A_K3_1 := cell_later hW K3_1; have A_K3_2 := cell_later hW K3_2; have A_K3_3 := cell_later hW K3_3; have A_K3_4 := cell_later hW K3_4; have A_K3_5 := cell_later hW K3_5; have A_K3_6 := cell_later hW K3_6; have A_K3_7 := cell_later hW K3_7; clear hW; go_simp; try with_reducible rfl))
  all_goals try simp only [Act.put, List.setIfInBounds_toArray, List.set_cons_zero, List.set_cons_succ]
  all_goals first | (refine soft_pass rfl HS ?_) | (refine soft_read (v := ?_) rfl (fun W hW => ?_) ?_; rotate_left; (· go_simp; try with_reducible rfl))
  all_goals try simp only [Act.put, List.setIfInBounds_toArray, List.set_cons_zero, List.set_cons_succ]
  all_goals first | (refine soft_pass rfl HS ?_) | (refine soft_read (v := ?_) rfl (fun W hW => ?_) ?_; rotate_left; (· have A_K2_0 := cell_later hW K2_0; have A_K2_1 := cell_later hW K2_1; have A_K2_2 := cell_later hW K2_2; have A_K2_3 := cell_later hW K2_3; have A_K2_4 := cell_later hW K2_4; have A_K2_5 := cell_later hW K2_5; have A_K2_6 := cell_later hW K2_6; have A_K2_7 := cell_later hW K2_7; have A_K3_0 := cell_later hW K3_0; have A_K3_1 := cell_later hW K3_1; have A_K3_2 := cell_later hW K3_2; have A_K3_3 := cell_later hW K3_3; have A_K3_4 := cell_later hW K3_4; have A_K3_5 := cell_later hW K3_5; have A_K3_6 := cell_later hW K3_6; have A_K3_7 := cell_later hW K3_7; clear hW; go_simp; try with_reducible rfl))
  all_goals try simp only [Act.put, List.setIfInBounds_toArray, List.set_cons_zero, List.set_cons_succ]
  all_goals first | (refine soft_pass rfl HS ?_) | (refine soft_do rfl (fun K hK => ?_); go_simp; refine (implEqualPending_w (Rep.raw.below fx_4 (EB.trans (HS.mono EB.size))) (Rep.raw.below fy_4 (EB.trans (HS.mono EB.size)))).mono ?_; rintro e wS1 ⟨rfl, hbS⟩; replace HS := HS.trans (hbS.mono HS.size); refine hK _ _ HS ?_; clear hK K hbS)
  all_goals try simp only [Act.put, List.setIfInBounds_toArray, List.set_cons_zero, List.set_cons_succ]
  all_goals first | (refine soft_pass rfl HS ?_) | (refine soft_read (v := ?_) rfl (fun W hW => ?_) ?_; rotate_left; (· go_simp; try with_reducible rfl))
  all_goals try simp only [Act.put, List.setIfInBounds_toArray, List.set_cons_zero, List.set_cons_succ]
  all_goals first | (refine soft_pass rfl HS ?_; have hg19 := True.intro) | (refine soft_part (v := ?_) (b := ?_) rfl (fun W hW => ?_) ?_ (fun b hg19 => ?_); rotate_left; rotate_left; (· go_simp; try with_reducible rfl); (· with_reducible rfl); cases b; all_goals first | (exact Bool.noConfusion hg19) | (simp only [Bool.not_eq_true', Bool.not_eq_false'] at hg19) | skip)
  all_goals try simp only [Act.put, List.setIfInBounds_toArray, List.set_cons_zero, List.set_cons_succ]
  all_goals first | (refine soft_pass rfl HS ?_) | (refine soft_read (v := ?_) rfl (fun W hW => ?_) ?_; rotate_left; (· go_simp; try with_reducible rfl))
  all_goals try simp only [Act.put, List.setIfInBounds_toArray, List.set_cons_zero, List.set_cons_succ]
  all_goals first | (refine soft_pass rfl HS ?_) | (refine soft_read (v := ?_) rfl (fun W hW => ?_) ?_; rotate_left; (· have A_K2_0 := cell_later hW K2_0; have A_K2_1 := cell_later hW K2_1; have A_K2_2 := cell_later hW K2_2; have A_K2_3 := cell_later hW K2_3; have A_K2_4 := cell_later hW K2_4; have A_K2_5 := cell_later hW K2_5; have A_K2_6 := cell_later hW K2_6; have A_K2_7 := cell_later hW K2_7; have A_K3_0 := cell_later hW K3_0; have A_K3_1 := cell_later hW K3_1; have A_K3_2 := cell_later hW K3_2; have A_K3_3 := cell_later hW K3_3; have A_K3_4 := cell_later hW K3_4; have A_K3_5 := cell_later hW K3_5; have A_K3_6 := cell_later hW K3_6; have A_K3_7 := cell_later hW K3_7; clear hW; go_simp; try with_reducible rfl))
  all_goals try simp only [Act.put, List.setIfInBounds_toArray, List.set_cons_zero, List.set_cons_succ]
  all_goals first | (refine soft_pass rfl HS ?_) | (refine soft_read (v := ?_) rfl (fun W hW => ?_) ?_; rotate_left; (· go_simp; try with_reducible rfl))
  all_goals try simp only [Act.put, List.setIfInBounds_toArray, List.set_cons_zero, List.set_cons_succ]
  all_goals first | (refine soft_pass rfl HS ?_) | (refine soft_read (v := ?_) rfl (fun W hW => ?_) ?_; rotate_left; (· have A_K2_0 := cell_later hW K2_0; have A_K2_1 := cell_later hW K2_1; have A_K2_2 := cell_later hW K2_2; have A_K2_3 := cell_later hW K2_3; have A_K2_4 := cell_later hW K2_4; have A_K2_5 := cell_later hW K2_5; have A_K2_6 := cell_later hW K2_6; have A_K2_7 := cell_later hW K2_7; have A_K3_0 := cell_later hW K3_0; have A_K3_1 := cell_later hW K3_1; have A_K3_2 := cell_later hW K3_2; have A_K3_3 := cell_later hW K3_3; have A_K3_4 := cell_later hW K3_4; have A_K3_5 := cell_later hW K3_5; have A_K3_6 := cell_later hW K3_6; have A_K3_7 := cell_later hW K3_7; clear hW; go_simp; try with_reducible rfl))
  all_goals try simp only [Act.put, List.setIfInBounds_toArray, List.set_cons_zero, List.set_cons_succ]
  all_goals first | (refine soft_pass rfl HS ?_) | (refine soft_do rfl (fun K hK => ?_); go_simp; refine (EqualFunc_SeenNonce_c callable_implEqualNodes1_c (Rep.raw.below fx_5 (EB.trans (HS.mono EB.size))) (Rep.raw.below fy_5 (EB.trans (HS.mono EB.size))) (fun wr hb cs ds x y hx hy => by have h := implEqualNodes1_c hx hy; rw [vSeen_eq] at h; exact h)).mono ?_; rintro e wS1 ⟨rfl, hbS⟩; replace HS := HS.trans (hbS.mono HS.size); refine hK _ _ HS ?_; clear hK K hbS)
  all_goals try simp only [Act.put, List.setIfInBounds_toArray, List.set_cons_zero, List.set_cons_succ]
  all_goals first | (refine soft_pass rfl HS ?_) | (refine soft_read (v := ?_) rfl (fun W hW => ?_) ?_; rotate_left; (· go_simp; try with_reducible rfl))
  all_goals try simp only [Act.put, List.setIfInBounds_toArray, List.set_cons_zero, List.set_cons_succ]
  all_goals first | (refine soft_pass rfl HS ?_; have hg26 := True.intro) | (refine soft_part (v := ?_) (b := ?_) rfl (fun W hW => ?_) ?_ (fun b hg26 => ?_); rotate_left; rotate_left; (· go_simp; try with_reducible rfl); (· with_reducible rfl); cases b; all_goals first | (exact Bool.noConfusion hg26) | (simp only [Bool.not_eq_true', Bool.not_eq_false'] at hg26) | skip)
  all_goals try simp only [Act.put, List.setIfInBounds_toArray, List.set_cons_zero, List.set_cons_succ]
  all_goals first | (refine soft_pass rfl HS ?_) | (refine soft_read (v := ?_) rfl (fun W hW => ?_) ?_; rotate_left; (· go_simp; try with_reducible rfl))
  all_goals try simp only [Act.put, List.setIfInBounds_toArray, List.set_cons_zero, List.set_cons_succ]
  all_goals first | (refine soft_pass rfl HS ?_) | (refine soft_read (v := ?_) rfl (fun W hW => ?_) ?_; rotate_left; (· have A_K2_0 := cell_later hW K2_0; have A_K2_1 := cell_later hW K2_1; have A_K2_2 := cell_later hW K2_2; have A_K2_3 := cell_later hW K2_3; have A_K2_4 := cell_later hW K2_4; have A_K2_5 := cell_later hW K2_5; have A_K2_6 := cell_later hW K2_6; have A_K2_7 := cell_later hW K2_7; have A_K3_0 := cell_later hW K3_0; have A_K3_1 := cell_later hW K3_1; have A_K3_2 := cell_later hW K3_2; have A_K3_3 := cell_later hW K3_3; have A_K3_4 := cell_later hW K3_4; have A_K3_5 := cell_later hW K3_5; have A_K3_6 := cell_later hW K3_6; have A_K3_7 := cell_later hW K3_7; clear hW; go_simp; try with_reducible rfl))
  all_goals try simp only [Act.put, List.setIfInBounds_toArray, List.set_cons_zero, List.set_cons_succ]
  all_goals first | (refine soft_pass rfl HS ?_) | (refine soft_read (v := ?_) rfl (fun W hW => ?_) ?_; rotate_left; (· go_simp; try with_reducible rfl))
  all_goals try simp only [Act.put, List.setIfInBounds_toArray, List.set_cons_zero, List.set_cons_succ]
  all_goals first | (refine soft_pass rfl HS ?_) | (refine soft_read (v := ?_) rfl (fun W hW => ?_) ?_; rotate_left; (· have A_K2_0 := cell_later hW K2_0; have A_K2_1 := cell_later hW K2_1; have A_K2_2 := cell_later hW K2_2; have A_K2_3 := cell_later hW K2_3; have A_K2_4 := cell_later hW K2_4; have A_K2_5 := cell_later hW K2_5; have A_K2_6 := cell_later hW K2_6; have A_K2_7 := cell_later hW K2_7; have A_K3_0 := cell_later hW K3_0; have A_K3_1 := cell_later hW K3_1; have A_K3_2 := cell_later hW K3_2; have A_K3_3 := cell_later hW K3_3; have A_K3_4 := cell_later hW K3_4; have A_K3_5 := cell_later hW K3_5; have A_K3_6 := cell_later hW K3_6; have A_K3_7 := cell_later hW K3_7; clear hW; go_simp; try with_reducible rfl))
  all_goals try simp only [Act.put, List.setIfInBounds_toArray, List.set_cons_zero, List.set_cons_succ]
  all_goals first | (refine soft_pass rfl HS ?_) | (refine soft_do rfl (fun K hK => ?_); go_simp; refine (implEqualRoutes_w (Rep.raw.below fx_6 (EB.trans (HS.mono EB.size))) (Rep.raw.below fy_6 (EB.trans (HS.mono EB.size)))).mono ?_; rintro e wS1 ⟨rfl, hbS⟩; replace HS := HS.trans (hbS.mono HS.size); refine hK _ _ HS ?_; clear hK K hbS)
  all_goals try simp only [Act.put, List.setIfInBounds_toArray, List.set_cons_zero, List.set_cons_succ]
  all_goals first | (refine soft_pass rfl HS ?_) | (refine soft_read (v := ?_) rfl (fun W hW => ?_) ?_; rotate_left; (· go_simp; try with_reducible rfl))
  all_goals try simp only [Act.put, List.setIfInBounds_toArray, List.set_cons_zero, List.set_cons_succ]
  all_goals first | (refine soft_pass rfl HS ?_; have hg33 := True.intro) | (refine soft_part (v := ?_) (b := ?_) rfl (fun W hW => ?_) ?_ (fun b hg33 => ?_); rotate_left; rotate_left; (· go_simp; try with_reducible rfl); (· with_reducible rfl); cases b; all_goals first | (exact Bool.noConfusion hg33) | (simp only [Bool.not_eq_true', Bool.not_eq_false'] at hg33) | skip)
  all_goals try simp only [Act.put, List.setIfInBounds_toArray, List.set_cons_zero, List.set_cons_succ]
  all_goals first | (refine soft_pass rfl HS ?_) | (refine soft_read (v := ?_) rfl (fun W hW => ?_) ?_; rotate_left; (· go_simp; try with_reducible rfl))
  all_goals try simp only [Act.put, List.setIfInBounds_toArray, List.set_cons_zero, List.set_cons_succ]
  all_goals first | (refine soft_pass rfl HS ?_) | (refine soft_read (v := ?_) rfl (fun W hW => ?_) ?_; rotate_left; (· have A_K2_0 := cell_later hW K2_0; have A_K2_1 := cell_later hW K2_1; have A_K2_2 := cell_later hW K2_2; have A_K2_3 := cell_later hW K2_3; have A_K2_4 := cell_later hW K2_4; have A_K2_5 := cell_later hW K2_5; have A_K2_6 := cell_later hW K2_6; have A_K2_7 := cell_later hW K2_7; have A_K3_0 := cell_later hW K3_0; have A_K3_1 := cell_later hW K3_1; have A_K3_2 := cell_later hW K3_2; have A_K3_3 := cell_later hW K3_3; have A_K3_4 := cell_later hW K3_4; have A_K3_5 := cell_later hW K3_5; have A_K3_6 := cell_later hW K3_6; have A_K3_7 := cell_later hW K3_7; clear hW; go_simp; try with_reducible rfl))
  all_goals try simp only [Act.put, List.setIfInBounds_toArray, List.set_cons_zero, List.set_cons_succ]
  all_goals first | (refine soft_pass rfl HS ?_) | (refine soft_read (v := ?_) rfl (fun W hW => ?_) ?_; rotate_left; (· go_simp; try with_reducible rfl))
  all_goals try simp only [Act.put, List.setIfInBounds_toArray, List.set_cons_zero, List.set_cons_succ]
  all_goals first | (refine soft_pass rfl HS ?_) | (refine soft_read (v := ?_) rfl (fun W hW => ?_) ?_; rotate_left; (· have A_K2_0 := cell_later hW K2_0; have A_K2_1 := cell_later hW K2_1; have A_K2_2 := cell_later hW K2_2; have A_K2_3 := cell_later hW K2_3; have A_K2_4 := cell_later hW K2_4; have A_K2_5 := cell_later hW K2_5; have A_K2_6 := cell_later hW K2_6; have A_K2_7 := cell_later hW K2_7; have A_K3_0 := cell_later hW K3_0; have A_K3_1 := cell_later hW K3_1; have A_K3_2 := cell_later hW K3_2; have A_K3_3 := cell_later hW K3_3; have A_K3_4 := cell_later hW K3_4; have A_K3_5 := cell_later hW K3_5; have A_K3_6 := cell_later hW K3_6; have A_K3_7 := cell_later hW K3_7; clear hW; go_simp; try with_reducible rfl))
  all_goals try simp only [Act.put, List.setIfInBounds_toArray, List.set_cons_zero, List.set_cons_succ]
  all_goals first | (refine soft_pass rfl HS ?_) | (refine soft_do rfl (fun K hK => ?_); go_simp; refine (implEqualMeasurements_w (Rep.raw.below fx_7 (EB.trans (HS.mono EB.size))) (Rep.raw.below fy_7 (EB.trans (HS.mono EB.size)))).mono ?_; rintro e wS1 ⟨rfl, hbS⟩; replace HS := HS.trans (hbS.mono HS.size); refine hK _ _ HS ?_; clear hK K hbS)
  all_goals try simp only [Act.put, List.setIfInBounds_toArray, List.set_cons_zero, List.set_cons_succ]
  all_goals first | (refine soft_pass rfl HS ?_) | (refine soft_read (v := ?_) rfl (fun W hW => ?_) ?_; rotate_left; (· go_simp; try with_reducible rfl))
  all_goals try simp only [Act.put, List.setIfInBounds_toArray, List.set_cons_zero, List.set_cons_succ]
  all_goals first | (refine soft_pass rfl HS ?_; have hg40 := True.intro) | (refine soft_part (v := ?_) (b := ?_) rfl (fun W hW => ?_) ?_ (fun b hg40 => ?_); rotate_left; rotate_left; (· go_simp; try with_reducible rfl); (· with_reducible rfl); cases b; all_goals first | (exact Bool.noConfusion hg40) | (simp only [Bool.not_eq_true', Bool.not_eq_false'] at hg40) | skip)
  all_goals try simp only [Act.put, List.setIfInBounds_toArray, List.set_cons_zero, List.set_cons_succ]
  all_goals first | (refine soft_pass rfl HS ?_) | (refine soft_read (v := ?_) rfl (fun W hW => ?_) ?_; rotate_left; (· go_simp; try with_reducible rfl))
  all_goals try simp only [Act.put, List.setIfInBounds_toArray, List.set_cons_zero, List.set_cons_succ]
  all_goals first | (refine soft_pass rfl HS ?_) | (refine soft_read (v := ?_) rfl (fun W hW => ?_) ?_; rotate_left; (· have A_K2_0 := cell_later hW K2_0; have A_K2_1 := cell_later hW K2_1; have A_K2_2 := cell_later hW K2_2; have A_K2_3 := cell_later hW K2_3; have A_K2_4 := cell_later hW K2_4; have A_K2_5 := cell_later hW K2_5; have A_K2_6 := cell_later hW K2_6; have A_K2_7 := cell_later hW K2_7; have A_K3_0 := cell_later hW K3_0; have A_K3_1 := cell_later hW K3_1; have A_K3_2 := cell_later hW K3_2; have A_K3_3 := cell_later hW K3_3; have A_K3_4 := cell_later hW K3_4; have A_K3_5 := cell_later hW K3_5; have A_K3_6 := cell_later hW K3_6; have A_K3_7 := cell_later hW K3_7; clear hW; go_simp; try with_reducible rfl))
  all_goals try simp only [Act.put, List.setIfInBounds_toArray, List.set_cons_zero, List.set_cons_succ]
  all_goals first | (refine soft_pass rfl HS ?_) | (refine soft_read (v := ?_) rfl (fun W hW => ?_) ?_; rotate_left; (· go_simp; try with_reducible rfl))
  all_goals try simp only [Act.put, List.setIfInBounds_toArray, List.set_cons_zero, List.set_cons_succ]
  all_goals first | (refine soft_pass rfl HS ?_) | (refine soft_read (v := ?_) rfl (fun W hW => ?_) ?_; rotate_left; (· have A_K2_0 := cell_later hW K2_0; have A_K2_1 := cell_later hW K2_1; have A_K2_2 := cell_later hW K2_2; have A_K2_3 := cell_later hW K2_3; have A_K2_4 := cell_later hW K2_4; have A_K2_5 := cell_later hW K2_5; have A_K2_6 := cell_later hW K2_6; have A_K2_7 := cell_later hW K2_7; have A_K3_0 := cell_later hW K3_0; have A_K3_1 := cell_later hW K3_1; have A_K3_2 := cell_later hW K3_2; have A_K3_3 := cell_later hW K3_3; have A_K3_4 := cell_later hW K3_4; have A_K3_5 := cell_later hW K3_5; have A_K3_6 := cell_later hW K3_6; have A_K3_7 := cell_later hW K3_7; clear hW; go_simp; try with_reducible rfl))
  all_goals try simp only [Act.put, List.setIfInBounds_toArray, List.set_cons_zero, List.set_cons_succ]
  all_goals first | (refine soft_pass rfl HS ?_) | (refine soft_read (v := ?_) rfl (fun W hW => ?_) ?_; rotate_left; (· go_simp; try with_reducible rfl))
  all_goals try simp only [Act.put, List.setIfInBounds_toArray, List.set_cons_zero, List.set_cons_succ]
  all_goals first | (refine soft_pass rfl HS ?_) | (refine soft_read (v := ?_) rfl (fun W hW => ?_) ?_; rotate_left; (· go_simp; try with_reducible rfl))
  all_goals try simp only [Act.put, List.setIfInBounds_toArray, List.set_cons_zero, List.set_cons_succ]
  all_goals first | (refine soft_pass rfl HS ?_; have hg47 := True.intro) | (refine soft_part (v := ?_) (b := ?_) rfl (fun W hW => ?_) ?_ (fun b hg47 => ?_); rotate_left; rotate_left; (· go_simp; try with_reducible rfl); (· with_reducible rfl); cases b; all_goals first | (exact Bool.noConfusion hg47) | (simp only [Bool.not_eq_true', Bool.not_eq_false'] at hg47) | skip)
  all_goals try simp only [Act.put, List.setIfInBounds_toArray, List.set_cons_zero, List.set_cons_succ]
  all_goals refine soft_nil ?_
  all_goals have EG := EB.trans (HS.mono EB.size)
  all_goals first
    | (have HT := Lib.hid (show (vNode x y) = false by simp only [vNode, Bool.not_true, Bool.not_false, Bool.and_true, Bool.true_and, Bool.and_false, Bool.false_and, Bool.or_true, Bool.true_or, Bool.or_false, Bool.false_or, Bool.not_not, hg5, hg12, hg19, hg26, hg33, hg40, hg47]); go_wp2; go_ret; exact ⟨ret_bool HT.out.symm, EG⟩)
    | (have HT := Lib.hid (show (vNode x y) = true by simp only [vNode, Bool.not_true, Bool.not_false, Bool.and_true, Bool.true_and, Bool.and_false, Bool.false_and, Bool.or_true, Bool.true_or, Bool.or_false, Bool.false_or, Bool.not_not, hg5, hg12, hg19, hg26, hg33, hg40, hg47]); go_wp2; go_ret; exact ⟨ret_bool HT.out.symm, EG⟩)
theorem specEqualNodes_w {w : World} {cx : List Value} {x : LNode} (hx : RNode.raw w cx x) {cy : List Value} {y : LNode} (hy : RNode.raw w cy y) :
    Calls Tryz.prog 55 #[.agg cx.toArray, .agg cy.toArray] w fun e w' => e = .returned (.bool (decide (x = y))) ∧ Below w.heap.size w w' := by
  have h := specEqualNodes_v hx hy
  rw [vNode_eq] at h
  exact h
theorem specEqualNodes_c {w : World} {cx : List Value} {x : LNode} (hx : RNode.rd w cx x) {cy : List Value} {y : LNode} (hy : RNode.rd w cy y) :
    Calls Tryz.prog 55 #[.agg cx.toArray, .agg cy.toArray] w fun e w' => e = .returned (.bool (decide (x = y))) ∧ Below w.heap.size w w' := specEqualNodes_w hx.1 hy.1
theorem implEqualNodes_w {w : World} {cx : List Value} {x : LNode} (hx : RNode.raw w cx x) {cy : List Value} {y : LNode} (hy : RNode.raw w cy y) :
    Calls Tryz.prog 57 #[.agg cx.toArray, .agg cy.toArray] w fun e w' => e = .returned (.bool (decide (x = y))) ∧ Below w.heap.size w w' := by
  have h := implEqualNodes_v hx hy
  rw [vNode_eq] at h
  exact h
theorem implEqualNodes_c {w : World} {cx : List Value} {x : LNode} (hx : RNode.rd w cx x) {cy : List Value} {y : LNode} (hy : RNode.rd w cy y) :
    Calls Tryz.prog 57 #[.agg cx.toArray, .agg cy.toArray] w fun e w' => e = .returned (.bool (decide (x = y))) ∧ Below w.heap.size w w' := implEqualNodes_w hx.1 hy.1
end Go.Proofs.YtaphafmkidjakaaGreat

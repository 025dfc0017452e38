/-
  An action that changes nothing.
-/
import Derived.Test.YtaphafmkidjakaaGreatEqNodes
import Derived.IntWalk
import Derived.Deep.Cut
import Derived.WalkSpells
import Derived.WalkLawsBesides
namespace Go.Proofs.YtaphafmkidjakaaGreat
open Go.RowKit
set_option linter.unusedVariables false
set_option linter.unusedSimpArgs false
set_option linter.unnecessarySimpa false
theorem raw_pairL {α β : Type} {r : Rep α} {q : Rep β} {w : World} {cs ds : List Value} {x : α} {y : β} (h : r.raw w cs x) (k : q.raw w ds y) : (Rep.pair r q).raw w (cs ++ ds) (x, y) :=
  ⟨cs, ds, fun _ => True, fun _ => True, rfl, h, k, fun _ _ => trivial, fun _ _ => trivial, fun h => Bool.noConfusion h⟩
def dropN (a : LAction) (y : LNode) : LNode := (a.1.1, a.1.2.1, a.1.2.2.1, a.1.2.2.2.1, a.1.2.2.2.2.1, a.1.2.2.2.2.2.1, y.2.2.2.2.2.2)
def silent (a : LAction) (y : LNode) : Bool := decide (a.2.length = 0) && decide (dropN a y = y)
theorem silent_no {a : LAction} {y : LNode} (h : ¬ a.2.length = 0) : silent a y = false := by unfold silent; rw [decide_eq_false h]; rfl
theorem silent_len {a : LAction} {y : LNode} (h : a.2.length = 0) : silent a y = decide (dropN a y = y) := by unfold silent; rw [decide_eq_true h]; rfl
set_option maxRecDepth 100000 in
set_option maxHeartbeats 4000000 in
theorem specIsSilent_w {w : World} {ca : List Value} {a : LAction} (ha : RAction.raw w ca a) {cy : List Value} {y : LNode} (hy : RNode.raw w cy y) :
    Calls Tryz.prog 12 #[.agg ca.toArray, .agg cy.toArray] w fun e w' => e = .returned (.bool (silent a y)) ∧ Below w.heap.size w w' := by
  have Ha := Lib.hid ha
  obtain ⟨fav0, fav2, fav3, fav4, fav5, fav6, fav8, rfl, fa_0, fa_1, fa_2, fa_3, fa_4, fa_5, fa_6, fa_7, fa_8, fa_9, fa_10⟩ := RAction_raw ha
  obtain ⟨faa0, fap0, fah0, fal0⟩ := Rep.len_raw fa_1; obtain rfl : fav0 = _ := by simpa using fah0
  clear fah0
  obtain ⟨faa2, fap2, fah2, fal2⟩ := Rep.len_raw fa_4; obtain rfl : fav2 = _ := by simpa using fah2
  clear fah2
  obtain ⟨faa3, fap3, fah3, fal3⟩ := Rep.len_raw fa_5; obtain rfl : fav3 = _ := by simpa using fah3
  clear fah3
  obtain ⟨faa4, fap4, fah4, fal4⟩ := Rep.len_raw fa_6; obtain rfl : fav4 = _ := by simpa using fah4
  clear fah4
  obtain ⟨faa5, fap5, fah5, fal5⟩ := Rep.len_raw fa_7; obtain rfl : fav5 = _ := by simpa using fah5
  clear fah5
  obtain ⟨faa6, fap6, fah6, fal6⟩ := Rep.len_raw fa_8; obtain rfl : fav6 = _ := by simpa using fah6
  clear fah6
  obtain ⟨faa8, fap8, fah8, fal8⟩ := Rep.len_raw fa_10; obtain rfl : fav8 = _ := by simpa using fah8
  clear fah8
  have Hy := Lib.hid hy
  obtain ⟨fyv0, fyv2, fyv3, fyv4, fyv5, fyv6, rfl, fy_0, fy_1, fy_2, fy_3, fy_4, fy_5, fy_6, fy_7, fy_8⟩ := RNode_raw hy
  obtain ⟨fya0, fyp0, fyh0, fyl0⟩ := Rep.len_raw fy_0; obtain rfl : fyv0 = _ := by simpa using fyh0
  clear fyh0
  obtain ⟨fya2, fyp2, fyh2, fyl2⟩ := Rep.len_raw fy_3; obtain rfl : fyv2 = _ := by simpa using fyh2
  clear fyh2
  obtain ⟨fya3, fyp3, fyh3, fyl3⟩ := Rep.len_raw fy_4; obtain rfl : fyv3 = _ := by simpa using fyh3
  clear fyh3
  obtain ⟨fya4, fyp4, fyh4, fyl4⟩ := Rep.len_raw fy_5; obtain rfl : fyv4 = _ := by simpa using fyh4
  clear fyh4
  obtain ⟨fya5, fyp5, fyh5, fyl5⟩ := Rep.len_raw fy_6; obtain rfl : fyv5 = _ := by simpa using fyh5
  clear fyh5
  obtain ⟨fya6, fyp6, fyh6, fyl6⟩ := Rep.len_raw fy_7; obtain rfl : fyv6 = _ := by simpa using fyh6
  clear fyh6
  have HN0 := Lib.hid (show RNode.raw w [.slice faa0 (a.1.1).length fap0, .int .i64 a.1.2.1.1, .slice faa2 (a.1.2.1.2).length fap2, .slice faa3 (a.1.2.2.1).length fap3, .slice faa4 (a.1.2.2.2.1).length fap4, .slice faa5 (a.1.2.2.2.2.1).length fap5, .slice faa6 (a.1.2.2.2.2.2.1).length fap6, .int .i64 y.2.2.2.2.2.2] (dropN a y) from raw_pairL fa_1 (raw_pairL fa_2 (raw_pairL fa_5 (raw_pairL fa_6 (raw_pairL fa_7 (raw_pairL fa_8 (⟨rfl, fy_8⟩ : Rep.int.raw w [_] _)))))))
  have HSL := Lib.hid (silent_len (a := a) (y := y)); have HSN := Lib.hid (silent_no (a := a) (y := y))
  generalize dropN a y = N at *
  have HY0 := Hy
  clear Ha Hy ha hy fa_0 fa_1 fa_2 fa_3 fa_4 fa_5 fa_6 fa_7 fa_8 fa_9 fa_10 fy_0 fy_1 fy_2 fy_3 fy_4 fy_5 fy_6 fy_7 fy_8
  go_enter Tryz.func12, Tryz.ntmps12
  go_upto_region 2 with fail
  generalize hwB : World.alloc (World.alloc (World.alloc w _) _) _ = wB
  have EB : Below w.heap.size w wB := by rw [← hwB]; exact (by repeat (first | (with_reducible exact Below.refl _ _) | refine Below.alloc ?_ (by simp; try omega) _ | refine Below.drew ?_ | refine Below.setCell ?_ (by simp; try omega) _))
  have hsz : wB.heap.size = w.heap.size + 3 := by rw [← hwB]; simp
  have XA : wB.heap[w.heap.size]? = some (.cells #[.slice faa0 (a.1.1).length fap0, .int .i64 a.1.2.1.1, .slice faa2 (a.1.2.1.2).length fap2, .slice faa3 (a.1.2.2.1).length fap3, .slice faa4 (a.1.2.2.2.1).length fap4, .slice faa5 (a.1.2.2.2.2.1).length fap5, .slice faa6 (a.1.2.2.2.2.2.1).length fap6, .int .i64 a.1.2.2.2.2.2.2, .slice faa8 (a.2).length fap8] 54 (0, 0)) := by rw [← hwB]; exact heap_keep (heap_keep (heap_new_at rfl))
  have XY : wB.heap[w.heap.size + 1]? = some (.cells #[.slice fya0 (y.1).length fyp0, .int .i64 y.2.1.1, .slice fya2 (y.2.1.2).length fyp2, .slice fya3 (y.2.2.1).length fyp3, .slice fya4 (y.2.2.2.1).length fyp4, .slice fya5 (y.2.2.2.2.1).length fyp5, .slice fya6 (y.2.2.2.2.2.1).length fyp6, .int .i64 y.2.2.2.2.2.2] 43 (0, 0)) := by rw [← hwB]; exact heap_keep (heap_new_at (by simp))
  have XB : wB.heap[w.heap.size + 1 + 1]? = some (.cells #[.slice faa0 (a.1.1).length fap0, .int .i64 a.1.2.1.1, .slice faa2 (a.1.2.1.2).length fap2, .slice faa3 (a.1.2.2.1).length fap3, .slice faa4 (a.1.2.2.2.1).length fap4, .slice faa5 (a.1.2.2.2.2.1).length fap5, .slice faa6 (a.1.2.2.2.2.2.1).length fap6, .int .i64 a.1.2.2.2.2.2.2] 43 (0, 0)) := by rw [← hwB]; exact heap_new_at (by simp)
  clear hwB
  have Y7 := boxCell (b := w.heap.size + 1) XY (j := 7) (v := .int .i64 y.2.2.2.2.2.2) rfl
  have B7 := boxCell (b := w.heap.size + 1 + 1) XB (j := 7) (v := .int .i64 a.1.2.2.2.2.2.2) rfl
  have Z7 := frozen_of_row wB (w.heap.size + 1 + 1) 7 _ _ XB
  go_upto_region 3 with fail
  generalize hwC : World.setCell wB _ _ = wC
  have EC : Below w.heap.size w wC := by rw [← hwC]; exact EB.setCell (by first | omega | (simp; done) | (simp; omega)) _
  have XB2 : wC.heap[w.heap.size + 1 + 1]? = some (.cells #[.slice faa0 (a.1.1).length fap0, .int .i64 a.1.2.1.1, .slice faa2 (a.1.2.1.2).length fap2, .slice faa3 (a.1.2.2.1).length fap3, .slice faa4 (a.1.2.2.2.1).length fap4, .slice faa5 (a.1.2.2.2.2.1).length fap5, .slice faa6 (a.1.2.2.2.2.2.1).length fap6, .int .i64 y.2.2.2.2.2.2] 43 (0, 0)) := by
    rw [← hwC]
    have y0 := heap_setCell_same _ (w.heap.size + 1 + 1) 7 _ 43 (.int .i64 y.2.2.2.2.2.2) XB
    exact y0
  have XY2 : wC.heap[w.heap.size + 1]? = some (.cells #[.slice fya0 (y.1).length fyp0, .int .i64 y.2.1.1, .slice fya2 (y.2.1.2).length fyp2, .slice fya3 (y.2.2.1).length fyp3, .slice fya4 (y.2.2.2.1).length fyp4, .slice fya5 (y.2.2.2.2.1).length fyp5, .slice fya6 (y.2.2.2.2.2.1).length fyp6, .int .i64 y.2.2.2.2.2.2] 43 (0, 0)) := by rw [← hwC]; exact (heap_setCell_other _ ⟨w.heap.size + 1 + 1, 7, none⟩ (w.heap.size + 1) _ (show w.heap.size + 1 ≠ w.heap.size + 1 + 1 by omega)).trans XY
  have XA2 : wC.heap[w.heap.size]? = some (.cells #[.slice faa0 (a.1.1).length fap0, .int .i64 a.1.2.1.1, .slice faa2 (a.1.2.1.2).length fap2, .slice faa3 (a.1.2.2.1).length fap3, .slice faa4 (a.1.2.2.2.1).length fap4, .slice faa5 (a.1.2.2.2.2.1).length fap5, .slice faa6 (a.1.2.2.2.2.2.1).length fap6, .int .i64 a.1.2.2.2.2.2.2, .slice faa8 (a.2).length fap8] 54 (0, 0)) := by rw [← hwC]; exact (heap_setCell_other _ ⟨w.heap.size + 1 + 1, 7, none⟩ (w.heap.size) _ (show w.heap.size ≠ w.heap.size + 1 + 1 by omega)).trans XA
  clear hwC Y7 B7 Z7 XB XY EB hsz XA
  have B0 := boxCell (b := w.heap.size + 1 + 1) XB2 (j := 0) (v := .slice faa0 (a.1.1).length fap0) rfl
  have B1 := boxCell (b := w.heap.size + 1 + 1) XB2 (j := 1) (v := .int .i64 a.1.2.1.1) rfl
  have B2 := boxCell (b := w.heap.size + 1 + 1) XB2 (j := 2) (v := .slice faa2 (a.1.2.1.2).length fap2) rfl
  have B3 := boxCell (b := w.heap.size + 1 + 1) XB2 (j := 3) (v := .slice faa3 (a.1.2.2.1).length fap3) rfl
  have B4 := boxCell (b := w.heap.size + 1 + 1) XB2 (j := 4) (v := .slice faa4 (a.1.2.2.2.1).length fap4) rfl
  have B5 := boxCell (b := w.heap.size + 1 + 1) XB2 (j := 5) (v := .slice faa5 (a.1.2.2.2.2.1).length fap5) rfl
  have B6 := boxCell (b := w.heap.size + 1 + 1) XB2 (j := 6) (v := .slice faa6 (a.1.2.2.2.2.2.1).length fap6) rfl
  have B7 := boxCell (b := w.heap.size + 1 + 1) XB2 (j := 7) (v := .int .i64 y.2.2.2.2.2.2) rfl
  have Y0 := boxCell (b := w.heap.size + 1) XY2 (j := 0) (v := .slice fya0 (y.1).length fyp0) rfl
  have Y1 := boxCell (b := w.heap.size + 1) XY2 (j := 1) (v := .int .i64 y.2.1.1) rfl
  have Y2 := boxCell (b := w.heap.size + 1) XY2 (j := 2) (v := .slice fya2 (y.2.1.2).length fyp2) rfl
  have Y3 := boxCell (b := w.heap.size + 1) XY2 (j := 3) (v := .slice fya3 (y.2.2.1).length fyp3) rfl
  have Y4 := boxCell (b := w.heap.size + 1) XY2 (j := 4) (v := .slice fya4 (y.2.2.2.1).length fyp4) rfl
  have Y5 := boxCell (b := w.heap.size + 1) XY2 (j := 5) (v := .slice fya5 (y.2.2.2.2.1).length fyp5) rfl
  have Y6 := boxCell (b := w.heap.size + 1) XY2 (j := 6) (v := .slice fya6 (y.2.2.2.2.2.1).length fyp6) rfl
  have Y7 := boxCell (b := w.heap.size + 1) XY2 (j := 7) (v := .int .i64 y.2.2.2.2.2.2) rfl
  have A8 := boxCell (b := w.heap.size) XA2 (j := 8) (v := .slice faa8 (a.2).length fap8) rfl
  clear XB2 XY2 XA2
  by_cases hl : a.2.length = 0
  · have HV := Lib.hid (HSL.out hl)
    have hz : ((a.2.length : Int) == 0) = true := by simpa using hl
    have hzn : (a.2.length == 0) = true := by simpa using hl
    have hzd : decide (a.2.length = 0) = true := by simpa using hl
    have hze : decide ((a.2.length : Int) = 0) = true := by simpa using hl
    clear hl HSL HSN
    refine wp_region_soft_plain (fun W => Below wC.heap.size wC W) [true, true, true, true, true, true, true, false, true, true] (Below.refl _ _) ?_
    intro wS HS
    all_goals first | (refine soft_pass rfl HS ?_) | (refine soft_read (v := ?_) rfl (fun W hW => ?_) ?_; rotate_left; (· go_simp; try with_reducible rfl))
    all_goals try simp only [Act.put, List.setIfInBounds_toArray, List.set_cons_zero, List.set_cons_succ]
    all_goals first | (refine soft_pass rfl HS ?_) | (refine soft_read (v := ?_) rfl (fun W hW => ?_) ?_; rotate_left; (· have A_B0 := cell_later hW B0; have A_B1 := cell_later hW B1; have A_B2 := cell_later hW B2; have A_B3 := cell_later hW B3; have A_B4 := cell_later hW B4; have A_B5 := cell_later hW B5; have A_B6 := cell_later hW B6; have A_B7 := cell_later hW B7; have A_Y0 := cell_later hW Y0; have A_Y1 := cell_later hW Y1; have A_Y2 := cell_later hW Y2; have A_Y3 := cell_later hW Y3; have A_Y4 := cell_later hW Y4; have A_Y5 := cell_later hW Y5; have A_Y6 := cell_later hW Y6; have A_Y7 := cell_later hW Y7; have A_A8 := cell_later hW A8; clear hW; go_simp; try with_reducible rfl))
    all_goals try simp only [Act.put, List.setIfInBounds_toArray, List.set_cons_zero, List.set_cons_succ]
    all_goals first | (refine soft_pass rfl HS ?_) | (refine soft_read (v := ?_) rfl (fun W hW => ?_) ?_; rotate_left; (· go_simp; try with_reducible rfl))
    all_goals try simp only [Act.put, List.setIfInBounds_toArray, List.set_cons_zero, List.set_cons_succ]
    all_goals first | (refine soft_pass rfl HS ?_) | (refine soft_read (v := ?_) rfl (fun W hW => ?_) ?_; rotate_left; (· go_simp; try with_reducible rfl))
    all_goals try simp only [Act.put, List.setIfInBounds_toArray, List.set_cons_zero, List.set_cons_succ]
    all_goals first | (refine soft_pass rfl HS ?_; have hg4 := True.intro) | (refine soft_part (v := ?_) (b := ?_) rfl (fun W hW => ?_) ?_ (fun b hg4 => ?_); rotate_left; rotate_left; (· go_simp; try with_reducible rfl); (· with_reducible rfl); cases b; all_goals first | (exact Bool.noConfusion hg4) | (simp only [Bool.not_eq_true', Bool.not_eq_false'] at hg4) | skip)
    all_goals try simp only [Act.put, List.setIfInBounds_toArray, List.set_cons_zero, List.set_cons_succ]
    all_goals first | (refine soft_pass rfl HS ?_) | (refine soft_read (v := ?_) rfl (fun W hW => ?_) ?_; rotate_left; (· have A_B0 := cell_later hW B0; have A_B1 := cell_later hW B1; have A_B2 := cell_later hW B2; have A_B3 := cell_later hW B3; have A_B4 := cell_later hW B4; have A_B5 := cell_later hW B5; have A_B6 := cell_later hW B6; have A_B7 := cell_later hW B7; have A_Y0 := cell_later hW Y0; have A_Y1 := cell_later hW Y1; have A_Y2 := cell_later hW Y2; have A_Y3 := cell_later hW Y3; have A_Y4 := cell_later hW Y4; have A_Y5 := cell_later hW Y5; have A_Y6 := cell_later hW Y6; have A_Y7 := cell_later hW Y7; have A_A8 := cell_later hW A8; clear hW; go_simp; try with_reducible rfl))
    all_goals try simp only [Act.put, List.setIfInBounds_toArray, List.set_cons_zero, List.set_cons_succ]
    all_goals first | (refine soft_pass rfl HS ?_) | (refine soft_read (v := ?_) rfl (fun W hW => ?_) ?_; rotate_left; (· have A_B0 := cell_later hW B0; have A_B1 := cell_later hW B1; have A_B2 := cell_later hW B2; have A_B3 := cell_later hW B3; have A_B4 := cell_later hW B4; have A_B5 := cell_later hW B5; have A_B6 := cell_later hW B6; have A_B7 := cell_later hW B7; have A_Y0 := cell_later hW Y0; have A_Y1 := cell_later hW Y1; have A_Y2 := cell_later hW Y2; have A_Y3 := cell_later hW Y3; have A_Y4 := cell_later hW Y4; have A_Y5 := cell_later hW Y5; have A_Y6 := cell_later hW Y6; have A_Y7 := cell_later hW Y7; have A_A8 := cell_later hW A8; clear hW; go_simp; try with_reducible rfl))
    all_goals try simp only [Act.put, List.setIfInBounds_toArray, List.set_cons_zero, List.set_cons_succ]
    all_goals first | (refine soft_pass rfl HS ?_) | (refine soft_do rfl (fun K hK => ?_); go_simp; refine (specEqualNodes_w (Rep.raw.below HN0.out (EC.trans (HS.mono EC.size))) (Rep.raw.below HY0.out (EC.trans (HS.mono EC.size)))).mono ?_; rintro e wS1 ⟨rfl, hbS⟩; replace HS := HS.trans (hbS.mono HS.size); refine hK _ _ HS ?_; clear hK K hbS)
    all_goals try simp only [Act.put, List.setIfInBounds_toArray, List.set_cons_zero, List.set_cons_succ]
    all_goals first | (refine soft_pass rfl HS ?_) | (refine soft_read (v := ?_) rfl (fun W hW => ?_) ?_; rotate_left; (· go_simp; try with_reducible rfl))
    all_goals try simp only [Act.put, List.setIfInBounds_toArray, List.set_cons_zero, List.set_cons_succ]
    all_goals first | (refine soft_pass rfl HS ?_; have hg9 := True.intro) | (refine soft_part (v := ?_) (b := ?_) rfl (fun W hW => ?_) ?_ (fun b hg9 => ?_); rotate_left; rotate_left; (· go_simp; try with_reducible rfl); (· with_reducible rfl); cases b; all_goals first | (exact Bool.noConfusion hg9) | (simp only [Bool.not_eq_true', Bool.not_eq_false'] at hg9) | skip)
    all_goals try simp only [Act.put, List.setIfInBounds_toArray, List.set_cons_zero, List.set_cons_succ]
    all_goals refine soft_nil ?_
    all_goals have EG := EC.trans (HS.mono EC.size)
    all_goals first
      | (have HT := Lib.hid (show silent a y = false by rw [HV.out]; simp only [Bool.not_true, Bool.not_false, Bool.and_true, Bool.true_and, Bool.and_false, Bool.false_and, Bool.or_true, Bool.true_or, Bool.or_false, Bool.false_or, Bool.not_not, hg4, hg9]); go_wp2; go_ret; exact ⟨ret_bool HT.out.symm, EG⟩)
      | (have HT := Lib.hid (show silent a y = true by rw [HV.out]; simp only [Bool.not_true, Bool.not_false, Bool.and_true, Bool.true_and, Bool.and_false, Bool.false_and, Bool.or_true, Bool.true_or, Bool.or_false, Bool.false_or, Bool.not_not, hg4, hg9]); go_wp2; go_ret; exact ⟨ret_bool HT.out.symm, EG⟩)
  · have HV := Lib.hid (HSN.out hl)
    have hz : ((a.2.length : Int) == 0) = false := by simpa using hl
    have hzn : (a.2.length == 0) = false := by simpa using hl
    have hzd : decide (a.2.length = 0) = false := by simpa using hl
    have hze : decide ((a.2.length : Int) = 0) = false := by simpa using hl
    clear hl HSL HSN
    refine wp_region_soft_plain (fun W => Below wC.heap.size wC W) [true, true, true, true, true, true, true, false, true, true] (Below.refl _ _) ?_
    intro wS HS
    all_goals first | (refine soft_pass rfl HS ?_) | (refine soft_read (v := ?_) rfl (fun W hW => ?_) ?_; rotate_left; (· go_simp; try with_reducible rfl))
    all_goals try simp only [Act.put, List.setIfInBounds_toArray, List.set_cons_zero, List.set_cons_succ]
    all_goals first | (refine soft_pass rfl HS ?_) | (refine soft_read (v := ?_) rfl (fun W hW => ?_) ?_; rotate_left; (· have A_B0 := cell_later hW B0; have A_B1 := cell_later hW B1; have A_B2 := cell_later hW B2; have A_B3 := cell_later hW B3; have A_B4 := cell_later hW B4; have A_B5 := cell_later hW B5; have A_B6 := cell_later hW B6; have A_B7 := cell_later hW B7; have A_Y0 := cell_later hW Y0; have A_Y1 := cell_later hW Y1; have A_Y2 := cell_later hW Y2; have A_Y3 := cell_later hW Y3; have A_Y4 := cell_later hW Y4; have A_Y5 := cell_later hW Y5; have A_Y6 := cell_later hW Y6; have A_Y7 := cell_later hW Y7; have A_A8 := cell_later hW A8; clear hW; go_simp; try with_reducible rfl))
    all_goals try simp only [Act.put, List.setIfInBounds_toArray, List.set_cons_zero, List.set_cons_succ]
    all_goals first | (refine soft_pass rfl HS ?_) | (refine soft_read (v := ?_) rfl (fun W hW => ?_) ?_; rotate_left; (· go_simp; try with_reducible rfl))
    all_goals try simp only [Act.put, List.setIfInBounds_toArray, List.set_cons_zero, List.set_cons_succ]
    all_goals first | (refine soft_pass rfl HS ?_) | (refine soft_read (v := ?_) rfl (fun W hW => ?_) ?_; rotate_left; (· go_simp; try with_reducible rfl))
    all_goals try simp only [Act.put, List.setIfInBounds_toArray, List.set_cons_zero, List.set_cons_succ]
    all_goals first | (refine soft_pass rfl HS ?_; have hg4 := True.intro) | (refine soft_part (v := ?_) (b := ?_) rfl (fun W hW => ?_) ?_ (fun b hg4 => ?_); rotate_left; rotate_left; (· go_simp; try with_reducible rfl); (· with_reducible rfl); cases b; all_goals first | (exact Bool.noConfusion hg4) | (simp only [Bool.not_eq_true', Bool.not_eq_false'] at hg4) | skip)
    all_goals try simp only [Act.put, List.setIfInBounds_toArray, List.set_cons_zero, List.set_cons_succ]
    all_goals first | (refine soft_pass rfl HS ?_) | (refine soft_read (v := ?_) rfl (fun W hW => ?_) ?_; rotate_left; (· have A_B0 := cell_later hW B0; have A_B1 := cell_later hW B1; have A_B2 := cell_later hW B2; have A_B3 := cell_later hW B3; have A_B4 := cell_later hW B4; have A_B5 := cell_later hW B5; have A_B6 := cell_later hW B6; have A_B7 := cell_later hW B7; have A_Y0 := cell_later hW Y0; have A_Y1 := cell_later hW Y1; have A_Y2 := cell_later hW Y2; have A_Y3 := cell_later hW Y3; have A_Y4 := cell_later hW Y4; have A_Y5 := cell_later hW Y5; have A_Y6 := cell_later hW Y6; have A_Y7 := cell_later hW Y7; have A_A8 := cell_later hW A8; clear hW; go_simp; try with_reducible rfl))
    all_goals try simp only [Act.put, List.setIfInBounds_toArray, List.set_cons_zero, List.set_cons_succ]
    all_goals first | (refine soft_pass rfl HS ?_) | (refine soft_read (v := ?_) rfl (fun W hW => ?_) ?_; rotate_left; (· have A_B0 := cell_later hW B0; have A_B1 := cell_later hW B1; have A_B2 := cell_later hW B2; have A_B3 := cell_later hW B3; have A_B4 := cell_later hW B4; have A_B5 := cell_later hW B5; have A_B6 := cell_later hW B6; have A_B7 := cell_later hW B7; have A_Y0 := cell_later hW Y0; have A_Y1 := cell_later hW Y1; have A_Y2 := cell_later hW Y2; have A_Y3 := cell_later hW Y3; have A_Y4 := cell_later hW Y4; have A_Y5 := cell_later hW Y5; have A_Y6 := cell_later hW Y6; have A_Y7 := cell_later hW Y7; have A_A8 := cell_later hW A8; clear hW; go_simp; try with_reducible rfl))
    all_goals try simp only [Act.put, List.setIfInBounds_toArray, List.set_cons_zero, List.set_cons_succ]
    all_goals first | (refine soft_pass rfl HS ?_) | (fail)
    all_goals try simp only [Act.put, List.setIfInBounds_toArray, List.set_cons_zero, List.set_cons_succ]
    all_goals first | (refine soft_pass rfl HS ?_) | (refine soft_read (v := ?_) rfl (fun W hW => ?_) ?_; rotate_left; (· go_simp; try with_reducible rfl))
    all_goals try simp only [Act.put, List.setIfInBounds_toArray, List.set_cons_zero, List.set_cons_succ]
    all_goals first | (refine soft_pass rfl HS ?_; have hg9 := True.intro) | (refine soft_part (v := ?_) (b := ?_) rfl (fun W hW => ?_) ?_ (fun b hg9 => ?_); rotate_left; rotate_left; (· go_simp; try with_reducible rfl); (· with_reducible rfl); cases b; all_goals first | (exact Bool.noConfusion hg9) | (simp only [Bool.not_eq_true', Bool.not_eq_false'] at hg9) | skip)
    all_goals try simp only [Act.put, List.setIfInBounds_toArray, List.set_cons_zero, List.set_cons_succ]
    all_goals refine soft_nil ?_
    all_goals have EG := EC.trans (HS.mono EC.size)
    all_goals first
      | (go_wp2; go_ret; exact ⟨ret_bool HV.out.symm, EG⟩)
theorem specIsSilent_c {w : World} {ca : List Value} {a : LAction} (ha : RAction.rd w ca a) {cy : List Value} {y : LNode} (hy : RNode.rd w cy y) :
    Calls Tryz.prog 12 #[.agg ca.toArray, .agg cy.toArray] w fun e w' => e = .returned (.bool (silent a y)) ∧ Below w.heap.size w w' := specIsSilent_w ha.1 hy.1
set_option maxRecDepth 100000 in
set_option maxHeartbeats 4000000 in
theorem implIsSilent_w {w : World} {ca : List Value} {a : LAction} (ha : RAction.raw w ca a) {cy : List Value} {y : LNode} (hy : RNode.raw w cy y) :
    Calls Tryz.prog 14 #[.agg ca.toArray, .agg cy.toArray] w fun e w' => e = .returned (.bool (silent a y)) ∧ Below w.heap.size w w' := by
  have Ha := Lib.hid ha
  obtain ⟨fav0, fav2, fav3, fav4, fav5, fav6, fav8, rfl, fa_0, fa_1, fa_2, fa_3, fa_4, fa_5, fa_6, fa_7, fa_8, fa_9, fa_10⟩ := RAction_raw ha
  obtain ⟨faa0, fap0, fah0, fal0⟩ := Rep.len_raw fa_1; obtain rfl : fav0 = _ := by simpa using fah0
  clear fah0
  obtain ⟨faa2, fap2, fah2, fal2⟩ := Rep.len_raw fa_4; obtain rfl : fav2 = _ := by simpa using fah2
  clear fah2
  obtain ⟨faa3, fap3, fah3, fal3⟩ := Rep.len_raw fa_5; obtain rfl : fav3 = _ := by simpa using fah3
  clear fah3
  obtain ⟨faa4, fap4, fah4, fal4⟩ := Rep.len_raw fa_6; obtain rfl : fav4 = _ := by simpa using fah4
  clear fah4
  obtain ⟨faa5, fap5, fah5, fal5⟩ := Rep.len_raw fa_7; obtain rfl : fav5 = _ := by simpa using fah5
  clear fah5
  obtain ⟨faa6, fap6, fah6, fal6⟩ := Rep.len_raw fa_8; obtain rfl : fav6 = _ := by simpa using fah6
  clear fah6
  obtain ⟨faa8, fap8, fah8, fal8⟩ := Rep.len_raw fa_10; obtain rfl : fav8 = _ := by simpa using fah8
  clear fah8
  have Hy := Lib.hid hy
  obtain ⟨fyv0, fyv2, fyv3, fyv4, fyv5, fyv6, rfl, fy_0, fy_1, fy_2, fy_3, fy_4, fy_5, fy_6, fy_7, fy_8⟩ := RNode_raw hy
  obtain ⟨fya0, fyp0, fyh0, fyl0⟩ := Rep.len_raw fy_0; obtain rfl : fyv0 = _ := by simpa using fyh0
  clear fyh0
  obtain ⟨fya2, fyp2, fyh2, fyl2⟩ := Rep.len_raw fy_3; obtain rfl : fyv2 = _ := by simpa using fyh2
  clear fyh2
  obtain ⟨fya3, fyp3, fyh3, fyl3⟩ := Rep.len_raw fy_4; obtain rfl : fyv3 = _ := by simpa using fyh3
  clear fyh3
  obtain ⟨fya4, fyp4, fyh4, fyl4⟩ := Rep.len_raw fy_5; obtain rfl : fyv4 = _ := by simpa using fyh4
  clear fyh4
  obtain ⟨fya5, fyp5, fyh5, fyl5⟩ := Rep.len_raw fy_6; obtain rfl : fyv5 = _ := by simpa using fyh5
  clear fyh5
  obtain ⟨fya6, fyp6, fyh6, fyl6⟩ := Rep.len_raw fy_7; obtain rfl : fyv6 = _ := by simpa using fyh6
  clear fyh6
  have HN0 := Lib.hid (show RNode.raw w [.slice faa0 (a.1.1).length fap0, .int .i64 a.1.2.1.1, .slice faa2 (a.1.2.1.2).length fap2, .slice faa3 (a.1.2.2.1).length fap3, .slice faa4 (a.1.2.2.2.1).length fap4, .slice faa5 (a.1.2.2.2.2.1).length fap5, .slice faa6 (a.1.2.2.2.2.2.1).length fap6, .int .i64 y.2.2.2.2.2.2] (dropN a y) from raw_pairL fa_1 (raw_pairL fa_2 (raw_pairL fa_5 (raw_pairL fa_6 (raw_pairL fa_7 (raw_pairL fa_8 (⟨rfl, fy_8⟩ : Rep.int.raw w [_] _)))))))
  have HSL := Lib.hid (silent_len (a := a) (y := y)); have HSN := Lib.hid (silent_no (a := a) (y := y))
  generalize dropN a y = N at *
  have HY0 := Hy
  clear Ha Hy ha hy fa_0 fa_1 fa_2 fa_3 fa_4 fa_5 fa_6 fa_7 fa_8 fa_9 fa_10 fy_0 fy_1 fy_2 fy_3 fy_4 fy_5 fy_6 fy_7 fy_8
  go_enter Tryz.func14, Tryz.ntmps14
  go_upto_region 1 with fail
  generalize hwB : World.alloc (World.alloc w _) _ = wB
  have EB : Below w.heap.size w wB := by rw [← hwB]; exact (by repeat (first | (with_reducible exact Below.refl _ _) | refine Below.alloc ?_ (by simp; try omega) _ | refine Below.drew ?_ | refine Below.setCell ?_ (by simp; try omega) _))
  have hsz : wB.heap.size = w.heap.size + 2 := by rw [← hwB]; simp
  have XB : wB.heap[w.heap.size]? = some (.cells #[.slice faa0 (a.1.1).length fap0, .int .i64 a.1.2.1.1, .slice faa2 (a.1.2.1.2).length fap2, .slice faa3 (a.1.2.2.1).length fap3, .slice faa4 (a.1.2.2.2.1).length fap4, .slice faa5 (a.1.2.2.2.2.1).length fap5, .slice faa6 (a.1.2.2.2.2.2.1).length fap6, .int .i64 a.1.2.2.2.2.2.2, .slice faa8 (a.2).length fap8] 54 (0, 0)) := by rw [← hwB]; exact heap_keep (heap_new_at rfl)
  have XY : wB.heap[w.heap.size + 1]? = some (.cells #[.slice fya0 (y.1).length fyp0, .int .i64 y.2.1.1, .slice fya2 (y.2.1.2).length fyp2, .slice fya3 (y.2.2.1).length fyp3, .slice fya4 (y.2.2.2.1).length fyp4, .slice fya5 (y.2.2.2.2.1).length fyp5, .slice fya6 (y.2.2.2.2.2.1).length fyp6, .int .i64 y.2.2.2.2.2.2] 43 (0, 0)) := by rw [← hwB]; exact heap_new_at (by simp)
  clear hwB
  have Y7 := boxCell (b := w.heap.size + 1) XY (j := 7) (v := .int .i64 y.2.2.2.2.2.2) rfl
  have B7 := boxCell (b := w.heap.size) XB (j := 7) (v := .int .i64 a.1.2.2.2.2.2.2) rfl
  have Z7 := frozen_of_row wB (w.heap.size) 7 _ _ XB
  go_upto_region 2 with fail
  generalize hwC : World.setCell wB _ _ = wC
  have EC : Below w.heap.size w wC := by rw [← hwC]; exact EB.setCell (by first | omega | (simp; done) | (simp; omega)) _
  have XB2 : wC.heap[w.heap.size]? = some (.cells #[.slice faa0 (a.1.1).length fap0, .int .i64 a.1.2.1.1, .slice faa2 (a.1.2.1.2).length fap2, .slice faa3 (a.1.2.2.1).length fap3, .slice faa4 (a.1.2.2.2.1).length fap4, .slice faa5 (a.1.2.2.2.2.1).length fap5, .slice faa6 (a.1.2.2.2.2.2.1).length fap6, .int .i64 y.2.2.2.2.2.2, .slice faa8 (a.2).length fap8] 54 (0, 0)) := by
    rw [← hwC]
    have y0 := heap_setCell_same _ (w.heap.size) 7 _ 54 (.int .i64 y.2.2.2.2.2.2) XB
    exact y0
  have XY2 : wC.heap[w.heap.size + 1]? = some (.cells #[.slice fya0 (y.1).length fyp0, .int .i64 y.2.1.1, .slice fya2 (y.2.1.2).length fyp2, .slice fya3 (y.2.2.1).length fyp3, .slice fya4 (y.2.2.2.1).length fyp4, .slice fya5 (y.2.2.2.2.1).length fyp5, .slice fya6 (y.2.2.2.2.2.1).length fyp6, .int .i64 y.2.2.2.2.2.2] 43 (0, 0)) := by rw [← hwC]; exact (heap_setCell_other _ ⟨w.heap.size, 7, none⟩ (w.heap.size + 1) _ (show w.heap.size + 1 ≠ w.heap.size by omega)).trans XY
  clear hwC Y7 B7 Z7 XB XY EB hsz
  have B0 := boxCell (b := w.heap.size) XB2 (j := 0) (v := .slice faa0 (a.1.1).length fap0) rfl
  have B1 := boxCell (b := w.heap.size) XB2 (j := 1) (v := .int .i64 a.1.2.1.1) rfl
  have B2 := boxCell (b := w.heap.size) XB2 (j := 2) (v := .slice faa2 (a.1.2.1.2).length fap2) rfl
  have B3 := boxCell (b := w.heap.size) XB2 (j := 3) (v := .slice faa3 (a.1.2.2.1).length fap3) rfl
  have B4 := boxCell (b := w.heap.size) XB2 (j := 4) (v := .slice faa4 (a.1.2.2.2.1).length fap4) rfl
  have B5 := boxCell (b := w.heap.size) XB2 (j := 5) (v := .slice faa5 (a.1.2.2.2.2.1).length fap5) rfl
  have B6 := boxCell (b := w.heap.size) XB2 (j := 6) (v := .slice faa6 (a.1.2.2.2.2.2.1).length fap6) rfl
  have B7 := boxCell (b := w.heap.size) XB2 (j := 7) (v := .int .i64 y.2.2.2.2.2.2) rfl
  have B8 := boxCell (b := w.heap.size) XB2 (j := 8) (v := .slice faa8 (a.2).length fap8) rfl
  have Y0 := boxCell (b := w.heap.size + 1) XY2 (j := 0) (v := .slice fya0 (y.1).length fyp0) rfl
  have Y1 := boxCell (b := w.heap.size + 1) XY2 (j := 1) (v := .int .i64 y.2.1.1) rfl
  have Y2 := boxCell (b := w.heap.size + 1) XY2 (j := 2) (v := .slice fya2 (y.2.1.2).length fyp2) rfl
  have Y3 := boxCell (b := w.heap.size + 1) XY2 (j := 3) (v := .slice fya3 (y.2.2.1).length fyp3) rfl
  have Y4 := boxCell (b := w.heap.size + 1) XY2 (j := 4) (v := .slice fya4 (y.2.2.2.1).length fyp4) rfl
  have Y5 := boxCell (b := w.heap.size + 1) XY2 (j := 5) (v := .slice fya5 (y.2.2.2.2.1).length fyp5) rfl
  have Y6 := boxCell (b := w.heap.size + 1) XY2 (j := 6) (v := .slice fya6 (y.2.2.2.2.2.1).length fyp6) rfl
  have Y7 := boxCell (b := w.heap.size + 1) XY2 (j := 7) (v := .int .i64 y.2.2.2.2.2.2) rfl
  clear XB2 XY2
  by_cases hl : a.2.length = 0
  · have HV := Lib.hid (HSL.out hl)
    have hz : ((a.2.length : Int) == 0) = true := by simpa using hl
    have hzn : (a.2.length == 0) = true := by simpa using hl
    have hzd : decide (a.2.length = 0) = true := by simpa using hl
    have hze : decide ((a.2.length : Int) = 0) = true := by simpa using hl
    clear hl HSL HSN
    refine wp_region_soft_plain (fun W => Below wC.heap.size wC W) [true, true, true, true, true, true, true, true, false, true, true] (Below.refl _ _) ?_
    intro wS HS
    all_goals first | (refine soft_pass rfl HS ?_) | (refine soft_read (v := ?_) rfl (fun W hW => ?_) ?_; rotate_left; (· go_simp; try with_reducible rfl))
    all_goals try simp only [Act.put, List.setIfInBounds_toArray, List.set_cons_zero, List.set_cons_succ]
    all_goals first | (refine soft_pass rfl HS ?_) | (refine soft_read (v := ?_) rfl (fun W hW => ?_) ?_; rotate_left; (· have A_B0 := cell_later hW B0; have A_B1 := cell_later hW B1; have A_B2 := cell_later hW B2; have A_B3 := cell_later hW B3; have A_B4 := cell_later hW B4; have A_B5 := cell_later hW B5; have A_B6 := cell_later hW B6; have A_B7 := cell_later hW B7; have A_B8 := cell_later hW B8; have A_Y0 := cell_later hW Y0; have A_Y1 := cell_later hW Y1; have A_Y2 := cell_later hW Y2; have A_Y3 := cell_later hW Y3; have A_Y4 := cell_later hW Y4; have A_Y5 := cell_later hW Y5; have A_Y6 := cell_later hW Y6; have A_Y7 := cell_later hW Y7; clear hW; go_simp; try with_reducible rfl))
    all_goals try simp only [Act.put, List.setIfInBounds_toArray, List.set_cons_zero, List.set_cons_succ]
    all_goals first | (refine soft_pass rfl HS ?_) | (refine soft_read (v := ?_) rfl (fun W hW => ?_) ?_; rotate_left; (· go_simp; try with_reducible rfl))
    all_goals try simp only [Act.put, List.setIfInBounds_toArray, List.set_cons_zero, List.set_cons_succ]
    all_goals first | (refine soft_pass rfl HS ?_) | (refine soft_read (v := ?_) rfl (fun W hW => ?_) ?_; rotate_left; (· go_simp; try with_reducible rfl))
    all_goals try simp only [Act.put, List.setIfInBounds_toArray, List.set_cons_zero, List.set_cons_succ]
    all_goals first | (refine soft_pass rfl HS ?_; have hg4 := True.intro) | (refine soft_part (v := ?_) (b := ?_) rfl (fun W hW => ?_) ?_ (fun b hg4 => ?_); rotate_left; rotate_left; (· go_simp; try with_reducible rfl); (· with_reducible rfl); cases b; all_goals first | (exact Bool.noConfusion hg4) | (simp only [Bool.not_eq_true', Bool.not_eq_false'] at hg4) | skip)
    all_goals try simp only [Act.put, List.setIfInBounds_toArray, List.set_cons_zero, List.set_cons_succ]
    all_goals first | (refine soft_pass rfl HS ?_) | (refine soft_read (v := ?_) rfl (fun W hW => ?_) ?_; rotate_left; (· go_simp; try with_reducible rfl))
    all_goals try simp only [Act.put, List.setIfInBounds_toArray, List.set_cons_zero, List.set_cons_succ]
    all_goals first | (refine soft_pass rfl HS ?_) | (refine soft_read (v := ?_) rfl (fun W hW => ?_) ?_; rotate_left; (· have A_B0 := cell_later hW B0; have A_B1 := cell_later hW B1; have A_B2 := cell_later hW B2; have A_B3 := cell_later hW B3; have A_B4 := cell_later hW B4; have A_B5 := cell_later hW B5; have A_B6 := cell_later hW B6; have A_B7 := cell_later hW B7; have A_B8 := cell_later hW B8; have A_Y0 := cell_later hW Y0; have A_Y1 := cell_later hW Y1; have A_Y2 := cell_later hW Y2; have A_Y3 := cell_later hW Y3; have A_Y4 := cell_later hW Y4; have A_Y5 := cell_later hW Y5; have A_Y6 := cell_later hW Y6; have A_Y7 := cell_later hW Y7; clear hW; go_simp; try with_reducible rfl))
    all_goals try simp only [Act.put, List.setIfInBounds_toArray, List.set_cons_zero, List.set_cons_succ]
    all_goals first | (refine soft_pass rfl HS ?_) | (refine soft_read (v := ?_) rfl (fun W hW => ?_) ?_; rotate_left; (· have A_B0 := cell_later hW B0; have A_B1 := cell_later hW B1; have A_B2 := cell_later hW B2; have A_B3 := cell_later hW B3; have A_B4 := cell_later hW B4; have A_B5 := cell_later hW B5; have A_B6 := cell_later hW B6; have A_B7 := cell_later hW B7; have A_B8 := cell_later hW B8; have A_Y0 := cell_later hW Y0; have A_Y1 := cell_later hW Y1; have A_Y2 := cell_later hW Y2; have A_Y3 := cell_later hW Y3; have A_Y4 := cell_later hW Y4; have A_Y5 := cell_later hW Y5; have A_Y6 := cell_later hW Y6; have A_Y7 := cell_later hW Y7; clear hW; go_simp; try with_reducible rfl))
    all_goals try simp only [Act.put, List.setIfInBounds_toArray, List.set_cons_zero, List.set_cons_succ]
    all_goals first | (refine soft_pass rfl HS ?_) | (refine soft_do rfl (fun K hK => ?_); go_simp; refine (implEqualNodes_w (Rep.raw.below HN0.out (EC.trans (HS.mono EC.size))) (Rep.raw.below HY0.out (EC.trans (HS.mono EC.size)))).mono ?_; rintro e wS1 ⟨rfl, hbS⟩; replace HS := HS.trans (hbS.mono HS.size); refine hK _ _ HS ?_; clear hK K hbS)
    all_goals try simp only [Act.put, List.setIfInBounds_toArray, List.set_cons_zero, List.set_cons_succ]
    all_goals first | (refine soft_pass rfl HS ?_) | (refine soft_read (v := ?_) rfl (fun W hW => ?_) ?_; rotate_left; (· go_simp; try with_reducible rfl))
    all_goals try simp only [Act.put, List.setIfInBounds_toArray, List.set_cons_zero, List.set_cons_succ]
    all_goals first | (refine soft_pass rfl HS ?_; have hg10 := True.intro) | (refine soft_part (v := ?_) (b := ?_) rfl (fun W hW => ?_) ?_ (fun b hg10 => ?_); rotate_left; rotate_left; (· go_simp; try with_reducible rfl); (· with_reducible rfl); cases b; all_goals first | (exact Bool.noConfusion hg10) | (simp only [Bool.not_eq_true', Bool.not_eq_false'] at hg10) | skip)
    all_goals try simp only [Act.put, List.setIfInBounds_toArray, List.set_cons_zero, List.set_cons_succ]
    all_goals refine soft_nil ?_
    all_goals have EG := EC.trans (HS.mono EC.size)
    all_goals first
      | (have HT := Lib.hid (show silent a y = false by rw [HV.out]; simp only [Bool.not_true, Bool.not_false, Bool.and_true, Bool.true_and, Bool.and_false, Bool.false_and, Bool.or_true, Bool.true_or, Bool.or_false, Bool.false_or, Bool.not_not, hg4, hg10]); go_wp2; go_ret; exact ⟨ret_bool HT.out.symm, EG⟩)
      | (have HT := Lib.hid (show silent a y = true by rw [HV.out]; simp only [Bool.not_true, Bool.not_false, Bool.and_true, Bool.true_and, Bool.and_false, Bool.false_and, Bool.or_true, Bool.true_or, Bool.or_false, Bool.false_or, Bool.not_not, hg4, hg10]); go_wp2; go_ret; exact ⟨ret_bool HT.out.symm, EG⟩)
  · have HV := Lib.hid (HSN.out hl)
    have hz : ((a.2.length : Int) == 0) = false := by simpa using hl
    have hzn : (a.2.length == 0) = false := by simpa using hl
    have hzd : decide (a.2.length = 0) = false := by simpa using hl
    have hze : decide ((a.2.length : Int) = 0) = false := by simpa using hl
    clear hl HSL HSN
    refine wp_region_soft_plain (fun W => Below wC.heap.size wC W) [true, true, true, true, true, true, true, true, false, true, true] (Below.refl _ _) ?_
    intro wS HS
    all_goals first | (refine soft_pass rfl HS ?_) | (refine soft_read (v := ?_) rfl (fun W hW => ?_) ?_; rotate_left; (· go_simp; try with_reducible rfl))
    all_goals try simp only [Act.put, List.setIfInBounds_toArray, List.set_cons_zero, List.set_cons_succ]
    all_goals first | (refine soft_pass rfl HS ?_) | (refine soft_read (v := ?_) rfl (fun W hW => ?_) ?_; rotate_left; (· have A_B0 := cell_later hW B0; have A_B1 := cell_later hW B1; have A_B2 := cell_later hW B2; have A_B3 := cell_later hW B3; have A_B4 := cell_later hW B4; have A_B5 := cell_later hW B5; have A_B6 := cell_later hW B6; have A_B7 := cell_later hW B7; have A_B8 := cell_later hW B8; have A_Y0 := cell_later hW Y0; have A_Y1 := cell_later hW Y1; have A_Y2 := cell_later hW Y2; have A_Y3 := cell_later hW Y3; have A_Y4 := cell_later hW Y4; have A_Y5 := cell_later hW Y5; have A_Y6 := cell_later hW Y6; have A_Y7 := cell_later hW Y7; clear hW; go_simp; try with_reducible rfl))
    all_goals try simp only [Act.put, List.setIfInBounds_toArray, List.set_cons_zero, List.set_cons_succ]
    all_goals first | (refine soft_pass rfl HS ?_) | (refine soft_read (v := ?_) rfl (fun W hW => ?_) ?_; rotate_left; (· go_simp; try with_reducible rfl))
    all_goals try simp only [Act.put, List.setIfInBounds_toArray, List.set_cons_zero, List.set_cons_succ]
    all_goals first | (refine soft_pass rfl HS ?_) | (refine soft_read (v := ?_) rfl (fun W hW => ?_) ?_; rotate_left; (· go_simp; try with_reducible rfl))
    all_goals try simp only [Act.put, List.setIfInBounds_toArray, List.set_cons_zero, List.set_cons_succ]
    all_goals first | (refine soft_pass rfl HS ?_; have hg4 := True.intro) | (refine soft_part (v := ?_) (b := ?_) rfl (fun W hW => ?_) ?_ (fun b hg4 => ?_); rotate_left; rotate_left; (· go_simp; try with_reducible rfl); (· with_reducible rfl); cases b; all_goals first | (exact Bool.noConfusion hg4) | (simp only [Bool.not_eq_true', Bool.not_eq_false'] at hg4) | skip)
    all_goals try simp only [Act.put, List.setIfInBounds_toArray, List.set_cons_zero, List.set_cons_succ]
    all_goals first | (refine soft_pass rfl HS ?_) | (refine soft_read (v := ?_) rfl (fun W hW => ?_) ?_; rotate_left; (· go_simp; try with_reducible rfl))
    all_goals try simp only [Act.put, List.setIfInBounds_toArray, List.set_cons_zero, List.set_cons_succ]
    all_goals first | (refine soft_pass rfl HS ?_) | (refine soft_read (v := ?_) rfl (fun W hW => ?_) ?_; rotate_left; (· have A_B0 := cell_later hW B0; have A_B1 := cell_later hW B1; have A_B2 := cell_later hW B2; have A_B3 := cell_later hW B3; have A_B4 := cell_later hW B4; have A_B5 := cell_later hW B5; have A_B6 := cell_later hW B6; have A_B7 := cell_later hW B7; have A_B8 := cell_later hW B8; have A_Y0 := cell_later hW Y0; have A_Y1 := cell_later hW Y1; have A_Y2 := cell_later hW Y2; have A_Y3 := cell_later hW Y3; have A_Y4 := cell_later hW Y4; have A_Y5 := cell_later hW Y5; have A_Y6 := cell_later hW Y6; have A_Y7 := cell_later hW Y7; clear hW; go_simp; try with_reducible rfl))
    all_goals try simp only [Act.put, List.setIfInBounds_toArray, List.set_cons_zero, List.set_cons_succ]
    all_goals first | (refine soft_pass rfl HS ?_) | (refine soft_read (v := ?_) rfl (fun W hW => ?_) ?_; rotate_left; (· have A_B0 := cell_later hW B0; have A_B1 := cell_later hW B1; have A_B2 := cell_later hW B2; have A_B3 := cell_later hW B3; have A_B4 := cell_later hW B4; have A_B5 := cell_later hW B5; have A_B6 := cell_later hW B6; have A_B7 := cell_later hW B7; have A_B8 := cell_later hW B8; have A_Y0 := cell_later hW Y0; have A_Y1 := cell_later hW Y1; have A_Y2 := cell_later hW Y2; have A_Y3 := cell_later hW Y3; have A_Y4 := cell_later hW Y4; have A_Y5 := cell_later hW Y5; have A_Y6 := cell_later hW Y6; have A_Y7 := cell_later hW Y7; clear hW; go_simp; try with_reducible rfl))
    all_goals try simp only [Act.put, List.setIfInBounds_toArray, List.set_cons_zero, List.set_cons_succ]
    all_goals first | (refine soft_pass rfl HS ?_) | (fail)
    all_goals try simp only [Act.put, List.setIfInBounds_toArray, List.set_cons_zero, List.set_cons_succ]
    all_goals first | (refine soft_pass rfl HS ?_) | (refine soft_read (v := ?_) rfl (fun W hW => ?_) ?_; rotate_left; (· go_simp; try with_reducible rfl))
    all_goals try simp only [Act.put, List.setIfInBounds_toArray, List.set_cons_zero, List.set_cons_succ]
    all_goals first | (refine soft_pass rfl HS ?_; have hg10 := True.intro) | (refine soft_part (v := ?_) (b := ?_) rfl (fun W hW => ?_) ?_ (fun b hg10 => ?_); rotate_left; rotate_left; (· go_simp; try with_reducible rfl); (· with_reducible rfl); cases b; all_goals first | (exact Bool.noConfusion hg10) | (simp only [Bool.not_eq_true', Bool.not_eq_false'] at hg10) | skip)
    all_goals try simp only [Act.put, List.setIfInBounds_toArray, List.set_cons_zero, List.set_cons_succ]
    all_goals refine soft_nil ?_
    all_goals have EG := EC.trans (HS.mono EC.size)
    all_goals first
      | (go_wp2; go_ret; exact ⟨ret_bool HV.out.symm, EG⟩)
theorem implIsSilent_c {w : World} {ca : List Value} {a : LAction} (ha : RAction.rd w ca a) {cy : List Value} {y : LNode} (hy : RNode.rd w cy y) :
    Calls Tryz.prog 14 #[.agg ca.toArray, .agg cy.toArray] w fun e w' => e = .returned (.bool (silent a y)) ∧ Below w.heap.size w w' := implIsSilent_w ha.1 hy.1
end Go.Proofs.YtaphafmkidjakaaGreat

/-
  Measurements.
-/
import Derived.Test.YtikjbdfkdkijkaaFMeas
import Derived.Test.YtikjbdfkdkijkaaLibEq
import Derived.IntWalk
import Derived.Deep.Cut
namespace Go.Proofs.Ytikjbdfkdkijkaa
open Go.RowKit
set_option linter.unusedVariables false
set_option linter.unusedSimpArgs false
set_option linter.unnecessarySimpa false
def vMeasS (x y : LMeasurement) : Bool := !((x.2.1 != y.2.1) || ((x.2.2 != y.2.2) || !eqN x.1 y.1))
theorem vMeasS_eq (x y : LMeasurement) : vMeasS x y = decide (x = y) := by
  obtain ⟨x0, x1, x2⟩ := x
  obtain ⟨y0, y1, y2⟩ := y
  rw [Bool.eq_iff_iff]
  simp [vMeasS, eqN]
  constructor
  · rintro ⟨h1, h2, h3⟩; exact ⟨h3, h1, h2⟩
  · rintro ⟨h1, h2, h3⟩; exact ⟨h2, h3, h1⟩
def vMeas (x y : LMeasurement) : Bool := (eqN x.1 y.1 && (x.2.1 == y.2.1)) && (x.2.2 == y.2.2)
theorem vMeas_eq (x y : LMeasurement) : vMeas x y = decide (x = y) := by
  obtain ⟨x0, x1, x2⟩ := x
  obtain ⟨y0, y1, y2⟩ := y
  rw [Bool.eq_iff_iff]
  simp [vMeas, eqN, and_assoc]
set_option maxRecDepth 100000 in
set_option maxHeartbeats 2000000 in
theorem implEqualMeasurements1_c {w : World} {cx : List Value} {x : LMeasurement} (hx : RMeasurement.raw w cx x) {cy : List Value} {y : LMeasurement} (hy : RMeasurement.raw w cy y) :
    Calls Try.prog 74 #[.agg cx.toArray, .agg cy.toArray] w fun e w' => e = .returned (.bool (vMeas x y)) ∧ Below w.heap.size w w' := by
  have Hx := Lib.hid hx
  obtain ⟨fxv0, rfl, fx_0, fx_1, fx_2, fx_3⟩ := RMeasurement_raw hx
  obtain ⟨fxa0, fxp0, fxh0, fxl0⟩ := Rep.len_raw fx_1; obtain rfl : fxv0 = _ := by simpa using fxh0
  clear fxh0
  have Hy := Lib.hid hy
  obtain ⟨fyv0, rfl, fy_0, fy_1, fy_2, fy_3⟩ := RMeasurement_raw hy
  obtain ⟨fya0, fyp0, fyh0, fyl0⟩ := Rep.len_raw fy_1; obtain rfl : fyv0 = _ := by simpa using fyh0
  clear fyh0
  go_enter Try.func74, Try.ntmps74
  go_upto_region 1 with fail
  generalize hwB : World.alloc (World.alloc w _) _ = wB
  have EB : Below w.heap.size w wB := by rw [← hwB]; exact (by repeat (first | (with_reducible exact Below.refl _ _) | refine Below.alloc ?_ (by simp; try omega) _ | refine Below.drew ?_ | refine Below.setCell ?_ (by simp; try omega) _))
  have K2_0 : wB.cell? ⟨w.heap.size, 0, none⟩ = some (.slice fxa0 (x.1).length fxp0) := by rw [← hwB]; simp [go_sem]
  have K2_1 : wB.cell? ⟨w.heap.size, 1, none⟩ = some (.int .i64 x.2.1) := by rw [← hwB]; simp [go_sem]
  have K2_2 : wB.cell? ⟨w.heap.size, 2, none⟩ = some (.int .i64 x.2.2) := by rw [← hwB]; simp [go_sem]
  have K3_0 : wB.cell? ⟨w.heap.size + 1, 0, none⟩ = some (.slice fya0 (y.1).length fyp0) := by rw [← hwB]; simp [go_sem]
  have K3_1 : wB.cell? ⟨w.heap.size + 1, 1, none⟩ = some (.int .i64 y.2.1) := by rw [← hwB]; simp [go_sem]
  have K3_2 : wB.cell? ⟨w.heap.size + 1, 2, none⟩ = some (.int .i64 y.2.2) := by rw [← hwB]; simp [go_sem]
  clear hwB
  refine wp_region_soft_plain (fun W => Below wB.heap.size wB W) [true, true, true, true, false, true, true, true, true, true, true, true, true, true, true, true, true, true, true, true] (Below.refl _ _) ?_
  intro wS HS
  all_goals first | (refine soft_pass rfl HS ?_) | (refine soft_read (v := ?_) rfl (fun W hW => ?_) ?_; rotate_left; (· go_simp; try with_reducible rfl))
  all_goals try simp only [Act.put, List.setIfInBounds_toArray, List.set_cons_zero, List.set_cons_succ]
  all_goals first | (refine soft_pass rfl HS ?_) | (refine soft_read (v := ?_) rfl (fun W hW => ?_) ?_; rotate_left; (· have A_K2_0 := cell_later hW K2_0; have A_K2_1 := cell_later hW K2_1; have A_K2_2 := cell_later hW K2_2; have A_K3_0 := cell_later hW K3_0; have A_K3_1 := cell_later hW K3_1; have A_K3_2 := cell_later hW K3_2; clear hW; go_simp; try with_reducible rfl))
  all_goals try simp only [Act.put, List.setIfInBounds_toArray, List.set_cons_zero, List.set_cons_succ]
  all_goals first | (refine soft_pass rfl HS ?_) | (refine soft_read (v := ?_) rfl (fun W hW => ?_) ?_; rotate_left; (· go_simp; try with_reducible rfl))
  all_goals try simp only [Act.put, List.setIfInBounds_toArray, List.set_cons_zero, List.set_cons_succ]
  all_goals first | (refine soft_pass rfl HS ?_) | (refine soft_read (v := ?_) rfl (fun W hW => ?_) ?_; rotate_left; (· have A_K2_0 := cell_later hW K2_0; have A_K2_1 := cell_later hW K2_1; have A_K2_2 := cell_later hW K2_2; have A_K3_0 := cell_later hW K3_0; have A_K3_1 := cell_later hW K3_1; have A_K3_2 := cell_later hW K3_2; clear hW; go_simp; try with_reducible rfl))
  all_goals try simp only [Act.put, List.setIfInBounds_toArray, List.set_cons_zero, List.set_cons_succ]
  all_goals first | (refine soft_pass rfl HS ?_) | (refine soft_do rfl (fun K hK => ?_); go_simp; refine (implEqualNames_c (Rep.raw.below fx_0 (EB.trans (HS.mono EB.size))) (Rep.raw.below fy_0 (EB.trans (HS.mono EB.size)))).mono ?_; rintro e wS1 ⟨rfl, hbS⟩; replace HS := HS.trans (hbS.mono HS.size); refine hK _ _ HS ?_; clear hK K hbS)
  all_goals try simp only [Act.put, List.setIfInBounds_toArray, List.set_cons_zero, List.set_cons_succ]
  all_goals first | (refine soft_pass rfl HS ?_; have hg5 := True.intro) | (refine soft_part (v := ?_) (b := ?_) rfl (fun W hW => ?_) ?_ (fun b hg5 => ?_); rotate_left; rotate_left; (· go_simp; try with_reducible rfl); (· with_reducible rfl); cases b; all_goals first | (exact Bool.noConfusion hg5) | (simp only [Bool.not_eq_true', Bool.not_eq_false'] at hg5) | skip)
  all_goals try simp only [Act.put, List.setIfInBounds_toArray, List.set_cons_zero, List.set_cons_succ]
  all_goals first | (refine soft_pass rfl HS ?_) | (refine soft_read (v := ?_) rfl (fun W hW => ?_) ?_; rotate_left; (· go_simp; try with_reducible rfl))
  all_goals try simp only [Act.put, List.setIfInBounds_toArray, List.set_cons_zero, List.set_cons_succ]
  all_goals first | (refine soft_pass rfl HS ?_) | (refine soft_read (v := ?_) rfl (fun W hW => ?_) ?_; rotate_left; (· have A_K2_0 := cell_later hW K2_0; have A_K2_1 := cell_later hW K2_1; have A_K2_2 := cell_later hW K2_2; have A_K3_0 := cell_later hW K3_0; have A_K3_1 := cell_later hW K3_1; have A_K3_2 := cell_later hW K3_2; clear hW; go_simp; try with_reducible rfl))
  all_goals try simp only [Act.put, List.setIfInBounds_toArray, List.set_cons_zero, List.set_cons_succ]
  all_goals first | (refine soft_pass rfl HS ?_) | (refine soft_read (v := ?_) rfl (fun W hW => ?_) ?_; rotate_left; (· go_simp; try with_reducible rfl))
  all_goals try simp only [Act.put, List.setIfInBounds_toArray, List.set_cons_zero, List.set_cons_succ]
  all_goals first | (refine soft_pass rfl HS ?_) | (refine soft_read (v := ?_) rfl (fun W hW => ?_) ?_; rotate_left; (· have A_K2_0 := cell_later hW K2_0; have A_K2_1 := cell_later hW K2_1; have A_K2_2 := cell_later hW K2_2; have A_K3_0 := cell_later hW K3_0; have A_K3_1 := cell_later hW K3_1; have A_K3_2 := cell_later hW K3_2; clear hW; go_simp; try with_reducible rfl))
  all_goals try simp only [Act.put, List.setIfInBounds_toArray, List.set_cons_zero, List.set_cons_succ]
  all_goals first | (refine soft_pass rfl HS ?_) | (refine soft_read (v := ?_) rfl (fun W hW => ?_) ?_; rotate_left; (· go_simp; try with_reducible rfl))
  all_goals try simp only [Act.put, List.setIfInBounds_toArray, List.set_cons_zero, List.set_cons_succ]
  all_goals first | (refine soft_pass rfl HS ?_) | (refine soft_read (v := ?_) rfl (fun W hW => ?_) ?_; rotate_left; (· go_simp; try with_reducible rfl))
  all_goals try simp only [Act.put, List.setIfInBounds_toArray, List.set_cons_zero, List.set_cons_succ]
  all_goals first | (refine soft_pass rfl HS ?_; have hg12 := True.intro) | (refine soft_part (v := ?_) (b := ?_) rfl (fun W hW => ?_) ?_ (fun b hg12 => ?_); rotate_left; rotate_left; (· go_simp; try with_reducible rfl); (· with_reducible rfl); cases b; all_goals first | (exact Bool.noConfusion hg12) | (simp only [Bool.not_eq_true', Bool.not_eq_false'] at hg12) | skip)
  all_goals try simp only [Act.put, List.setIfInBounds_toArray, List.set_cons_zero, List.set_cons_succ]
  all_goals first | (refine soft_pass rfl HS ?_) | (refine soft_read (v := ?_) rfl (fun W hW => ?_) ?_; rotate_left; (· go_simp; try with_reducible rfl))
  all_goals try simp only [Act.put, List.setIfInBounds_toArray, List.set_cons_zero, List.set_cons_succ]
  all_goals first | (refine soft_pass rfl HS ?_) | (refine soft_read (v := ?_) rfl (fun W hW => ?_) ?_; rotate_left; (· have A_K2_0 := cell_later hW K2_0; have A_K2_1 := cell_later hW K2_1; have A_K2_2 := cell_later hW K2_2; have A_K3_0 := cell_later hW K3_0; have A_K3_1 := cell_later hW K3_1; have A_K3_2 := cell_later hW K3_2; clear hW; go_simp; try with_reducible rfl))
  all_goals try simp only [Act.put, List.setIfInBounds_toArray, List.set_cons_zero, List.set_cons_succ]
  all_goals first | (refine soft_pass rfl HS ?_) | (refine soft_read (v := ?_) rfl (fun W hW => ?_) ?_; rotate_left; (· go_simp; try with_reducible rfl))
  all_goals try simp only [Act.put, List.setIfInBounds_toArray, List.set_cons_zero, List.set_cons_succ]
  all_goals first | (refine soft_pass rfl HS ?_) | (refine soft_read (v := ?_) rfl (fun W hW => ?_) ?_; rotate_left; (· have A_K2_0 := cell_later hW K2_0; have A_K2_1 := cell_later hW K2_1; have A_K2_2 := cell_later hW K2_2; have A_K3_0 := cell_later hW K3_0; have A_K3_1 := cell_later hW K3_1; have A_K3_2 := cell_later hW K3_2; clear hW; go_simp; try with_reducible rfl))
  all_goals try simp only [Act.put, List.setIfInBounds_toArray, List.set_cons_zero, List.set_cons_succ]
  all_goals first | (refine soft_pass rfl HS ?_) | (refine soft_read (v := ?_) rfl (fun W hW => ?_) ?_; rotate_left; (· go_simp; try with_reducible rfl))
  all_goals try simp only [Act.put, List.setIfInBounds_toArray, List.set_cons_zero, List.set_cons_succ]
  all_goals first | (refine soft_pass rfl HS ?_) | (refine soft_read (v := ?_) rfl (fun W hW => ?_) ?_; rotate_left; (· go_simp; try with_reducible rfl))
  all_goals try simp only [Act.put, List.setIfInBounds_toArray, List.set_cons_zero, List.set_cons_succ]
  all_goals first | (refine soft_pass rfl HS ?_; have hg19 := True.intro) | (refine soft_part (v := ?_) (b := ?_) rfl (fun W hW => ?_) ?_ (fun b hg19 => ?_); rotate_left; rotate_left; (· go_simp; try with_reducible rfl); (· with_reducible rfl); cases b; all_goals first | (exact Bool.noConfusion hg19) | (simp only [Bool.not_eq_true', Bool.not_eq_false'] at hg19) | skip)
  all_goals try simp only [Act.put, List.setIfInBounds_toArray, List.set_cons_zero, List.set_cons_succ]
  all_goals refine soft_nil ?_
  all_goals have EG := EB.trans (HS.mono EB.size)
  all_goals first
    | (have HT := Lib.hid (show (vMeas x y) = false by simp only [vMeas, Bool.not_true, Bool.not_false, Bool.and_true, Bool.true_and, Bool.and_false, Bool.false_and, Bool.or_true, Bool.true_or, Bool.or_false, Bool.false_or, Bool.not_not, hg5, hg12, hg19]); go_wp2; go_ret; exact ⟨ret_bool HT.out.symm, EG⟩)
    | (have HT := Lib.hid (show (vMeas x y) = true by simp only [vMeas, Bool.not_true, Bool.not_false, Bool.and_true, Bool.true_and, Bool.and_false, Bool.false_and, Bool.or_true, Bool.true_or, Bool.or_false, Bool.false_or, Bool.not_not, hg5, hg12, hg19]); go_wp2; go_ret; exact ⟨ret_bool HT.out.symm, EG⟩)
theorem idxOf_get {α : Type} {p : α → Bool} {x : List α} (h : ¬ idxOf p x < 0) : ∃ k : Nat, k < x.length ∧ idxOf p x = k := by
  unfold idxOf at *
  cases e : x.findIdx? p with
  | none => rw [e] at h; simp at h
  | some i => exact ⟨i, (List.findIdx?_eq_some_iff_getElem.1 e).1, rfl⟩
def failOf (l : List LMeasurement) (n : LName) (f : Int) : Int := if idxOf (isMeas n f) l < 0 then 0 else (l.getD (idxOf (isMeas n f) l).toNat ([], 0, 0)).2.2
theorem failOf_no {l : List LMeasurement} {n : LName} {f : Int} (h : idxOf (isMeas n f) l < 0) : failOf l n f = 0 := by unfold failOf; rw [if_pos h]
theorem failOf_yes {l : List LMeasurement} {n : LName} {f : Int} {k : Nat} (hk : k < l.length) (h : idxOf (isMeas n f) l = k) : failOf l n f = l[k].2.2 := by
  unfold failOf; rw [h, if_neg (by omega), Int.toNat_natCast, getD_get hk]
set_option maxHeartbeats 1000000 in
theorem specFailuresOf_w {w : World} {vl : Value} {l : List LMeasurement} (hl : (Rep.slice 76 RMeasurement).raw w [vl] l) {cn : List Value} {n : LName} (hn : RName.raw w cn n) {f : Int} :
    Calls Try.prog 20 #[vl, .agg cn.toArray, .int .i64 f] w fun e w' => e = .returned (.int .i64 (failOf l n f)) ∧ Below w.heap.size w w' := by
  have HN := Lib.hid hn
  have HL := Lib.hid hl
  obtain ⟨av, rfl, _⟩ := RName_raw hn
  obtain ⟨aa, capa, hva, la⟩ := Rep.len_raw hl; obtain rfl : vl = _ := by simpa using hva
  clear hn hva hl
  go_enter Try.func20, Try.ntmps20
  go_wp2_with fail
  refine (specl15Find_c (HL.out.below (by repeat (first | (with_reducible exact Below.refl _ _) | refine Below.alloc ?_ (by simp; try omega) _ | refine Below.drew ?_ | refine Below.setCell ?_ (by simp; try omega) _))) (HN.out.below (by repeat (first | (with_reducible exact Below.refl _ _) | refine Below.alloc ?_ (by simp; try omega) _ | refine Below.drew ?_ | refine Below.setCell ?_ (by simp; try omega) _)))).mono ?_
  rintro e w1 ⟨rfl, hb1⟩
  have EF : Below w.heap.size w w1 := Below.trans (by repeat (first | (with_reducible exact Below.refl _ _) | refine Below.alloc ?_ (by simp; try omega) _ | refine Below.drew ?_ | refine Below.setCell ?_ (by simp; try omega) _)) (hb1.mono (by simp))
  clear hb1
  by_cases h : idxOf (isMeas n f) l < 0
  · have HT := Lib.hid (failOf_no h)
    go_wp2
    go_ret
    exact ⟨ret_int HT.out.symm, EF⟩
  · obtain ⟨k, hk, hi⟩ := idxOf_get h
    have HT := Lib.hid (failOf_yes hk hi)
    rw [hi] at h ⊢
    clear hi
    obtain ⟨ba, offa, rfl, c0, c1, c2, hr, A0, A1, A2⟩ := Rep.get3 (HL.out.below EF) hk rfl
    obtain ⟨v0, he, _⟩ := RMeasurement_raw hr
    simp only [List.cons.injEq, and_true] at he
    obtain ⟨rfl, rfl, rfl⟩ := he
    clear hr
    generalize l[k] = y at *
    have hk2 := Int.ofNat_lt.2 hk
    go_wp2
    go_ret
    exact ⟨ret_int HT.out.symm, EF⟩
theorem specFailuresOf_c {w : World} {vl : Value} {l : List LMeasurement} (hl : (Rep.slice 76 RMeasurement).rd w [vl] l) {cn : List Value} {n : LName} (hn : RName.rd w cn n) {f : Int} (_ : -9223372036854775808 ≤ f ∧ f ≤ 9223372036854775807) :
    Calls Try.prog 20 #[vl, .agg cn.toArray, .int .i64 f] w fun e w' => e = .returned (.int .i64 (failOf l n f)) ∧ Below w.heap.size w w' := specFailuresOf_w hl.1 hn.1
set_option maxHeartbeats 1000000 in
theorem implFailuresOf_w {w : World} {vl : Value} {l : List LMeasurement} (hl : (Rep.slice 76 RMeasurement).raw w [vl] l) {cn : List Value} {n : LName} (hn : RName.raw w cn n) {f : Int} :
    Calls Try.prog 19 #[vl, .agg cn.toArray, .int .i64 f] w fun e w' => e = .returned (.int .i64 (failOf l n f)) ∧ Below w.heap.size w w' := by
  have HN := Lib.hid hn
  have HL := Lib.hid hl
  obtain ⟨av, rfl, _⟩ := RName_raw hn
  obtain ⟨aa, capa, hva, la⟩ := Rep.len_raw hl; obtain rfl : vl = _ := by simpa using hva
  clear hn hva hl
  go_enter Try.func19, Try.ntmps19
  go_wp2_with fail
  refine (implmeasuredAt_c (HL.out.below (by repeat (first | (with_reducible exact Below.refl _ _) | refine Below.alloc ?_ (by simp; try omega) _ | refine Below.drew ?_ | refine Below.setCell ?_ (by simp; try omega) _))) (HN.out.below (by repeat (first | (with_reducible exact Below.refl _ _) | refine Below.alloc ?_ (by simp; try omega) _ | refine Below.drew ?_ | refine Below.setCell ?_ (by simp; try omega) _)))).mono ?_
  rintro e w1 ⟨rfl, hb1⟩
  have EF : Below w.heap.size w w1 := Below.trans (by repeat (first | (with_reducible exact Below.refl _ _) | refine Below.alloc ?_ (by simp; try omega) _ | refine Below.drew ?_ | refine Below.setCell ?_ (by simp; try omega) _)) (hb1.mono (by simp))
  clear hb1
  by_cases h : idxOf (isMeas n f) l < 0
  · have HT := Lib.hid (failOf_no h)
    go_wp2
    go_ret
    exact ⟨ret_int HT.out.symm, EF⟩
  · obtain ⟨k, hk, hi⟩ := idxOf_get h
    have HT := Lib.hid (failOf_yes hk hi)
    rw [hi] at h ⊢
    clear hi
    obtain ⟨ba, offa, rfl, c0, c1, c2, hr, A0, A1, A2⟩ := Rep.get3 (HL.out.below EF) hk rfl
    obtain ⟨v0, he, _⟩ := RMeasurement_raw hr
    simp only [List.cons.injEq, and_true] at he
    obtain ⟨rfl, rfl, rfl⟩ := he
    clear hr
    generalize l[k] = y at *
    have hk2 := Int.ofNat_lt.2 hk
    go_wp2
    go_ret
    exact ⟨ret_int HT.out.symm, EF⟩
theorem implFailuresOf_c {w : World} {vl : Value} {l : List LMeasurement} (hl : (Rep.slice 76 RMeasurement).rd w [vl] l) {cn : List Value} {n : LName} (hn : RName.rd w cn n) {f : Int} (_ : -9223372036854775808 ≤ f ∧ f ≤ 9223372036854775807) :
    Calls Try.prog 19 #[vl, .agg cn.toArray, .int .i64 f] w fun e w' => e = .returned (.int .i64 (failOf l n f)) ∧ Below w.heap.size w w' := implFailuresOf_w hl.1 hn.1
theorem callable_implEqualMeasurements1_c : Callable Try.prog 74 := callable_of Try.func74 (by kernel_rfl) (by kernel_rfl)
set_option maxHeartbeats 400000 in
theorem implEqualMeasurements_w {w : World} {va vb : Value} {a b : List LMeasurement} (a_0 : (Rep.slice 76 RMeasurement).raw w [va] a) (b_0 : (Rep.slice 76 RMeasurement).raw w [vb] b) :
    Calls Try.prog 18 #[va, vb] w fun e w' => e = .returned (.bool (decide (a = b))) ∧ Below w.heap.size w w' := by
  go_enter Try.func18, Try.ntmps18
  go_wp2_with fail
  refine (EqualFunc_Measurement_c callable_implEqualMeasurements1_c a_0 b_0 ?_).mono ?_
  · intro wr hb cs ds x y hx hy
    have := implEqualMeasurements1_c hx hy
    rw [vMeas_eq] at this
    exact this
  rintro e w1 ⟨rfl, hb1⟩
  go_wp2
  go_ret
  exact ⟨rfl, hb1⟩
theorem implEqualMeasurements_c {w : World} {va : Value} {a : (List LMeasurement)} (ha : (Rep.slice 76 RMeasurement).rd w [va] a) {vb : Value} {b : (List LMeasurement)} (hb : (Rep.slice 76 RMeasurement).rd w [vb] b) :
    Calls Try.prog 18 #[va, vb] w fun e w' => e = .returned (.bool (decide (a = b))) ∧ Below w.heap.size w w' := implEqualMeasurements_w ha.1 hb.1
end Go.Proofs.Ytikjbdfkdkijkaa

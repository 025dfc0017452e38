/-
  Requesters that are valid: in order, in range.
-/
import Derived.Test.YtcnhfggfgknooaaGreatLib
import Derived.Test.YtcnhfggfgknooaaGreatValid
import Derived.Test.YtcnhfggfgknooaaGreatTake2
import Derived.Test.YtcnhfggfgknooaaGreatSoft2
import Derived.Test.YtcnhfggfgknooaaGreatNum
import Derived.IntWalk
import Derived.Deep.Cut
namespace Go.Proofs.YtcnhfggfgknooaaGreat
open Go.RowKit
set_option linter.unusedVariables false
set_option linter.unusedSimpArgs false
set_option linter.unnecessarySimpa false
def okA (y x : LRequester) : Bool := !((!inR x.1 0 6 || !inR x.2.1 0 1000000) || decide (x.1 ≤ y.1))
def okA0 (x : LRequester) : Bool := !(!inR x.1 0 6 || !inR x.2.1 0 1000000)
def okAsk (l : List LRequester) (k : Nat) (x : LRequester) : Bool := if 0 < k then okA (l.getD (k - 1) (0, 0, 0)) x else okA0 x
def vAsk (l : List LRequester) : Bool := allB (fun j => okAsk l j (l.getD j (0, 0, 0))) l.length && decide (0 < l.length)
theorem vAsk_bad {l : List LRequester} {k : Nat} (h : k < l.length) (q : okAsk l k l[k] = false) : vAsk l = false := by
  unfold vAsk; rw [allB_bad h (by (try simp only); rw [getD_get h]; exact q)]; rfl
theorem vAsk_next {l : List LRequester} {k : Nat} (h : k < l.length) (q : okAsk l k l[k] = true) (a : allB (fun j => okAsk l j (l.getD j (0, 0, 0))) k = true) : allB (fun j => okAsk l j (l.getD j (0, 0, 0))) (k + 1) = true :=
  allB_succ a (by (try simp only); rw [getD_get h]; exact q)
theorem vAsk_good {l : List LRequester} {k : Nat} (q : allB (fun j => okAsk l j (l.getD j (0, 0, 0))) k = true) (h : ¬ k < l.length) (hk : k ≤ l.length) : vAsk l = decide (0 < l.length) := by
  obtain rfl : k = l.length := by omega
  unfold vAsk; rw [q]; rfl
theorem okAsk_zero {l : List LRequester} {k : Nat} {x : LRequester} (h : ¬ 0 < k) : okAsk l k x = okA0 x := by unfold okAsk; rw [if_neg h]
theorem okAsk_pos {l : List LRequester} {k j : Nat} {x : LRequester} (h : 0 < k) (e : k - 1 = j) (hj : j < l.length) : okAsk l k x = okA l[j] x := by unfold okAsk; rw [if_pos h, e, getD_get hj]
set_option maxRecDepth 100000 in
set_option maxHeartbeats 4000000 in
theorem specl13Askers_c {w : World} {vl : Value} {l : List LRequester} (hl : (Rep.slice 166 RRequester).raw w [vl] l) :
    Calls Tryz.prog 117 #[vl] w fun e w' => e = .returned (.bool (vAsk l)) ∧ Below w.heap.size w w' := by
  obtain ⟨al, pl, el, ll⟩ := Rep.len_raw hl; obtain rfl : vl = _ := by simpa using el
  clear el
  go_enter Tryz.func117, Tryz.ntmps117
  go_wp2
  go_loopw [3] (fun i wr => ∃ k : Nat, k ≤ l.length ∧ i = .int .i64 k ∧ Hid (allB (fun j => okAsk l j (l.getD j (0, 0, 0))) k = true) ∧ Below w.heap.size w wr) (fun i _ => l.length - (intOf i).toNat)
  case atStart => exact ⟨0, Nat.zero_le _, rfl, Lib.hid rfl, Below.refl _ _⟩
  case round =>
    obtain ⟨k, hk, rfl, HN, hbel⟩ := hrel
    by_cases hlt : k < l.length
    · have hkI := Int.ofNat_lt.2 hlt
      have hk0 := Int.natCast_nonneg k
      obtain ⟨qb, qo, rfl, qc0, qc1, qc2, qr, Aq0, Aq1, Aq2⟩ := Rep.get3 (hl.below hbel) (i := k) (by omega) rfl
      have hb := fun q => vAsk_bad hlt q
      have hxx := fun q => vAsk_next hlt q HN.out
      by_cases h0 : 0 < k
      · obtain ⟨j, hj⟩ : ∃ j, k - 1 = j := ⟨_, rfl⟩
        have hjl : j < l.length := by omega
        have HO := Lib.hid (okAsk_pos (l := l) (x := l[k]) h0 hj hjl)
        have hsub : (k : Int) - 1 = (j : Int) := by omega
        obtain ⟨yb, yo, yE, yc0, yc1, yc2, yr, Ay0, Ay1, Ay2⟩ := Rep.get3 (hl.below hbel) hjl rfl
        simp only [Option.some.injEq, Addr.mk.injEq, and_true] at yE
        obtain ⟨rfl, rfl⟩ := yE
        generalize l[j] = y at *
        obtain ⟨yhe, y_0, y_1, y_2⟩ := RRequester_raw yr
        simp only [List.cons.injEq, and_true] at yhe
        obtain ⟨rfl, rfl, rfl⟩ := yhe
        clear yr
        have hw : IntKind.i64.wrap (j : Int) = j := IntWalk.i64_in _ (by omega)
        have hj0 := Int.natCast_nonneg j
        have hj2 := Int.ofNat_lt.2 hjl
        clear hj
        have hp : decide ((k : Int) > 0) = true := by simp; omega
        have hp2 : decide (0 < k) = true := by simpa using h0
        have hp3 : (0 : Int) < k := by omega
        generalize l[k] = x at *
        have HB := Lib.hid hb; have HX := Lib.hid hxx; clear hb hxx
        obtain ⟨qhe, q_0, q_1, q_2⟩ := RRequester_raw qr
        simp only [List.cons.injEq, and_true] at qhe
        obtain ⟨rfl, rfl, rfl⟩ := qhe
        go_upto_region 4 with fail
        refine wp_region_soft (fun W => Below wr.heap.size wr W) [true, true, true, true, true, false, true, true, true, true, true, true, true, false, true, true, true, true, true, true, true, true, true, true, true, true, true, true, true, true, true, true, true, true] (by kernel_rfl) (by kernel_rfl) (fun c a d v w h => by cases d <;> exact h) ((Below.refl _ _).drew) ?_
        intro wS HS
        iterate 4
         all_goals first | (refine soft_pass rfl HS ?_) | (refine soft_read (v := ?_) rfl (fun W hW => ?_) ?_; rotate_left; (· go_simp; try with_reducible rfl))
         all_goals try simp only [Act.put, List.setIfInBounds_toArray, List.set_cons_zero, List.set_cons_succ]
        all_goals first | (refine soft_pass rfl HS ?_) | (refine soft_read (v := ?_) rfl (fun W hW => ?_) ?_; rotate_left; (· have A_Aq0 := cell_later hW Aq0; have A_Aq1 := cell_later hW Aq1; have A_Aq2 := cell_later hW Aq2; have A_Ay0 := cell_later hW Ay0; clear hW; go_simp; try with_reducible rfl))
        all_goals try simp only [Act.put, List.setIfInBounds_toArray, List.set_cons_zero, List.set_cons_succ]
        all_goals first | (refine soft_pass rfl HS ?_) | (refine soft_do rfl (fun K hK => ?_); go_simp; refine (specl1In_c).mono ?_; rintro e wS1 ⟨rfl, hwS⟩; obtain rfl := hwS.symm; refine hK _ _ HS ?_; clear hK K)
        all_goals try simp only [Act.put, List.setIfInBounds_toArray, List.set_cons_zero, List.set_cons_succ]
        all_goals first | (refine soft_pass rfl HS ?_) | (refine soft_read (v := ?_) rfl (fun W hW => ?_) ?_; rotate_left; (· go_simp; try with_reducible rfl))
        all_goals try simp only [Act.put, List.setIfInBounds_toArray, List.set_cons_zero, List.set_cons_succ]
        all_goals first | (refine soft_pass rfl HS ?_; have hg7 := True.intro) | (refine soft_part (v := ?_) (b := ?_) rfl (fun W hW => ?_) ?_ (fun b hg7 => ?_); rotate_left; rotate_left; (· go_simp; try with_reducible rfl); (· with_reducible rfl); cases b; all_goals first | (exact Bool.noConfusion hg7) | (simp only [Bool.not_eq_true', Bool.not_eq_false'] at hg7) | skip)
        iterate 4
         all_goals try simp only [Act.put, List.setIfInBounds_toArray, List.set_cons_zero, List.set_cons_succ]
         all_goals first | (refine soft_pass rfl HS ?_) | (refine soft_read (v := ?_) rfl (fun W hW => ?_) ?_; rotate_left; (· go_simp; try with_reducible rfl))
        all_goals try simp only [Act.put, List.setIfInBounds_toArray, List.set_cons_zero, List.set_cons_succ]
        all_goals first | (refine soft_pass rfl HS ?_) | (refine soft_read (v := ?_) rfl (fun W hW => ?_) ?_; rotate_left; (· have A_Aq0 := cell_later hW Aq0; have A_Aq1 := cell_later hW Aq1; have A_Aq2 := cell_later hW Aq2; have A_Ay0 := cell_later hW Ay0; clear hW; go_simp; try with_reducible rfl))
        all_goals try simp only [Act.put, List.setIfInBounds_toArray, List.set_cons_zero, List.set_cons_succ]
        all_goals first | (refine soft_pass rfl HS ?_) | (refine soft_do rfl (fun K hK => ?_); go_simp; refine (specl1In_c).mono ?_; rintro e wS1 ⟨rfl, hwS⟩; obtain rfl := hwS.symm; refine hK _ _ HS ?_; clear hK K)
        iterate 2
         all_goals try simp only [Act.put, List.setIfInBounds_toArray, List.set_cons_zero, List.set_cons_succ]
         all_goals first | (refine soft_pass rfl HS ?_) | (refine soft_read (v := ?_) rfl (fun W hW => ?_) ?_; rotate_left; (· go_simp; try with_reducible rfl))
        all_goals try simp only [Act.put, List.setIfInBounds_toArray, List.set_cons_zero, List.set_cons_succ]
        all_goals first | (refine soft_pass rfl HS ?_; have hg16 := True.intro) | (refine soft_part (v := ?_) (b := ?_) rfl (fun W hW => ?_) ?_ (fun b hg16 => ?_); rotate_left; rotate_left; (· go_simp; try with_reducible rfl); (· with_reducible rfl); cases b; all_goals first | (exact Bool.noConfusion hg16) | (simp only [Bool.not_eq_true', Bool.not_eq_false'] at hg16) | skip)
        iterate 2
         all_goals try simp only [Act.put, List.setIfInBounds_toArray, List.set_cons_zero, List.set_cons_succ]
         all_goals first | (refine soft_pass rfl HS ?_) | (refine soft_read (v := ?_) rfl (fun W hW => ?_) ?_; rotate_left; (· go_simp; try with_reducible rfl))
        all_goals try simp only [Act.put, List.setIfInBounds_toArray, List.set_cons_zero, List.set_cons_succ]
        all_goals first | (refine soft_pass rfl HS ?_; have hg19 := True.intro) | (refine soft_part (v := ?_) (b := ?_) rfl (fun W hW => ?_) ?_ (fun b hg19 => ?_); rotate_left; rotate_left; (· go_simp; try with_reducible rfl); (· with_reducible rfl); cases b; all_goals first | (exact Bool.noConfusion hg19) | (simp only [Bool.not_eq_true', Bool.not_eq_false'] at hg19) | skip)
        iterate 5
         all_goals try simp only [Act.put, List.setIfInBounds_toArray, List.set_cons_zero, List.set_cons_succ]
         all_goals first | (refine soft_pass rfl HS ?_) | (refine soft_read (v := ?_) rfl (fun W hW => ?_) ?_; rotate_left; (· go_simp; try with_reducible rfl))
        all_goals try simp only [Act.put, List.setIfInBounds_toArray, List.set_cons_zero, List.set_cons_succ]
        all_goals first | (refine soft_pass rfl HS ?_) | (refine soft_read (v := ?_) rfl (fun W hW => ?_) ?_; rotate_left; (· have A_Aq0 := cell_later hW Aq0; have A_Aq1 := cell_later hW Aq1; have A_Aq2 := cell_later hW Aq2; have A_Ay0 := cell_later hW Ay0; clear hW; go_simp; try with_reducible rfl))
        iterate 4
         all_goals try simp only [Act.put, List.setIfInBounds_toArray, List.set_cons_zero, List.set_cons_succ]
         all_goals first | (refine soft_pass rfl HS ?_) | (refine soft_read (v := ?_) rfl (fun W hW => ?_) ?_; rotate_left; (· go_simp; try with_reducible rfl))
        all_goals try simp only [Act.put, List.setIfInBounds_toArray, List.set_cons_zero, List.set_cons_succ]
        all_goals first | (refine soft_pass rfl HS ?_) | (refine soft_read (v := ?_) rfl (fun W hW => ?_) ?_; rotate_left; (· have A_Aq0 := cell_later hW Aq0; have A_Aq1 := cell_later hW Aq1; have A_Aq2 := cell_later hW Aq2; have A_Ay0 := cell_later hW Ay0; clear hW; go_simp; try with_reducible rfl))
        iterate 2
         all_goals try simp only [Act.put, List.setIfInBounds_toArray, List.set_cons_zero, List.set_cons_succ]
         all_goals first | (refine soft_pass rfl HS ?_) | (refine soft_read (v := ?_) rfl (fun W hW => ?_) ?_; rotate_left; (· go_simp; try with_reducible rfl))
        all_goals try simp only [Act.put, List.setIfInBounds_toArray, List.set_cons_zero, List.set_cons_succ]
        all_goals first | (refine soft_pass rfl HS ?_; have hg33 := True.intro) | (refine soft_part (v := ?_) (b := ?_) rfl (fun W hW => ?_) ?_ (fun b hg33 => ?_); rotate_left; rotate_left; (· go_simp; try with_reducible rfl); (· with_reducible rfl); cases b; all_goals first | (exact Bool.noConfusion hg33) | (simp only [Bool.not_eq_true', Bool.not_eq_false'] at hg33) | skip)
        all_goals try simp only [Act.put, List.setIfInBounds_toArray, List.set_cons_zero, List.set_cons_succ]
        all_goals refine soft_nil ?_
        all_goals have EG := hbel.trans (HS.mono hbel.size)
        all_goals first
          | (have HT := Lib.hid (HB.out (show _ = false by rw [HO.out]; simp only [okA, Bool.not_true, Bool.not_false, Bool.and_true, Bool.true_and, Bool.and_false, Bool.false_and, Bool.or_true, Bool.true_or, Bool.or_false, Bool.false_or, Bool.not_not, ge_iff_le, hg7, hg16, hg19, hg33])); clear HB HX HN HO; go_wp2; go_ret; exact ⟨ret_bool HT.out.symm, EG⟩)
          | (have HT := Lib.hid (HX.out (show _ = true by rw [HO.out]; simp only [okA, Bool.not_true, Bool.not_false, Bool.and_true, Bool.true_and, Bool.and_false, Bool.false_and, Bool.or_true, Bool.true_or, Bool.or_false, Bool.false_or, Bool.not_not, ge_iff_le, hg7, hg16, hg19, hg33])); clear HB HX HN HO; go_wp2; go_roundw; (case rel => exact ⟨k + 1, by omega, by go_num, HT, EG⟩); (case measure => simp [intOf]; omega))
      · have HO := Lib.hid (okAsk_zero (l := l) (x := l[k]) h0)
        have hp : decide ((k : Int) > 0) = false := by simp; omega
        have hp2 : decide (0 < k) = false := by simpa using h0
        have hp3 : ¬ (0 : Int) < k := by omega
        generalize l[k] = x at *
        have HB := Lib.hid hb; have HX := Lib.hid hxx; clear hb hxx
        obtain ⟨qhe, q_0, q_1, q_2⟩ := RRequester_raw qr
        simp only [List.cons.injEq, and_true] at qhe
        obtain ⟨rfl, rfl, rfl⟩ := qhe
        go_upto_region 4 with fail
        refine wp_region_soft (fun W => Below wr.heap.size wr W) [true, true, true, true, true, false, true, true, true, true, true, true, true, false, true, true, true, true, true, true, true, true, true, true, true, true, true, true, true, true, true, true, true, true] (by kernel_rfl) (by kernel_rfl) (fun c a d v w h => by cases d <;> exact h) ((Below.refl _ _).drew) ?_
        intro wS HS
        iterate 4
         all_goals first | (refine soft_pass rfl HS ?_) | (refine soft_read (v := ?_) rfl (fun W hW => ?_) ?_; rotate_left; (· go_simp; try with_reducible rfl))
         all_goals try simp only [Act.put, List.setIfInBounds_toArray, List.set_cons_zero, List.set_cons_succ]
        all_goals first | (refine soft_pass rfl HS ?_) | (refine soft_read (v := ?_) rfl (fun W hW => ?_) ?_; rotate_left; (· have A_Aq0 := cell_later hW Aq0; have A_Aq1 := cell_later hW Aq1; have A_Aq2 := cell_later hW Aq2; clear hW; go_simp; try with_reducible rfl))
        all_goals try simp only [Act.put, List.setIfInBounds_toArray, List.set_cons_zero, List.set_cons_succ]
        all_goals first | (refine soft_pass rfl HS ?_) | (refine soft_do rfl (fun K hK => ?_); go_simp; refine (specl1In_c).mono ?_; rintro e wS1 ⟨rfl, hwS⟩; obtain rfl := hwS.symm; refine hK _ _ HS ?_; clear hK K)
        all_goals try simp only [Act.put, List.setIfInBounds_toArray, List.set_cons_zero, List.set_cons_succ]
        all_goals first | (refine soft_pass rfl HS ?_) | (refine soft_read (v := ?_) rfl (fun W hW => ?_) ?_; rotate_left; (· go_simp; try with_reducible rfl))
        all_goals try simp only [Act.put, List.setIfInBounds_toArray, List.set_cons_zero, List.set_cons_succ]
        all_goals first | (refine soft_pass rfl HS ?_; have hg7 := True.intro) | (refine soft_part (v := ?_) (b := ?_) rfl (fun W hW => ?_) ?_ (fun b hg7 => ?_); rotate_left; rotate_left; (· go_simp; try with_reducible rfl); (· with_reducible rfl); cases b; all_goals first | (exact Bool.noConfusion hg7) | (simp only [Bool.not_eq_true', Bool.not_eq_false'] at hg7) | skip)
        iterate 4
         all_goals try simp only [Act.put, List.setIfInBounds_toArray, List.set_cons_zero, List.set_cons_succ]
         all_goals first | (refine soft_pass rfl HS ?_) | (refine soft_read (v := ?_) rfl (fun W hW => ?_) ?_; rotate_left; (· go_simp; try with_reducible rfl))
        all_goals try simp only [Act.put, List.setIfInBounds_toArray, List.set_cons_zero, List.set_cons_succ]
        all_goals first | (refine soft_pass rfl HS ?_) | (refine soft_read (v := ?_) rfl (fun W hW => ?_) ?_; rotate_left; (· have A_Aq0 := cell_later hW Aq0; have A_Aq1 := cell_later hW Aq1; have A_Aq2 := cell_later hW Aq2; clear hW; go_simp; try with_reducible rfl))
        all_goals try simp only [Act.put, List.setIfInBounds_toArray, List.set_cons_zero, List.set_cons_succ]
        all_goals first | (refine soft_pass rfl HS ?_) | (refine soft_do rfl (fun K hK => ?_); go_simp; refine (specl1In_c).mono ?_; rintro e wS1 ⟨rfl, hwS⟩; obtain rfl := hwS.symm; refine hK _ _ HS ?_; clear hK K)
        iterate 2
         all_goals try simp only [Act.put, List.setIfInBounds_toArray, List.set_cons_zero, List.set_cons_succ]
         all_goals first | (refine soft_pass rfl HS ?_) | (refine soft_read (v := ?_) rfl (fun W hW => ?_) ?_; rotate_left; (· go_simp; try with_reducible rfl))
        all_goals try simp only [Act.put, List.setIfInBounds_toArray, List.set_cons_zero, List.set_cons_succ]
        all_goals first | (refine soft_pass rfl HS ?_; have hg16 := True.intro) | (refine soft_part (v := ?_) (b := ?_) rfl (fun W hW => ?_) ?_ (fun b hg16 => ?_); rotate_left; rotate_left; (· go_simp; try with_reducible rfl); (· with_reducible rfl); cases b; all_goals first | (exact Bool.noConfusion hg16) | (simp only [Bool.not_eq_true', Bool.not_eq_false'] at hg16) | skip)
        iterate 2
         all_goals try simp only [Act.put, List.setIfInBounds_toArray, List.set_cons_zero, List.set_cons_succ]
         all_goals first | (refine soft_pass rfl HS ?_) | (refine soft_read (v := ?_) rfl (fun W hW => ?_) ?_; rotate_left; (· go_simp; try with_reducible rfl))
        all_goals try simp only [Act.put, List.setIfInBounds_toArray, List.set_cons_zero, List.set_cons_succ]
        all_goals first | (refine soft_pass rfl HS ?_; have hg19 := True.intro) | (refine soft_part (v := ?_) (b := ?_) rfl (fun W hW => ?_) ?_ (fun b hg19 => ?_); rotate_left; rotate_left; (· go_simp; try with_reducible rfl); (· with_reducible rfl); cases b; all_goals first | (exact Bool.noConfusion hg19) | (simp only [Bool.not_eq_true', Bool.not_eq_false'] at hg19) | skip)
        iterate 5
         all_goals try simp only [Act.put, List.setIfInBounds_toArray, List.set_cons_zero, List.set_cons_succ]
         all_goals first | (refine soft_pass rfl HS ?_) | (refine soft_read (v := ?_) rfl (fun W hW => ?_) ?_; rotate_left; (· go_simp; try with_reducible rfl))
        all_goals try simp only [Act.put, List.setIfInBounds_toArray, List.set_cons_zero, List.set_cons_succ]
        all_goals first | (refine soft_pass rfl HS ?_) | (refine soft_read (v := ?_) rfl (fun W hW => ?_) ?_; rotate_left; (· have A_Aq0 := cell_later hW Aq0; have A_Aq1 := cell_later hW Aq1; have A_Aq2 := cell_later hW Aq2; clear hW; go_simp; try with_reducible rfl))
        iterate 4
         all_goals try simp only [Act.put, List.setIfInBounds_toArray, List.set_cons_zero, List.set_cons_succ]
         all_goals first | (refine soft_pass rfl HS ?_) | (refine soft_read (v := ?_) rfl (fun W hW => ?_) ?_; rotate_left; (· go_simp; try with_reducible rfl))
        all_goals try simp only [Act.put, List.setIfInBounds_toArray, List.set_cons_zero, List.set_cons_succ]
        all_goals first | (refine soft_pass rfl HS ?_) | (refine soft_read (v := ?_) rfl (fun W hW => ?_) ?_; rotate_left; (· have A_Aq0 := cell_later hW Aq0; have A_Aq1 := cell_later hW Aq1; have A_Aq2 := cell_later hW Aq2; clear hW; go_simp; try with_reducible rfl))
        iterate 2
         all_goals try simp only [Act.put, List.setIfInBounds_toArray, List.set_cons_zero, List.set_cons_succ]
         all_goals first | (refine soft_pass rfl HS ?_) | (refine soft_read (v := ?_) rfl (fun W hW => ?_) ?_; rotate_left; (· go_simp; try with_reducible rfl))
        all_goals try simp only [Act.put, List.setIfInBounds_toArray, List.set_cons_zero, List.set_cons_succ]
        all_goals first | (refine soft_pass rfl HS ?_; have hg33 := True.intro) | (refine soft_part (v := ?_) (b := ?_) rfl (fun W hW => ?_) ?_ (fun b hg33 => ?_); rotate_left; rotate_left; (· go_simp; try with_reducible rfl); (· with_reducible rfl); cases b; all_goals first | (exact Bool.noConfusion hg33) | (simp only [Bool.not_eq_true', Bool.not_eq_false'] at hg33) | skip)
        all_goals try simp only [Act.put, List.setIfInBounds_toArray, List.set_cons_zero, List.set_cons_succ]
        all_goals refine soft_nil ?_
        all_goals have EG := hbel.trans (HS.mono hbel.size)
        all_goals first
          | (have HT := Lib.hid (HB.out (show _ = false by rw [HO.out]; simp only [okA0, Bool.not_true, Bool.not_false, Bool.and_true, Bool.true_and, Bool.and_false, Bool.false_and, Bool.or_true, Bool.true_or, Bool.or_false, Bool.false_or, Bool.not_not, ge_iff_le, hg7, hg16, hg19, hg33])); clear HB HX HN HO; go_wp2; go_ret; exact ⟨ret_bool HT.out.symm, EG⟩)
          | (have HT := Lib.hid (HX.out (show _ = true by rw [HO.out]; simp only [okA0, Bool.not_true, Bool.not_false, Bool.and_true, Bool.true_and, Bool.and_false, Bool.false_and, Bool.or_true, Bool.true_or, Bool.or_false, Bool.false_or, Bool.not_not, ge_iff_le, hg7, hg16, hg19, hg33])); clear HB HX HN HO; go_wp2; go_roundw; (case rel => exact ⟨k + 1, by omega, by go_num, HT, EG⟩); (case measure => simp [intOf]; omega))
    · have HT := Lib.hid (vAsk_good HN.out hlt hk)
      have hkn : ¬ (k : Int) < l.length := by omega
      go_wp2
      go_ret
      exact ⟨ret_bool (HT.out.trans (by simp)).symm, hbel⟩
end Go.Proofs.YtcnhfggfgknooaaGreat

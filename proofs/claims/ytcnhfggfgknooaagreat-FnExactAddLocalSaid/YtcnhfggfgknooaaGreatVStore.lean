/-
  Content stores that are valid.
-/
import Derived.Test.YtcnhfggfgknooaaGreatFindC
import Derived.Test.YtcnhfggfgknooaaGreatVData
import Derived.Test.YtcnhfggfgknooaaGreatTake2
import Derived.IntWalk
import Derived.Deep.Cut
namespace Go.Proofs.YtcnhfggfgknooaaGreat
open Go.RowKit
set_option linter.unusedVariables false
set_option linter.unusedSimpArgs false
set_option linter.unnecessarySimpa false
def void0 : LCacheEntry := (([], [], [], 0, 0), 0)
def okCe (l : List LCacheEntry) (k : Nat) (x : LCacheEntry) : Bool := !(!okData x.1 || decide (idxOf (isC x.1.1) (l.take k) ≥ 0))
def vStore (x : LContentStore) : Bool := allB (fun j => okCe x.2 j (x.2.getD j void0)) x.2.length && (inR x.1 0 8 && decide ((x.2.length : Int) ≤ x.1))
theorem vStore_bad {c : Int} {l : List LCacheEntry} {k : Nat} (h : k < l.length) (q : okCe l k l[k] = false) : vStore (c, l) = false := by
  unfold vStore; rw [allB_bad h (by (try simp only); rw [getD_get h]; exact q)]; rfl
theorem vStore_next {l : List LCacheEntry} {k : Nat} (h : k < l.length) (q : okCe l k l[k] = true) (a : allB (fun j => okCe l j (l.getD j void0)) k = true) : allB (fun j => okCe l j (l.getD j void0)) (k + 1) = true :=
  allB_succ a (by (try simp only); rw [getD_get h]; exact q)
theorem vStore_good {c : Int} {l : List LCacheEntry} {k : Nat} (q : allB (fun j => okCe l j (l.getD j void0)) k = true) (h : ¬ k < l.length) (hk : k ≤ l.length) : vStore (c, l) = (inR c 0 8 && decide ((l.length : Int) ≤ c)) := by
  obtain rfl : k = l.length := by omega
  unfold vStore; rw [q]; rfl
set_option maxRecDepth 100000 in
set_option maxHeartbeats 4000000 in
theorem specValidContentStore_w {w : World} {cs : List Value} {x : LContentStore} (hx : RContentStore.raw w cs x) :
    Calls Tryz.prog 74 #[.agg cs.toArray] w fun e w' => e = .returned (.bool (vStore x)) ∧ Below w.heap.size w w' := by
  obtain ⟨sv, rfl, s_r, hl⟩ := RContentStore_raw hx
  obtain ⟨aa, pl, hva, la⟩ := Rep.len_raw hl; obtain rfl : sv = _ := by simpa using hva
  obtain ⟨c, l⟩ := x
  replace hl : (Rep.slice 152 RCacheEntry).raw w [.slice aa l.length pl] l := hl
  have hcap := Rep.cap_raw hl
  replace la : l.length ≤ 9223372036854775807 := la
  have HRG := Lib.hid s_r
  clear hva hx s_r
  go_enter Tryz.func74, Tryz.ntmps74
  go_wp2
  generalize hwB : World.alloc w _ = wB
  have EB : Below w.heap.size w wB := by rw [← hwB]; exact (by repeat (first | (with_reducible exact Below.refl _ _) | refine Below.alloc ?_ (by simp; try omega) _ | refine Below.drew ?_ | refine Below.setCell ?_ (by simp; try omega) _))
  have K0 : wB.cell? ⟨w.heap.size, 0, none⟩ = some (.int .i64 c) := by rw [← hwB]; simp [go_sem]
  have K1 : wB.cell? ⟨w.heap.size, 1, none⟩ = some (.slice aa l.length pl) := by rw [← hwB]; simp [go_sem]
  clear hwB
  replace hl := hl.below EB
  go_loopw [3] (fun i wr => ∃ k : Nat, k ≤ l.length ∧ i = .int .i64 k ∧ Hid (allB (fun j => okCe l j (l.getD j void0)) k = true) ∧ Below wB.heap.size wB wr) (fun i _ => l.length - (intOf i).toNat)
  case atStart => exact ⟨0, Nat.zero_le _, rfl, Lib.hid rfl, Below.refl _ _⟩
  case round =>
    obtain ⟨k, hk, rfl, HN, hbel⟩ := hrel
    replace K0 := cell_later hbel K0
    replace K1 := cell_later hbel K1
    by_cases hlt : k < l.length
    · have HTK := Lib.hid (Rep.take_raw (hl.below hbel) hk)
      have hb := fun q => vStore_bad (c := c) hlt q
      have hxx := fun q => vStore_next hlt q HN.out
      obtain ⟨qb, qo, rfl, qc0, qc1, qc2, qc3, qc4, qc5, qr, Aq0, Aq1, Aq2, Aq3, Aq4, Aq5⟩ := Rep.get6 (hl.below hbel) (i := k) (by omega) rfl
      generalize l[k] = x at *
      have HB := Lib.hid hb; have HX := Lib.hid hxx; clear hb hxx
      obtain ⟨qv0, qv1, qv2, qhe, q_0, q_1, q_2, q_3, q_4, q_5, q_6, q_7, q_8⟩ := RCacheEntry_raw qr
      simp only [List.cons.injEq, and_true] at qhe
      obtain ⟨rfl, rfl, rfl, rfl, rfl, rfl⟩ := qhe
      obtain ⟨qa0, qp0, qh0, ql0⟩ := Rep.len_raw q_2; obtain rfl : qc0 = _ := by simpa using qh0
      clear qh0
      obtain ⟨qa1, qp1, qh1, ql1⟩ := Rep.len_raw q_3; obtain rfl : qc1 = _ := by simpa using qh1
      clear qh1
      obtain ⟨qa2, qp2, qh2, ql2⟩ := Rep.len_raw q_5; obtain rfl : qc2 = _ := by simpa using qh2
      clear qh2
      have hkI := Int.ofNat_lt.2 hlt
      have hk0 := Int.natCast_nonneg k
      have hkc : (k : Int) ≤ (pl : Int) := by omega
      have hkd : k ≤ pl := by omega
      go_upto_region 4 with fail
      refine wp_region_soft (fun W => Below wr.heap.size wr W) [true, true, true, true, true, true, false, true, true, true, true, true, true, true, true, true, true, true, true, true, false, true, true] (by kernel_rfl) (by kernel_rfl) (fun c a d v w h => by cases d <;> exact h) ((Below.refl _ _).drew) ?_
      intro wS HS
      all_goals first | (refine soft_pass rfl HS ?_) | (refine soft_read (v := ?_) rfl (fun W hW => ?_) ?_; rotate_left; (· go_simp; try with_reducible rfl))
      all_goals try simp only [Act.put, List.setIfInBounds_toArray, List.set_cons_zero, List.set_cons_succ]
      all_goals first | (refine soft_pass rfl HS ?_) | (refine soft_read (v := ?_) rfl (fun W hW => ?_) ?_; rotate_left; (· have A_K0 := cell_later hW K0; have A_K1 := cell_later hW K1; have A_Aq0 := cell_later hW Aq0; have A_Aq1 := cell_later hW Aq1; have A_Aq2 := cell_later hW Aq2; have A_Aq3 := cell_later hW Aq3; have A_Aq4 := cell_later hW Aq4; have A_Aq5 := cell_later hW Aq5; clear hW; go_simp; try with_reducible rfl))
      iterate 3
       all_goals try simp only [Act.put, List.setIfInBounds_toArray, List.set_cons_zero, List.set_cons_succ]
       all_goals first | (refine soft_pass rfl HS ?_) | (refine soft_read (v := ?_) rfl (fun W hW => ?_) ?_; rotate_left; (· go_simp; try with_reducible rfl))
      all_goals try simp only [Act.put, List.setIfInBounds_toArray, List.set_cons_zero, List.set_cons_succ]
      all_goals first | (refine soft_pass rfl HS ?_) | (refine soft_read (v := ?_) rfl (fun W hW => ?_) ?_; rotate_left; (· have A_K0 := cell_later hW K0; have A_K1 := cell_later hW K1; have A_Aq0 := cell_later hW Aq0; have A_Aq1 := cell_later hW Aq1; have A_Aq2 := cell_later hW Aq2; have A_Aq3 := cell_later hW Aq3; have A_Aq4 := cell_later hW Aq4; have A_Aq5 := cell_later hW Aq5; clear hW; go_simp; try with_reducible rfl))
      all_goals try simp only [Act.put, List.setIfInBounds_toArray, List.set_cons_zero, List.set_cons_succ]
      all_goals first | (refine soft_pass rfl HS ?_) | (refine soft_do rfl (fun K hK => ?_); go_simp; refine (specValidData_w (Rep.raw.below q_0 HS)).mono ?_; rintro e wS1 ⟨rfl, hbS⟩; replace HS := HS.trans (hbS.mono HS.size); refine hK _ _ HS ?_; clear hK K hbS)
      all_goals try simp only [Act.put, List.setIfInBounds_toArray, List.set_cons_zero, List.set_cons_succ]
      all_goals first | (refine soft_pass rfl HS ?_) | (refine soft_read (v := ?_) rfl (fun W hW => ?_) ?_; rotate_left; (· go_simp; try with_reducible rfl))
      all_goals try simp only [Act.put, List.setIfInBounds_toArray, List.set_cons_zero, List.set_cons_succ]
      all_goals first | (refine soft_pass rfl HS ?_; have hg8 := True.intro) | (refine soft_part (v := ?_) (b := ?_) rfl (fun W hW => ?_) ?_ (fun b hg8 => ?_); rotate_left; rotate_left; (· go_simp; try with_reducible rfl); (· with_reducible rfl); cases b; all_goals first | (exact Bool.noConfusion hg8) | (simp only [Bool.not_eq_true', Bool.not_eq_false'] at hg8) | skip)
      all_goals try simp only [Act.put, List.setIfInBounds_toArray, List.set_cons_zero, List.set_cons_succ]
      all_goals first | (refine soft_pass rfl HS ?_) | (refine soft_read (v := ?_) rfl (fun W hW => ?_) ?_; rotate_left; (· go_simp; try with_reducible rfl))
      all_goals try simp only [Act.put, List.setIfInBounds_toArray, List.set_cons_zero, List.set_cons_succ]
      all_goals first | (refine soft_pass rfl HS ?_) | (refine soft_read (v := ?_) rfl (fun W hW => ?_) ?_; rotate_left; (· have A_K0 := cell_later hW K0; have A_K1 := cell_later hW K1; have A_Aq0 := cell_later hW Aq0; have A_Aq1 := cell_later hW Aq1; have A_Aq2 := cell_later hW Aq2; have A_Aq3 := cell_later hW Aq3; have A_Aq4 := cell_later hW Aq4; have A_Aq5 := cell_later hW Aq5; clear hW; go_simp; try with_reducible rfl))
      iterate 3
       all_goals try simp only [Act.put, List.setIfInBounds_toArray, List.set_cons_zero, List.set_cons_succ]
       all_goals first | (refine soft_pass rfl HS ?_) | (refine soft_read (v := ?_) rfl (fun W hW => ?_) ?_; rotate_left; (· go_simp; try with_reducible rfl))
      all_goals try simp only [Act.put, List.setIfInBounds_toArray, List.set_cons_zero, List.set_cons_succ]
      all_goals first | (refine soft_pass rfl HS ?_) | (refine soft_read (v := ?_) rfl (fun W hW => ?_) ?_; rotate_left; (· have A_K0 := cell_later hW K0; have A_K1 := cell_later hW K1; have A_Aq0 := cell_later hW Aq0; have A_Aq1 := cell_later hW Aq1; have A_Aq2 := cell_later hW Aq2; have A_Aq3 := cell_later hW Aq3; have A_Aq4 := cell_later hW Aq4; have A_Aq5 := cell_later hW Aq5; clear hW; go_simp; try with_reducible rfl))
      iterate 4
       all_goals try simp only [Act.put, List.setIfInBounds_toArray, List.set_cons_zero, List.set_cons_succ]
       all_goals first | (refine soft_pass rfl HS ?_) | (refine soft_read (v := ?_) rfl (fun W hW => ?_) ?_; rotate_left; (· go_simp; try with_reducible rfl))
      all_goals try simp only [Act.put, List.setIfInBounds_toArray, List.set_cons_zero, List.set_cons_succ]
      all_goals first | (refine soft_pass rfl HS ?_) | (refine soft_read (v := ?_) rfl (fun W hW => ?_) ?_; rotate_left; (· have A_K0 := cell_later hW K0; have A_K1 := cell_later hW K1; have A_Aq0 := cell_later hW Aq0; have A_Aq1 := cell_later hW Aq1; have A_Aq2 := cell_later hW Aq2; have A_Aq3 := cell_later hW Aq3; have A_Aq4 := cell_later hW Aq4; have A_Aq5 := cell_later hW Aq5; clear hW; go_simp; try with_reducible rfl))
      all_goals try simp only [Act.put, List.setIfInBounds_toArray, List.set_cons_zero, List.set_cons_succ]
      all_goals first | (refine soft_pass rfl HS ?_) | (refine soft_do rfl (fun K hK => ?_); go_simp; refine (specl12Find_c (Rep.raw.below HTK.out HS) (Rep.raw.below q_1 HS)).mono ?_; rintro e wS1 ⟨rfl, hbS⟩; replace HS := HS.trans (hbS.mono HS.size); refine hK _ _ HS ?_; clear hK K hbS)
      all_goals try simp only [Act.put, List.setIfInBounds_toArray, List.set_cons_zero, List.set_cons_succ]
      all_goals first | (refine soft_pass rfl HS ?_) | (refine soft_read (v := ?_) rfl (fun W hW => ?_) ?_; rotate_left; (· go_simp; try with_reducible rfl))
      all_goals try simp only [Act.put, List.setIfInBounds_toArray, List.set_cons_zero, List.set_cons_succ]
      all_goals first | (refine soft_pass rfl HS ?_; have hg22 := True.intro) | (refine soft_part (v := ?_) (b := ?_) rfl (fun W hW => ?_) ?_ (fun b hg22 => ?_); rotate_left; rotate_left; (· go_simp; try with_reducible rfl); (· with_reducible rfl); cases b; all_goals first | (exact Bool.noConfusion hg22) | (simp only [Bool.not_eq_true', Bool.not_eq_false'] at hg22) | skip)
      all_goals try simp only [Act.put, List.setIfInBounds_toArray, List.set_cons_zero, List.set_cons_succ]
      all_goals refine soft_nil ?_
      all_goals have EG := hbel.trans (HS.mono hbel.size)
      all_goals first
        | (have HT := Lib.hid (HB.out (show _ = false by simp only [okCe, Bool.not_true, Bool.not_false, Bool.and_true, Bool.true_and, Bool.and_false, Bool.false_and, Bool.or_true, Bool.true_or, Bool.or_false, Bool.false_or, Bool.not_not, ge_iff_le, hg8, hg22])); clear HB HX HN HTK; go_wp2; go_ret; exact ⟨ret_bool HT.out.symm, EB.trans (EG.mono EB.size)⟩)
        | (have HT := Lib.hid (HX.out (show _ = true by simp only [okCe, Bool.not_true, Bool.not_false, Bool.and_true, Bool.true_and, Bool.and_false, Bool.false_and, Bool.or_true, Bool.true_or, Bool.or_false, Bool.false_or, Bool.not_not, ge_iff_le, hg8, hg22])); clear HB HX HN HTK; go_wp2; go_roundw; (case rel => exact ⟨k + 1, by omega, by go_num, HT, EG⟩); (case measure => simp [intOf]; omega))
    · have HT := Lib.hid (vStore_good (c := c) HN.out hlt hk)
      have hkn : ¬ (k : Int) < l.length := by omega
      go_upto_region 6 with fail
      refine wp_region_soft_plain (fun W => Below wr.heap.size wr W) [true, true, false, true, true, true, true, true, true, true, true, true] (Below.refl _ _) ?_
      intro wS HS
      all_goals first | (refine soft_pass rfl HS ?_) | (refine soft_read (v := ?_) rfl (fun W hW => ?_) ?_; rotate_left; (· go_simp; try with_reducible rfl))
      all_goals try simp only [Act.put, List.setIfInBounds_toArray, List.set_cons_zero, List.set_cons_succ]
      all_goals first | (refine soft_pass rfl HS ?_) | (refine soft_read (v := ?_) rfl (fun W hW => ?_) ?_; rotate_left; (· have A_K0 := cell_later hW K0; have A_K1 := cell_later hW K1; clear hW; go_simp; try with_reducible rfl))
      all_goals try simp only [Act.put, List.setIfInBounds_toArray, List.set_cons_zero, List.set_cons_succ]
      all_goals first | (refine soft_pass rfl HS ?_) | (refine soft_do rfl (fun K hK => ?_); go_simp; refine (specl1In_c).mono ?_; rintro e wS1 ⟨rfl, hwS⟩; obtain rfl := hwS.symm; refine hK _ _ HS ?_; clear hK K)
      all_goals try simp only [Act.put, List.setIfInBounds_toArray, List.set_cons_zero, List.set_cons_succ]
      all_goals first | (refine soft_pass rfl HS ?_; have hg3 := True.intro) | (refine soft_part (v := ?_) (b := ?_) rfl (fun W hW => ?_) ?_ (fun b hg3 => ?_); rotate_left; rotate_left; (· go_simp; try with_reducible rfl); (· with_reducible rfl); cases b; all_goals first | (exact Bool.noConfusion hg3) | (simp only [Bool.not_eq_true', Bool.not_eq_false'] at hg3) | skip)
      iterate 2
       all_goals try simp only [Act.put, List.setIfInBounds_toArray, List.set_cons_zero, List.set_cons_succ]
       all_goals first | (refine soft_pass rfl HS ?_) | (refine soft_read (v := ?_) rfl (fun W hW => ?_) ?_; rotate_left; (· go_simp; try with_reducible rfl))
       all_goals try simp only [Act.put, List.setIfInBounds_toArray, List.set_cons_zero, List.set_cons_succ]
       all_goals first | (refine soft_pass rfl HS ?_) | (refine soft_read (v := ?_) rfl (fun W hW => ?_) ?_; rotate_left; (· have A_K0 := cell_later hW K0; have A_K1 := cell_later hW K1; clear hW; go_simp; try with_reducible rfl))
       all_goals try simp only [Act.put, List.setIfInBounds_toArray, List.set_cons_zero, List.set_cons_succ]
       all_goals first | (refine soft_pass rfl HS ?_) | (refine soft_read (v := ?_) rfl (fun W hW => ?_) ?_; rotate_left; (· go_simp; try with_reducible rfl))
      all_goals try simp only [Act.put, List.setIfInBounds_toArray, List.set_cons_zero, List.set_cons_succ]
      all_goals first | (refine soft_pass rfl HS ?_) | (refine soft_read (v := ?_) rfl (fun W hW => ?_) ?_; rotate_left; (· go_simp; try with_reducible rfl))
      all_goals try simp only [Act.put, List.setIfInBounds_toArray, List.set_cons_zero, List.set_cons_succ]
      all_goals first | (refine soft_pass rfl HS ?_; have hg11 := True.intro) | (refine soft_part (v := ?_) (b := ?_) rfl (fun W hW => ?_) ?_ (fun b hg11 => ?_); rotate_left; rotate_left; (· go_simp; try with_reducible rfl); (· with_reducible rfl); cases b; all_goals first | (exact Bool.noConfusion hg11) | (simp only [Bool.not_eq_true', Bool.not_eq_false'] at hg11) | skip)
      all_goals try simp only [Act.put, List.setIfInBounds_toArray, List.set_cons_zero, List.set_cons_succ]
      all_goals refine soft_nil ?_
      all_goals have EG := EB.trans ((hbel.trans (HS.mono hbel.size)).mono EB.size)
      all_goals first
        | (have HV := Lib.hid (show vStore (c, l) = false by rw [HT.out]; simp only [Bool.not_true, Bool.not_false, Bool.and_true, Bool.true_and, Bool.and_false, Bool.false_and, Bool.or_true, Bool.true_or, Bool.or_false, Bool.false_or, Bool.not_not, hg3, hg11]); go_wp2; go_ret; exact ⟨ret_bool HV.out.symm, EG⟩)
        | (have HV := Lib.hid (show vStore (c, l) = true by rw [HT.out]; simp only [Bool.not_true, Bool.not_false, Bool.and_true, Bool.true_and, Bool.and_false, Bool.false_and, Bool.or_true, Bool.true_or, Bool.or_false, Bool.false_or, Bool.not_not, hg3, hg11]); go_wp2; go_ret; exact ⟨ret_bool HV.out.symm, EG⟩)
end Go.Proofs.YtcnhfggfgknooaaGreat

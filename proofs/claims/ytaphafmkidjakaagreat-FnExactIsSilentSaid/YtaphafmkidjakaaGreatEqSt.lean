/-
  Content stores, lists of data and of nonces: equal.
-/
import Derived.Test.YtaphafmkidjakaaGreatEqData
import Derived.IntWalk
import Derived.Deep.Cut
import Derived.WalkSpells
import Derived.WalkLawsBesides
namespace Go.Proofs.YtaphafmkidjakaaGreat
open Go.RowKit
set_option linter.unusedVariables false
set_option linter.unusedSimpArgs false
set_option linter.unnecessarySimpa false
def vDatS (x y : LData) : Bool := !(!decide (x.1 = y.1) || (!decide (x.2.1 = y.2.1) || (!decide (x.2.2.1 = y.2.2.1) || (!decide (x.2.2.2.1 = y.2.2.2.1) || !decide (x.2.2.2.2 = y.2.2.2.2)))))
theorem vDatS_eq (x y : LData) : vDatS x y = decide (x = y) := by
  obtain ⟨x0, x1, x2, x3, x4⟩ := x
  obtain ⟨y0, y1, y2, y3, y4⟩ := y
  rw [Bool.eq_iff_iff]
  simp [vDatS]
def vSeenS (x y : LSeenNonce) : Bool := !((x.2 != y.2) || !eqN x.1 y.1)
theorem vSeenS_eq (x y : LSeenNonce) : vSeenS x y = decide (x = y) := by
  obtain ⟨x0, x1⟩ := x
  obtain ⟨y0, y1⟩ := y
  rw [Bool.eq_iff_iff]
  simp [vSeenS, eqN]
  constructor
  · rintro ⟨h1, h2⟩; exact ⟨h2, h1⟩
  · rintro ⟨h1, h2⟩; exact ⟨h2, h1⟩
def vSeen (x y : LSeenNonce) : Bool := eqN x.1 y.1 && (x.2 == y.2)
theorem vSeen_eq (x y : LSeenNonce) : vSeen x y = decide (x = y) := by
  obtain ⟨x0, x1⟩ := x
  obtain ⟨y0, y1⟩ := y
  rw [Bool.eq_iff_iff]
  simp [vSeen, eqN]
def vCeS (x y : LCacheEntry) : Bool := !((x.2 != y.2) || !decide (x.1 = y.1))
theorem vCeS_eq (x y : LCacheEntry) : vCeS x y = decide (x = y) := by
  obtain ⟨x0, x1⟩ := x
  obtain ⟨y0, y1⟩ := y
  rw [Bool.eq_iff_iff]
  simp [vCeS]
  constructor
  · rintro ⟨h1, h2⟩; exact ⟨h2, h1⟩
  · rintro ⟨h1, h2⟩; exact ⟨h2, h1⟩
def vCe (x y : LCacheEntry) : Bool := decide (x.1 = y.1) && (x.2 == y.2)
theorem vCe_eq (x y : LCacheEntry) : vCe x y = decide (x = y) := by
  obtain ⟨x0, x1⟩ := x
  obtain ⟨y0, y1⟩ := y
  rw [Bool.eq_iff_iff]
  simp [vCe]
def vSt (x y : LContentStore) : Bool := (x.1 == y.1) && decide (x.2 = y.2)
theorem vSt_eq (x y : LContentStore) : vSt x y = decide (x = y) := by
  obtain ⟨x0, x1⟩ := x
  obtain ⟨y0, y1⟩ := y
  rw [Bool.eq_iff_iff]
  simp [vSt]
set_option maxRecDepth 100000 in
set_option maxHeartbeats 2000000 in
theorem specl16SameThings_c {w : World} {va vb : Value} {a b : (List LData)} (a_0 : (Rep.slice 69 RData).raw w [va] a) (b_0 : (Rep.slice 69 RData).raw w [vb] b) :
    Calls Tryz.prog 117 #[va, vb] w fun e w' => e = .returned (.bool (decide (a = b))) ∧ Below w.heap.size w w' := by
  obtain ⟨aa, capa, hva, la⟩ := Rep.len_raw a_0; obtain rfl : va = _ := by simpa using hva
  obtain ⟨ab, capb, hvb, lb⟩ := Rep.len_raw b_0; obtain rfl : vb = _ := by simpa using hvb
  clear hva hvb
  go_enter Tryz.func117, Tryz.ntmps117
  by_cases hl : a.length = b.length
  case neg =>
    have HT := Lib.hid (show decide (a = b) = false by simp; rintro rfl; exact hl rfl)
    have hz : ((a.length : Int) != b.length) = true := by simp; omega
    have hzn : (a.length != b.length) = true := by simpa using hl
    go_wp2
    go_ret
    exact ⟨ret_bool HT.out.symm, Below.refl _ _⟩
  have hz : ((a.length : Int) != b.length) = false := by simp; omega
  have hzn : (a.length != b.length) = false := by simpa using hl
  have HL := Lib.hid hl; clear hl
  go_wp2
  go_loopw [5] (fun i wr => ∃ k : Nat, k ≤ a.length ∧ i = .int .i64 k ∧ Hid (a.take k = b.take k) ∧ Below w.heap.size w wr) (fun i _ => a.length - (intOf i).toNat)
  case atStart => exact ⟨0, Nat.zero_le _, rfl, Lib.hid rfl, Below.refl _ _⟩
  case round =>
    obtain ⟨k, hk, rfl, HN, hbel⟩ := hrel
    by_cases hlt : k < a.length
    · have hlt2 : k < b.length := by have := HL.out; omega
      obtain ⟨pb, po, rfl, pc0, pc1, pc2, pc3, pc4, pr, Ap0, Ap1, Ap2, Ap3, Ap4⟩ := Rep.get5 (a_0.below hbel) (i := k) (by omega) rfl
      obtain ⟨qb, qo, rfl, qc0, qc1, qc2, qc3, qc4, qr, Aq0, Aq1, Aq2, Aq3, Aq4⟩ := Rep.get5 (b_0.below hbel) (i := k) (by omega) rfl
      have hne := fun q => ne_of_get hlt hlt2 q
      have hnx := fun q => take_eq_succ HN.out hlt hlt2 q
      generalize a[k] = x at *
      generalize b[k] = y at *
      have HD : Hid (decide (x = y) = false → decide (a = b) = false) := Lib.hid (fun q => by simp at q; simpa using hne q)
      have HX : Hid (decide (x = y) = true → a.take (k + 1) = b.take (k + 1)) := Lib.hid (fun q => hnx (by simpa using q))
      have HV0 := Lib.hid (vDatS_eq x y)
      clear hne hnx
      obtain ⟨x0, x1, x2, x3, x4⟩ := x
      obtain ⟨y0, y1, y2, y3, y4⟩ := y
      obtain ⟨pv0, pv1, pv2, phe, p_0, p_1, p_2, p_3, p_4, p_5, p_6⟩ := RData_raw pr
      simp only [List.cons.injEq, and_true] at phe
      obtain ⟨rfl, rfl, rfl, rfl, rfl⟩ := phe
      obtain ⟨pa0, pp0, ph0, pl0⟩ := Rep.len_raw p_1; obtain rfl : pc0 = _ := by simpa using ph0
      clear ph0
      obtain ⟨pa1, pp1, ph1, pl1⟩ := Rep.len_raw p_2; obtain rfl : pc1 = _ := by simpa using ph1
      clear ph1
      obtain ⟨pa2, pp2, ph2, pl2⟩ := Rep.len_raw p_4; obtain rfl : pc2 = _ := by simpa using ph2
      clear ph2
      obtain ⟨qv0, qv1, qv2, qhe, q_0, q_1, q_2, q_3, q_4, q_5, q_6⟩ := RData_raw qr
      simp only [List.cons.injEq, and_true] at qhe
      obtain ⟨rfl, rfl, rfl, rfl, rfl⟩ := qhe
      obtain ⟨qa0, qp0, qh0, ql0⟩ := Rep.len_raw q_1; obtain rfl : qc0 = _ := by simpa using qh0
      clear qh0
      obtain ⟨qa1, qp1, qh1, ql1⟩ := Rep.len_raw q_2; obtain rfl : qc1 = _ := by simpa using qh1
      clear qh1
      obtain ⟨qa2, qp2, qh2, ql2⟩ := Rep.len_raw q_4; obtain rfl : qc2 = _ := by simpa using qh2
      clear qh2
      go_wp2_with fail
      refine wp_region_soft (fun W => Below wr.heap.size wr W) [true, true, true, true, true, true, true, true, false, true] (by kernel_rfl) (by kernel_rfl) (fun c a d v w h => by cases d <;> exact h) ((Below.refl _ _).drew) ?_
      intro wS HS
      all_goals first | (refine soft_pass rfl HS ?_) | (refine soft_read (v := ?_) rfl (fun W hW => ?_) ?_; rotate_left; (· go_simp; try with_reducible rfl))
      all_goals try simp only [Act.put, List.setIfInBounds_toArray, List.set_cons_zero, List.set_cons_succ]
      all_goals first | (refine soft_pass rfl HS ?_) | (refine soft_read (v := ?_) rfl (fun W hW => ?_) ?_; rotate_left; (· go_simp; try with_reducible rfl))
      all_goals try simp only [Act.put, List.setIfInBounds_toArray, List.set_cons_zero, List.set_cons_succ]
      all_goals first | (refine soft_pass rfl HS ?_) | (refine soft_read (v := ?_) rfl (fun W hW => ?_) ?_; rotate_left; (· go_simp; try with_reducible rfl))
      all_goals try simp only [Act.put, List.setIfInBounds_toArray, List.set_cons_zero, List.set_cons_succ]
      all_goals first | (refine soft_pass rfl HS ?_) | (refine soft_read (v := ?_) rfl (fun W hW => ?_) ?_; rotate_left; (· have A_Ap0 := cell_later hW Ap0; have A_Ap1 := cell_later hW Ap1; have A_Ap2 := cell_later hW Ap2; have A_Ap3 := cell_later hW Ap3; have A_Ap4 := cell_later hW Ap4; have A_Aq0 := cell_later hW Aq0; have A_Aq1 := cell_later hW Aq1; have A_Aq2 := cell_later hW Aq2; have A_Aq3 := cell_later hW Aq3; have A_Aq4 := cell_later hW Aq4; clear hW; go_simp; try with_reducible rfl))
      all_goals try simp only [Act.put, List.setIfInBounds_toArray, List.set_cons_zero, List.set_cons_succ]
      all_goals first | (refine soft_pass rfl HS ?_) | (refine soft_read (v := ?_) rfl (fun W hW => ?_) ?_; rotate_left; (· go_simp; try with_reducible rfl))
      all_goals try simp only [Act.put, List.setIfInBounds_toArray, List.set_cons_zero, List.set_cons_succ]
      all_goals first | (refine soft_pass rfl HS ?_) | (refine soft_read (v := ?_) rfl (fun W hW => ?_) ?_; rotate_left; (· go_simp; try with_reducible rfl))
      all_goals try simp only [Act.put, List.setIfInBounds_toArray, List.set_cons_zero, List.set_cons_succ]
      all_goals first | (refine soft_pass rfl HS ?_) | (refine soft_read (v := ?_) rfl (fun W hW => ?_) ?_; rotate_left; (· go_simp; try with_reducible rfl))
      all_goals try simp only [Act.put, List.setIfInBounds_toArray, List.set_cons_zero, List.set_cons_succ]
      all_goals first | (refine soft_pass rfl HS ?_) | (refine soft_read (v := ?_) rfl (fun W hW => ?_) ?_; rotate_left; (· have A_Ap0 := cell_later hW Ap0; have A_Ap1 := cell_later hW Ap1; have A_Ap2 := cell_later hW Ap2; have A_Ap3 := cell_later hW Ap3; have A_Ap4 := cell_later hW Ap4; have A_Aq0 := cell_later hW Aq0; have A_Aq1 := cell_later hW Aq1; have A_Aq2 := cell_later hW Aq2; have A_Aq3 := cell_later hW Aq3; have A_Aq4 := cell_later hW Aq4; clear hW; go_simp; try with_reducible rfl))
      all_goals try simp only [Act.put, List.setIfInBounds_toArray, List.set_cons_zero, List.set_cons_succ]
      all_goals first | (refine soft_pass rfl HS ?_) | (refine soft_do rfl (fun K hK => ?_); go_simp; refine (specEqualData_c (Rep.raw.below pr HS) (Rep.raw.below qr HS)).mono ?_; rintro e wS1 ⟨rfl, hbS⟩; replace HS := HS.trans (hbS.mono HS.size); refine hK _ _ HS ?_; clear hK K hbS)
      all_goals try simp only [Act.put, List.setIfInBounds_toArray, List.set_cons_zero, List.set_cons_succ]
      all_goals first | (refine soft_pass rfl HS ?_; have hg9 := True.intro) | (refine soft_part (v := ?_) (b := ?_) rfl (fun W hW => ?_) ?_ (fun b hg9 => ?_); rotate_left; rotate_left; (· go_simp; try with_reducible rfl); (· with_reducible rfl); cases b; all_goals first | (exact Bool.noConfusion hg9) | (simp only [Bool.not_eq_true', Bool.not_eq_false'] at hg9) | skip)
      all_goals try simp only [Act.put, List.setIfInBounds_toArray, List.set_cons_zero, List.set_cons_succ]
      all_goals refine soft_nil ?_
      all_goals have EG := hbel.trans (HS.mono hbel.size)
      all_goals first
        | (have HV := HV0.out.symm.trans (show _ = false by simp only [vDatS, Bool.not_true, Bool.not_false, Bool.and_true, Bool.true_and, Bool.and_false, Bool.false_and, Bool.or_true, Bool.true_or, Bool.or_false, Bool.false_or, Bool.not_not, hg9]); have HT := Lib.hid (HD.out HV); clear HV HV0 HD HX; go_wp2; go_ret; exact ⟨ret_bool HT.out.symm, EG⟩)
        | (have HV := HV0.out.symm.trans (show _ = true by simp only [vDatS, Bool.not_true, Bool.not_false, Bool.and_true, Bool.true_and, Bool.and_false, Bool.false_and, Bool.or_true, Bool.true_or, Bool.or_false, Bool.false_or, Bool.not_not, hg9]); have HT := Lib.hid (HX.out HV); clear HV HV0 HD HX; go_wp2; go_roundw; (case rel => exact ⟨k + 1, by omega, by go_num, HT, EG⟩); (case measure => simp [intOf]; omega))
    · have HT := Lib.hid (show decide (a = b) = true by simp; exact eq_of_take HN.out hlt HL.out)
      go_wp2
      go_ret
      exact ⟨ret_bool HT.out.symm, hbel⟩
set_option maxRecDepth 100000 in
set_option maxHeartbeats 2000000 in
theorem specl16SameSeen_c {w : World} {va vb : Value} {a b : (List LSeenNonce)} (a_0 : (Rep.slice 150 RSeenNonce).raw w [va] a) (b_0 : (Rep.slice 150 RSeenNonce).raw w [vb] b) :
    Calls Tryz.prog 120 #[va, vb] w fun e w' => e = .returned (.bool (decide (a = b))) ∧ Below w.heap.size w w' := by
  obtain ⟨aa, capa, hva, la⟩ := Rep.len_raw a_0; obtain rfl : va = _ := by simpa using hva
  obtain ⟨ab, capb, hvb, lb⟩ := Rep.len_raw b_0; obtain rfl : vb = _ := by simpa using hvb
  clear hva hvb
  go_enter Tryz.func120, Tryz.ntmps120
  by_cases hl : a.length = b.length
  case neg =>
    have HT := Lib.hid (show decide (a = b) = false by simp; rintro rfl; exact hl rfl)
    have hz : ((a.length : Int) != b.length) = true := by simp; omega
    have hzn : (a.length != b.length) = true := by simpa using hl
    go_wp2
    go_ret
    exact ⟨ret_bool HT.out.symm, Below.refl _ _⟩
  have hz : ((a.length : Int) != b.length) = false := by simp; omega
  have hzn : (a.length != b.length) = false := by simpa using hl
  have HL := Lib.hid hl; clear hl
  go_wp2
  go_loopw [5] (fun i wr => ∃ k : Nat, k ≤ a.length ∧ i = .int .i64 k ∧ Hid (a.take k = b.take k) ∧ Below w.heap.size w wr) (fun i _ => a.length - (intOf i).toNat)
  case atStart => exact ⟨0, Nat.zero_le _, rfl, Lib.hid rfl, Below.refl _ _⟩
  case round =>
    obtain ⟨k, hk, rfl, HN, hbel⟩ := hrel
    by_cases hlt : k < a.length
    · have hlt2 : k < b.length := by have := HL.out; omega
      obtain ⟨pb, po, rfl, pc0, pc1, pr, Ap0, Ap1⟩ := Rep.get2 (a_0.below hbel) (i := k) (by omega) rfl
      obtain ⟨qb, qo, rfl, qc0, qc1, qr, Aq0, Aq1⟩ := Rep.get2 (b_0.below hbel) (i := k) (by omega) rfl
      have hne := fun q => ne_of_get hlt hlt2 q
      have hnx := fun q => take_eq_succ HN.out hlt hlt2 q
      generalize a[k] = x at *
      generalize b[k] = y at *
      have HD : Hid (decide (x = y) = false → decide (a = b) = false) := Lib.hid (fun q => by simp at q; simpa using hne q)
      have HX : Hid (decide (x = y) = true → a.take (k + 1) = b.take (k + 1)) := Lib.hid (fun q => hnx (by simpa using q))
      have HV0 := Lib.hid (vSeenS_eq x y)
      clear hne hnx
      obtain ⟨x0, x1⟩ := x
      obtain ⟨y0, y1⟩ := y
      obtain ⟨pv0, phe, p_0, p_1, p_2⟩ := RSeenNonce_raw pr
      simp only [List.cons.injEq, and_true] at phe
      obtain ⟨rfl, rfl⟩ := phe
      obtain ⟨pa0, pp0, ph0, pl0⟩ := Rep.len_raw p_1; obtain rfl : pc0 = _ := by simpa using ph0
      clear ph0
      obtain ⟨qv0, qhe, q_0, q_1, q_2⟩ := RSeenNonce_raw qr
      simp only [List.cons.injEq, and_true] at qhe
      obtain ⟨rfl, rfl⟩ := qhe
      obtain ⟨qa0, qp0, qh0, ql0⟩ := Rep.len_raw q_1; obtain rfl : qc0 = _ := by simpa using qh0
      clear qh0
      go_wp2_with fail
      refine wp_region_soft (fun W => Below wr.heap.size wr W) [true, true, true, true, true, true, true, true, true, true, true, true, true, true, true, true, true, true, true, true, true, true, false, true, true] (by kernel_rfl) (by kernel_rfl) (fun c a d v w h => by cases d <;> exact h) ((Below.refl _ _).drew) ?_
      intro wS HS
      all_goals first | (refine soft_pass rfl HS ?_) | (refine soft_read (v := ?_) rfl (fun W hW => ?_) ?_; rotate_left; (· go_simp; try with_reducible rfl))
      all_goals try simp only [Act.put, List.setIfInBounds_toArray, List.set_cons_zero, List.set_cons_succ]
      all_goals first | (refine soft_pass rfl HS ?_) | (refine soft_read (v := ?_) rfl (fun W hW => ?_) ?_; rotate_left; (· go_simp; try with_reducible rfl))
      all_goals try simp only [Act.put, List.setIfInBounds_toArray, List.set_cons_zero, List.set_cons_succ]
      all_goals first | (refine soft_pass rfl HS ?_) | (refine soft_read (v := ?_) rfl (fun W hW => ?_) ?_; rotate_left; (· go_simp; try with_reducible rfl))
      all_goals try simp only [Act.put, List.setIfInBounds_toArray, List.set_cons_zero, List.set_cons_succ]
      all_goals first | (refine soft_pass rfl HS ?_) | (refine soft_read (v := ?_) rfl (fun W hW => ?_) ?_; rotate_left; (· go_simp; try with_reducible rfl))
      all_goals try simp only [Act.put, List.setIfInBounds_toArray, List.set_cons_zero, List.set_cons_succ]
      all_goals first | (refine soft_pass rfl HS ?_) | (refine soft_read (v := ?_) rfl (fun W hW => ?_) ?_; rotate_left; (· have A_Ap0 := cell_later hW Ap0; have A_Ap1 := cell_later hW Ap1; have A_Aq0 := cell_later hW Aq0; have A_Aq1 := cell_later hW Aq1; clear hW; go_simp; try with_reducible rfl))
      all_goals try simp only [Act.put, List.setIfInBounds_toArray, List.set_cons_zero, List.set_cons_succ]
      all_goals first | (refine soft_pass rfl HS ?_) | (refine soft_read (v := ?_) rfl (fun W hW => ?_) ?_; rotate_left; (· go_simp; try with_reducible rfl))
      all_goals try simp only [Act.put, List.setIfInBounds_toArray, List.set_cons_zero, List.set_cons_succ]
      all_goals first | (refine soft_pass rfl HS ?_) | (refine soft_read (v := ?_) rfl (fun W hW => ?_) ?_; rotate_left; (· go_simp; try with_reducible rfl))
      all_goals try simp only [Act.put, List.setIfInBounds_toArray, List.set_cons_zero, List.set_cons_succ]
      all_goals first | (refine soft_pass rfl HS ?_) | (refine soft_read (v := ?_) rfl (fun W hW => ?_) ?_; rotate_left; (· go_simp; try with_reducible rfl))
      all_goals try simp only [Act.put, List.setIfInBounds_toArray, List.set_cons_zero, List.set_cons_succ]
      all_goals first | (refine soft_pass rfl HS ?_) | (refine soft_read (v := ?_) rfl (fun W hW => ?_) ?_; rotate_left; (· go_simp; try with_reducible rfl))
      all_goals try simp only [Act.put, List.setIfInBounds_toArray, List.set_cons_zero, List.set_cons_succ]
      all_goals first | (refine soft_pass rfl HS ?_) | (refine soft_read (v := ?_) rfl (fun W hW => ?_) ?_; rotate_left; (· have A_Ap0 := cell_later hW Ap0; have A_Ap1 := cell_later hW Ap1; have A_Aq0 := cell_later hW Aq0; have A_Aq1 := cell_later hW Aq1; clear hW; go_simp; try with_reducible rfl))
      all_goals try simp only [Act.put, List.setIfInBounds_toArray, List.set_cons_zero, List.set_cons_succ]
      all_goals first | (refine soft_pass rfl HS ?_) | (refine soft_read (v := ?_) rfl (fun W hW => ?_) ?_; rotate_left; (· go_simp; try with_reducible rfl))
      all_goals try simp only [Act.put, List.setIfInBounds_toArray, List.set_cons_zero, List.set_cons_succ]
      all_goals first | (refine soft_pass rfl HS ?_; have hg11 := True.intro) | (refine soft_part (v := ?_) (b := ?_) rfl (fun W hW => ?_) ?_ (fun b hg11 => ?_); rotate_left; rotate_left; (· go_simp; try with_reducible rfl); (· with_reducible rfl); cases b; all_goals first | (exact Bool.noConfusion hg11) | (simp only [Bool.not_eq_true', Bool.not_eq_false'] at hg11) | skip)
      all_goals try simp only [Act.put, List.setIfInBounds_toArray, List.set_cons_zero, List.set_cons_succ]
      all_goals first | (refine soft_pass rfl HS ?_) | (refine soft_read (v := ?_) rfl (fun W hW => ?_) ?_; rotate_left; (· go_simp; try with_reducible rfl))
      all_goals try simp only [Act.put, List.setIfInBounds_toArray, List.set_cons_zero, List.set_cons_succ]
      all_goals first | (refine soft_pass rfl HS ?_) | (refine soft_read (v := ?_) rfl (fun W hW => ?_) ?_; rotate_left; (· go_simp; try with_reducible rfl))
      all_goals try simp only [Act.put, List.setIfInBounds_toArray, List.set_cons_zero, List.set_cons_succ]
      all_goals first | (refine soft_pass rfl HS ?_) | (refine soft_read (v := ?_) rfl (fun W hW => ?_) ?_; rotate_left; (· go_simp; try with_reducible rfl))
      all_goals try simp only [Act.put, List.setIfInBounds_toArray, List.set_cons_zero, List.set_cons_succ]
      all_goals first | (refine soft_pass rfl HS ?_) | (refine soft_read (v := ?_) rfl (fun W hW => ?_) ?_; rotate_left; (· go_simp; try with_reducible rfl))
      all_goals try simp only [Act.put, List.setIfInBounds_toArray, List.set_cons_zero, List.set_cons_succ]
      all_goals first | (refine soft_pass rfl HS ?_) | (refine soft_read (v := ?_) rfl (fun W hW => ?_) ?_; rotate_left; (· have A_Ap0 := cell_later hW Ap0; have A_Ap1 := cell_later hW Ap1; have A_Aq0 := cell_later hW Aq0; have A_Aq1 := cell_later hW Aq1; clear hW; go_simp; try with_reducible rfl))
      all_goals try simp only [Act.put, List.setIfInBounds_toArray, List.set_cons_zero, List.set_cons_succ]
      all_goals first | (refine soft_pass rfl HS ?_) | (refine soft_read (v := ?_) rfl (fun W hW => ?_) ?_; rotate_left; (· go_simp; try with_reducible rfl))
      all_goals try simp only [Act.put, List.setIfInBounds_toArray, List.set_cons_zero, List.set_cons_succ]
      all_goals first | (refine soft_pass rfl HS ?_) | (refine soft_read (v := ?_) rfl (fun W hW => ?_) ?_; rotate_left; (· go_simp; try with_reducible rfl))
      all_goals try simp only [Act.put, List.setIfInBounds_toArray, List.set_cons_zero, List.set_cons_succ]
      all_goals first | (refine soft_pass rfl HS ?_) | (refine soft_read (v := ?_) rfl (fun W hW => ?_) ?_; rotate_left; (· go_simp; try with_reducible rfl))
      all_goals try simp only [Act.put, List.setIfInBounds_toArray, List.set_cons_zero, List.set_cons_succ]
      all_goals first | (refine soft_pass rfl HS ?_) | (refine soft_read (v := ?_) rfl (fun W hW => ?_) ?_; rotate_left; (· go_simp; try with_reducible rfl))
      all_goals try simp only [Act.put, List.setIfInBounds_toArray, List.set_cons_zero, List.set_cons_succ]
      all_goals first | (refine soft_pass rfl HS ?_) | (refine soft_read (v := ?_) rfl (fun W hW => ?_) ?_; rotate_left; (· have A_Ap0 := cell_later hW Ap0; have A_Ap1 := cell_later hW Ap1; have A_Aq0 := cell_later hW Aq0; have A_Aq1 := cell_later hW Aq1; clear hW; go_simp; try with_reducible rfl))
      all_goals try simp only [Act.put, List.setIfInBounds_toArray, List.set_cons_zero, List.set_cons_succ]
      all_goals first | (refine soft_pass rfl HS ?_) | (refine soft_do rfl (fun K hK => ?_); go_simp; refine (specEqualNames_c (Rep.raw.below p_0 HS) (Rep.raw.below q_0 HS)).mono ?_; rintro e wS1 ⟨rfl, hbS⟩; replace HS := HS.trans (hbS.mono HS.size); refine hK _ _ HS ?_; clear hK K hbS)
      all_goals try simp only [Act.put, List.setIfInBounds_toArray, List.set_cons_zero, List.set_cons_succ]
      all_goals first | (refine soft_pass rfl HS ?_) | (refine soft_read (v := ?_) rfl (fun W hW => ?_) ?_; rotate_left; (· go_simp; try with_reducible rfl))
      all_goals try simp only [Act.put, List.setIfInBounds_toArray, List.set_cons_zero, List.set_cons_succ]
      all_goals first | (refine soft_pass rfl HS ?_; have hg24 := True.intro) | (refine soft_part (v := ?_) (b := ?_) rfl (fun W hW => ?_) ?_ (fun b hg24 => ?_); rotate_left; rotate_left; (· go_simp; try with_reducible rfl); (· with_reducible rfl); cases b; all_goals first | (exact Bool.noConfusion hg24) | (simp only [Bool.not_eq_true', Bool.not_eq_false'] at hg24) | skip)
      all_goals try simp only [Act.put, List.setIfInBounds_toArray, List.set_cons_zero, List.set_cons_succ]
      all_goals refine soft_nil ?_
      all_goals have EG := hbel.trans (HS.mono hbel.size)
      all_goals first
        | (have HV := HV0.out.symm.trans (show _ = false by simp only [vSeenS, Bool.not_true, Bool.not_false, Bool.and_true, Bool.true_and, Bool.and_false, Bool.false_and, Bool.or_true, Bool.true_or, Bool.or_false, Bool.false_or, Bool.not_not, hg11, hg24]); have HT := Lib.hid (HD.out HV); clear HV HV0 HD HX; go_wp2; go_ret; exact ⟨ret_bool HT.out.symm, EG⟩)
        | (have HV := HV0.out.symm.trans (show _ = true by simp only [vSeenS, Bool.not_true, Bool.not_false, Bool.and_true, Bool.true_and, Bool.and_false, Bool.false_and, Bool.or_true, Bool.true_or, Bool.or_false, Bool.false_or, Bool.not_not, hg11, hg24]); have HT := Lib.hid (HX.out HV); clear HV HV0 HD HX; go_wp2; go_roundw; (case rel => exact ⟨k + 1, by omega, by go_num, HT, EG⟩); (case measure => simp [intOf]; omega))
    · have HT := Lib.hid (show decide (a = b) = true by simp; exact eq_of_take HN.out hlt HL.out)
      go_wp2
      go_ret
      exact ⟨ret_bool HT.out.symm, hbel⟩
theorem callable_EqualData : Callable Tryz.prog 125 := callable_of Tryz.func125 (by kernel_rfl) (by kernel_rfl)
set_option maxRecDepth 100000 in
set_option maxHeartbeats 2000000 in
theorem implEqualNodes1_c {w : World} {cx : List Value} {x : LSeenNonce} (hx : RSeenNonce.raw w cx x) {cy : List Value} {y : LSeenNonce} (hy : RSeenNonce.raw w cy y) :
    Calls Tryz.prog 129 #[.agg cx.toArray, .agg cy.toArray] w fun e w' => e = .returned (.bool (vSeen x y)) ∧ Below w.heap.size w w' := by
  have Hx := Lib.hid hx
  obtain ⟨fxv0, rfl, fx_0, fx_1, fx_2⟩ := RSeenNonce_raw hx
  obtain ⟨fxa0, fxp0, fxh0, fxl0⟩ := Rep.len_raw fx_1; obtain rfl : fxv0 = _ := by simpa using fxh0
  clear fxh0
  have Hy := Lib.hid hy
  obtain ⟨fyv0, rfl, fy_0, fy_1, fy_2⟩ := RSeenNonce_raw hy
  obtain ⟨fya0, fyp0, fyh0, fyl0⟩ := Rep.len_raw fy_1; obtain rfl : fyv0 = _ := by simpa using fyh0
  clear fyh0
  go_enter Tryz.func129, Tryz.ntmps129
  go_upto_region 1 with fail
  generalize hwB : World.alloc (World.alloc w _) _ = wB
  have EB : Below w.heap.size w wB := by rw [← hwB]; exact (by repeat (first | (with_reducible exact Below.refl _ _) | refine Below.alloc ?_ (by simp; try omega) _ | refine Below.drew ?_ | refine Below.setCell ?_ (by simp; try omega) _))
  have K2_0 : wB.cell? ⟨w.heap.size, 0, none⟩ = some (.slice fxa0 (x.1).length fxp0) := by rw [← hwB]; simp [go_sem]
  have K2_1 : wB.cell? ⟨w.heap.size, 1, none⟩ = some (.int .i64 x.2) := by rw [← hwB]; simp [go_sem]
  have K3_0 : wB.cell? ⟨w.heap.size + 1, 0, none⟩ = some (.slice fya0 (y.1).length fyp0) := by rw [← hwB]; simp [go_sem]
  have K3_1 : wB.cell? ⟨w.heap.size + 1, 1, none⟩ = some (.int .i64 y.2) := by rw [← hwB]; simp [go_sem]
  clear hwB
  refine wp_region_soft_plain (fun W => Below wB.heap.size wB W) [true, true, true, true, false, true, true, true, true, true, true, true, true] (Below.refl _ _) ?_
  intro wS HS
  all_goals first | (refine soft_pass rfl HS ?_) | (refine soft_read (v := ?_) rfl (fun W hW => ?_) ?_; rotate_left; (· go_simp; try with_reducible rfl))
  all_goals try simp only [Act.put, List.setIfInBounds_toArray, List.set_cons_zero, List.set_cons_succ]
  all_goals first | (refine soft_pass rfl HS ?_) | (refine soft_read (v := ?_) rfl (fun W hW => ?_) ?_; rotate_left; (· have A_K2_0 := cell_later hW K2_0; have A_K2_1 := cell_later hW K2_1; have A_K3_0 := cell_later hW K3_0; have A_K3_1 := cell_later hW K3_1; clear hW; go_simp; try with_reducible rfl))
  all_goals try simp only [Act.put, List.setIfInBounds_toArray, List.set_cons_zero, List.set_cons_succ]
  all_goals first | (refine soft_pass rfl HS ?_) | (refine soft_read (v := ?_) rfl (fun W hW => ?_) ?_; rotate_left; (· go_simp; try with_reducible rfl))
  all_goals try simp only [Act.put, List.setIfInBounds_toArray, List.set_cons_zero, List.set_cons_succ]
  all_goals first | (refine soft_pass rfl HS ?_) | (refine soft_read (v := ?_) rfl (fun W hW => ?_) ?_; rotate_left; (· have A_K2_0 := cell_later hW K2_0; have A_K2_1 := cell_later hW K2_1; have A_K3_0 := cell_later hW K3_0; have A_K3_1 := cell_later hW K3_1; clear hW; go_simp; try with_reducible rfl))
  all_goals try simp only [Act.put, List.setIfInBounds_toArray, List.set_cons_zero, List.set_cons_succ]
  all_goals first | (refine soft_pass rfl HS ?_) | (refine soft_do rfl (fun K hK => ?_); go_simp; refine (implEqualNames_c (Rep.raw.below fx_0 (EB.trans (HS.mono EB.size))) (Rep.raw.below fy_0 (EB.trans (HS.mono EB.size)))).mono ?_; rintro e wS1 ⟨rfl, hbS⟩; replace HS := HS.trans (hbS.mono HS.size); refine hK _ _ HS ?_; clear hK K hbS)
  all_goals try simp only [Act.put, List.setIfInBounds_toArray, List.set_cons_zero, List.set_cons_succ]
  all_goals first | (refine soft_pass rfl HS ?_; have hg5 := True.intro) | (refine soft_part (v := ?_) (b := ?_) rfl (fun W hW => ?_) ?_ (fun b hg5 => ?_); rotate_left; rotate_left; (· go_simp; try with_reducible rfl); (· with_reducible rfl); cases b; all_goals first | (exact Bool.noConfusion hg5) | (simp only [Bool.not_eq_true', Bool.not_eq_false'] at hg5) | skip)
  all_goals try simp only [Act.put, List.setIfInBounds_toArray, List.set_cons_zero, List.set_cons_succ]
  all_goals first | (refine soft_pass rfl HS ?_) | (refine soft_read (v := ?_) rfl (fun W hW => ?_) ?_; rotate_left; (· go_simp; try with_reducible rfl))
  all_goals try simp only [Act.put, List.setIfInBounds_toArray, List.set_cons_zero, List.set_cons_succ]
  all_goals first | (refine soft_pass rfl HS ?_) | (refine soft_read (v := ?_) rfl (fun W hW => ?_) ?_; rotate_left; (· have A_K2_0 := cell_later hW K2_0; have A_K2_1 := cell_later hW K2_1; have A_K3_0 := cell_later hW K3_0; have A_K3_1 := cell_later hW K3_1; clear hW; go_simp; try with_reducible rfl))
  all_goals try simp only [Act.put, List.setIfInBounds_toArray, List.set_cons_zero, List.set_cons_succ]
  all_goals first | (refine soft_pass rfl HS ?_) | (refine soft_read (v := ?_) rfl (fun W hW => ?_) ?_; rotate_left; (· go_simp; try with_reducible rfl))
  all_goals try simp only [Act.put, List.setIfInBounds_toArray, List.set_cons_zero, List.set_cons_succ]
  all_goals first | (refine soft_pass rfl HS ?_) | (refine soft_read (v := ?_) rfl (fun W hW => ?_) ?_; rotate_left; (· have A_K2_0 := cell_later hW K2_0; have A_K2_1 := cell_later hW K2_1; have A_K3_0 := cell_later hW K3_0; have A_K3_1 := cell_later hW K3_1; clear hW; go_simp; try with_reducible rfl))
  all_goals try simp only [Act.put, List.setIfInBounds_toArray, List.set_cons_zero, List.set_cons_succ]
  all_goals first | (refine soft_pass rfl HS ?_) | (refine soft_read (v := ?_) rfl (fun W hW => ?_) ?_; rotate_left; (· go_simp; try with_reducible rfl))
  all_goals try simp only [Act.put, List.setIfInBounds_toArray, List.set_cons_zero, List.set_cons_succ]
  all_goals first | (refine soft_pass rfl HS ?_) | (refine soft_read (v := ?_) rfl (fun W hW => ?_) ?_; rotate_left; (· go_simp; try with_reducible rfl))
  all_goals try simp only [Act.put, List.setIfInBounds_toArray, List.set_cons_zero, List.set_cons_succ]
  all_goals first | (refine soft_pass rfl HS ?_; have hg12 := True.intro) | (refine soft_part (v := ?_) (b := ?_) rfl (fun W hW => ?_) ?_ (fun b hg12 => ?_); rotate_left; rotate_left; (· go_simp; try with_reducible rfl); (· with_reducible rfl); cases b; all_goals first | (exact Bool.noConfusion hg12) | (simp only [Bool.not_eq_true', Bool.not_eq_false'] at hg12) | skip)
  all_goals try simp only [Act.put, List.setIfInBounds_toArray, List.set_cons_zero, List.set_cons_succ]
  all_goals refine soft_nil ?_
  all_goals have EG := EB.trans (HS.mono EB.size)
  all_goals first
    | (have HT := Lib.hid (show (vSeen x y) = false by simp only [vSeen, Bool.not_true, Bool.not_false, Bool.and_true, Bool.true_and, Bool.and_false, Bool.false_and, Bool.or_true, Bool.true_or, Bool.or_false, Bool.false_or, Bool.not_not, hg5, hg12]); go_wp2; go_ret; exact ⟨ret_bool HT.out.symm, EG⟩)
    | (have HT := Lib.hid (show (vSeen x y) = true by simp only [vSeen, Bool.not_true, Bool.not_false, Bool.and_true, Bool.true_and, Bool.and_false, Bool.false_and, Bool.or_true, Bool.true_or, Bool.or_false, Bool.false_or, Bool.not_not, hg5, hg12]); go_wp2; go_ret; exact ⟨ret_bool HT.out.symm, EG⟩)
theorem callable_implEqualNodes1_c : Callable Tryz.prog 129 := callable_of Tryz.func129 (by kernel_rfl) (by kernel_rfl)
set_option maxRecDepth 100000 in
set_option maxHeartbeats 2000000 in
theorem implEqualContentStores1_c {w : World} {cx : List Value} {x : LCacheEntry} (hx : RCacheEntry.raw w cx x) {cy : List Value} {y : LCacheEntry} (hy : RCacheEntry.raw w cy y) :
    Calls Tryz.prog 182 #[.agg cx.toArray, .agg cy.toArray] w fun e w' => e = .returned (.bool (vCe x y)) ∧ Below w.heap.size w w' := by
  have Hx := Lib.hid hx
  obtain ⟨fxv0, fxv1, fxv2, rfl, fx_0, fx_1, fx_2, fx_3, fx_4, fx_5, fx_6, fx_7, fx_8⟩ := RCacheEntry_raw hx
  obtain ⟨fxa0, fxp0, fxh0, fxl0⟩ := Rep.len_raw fx_2; obtain rfl : fxv0 = _ := by simpa using fxh0
  clear fxh0
  obtain ⟨fxa1, fxp1, fxh1, fxl1⟩ := Rep.len_raw fx_3; obtain rfl : fxv1 = _ := by simpa using fxh1
  clear fxh1
  obtain ⟨fxa2, fxp2, fxh2, fxl2⟩ := Rep.len_raw fx_5; obtain rfl : fxv2 = _ := by simpa using fxh2
  clear fxh2
  have Hy := Lib.hid hy
  obtain ⟨fyv0, fyv1, fyv2, rfl, fy_0, fy_1, fy_2, fy_3, fy_4, fy_5, fy_6, fy_7, fy_8⟩ := RCacheEntry_raw hy
  obtain ⟨fya0, fyp0, fyh0, fyl0⟩ := Rep.len_raw fy_2; obtain rfl : fyv0 = _ := by simpa using fyh0
  clear fyh0
  obtain ⟨fya1, fyp1, fyh1, fyl1⟩ := Rep.len_raw fy_3; obtain rfl : fyv1 = _ := by simpa using fyh1
  clear fyh1
  obtain ⟨fya2, fyp2, fyh2, fyl2⟩ := Rep.len_raw fy_5; obtain rfl : fyv2 = _ := by simpa using fyh2
  clear fyh2
  go_enter Tryz.func182, Tryz.ntmps182
  go_upto_region 1 with fail
  generalize hwB : World.alloc (World.alloc w _) _ = wB
  have EB : Below w.heap.size w wB := by rw [← hwB]; exact (by repeat (first | (with_reducible exact Below.refl _ _) | refine Below.alloc ?_ (by simp; try omega) _ | refine Below.drew ?_ | refine Below.setCell ?_ (by simp; try omega) _))
  have K2_0 : wB.cell? ⟨w.heap.size, 0, none⟩ = some (.slice fxa0 (x.1.1).length fxp0) := by rw [← hwB]; simp [go_sem]
  have K2_1 : wB.cell? ⟨w.heap.size, 1, none⟩ = some (.slice fxa1 (x.1.2.1).length fxp1) := by rw [← hwB]; simp [go_sem]
  have K2_2 : wB.cell? ⟨w.heap.size, 2, none⟩ = some (.slice fxa2 (x.1.2.2.1).length fxp2) := by rw [← hwB]; simp [go_sem]
  have K2_3 : wB.cell? ⟨w.heap.size, 3, none⟩ = some (.int .i64 x.1.2.2.2.1) := by rw [← hwB]; simp [go_sem]
  have K2_4 : wB.cell? ⟨w.heap.size, 4, none⟩ = some (.int .i64 x.1.2.2.2.2) := by rw [← hwB]; simp [go_sem]
  have K2_5 : wB.cell? ⟨w.heap.size, 5, none⟩ = some (.int .i64 x.2) := by rw [← hwB]; simp [go_sem]
  have K3_0 : wB.cell? ⟨w.heap.size + 1, 0, none⟩ = some (.slice fya0 (y.1.1).length fyp0) := by rw [← hwB]; simp [go_sem]
  have K3_1 : wB.cell? ⟨w.heap.size + 1, 1, none⟩ = some (.slice fya1 (y.1.2.1).length fyp1) := by rw [← hwB]; simp [go_sem]
  have K3_2 : wB.cell? ⟨w.heap.size + 1, 2, none⟩ = some (.slice fya2 (y.1.2.2.1).length fyp2) := by rw [← hwB]; simp [go_sem]
  have K3_3 : wB.cell? ⟨w.heap.size + 1, 3, none⟩ = some (.int .i64 y.1.2.2.2.1) := by rw [← hwB]; simp [go_sem]
  have K3_4 : wB.cell? ⟨w.heap.size + 1, 4, none⟩ = some (.int .i64 y.1.2.2.2.2) := by rw [← hwB]; simp [go_sem]
  have K3_5 : wB.cell? ⟨w.heap.size + 1, 5, none⟩ = some (.int .i64 y.2) := by rw [← hwB]; simp [go_sem]
  clear hwB
  refine wp_region_soft_plain (fun W => Below wB.heap.size wB W) [true, true, true, true, false, true, true, true, true, true, true, true, true] (Below.refl _ _) ?_
  intro wS HS
  all_goals first | (refine soft_pass rfl HS ?_) | (refine soft_read (v := ?_) rfl (fun W hW => ?_) ?_; rotate_left; (· go_simp; try with_reducible rfl))
  all_goals try simp only [Act.put, List.setIfInBounds_toArray, List.set_cons_zero, List.set_cons_succ]
  all_goals first | (refine soft_pass rfl HS ?_) | (refine soft_read (v := ?_) rfl (fun W hW => ?_) ?_; rotate_left; (· have A_K2_0 := cell_later hW K2_0; have A_K2_1 := cell_later hW K2_1; have A_K2_2 := cell_later hW K2_2; have A_K2_3 := cell_later hW K2_3; have A_K2_4 := cell_later hW K2_4; have A_K2_5 := cell_later hW K2_5; have A_K3_0 := cell_later hW K3_0; have A_K3_1 := cell_later hW K3_1; have A_K3_2 := cell_later hW K3_2; have A_K3_3 := cell_later hW K3_3; have A_K3_4 := cell_later hW K3_4; have A_K3_5 := cell_later hW K3_5; clear hW; go_simp; try with_reducible rfl))
  all_goals try simp only [Act.put, List.setIfInBounds_toArray, List.set_cons_zero, List.set_cons_succ]
  all_goals first | (refine soft_pass rfl HS ?_) | (refine soft_read (v := ?_) rfl (fun W hW => ?_) ?_; rotate_left; (· go_simp; try with_reducible rfl))
  all_goals try simp only [Act.put, List.setIfInBounds_toArray, List.set_cons_zero, List.set_cons_succ]
  all_goals first | (refine soft_pass rfl HS ?_) | (refine soft_read (v := ?_) rfl (fun W hW => ?_) ?_; rotate_left; (· have A_K2_0 := cell_later hW K2_0; have A_K2_1 := cell_later hW K2_1; have A_K2_2 := cell_later hW K2_2; have A_K2_3 := cell_later hW K2_3; have A_K2_4 := cell_later hW K2_4; have A_K2_5 := cell_later hW K2_5; have A_K3_0 := cell_later hW K3_0; have A_K3_1 := cell_later hW K3_1; have A_K3_2 := cell_later hW K3_2; have A_K3_3 := cell_later hW K3_3; have A_K3_4 := cell_later hW K3_4; have A_K3_5 := cell_later hW K3_5; clear hW; go_simp; try with_reducible rfl))
  all_goals try simp only [Act.put, List.setIfInBounds_toArray, List.set_cons_zero, List.set_cons_succ]
  all_goals first | (refine soft_pass rfl HS ?_) | (refine soft_do rfl (fun K hK => ?_); go_simp; refine (implEqualData_c (Rep.raw.below fx_0 (EB.trans (HS.mono EB.size))) (Rep.raw.below fy_0 (EB.trans (HS.mono EB.size)))).mono ?_; rintro e wS1 ⟨rfl, hbS⟩; replace HS := HS.trans (hbS.mono HS.size); refine hK _ _ HS ?_; clear hK K hbS)
  all_goals try simp only [Act.put, List.setIfInBounds_toArray, List.set_cons_zero, List.set_cons_succ]
  all_goals first | (refine soft_pass rfl HS ?_; have hg5 := True.intro) | (refine soft_part (v := ?_) (b := ?_) rfl (fun W hW => ?_) ?_ (fun b hg5 => ?_); rotate_left; rotate_left; (· go_simp; try with_reducible rfl); (· with_reducible rfl); cases b; all_goals first | (exact Bool.noConfusion hg5) | (simp only [Bool.not_eq_true', Bool.not_eq_false'] at hg5) | skip)
  all_goals try simp only [Act.put, List.setIfInBounds_toArray, List.set_cons_zero, List.set_cons_succ]
  all_goals first | (refine soft_pass rfl HS ?_) | (refine soft_read (v := ?_) rfl (fun W hW => ?_) ?_; rotate_left; (· go_simp; try with_reducible rfl))
  all_goals try simp only [Act.put, List.setIfInBounds_toArray, List.set_cons_zero, List.set_cons_succ]
  all_goals first | (refine soft_pass rfl HS ?_) | (refine soft_read (v := ?_) rfl (fun W hW => ?_) ?_; rotate_left; (· have A_K2_0 := cell_later hW K2_0; have A_K2_1 := cell_later hW K2_1; have A_K2_2 := cell_later hW K2_2; have A_K2_3 := cell_later hW K2_3; have A_K2_4 := cell_later hW K2_4; have A_K2_5 := cell_later hW K2_5; have A_K3_0 := cell_later hW K3_0; have A_K3_1 := cell_later hW K3_1; have A_K3_2 := cell_later hW K3_2; have A_K3_3 := cell_later hW K3_3; have A_K3_4 := cell_later hW K3_4; have A_K3_5 := cell_later hW K3_5; clear hW; go_simp; try with_reducible rfl))
  all_goals try simp only [Act.put, List.setIfInBounds_toArray, List.set_cons_zero, List.set_cons_succ]
  all_goals first | (refine soft_pass rfl HS ?_) | (refine soft_read (v := ?_) rfl (fun W hW => ?_) ?_; rotate_left; (· go_simp; try with_reducible rfl))
  all_goals try simp only [Act.put, List.setIfInBounds_toArray, List.set_cons_zero, List.set_cons_succ]
  all_goals first | (refine soft_pass rfl HS ?_) | (refine soft_read (v := ?_) rfl (fun W hW => ?_) ?_; rotate_left; (· have A_K2_0 := cell_later hW K2_0; have A_K2_1 := cell_later hW K2_1; have A_K2_2 := cell_later hW K2_2; have A_K2_3 := cell_later hW K2_3; have A_K2_4 := cell_later hW K2_4; have A_K2_5 := cell_later hW K2_5; have A_K3_0 := cell_later hW K3_0; have A_K3_1 := cell_later hW K3_1; have A_K3_2 := cell_later hW K3_2; have A_K3_3 := cell_later hW K3_3; have A_K3_4 := cell_later hW K3_4; have A_K3_5 := cell_later hW K3_5; clear hW; go_simp; try with_reducible rfl))
  all_goals try simp only [Act.put, List.setIfInBounds_toArray, List.set_cons_zero, List.set_cons_succ]
  all_goals first | (refine soft_pass rfl HS ?_) | (refine soft_read (v := ?_) rfl (fun W hW => ?_) ?_; rotate_left; (· go_simp; try with_reducible rfl))
  all_goals try simp only [Act.put, List.setIfInBounds_toArray, List.set_cons_zero, List.set_cons_succ]
  all_goals first | (refine soft_pass rfl HS ?_) | (refine soft_read (v := ?_) rfl (fun W hW => ?_) ?_; rotate_left; (· go_simp; try with_reducible rfl))
  all_goals try simp only [Act.put, List.setIfInBounds_toArray, List.set_cons_zero, List.set_cons_succ]
  all_goals first | (refine soft_pass rfl HS ?_; have hg12 := True.intro) | (refine soft_part (v := ?_) (b := ?_) rfl (fun W hW => ?_) ?_ (fun b hg12 => ?_); rotate_left; rotate_left; (· go_simp; try with_reducible rfl); (· with_reducible rfl); cases b; all_goals first | (exact Bool.noConfusion hg12) | (simp only [Bool.not_eq_true', Bool.not_eq_false'] at hg12) | skip)
  all_goals try simp only [Act.put, List.setIfInBounds_toArray, List.set_cons_zero, List.set_cons_succ]
  all_goals refine soft_nil ?_
  all_goals have EG := EB.trans (HS.mono EB.size)
  all_goals first
    | (have HT := Lib.hid (show (vCe x y) = false by simp only [vCe, Bool.not_true, Bool.not_false, Bool.and_true, Bool.true_and, Bool.and_false, Bool.false_and, Bool.or_true, Bool.true_or, Bool.or_false, Bool.false_or, Bool.not_not, hg5, hg12]); go_wp2; go_ret; exact ⟨ret_bool HT.out.symm, EG⟩)
    | (have HT := Lib.hid (show (vCe x y) = true by simp only [vCe, Bool.not_true, Bool.not_false, Bool.and_true, Bool.true_and, Bool.and_false, Bool.false_and, Bool.or_true, Bool.true_or, Bool.or_false, Bool.false_or, Bool.not_not, hg5, hg12]); go_wp2; go_ret; exact ⟨ret_bool HT.out.symm, EG⟩)
theorem callable_implEqualContentStores1_c : Callable Tryz.prog 182 := callable_of Tryz.func182 (by kernel_rfl) (by kernel_rfl)
end Go.Proofs.YtaphafmkidjakaaGreat

/-
  Lists of pending interests that are valid: the program.
-/
import Derived.Test.YtcnhfggfgknooaaGreatVPend
import Derived.IntWalk
import Derived.Deep.Cut
namespace Go.Proofs.YtcnhfggfgknooaaGreat
open Go.RowKit
set_option linter.unusedVariables false
set_option linter.unusedSimpArgs false
set_option linter.unnecessarySimpa false
def okPendI (l : List LPendingInterest) (k : Nat) (x : LPendingInterest) : Bool := !((((!vName x.1 || ((x.1.length : Int) == 0)) || ((x.2.1.length : Int) == 0)) || !inR x.2.2 0 100000) || decide (idxOf (isPend x.1) (l.take k) ≥ 0))
theorem okPendI_no {l : List LPendingInterest} {k : Nat} {x : LPendingInterest} (h : okPendI l k x = false) : okPend l k x = false := by
  unfold okPendI at h; unfold okPend
  cases hz : ((x.2.1.length : Int) == 0)
  · rw [hz] at h
    generalize vName x.1 = b1 at *; generalize ((x.1.length : Int) == 0) = b2 at *; generalize inR x.2.2 0 100000 = b3 at *; generalize decide (idxOf (isPend x.1) (l.take k) ≥ 0) = b4 at *; generalize vAsk x.2.1 = b5 at *
    revert h; cases b1 <;> cases b2 <;> cases b3 <;> cases b4 <;> cases b5 <;> decide
  · have e : vAsk x.2.1 = false := by
      have h0 : x.2.1.length = 0 := by have := eq_of_beq hz; omega
      unfold vAsk; rw [h0]; rfl
    rw [e]
    generalize vName x.1 = b1 at *; generalize ((x.1.length : Int) == 0) = b2 at *; generalize inR x.2.2 0 100000 = b3 at *; generalize decide (idxOf (isPend x.1) (l.take k) ≥ 0) = b4 at *
    cases b1 <;> cases b2 <;> cases b3 <;> cases b4 <;> decide
theorem okPendI_yes {l : List LPendingInterest} {k : Nat} {x : LPendingInterest} (h : okPendI l k x = true) : okPend l k x = vAsk x.2.1 ∧ 0 < x.2.1.length := by
  unfold okPendI at h; unfold okPend
  have hz : 0 < x.2.1.length := by
    cases hz : ((x.2.1.length : Int) == 0)
    · simp at hz; exact List.length_pos_iff.2 hz
    · rw [hz] at h; simp at h
  refine ⟨?_, hz⟩
  generalize vName x.1 = b1 at *; generalize ((x.1.length : Int) == 0) = b2 at *; generalize inR x.2.2 0 100000 = b3 at *; generalize decide (idxOf (isPend x.1) (l.take k) ≥ 0) = b4 at *; generalize vAsk x.2.1 = b5 at *; generalize ((x.2.1.length : Int) == 0) = b6 at *
  revert h; cases b1 <;> cases b2 <;> cases b3 <;> cases b4 <;> cases b5 <;> cases b6 <;> decide
theorem vPends_yes {l : List LPendingInterest} {k : Nat} (q : allB (fun j => okPend l j (l.getD j ([], [], 0))) k = true) (h : ¬ k < l.length) (hk : k ≤ l.length) : vPends l = decide ((l.length : Int) ≤ 12) := by
  rw [vPends_good q h hk, Bool.eq_iff_iff]; simp; omega
set_option maxRecDepth 100000 in
set_option maxHeartbeats 4000000 in
theorem implValidPending_w {w : World} {vl : Value} {l : List LPendingInterest} (hl : (Rep.slice 127 RPendingInterest).raw w [vl] l) :
    Calls Tryz.prog 95 #[vl] w fun e w' => e = .returned (.bool (vPends l)) ∧ Below w.heap.size w w' := by
  obtain ⟨al, pl, el, ll⟩ := Rep.len_raw hl; obtain rfl : vl = _ := by simpa using el
  have hcap := Rep.cap_raw hl
  clear el
  go_enter Tryz.func95, Tryz.ntmps95
  go_wp2
  go_loopw [9] (fun i wr => ∃ k : Nat, k ≤ l.length ∧ i = .int .i64 k ∧ Hid (allB (fun j => okPend l j (l.getD j ([], [], 0))) k = true) ∧ Below w.heap.size w wr) (fun i _ => l.length - (intOf i).toNat)
  case atStart => exact ⟨0, Nat.zero_le _, rfl, Lib.hid rfl, Below.refl _ _⟩
  case round =>
    obtain ⟨k, hk, rfl, HN, hbel⟩ := hrel
    by_cases hlt : k < l.length
    · have HTK := Lib.hid (Rep.take_raw (hl.below hbel) hk)
      have hb := fun q => vPends_bad hlt q
      have hxx := fun q => vPends_next hlt q HN.out
      obtain ⟨qb, qo, rfl, qc0, qc1, qc2, qr, Aq0, Aq1, Aq2⟩ := Rep.get3 (hl.below hbel) (i := k) (by omega) rfl
      generalize l[k] = x at *
      have HB : Hid (okPendI l k x = false → vPends l = false) := Lib.hid (fun q => hb (okPendI_no q))
      have HX : Hid (okPendI l k x = true → 0 < x.2.1.length ∧ (vAsk x.2.1 = false → vPends l = false) ∧ (vAsk x.2.1 = true → allB (fun j => okPend l j (l.getD j ([], [], 0))) (k + 1) = true)) := Lib.hid (fun q => ⟨(okPendI_yes q).2, fun p => hb ((okPendI_yes q).1.trans p), fun p => hxx ((okPendI_yes q).1.trans p)⟩)
      clear hb hxx
      obtain ⟨qv0, qv1, qhe, q_0, q_1, q_2, q_3⟩ := RPendingInterest_raw qr
      simp only [List.cons.injEq, and_true] at qhe
      obtain ⟨rfl, rfl, rfl⟩ := qhe
      obtain ⟨qa0, qp0, qh0, ql0⟩ := Rep.len_raw q_1; obtain rfl : qc0 = _ := by simpa using qh0
      clear qh0
      obtain ⟨qa1, qp1, qh1, ql1⟩ := Rep.len_raw q_2; obtain rfl : qc1 = _ := by simpa using qh1
      clear qh1
      have hkI := Int.ofNat_lt.2 hlt
      have hk0 := Int.natCast_nonneg k
      have hkc : (k : Int) ≤ (pl : Int) := by omega
      have hkd : k ≤ pl := by omega
      go_upto_region 4 with fail
      generalize hwC : World.alloc wr _ = wC
      have EC : Below wr.heap.size wr wC := by rw [← hwC]; exact (Below.refl _ _).alloc (Nat.le_refl _) _
      have M0 : wC.cell? ⟨wr.heap.size, 0, none⟩ = some (.slice qa0 x.1.length qp0) := by rw [← hwC]; simp [go_sem]
      have M1 : wC.cell? ⟨wr.heap.size, 1, none⟩ = some (.slice qa1 x.2.1.length qp1) := by rw [← hwC]; simp [go_sem]
      have M2 : wC.cell? ⟨wr.heap.size, 2, none⟩ = some (.int .i64 x.2.2) := by rw [← hwC]; simp [go_sem]
      clear hwC
      refine wp_region_soft (fun W => Below wC.heap.size wC W) [true, true, false, true, true, true, true, true, true, true, true, true, true, true, true, true, true, true, true, true, false, true, true, true, true, true, true, true, true, false, true, true] (by kernel_rfl) (by kernel_rfl) (fun c a d v w h => by cases d <;> exact h) ((Below.refl _ _).drew) ?_
      intro wS HS
      all_goals first | (refine soft_pass rfl HS ?_) | (refine soft_read (v := ?_) rfl (fun W hW => ?_) ?_; rotate_left; (· go_simp; try with_reducible rfl))
      all_goals try simp only [Act.put, List.setIfInBounds_toArray, List.set_cons_zero, List.set_cons_succ]
      all_goals first | (refine soft_pass rfl HS ?_) | (refine soft_read (v := ?_) rfl (fun W hW => ?_) ?_; rotate_left; (· have A_M0 := cell_later hW M0; have A_M1 := cell_later hW M1; have A_M2 := cell_later hW M2; clear hW; go_simp; try with_reducible rfl))
      all_goals try simp only [Act.put, List.setIfInBounds_toArray, List.set_cons_zero, List.set_cons_succ]
      all_goals first | (refine soft_pass rfl HS ?_) | (refine soft_do rfl (fun K hK => ?_); go_simp; refine (implValidName_c (Rep.raw.below q_0 (EC.trans (HS.mono EC.size)))).mono ?_; rintro e wS1 ⟨rfl, hbS⟩; replace HS := HS.trans (hbS.mono HS.size); refine hK _ _ HS ?_; clear hK K hbS)
      all_goals try simp only [Act.put, List.setIfInBounds_toArray, List.set_cons_zero, List.set_cons_succ]
      all_goals first | (refine soft_pass rfl HS ?_) | (refine soft_read (v := ?_) rfl (fun W hW => ?_) ?_; rotate_left; (· go_simp; try with_reducible rfl))
      all_goals try simp only [Act.put, List.setIfInBounds_toArray, List.set_cons_zero, List.set_cons_succ]
      all_goals first | (refine soft_pass rfl HS ?_; have hg4 := True.intro) | (refine soft_part (v := ?_) (b := ?_) rfl (fun W hW => ?_) ?_ (fun b hg4 => ?_); rotate_left; rotate_left; (· go_simp; try with_reducible rfl); (· with_reducible rfl); cases b; all_goals first | (exact Bool.noConfusion hg4) | (simp only [Bool.not_eq_true', Bool.not_eq_false'] at hg4) | skip)
      iterate 2
       all_goals try simp only [Act.put, List.setIfInBounds_toArray, List.set_cons_zero, List.set_cons_succ]
       all_goals first | (refine soft_pass rfl HS ?_) | (refine soft_read (v := ?_) rfl (fun W hW => ?_) ?_; rotate_left; (· go_simp; try with_reducible rfl))
      all_goals try simp only [Act.put, List.setIfInBounds_toArray, List.set_cons_zero, List.set_cons_succ]
      all_goals first | (refine soft_pass rfl HS ?_) | (refine soft_read (v := ?_) rfl (fun W hW => ?_) ?_; rotate_left; (· have A_M0 := cell_later hW M0; have A_M1 := cell_later hW M1; have A_M2 := cell_later hW M2; clear hW; go_simp; try with_reducible rfl))
      iterate 3
       all_goals try simp only [Act.put, List.setIfInBounds_toArray, List.set_cons_zero, List.set_cons_succ]
       all_goals first | (refine soft_pass rfl HS ?_) | (refine soft_read (v := ?_) rfl (fun W hW => ?_) ?_; rotate_left; (· go_simp; try with_reducible rfl))
      all_goals try simp only [Act.put, List.setIfInBounds_toArray, List.set_cons_zero, List.set_cons_succ]
      all_goals first | (refine soft_pass rfl HS ?_; have hg11 := True.intro) | (refine soft_part (v := ?_) (b := ?_) rfl (fun W hW => ?_) ?_ (fun b hg11 => ?_); rotate_left; rotate_left; (· go_simp; try with_reducible rfl); (· with_reducible rfl); cases b; all_goals first | (exact Bool.noConfusion hg11) | (simp only [Bool.not_eq_true', Bool.not_eq_false'] at hg11) | skip)
      all_goals try simp only [Act.put, List.setIfInBounds_toArray, List.set_cons_zero, List.set_cons_succ]
      all_goals first | (refine soft_pass rfl HS ?_) | (refine soft_read (v := ?_) rfl (fun W hW => ?_) ?_; rotate_left; (· go_simp; try with_reducible rfl))
      all_goals try simp only [Act.put, List.setIfInBounds_toArray, List.set_cons_zero, List.set_cons_succ]
      all_goals first | (refine soft_pass rfl HS ?_) | (refine soft_read (v := ?_) rfl (fun W hW => ?_) ?_; rotate_left; (· have A_M0 := cell_later hW M0; have A_M1 := cell_later hW M1; have A_M2 := cell_later hW M2; clear hW; go_simp; try with_reducible rfl))
      iterate 3
       all_goals try simp only [Act.put, List.setIfInBounds_toArray, List.set_cons_zero, List.set_cons_succ]
       all_goals first | (refine soft_pass rfl HS ?_) | (refine soft_read (v := ?_) rfl (fun W hW => ?_) ?_; rotate_left; (· go_simp; try with_reducible rfl))
      all_goals try simp only [Act.put, List.setIfInBounds_toArray, List.set_cons_zero, List.set_cons_succ]
      all_goals first | (refine soft_pass rfl HS ?_; have hg17 := True.intro) | (refine soft_part (v := ?_) (b := ?_) rfl (fun W hW => ?_) ?_ (fun b hg17 => ?_); rotate_left; rotate_left; (· go_simp; try with_reducible rfl); (· with_reducible rfl); cases b; all_goals first | (exact Bool.noConfusion hg17) | (simp only [Bool.not_eq_true', Bool.not_eq_false'] at hg17) | skip)
      all_goals try simp only [Act.put, List.setIfInBounds_toArray, List.set_cons_zero, List.set_cons_succ]
      all_goals first | (refine soft_pass rfl HS ?_) | (refine soft_read (v := ?_) rfl (fun W hW => ?_) ?_; rotate_left; (· go_simp; try with_reducible rfl))
      all_goals try simp only [Act.put, List.setIfInBounds_toArray, List.set_cons_zero, List.set_cons_succ]
      all_goals first | (refine soft_pass rfl HS ?_) | (refine soft_read (v := ?_) rfl (fun W hW => ?_) ?_; rotate_left; (· have A_M0 := cell_later hW M0; have A_M1 := cell_later hW M1; have A_M2 := cell_later hW M2; clear hW; go_simp; try with_reducible rfl))
      all_goals try simp only [Act.put, List.setIfInBounds_toArray, List.set_cons_zero, List.set_cons_succ]
      all_goals first | (refine soft_pass rfl HS ?_) | (refine soft_do rfl (fun K hK => ?_); go_simp; refine (implInRange_c).mono ?_; rintro e wS1 ⟨rfl, hwS⟩; obtain rfl := hwS.symm; refine hK _ _ HS ?_; clear hK K)
      iterate 2
       all_goals try simp only [Act.put, List.setIfInBounds_toArray, List.set_cons_zero, List.set_cons_succ]
       all_goals first | (refine soft_pass rfl HS ?_) | (refine soft_read (v := ?_) rfl (fun W hW => ?_) ?_; rotate_left; (· go_simp; try with_reducible rfl))
      all_goals try simp only [Act.put, List.setIfInBounds_toArray, List.set_cons_zero, List.set_cons_succ]
      all_goals first | (refine soft_pass rfl HS ?_; have hg23 := True.intro) | (refine soft_part (v := ?_) (b := ?_) rfl (fun W hW => ?_) ?_ (fun b hg23 => ?_); rotate_left; rotate_left; (· go_simp; try with_reducible rfl); (· with_reducible rfl); cases b; all_goals first | (exact Bool.noConfusion hg23) | (simp only [Bool.not_eq_true', Bool.not_eq_false'] at hg23) | skip)
      iterate 4
       all_goals try simp only [Act.put, List.setIfInBounds_toArray, List.set_cons_zero, List.set_cons_succ]
       all_goals first | (refine soft_pass rfl HS ?_) | (refine soft_read (v := ?_) rfl (fun W hW => ?_) ?_; rotate_left; (· go_simp; try with_reducible rfl))
      all_goals try simp only [Act.put, List.setIfInBounds_toArray, List.set_cons_zero, List.set_cons_succ]
      all_goals first | (refine soft_pass rfl HS ?_) | (refine soft_read (v := ?_) rfl (fun W hW => ?_) ?_; rotate_left; (· have A_M0 := cell_later hW M0; have A_M1 := cell_later hW M1; have A_M2 := cell_later hW M2; clear hW; go_simp; try with_reducible rfl))
      all_goals try simp only [Act.put, List.setIfInBounds_toArray, List.set_cons_zero, List.set_cons_succ]
      all_goals first | (refine soft_pass rfl HS ?_) | (refine soft_do rfl (fun K hK => ?_); go_simp; refine (implpendingAt_c (Rep.raw.below HTK.out (EC.trans (HS.mono EC.size))) (Rep.raw.below q_0 (EC.trans (HS.mono EC.size)))).mono ?_; rintro e wS1 ⟨rfl, hbS⟩; replace HS := HS.trans (hbS.mono HS.size); refine hK _ _ HS ?_; clear hK K hbS)
      all_goals try simp only [Act.put, List.setIfInBounds_toArray, List.set_cons_zero, List.set_cons_succ]
      all_goals first | (refine soft_pass rfl HS ?_) | (refine soft_read (v := ?_) rfl (fun W hW => ?_) ?_; rotate_left; (· go_simp; try with_reducible rfl))
      all_goals try simp only [Act.put, List.setIfInBounds_toArray, List.set_cons_zero, List.set_cons_succ]
      all_goals first | (refine soft_pass rfl HS ?_; have hg31 := True.intro) | (refine soft_part (v := ?_) (b := ?_) rfl (fun W hW => ?_) ?_ (fun b hg31 => ?_); rotate_left; rotate_left; (· go_simp; try with_reducible rfl); (· with_reducible rfl); cases b; all_goals first | (exact Bool.noConfusion hg31) | (simp only [Bool.not_eq_true', Bool.not_eq_false'] at hg31) | skip)
      all_goals try simp only [Act.put, List.setIfInBounds_toArray, List.set_cons_zero, List.set_cons_succ]
      all_goals refine soft_nil ?_
      all_goals have EG := hbel.trans ((EC.trans (HS.mono EC.size)).mono hbel.size)
      all_goals first
        | (have HT := Lib.hid (HB.out (show okPendI l k x = false by simp only [okPendI, Bool.not_true, Bool.not_false, Bool.and_true, Bool.true_and, Bool.and_false, Bool.false_and, Bool.or_true, Bool.true_or, Bool.or_false, Bool.false_or, Bool.not_not, ge_iff_le, hg4, hg11, hg17, hg23, hg31])); clear HB HX HN HTK; go_wp2; go_ret; exact ⟨ret_bool HT.out.symm, EG⟩)
        | have HT := Lib.hid (HX.out (show okPendI l k x = true by simp only [okPendI, Bool.not_true, Bool.not_false, Bool.and_true, Bool.true_and, Bool.and_false, Bool.false_and, Bool.or_true, Bool.true_or, Bool.or_false, Bool.false_or, Bool.not_not, ge_iff_le, hg4, hg11, hg17, hg23, hg31]))
      all_goals try clear HB HX
      have C1 := M1
      have pn := Lib.hid q_2
      have HLP := Lib.hid HT.out.1
      have HNO := Lib.hid HT.out.2.1
      have HYES := Lib.hid HT.out.2.2
      clear HT hg4 hg11 hg17 hg23 hg31 HN HTK
      generalize x.2.1 = P at *
      have M1 := cell_later HS C1
      go_wp2
      clear M1
      go_loopw [49] (fun i wq => ∃ j : Nat, j ≤ P.length ∧ i = .int .i64 j ∧ Hid (allB (fun j => okAsk P j (P.getD j (0, 0, 0))) j = true) ∧ Below wC.heap.size wC wq) (fun i _ => P.length - (intOf i).toNat)
      case atStart => exact ⟨0, Nat.zero_le _, rfl, Lib.hid rfl, HS⟩
      case round =>
        obtain ⟨j, hj, rfl, HM, hq⟩ := hrel
        replace C1 := cell_later hq C1
        by_cases hjl : j < P.length
        · have hjI := Int.ofNat_lt.2 hjl
          have hj0 := Int.natCast_nonneg j
          obtain ⟨pb, po, rfl, pc0, pc1, pc2, pr, Ap0, Ap1, Ap2⟩ := Rep.get3 (pn.out.below (EC.trans (hq.mono EC.size))) (i := j) (by omega) rfl
          have hb := fun q => HNO.out (vAsk_bad hjl q)
          have hxx := fun q => vAsk_next hjl q HM.out
          by_cases h0 : 0 < j
          · obtain ⟨i, hi⟩ : ∃ i, j - 1 = i := ⟨_, rfl⟩
            have hil : i < P.length := by omega
            have HO := Lib.hid (okAsk_pos (l := P) (x := P[j]) h0 hi hil)
            have hsub : (j : Int) - 1 = (i : Int) := by omega
            obtain ⟨yb, yo, yE, yc0, yc1, yc2, yr, Ay0, Ay1, Ay2⟩ := Rep.get3 (pn.out.below (EC.trans (hq.mono EC.size))) hil rfl
            simp only [Option.some.injEq, Addr.mk.injEq, and_true] at yE
            obtain ⟨rfl, rfl⟩ := yE
            generalize P[i] = u at *
            obtain ⟨yhe, y_0, y_1, y_2⟩ := RRequester_raw yr
            simp only [List.cons.injEq, and_true] at yhe
            obtain ⟨rfl, rfl, rfl⟩ := yhe
            clear yr
            have hw : IntKind.i64.wrap (i : Int) = i := IntWalk.i64_in _ (by omega)
            have hi0 := Int.natCast_nonneg i
            have hi2 := Int.ofNat_lt.2 hil
            clear hi
            have hp : decide ((j : Int) > 0) = true := by simp; omega
            have hp2 : decide (0 < j) = true := by simpa using h0
            have hp3 : (0 : Int) < j := by omega
            generalize P[j] = y at *
            have HB := Lib.hid hb; have HX := Lib.hid hxx; clear hb hxx
            obtain ⟨phe, p_0, p_1, p_2⟩ := RRequester_raw pr
            simp only [List.cons.injEq, and_true] at phe
            obtain ⟨rfl, rfl, rfl⟩ := phe
            go_upto_region 9 with fail
            generalize hwD : World.alloc wr _ = wD
            have ED : Below wr.heap.size wr wD := by rw [← hwD]; exact (Below.refl _ _).alloc (Nat.le_refl _) _
            have N0 : wD.cell? ⟨wr.heap.size, 0, none⟩ = some (.int .i64 y.1) := by rw [← hwD]; simp [go_sem]
            have N1 : wD.cell? ⟨wr.heap.size, 1, none⟩ = some (.int .i64 y.2.1) := by rw [← hwD]; simp [go_sem]
            have N2 : wD.cell? ⟨wr.heap.size, 2, none⟩ = some (.int .i64 y.2.2) := by rw [← hwD]; simp [go_sem]
            have D1 := cell_later ED C1
            replace Ay0 := cell_later ED Ay0
            clear hwD
            refine wp_region_soft (fun W => Below wD.heap.size wD W) [true, true, false, true, true, true, true, false, true, true, true, true, true, true, true, true, true, true, true, true, true, true, true, true, true, true] (by kernel_rfl) (by kernel_rfl) (fun c a d v w h => by cases d <;> exact h) ((Below.refl _ _).drew) ?_
            intro wS HS
            all_goals first | (refine soft_pass rfl HS ?_) | (refine soft_read (v := ?_) rfl (fun W hW => ?_) ?_; rotate_left; (· go_simp; try with_reducible rfl))
            all_goals try simp only [Act.put, List.setIfInBounds_toArray, List.set_cons_zero, List.set_cons_succ]
            all_goals first | (refine soft_pass rfl HS ?_) | (refine soft_read (v := ?_) rfl (fun W hW => ?_) ?_; rotate_left; (· have A_D1 := cell_later hW D1; have A_N0 := cell_later hW N0; have A_N1 := cell_later hW N1; have A_N2 := cell_later hW N2; have A_Ay0 := cell_later hW Ay0; clear hW; go_simp; try with_reducible rfl))
            all_goals try simp only [Act.put, List.setIfInBounds_toArray, List.set_cons_zero, List.set_cons_succ]
            all_goals first | (refine soft_pass rfl HS ?_) | (refine soft_do rfl (fun K hK => ?_); go_simp; refine (implInRange_c).mono ?_; rintro e wS1 ⟨rfl, hwS⟩; obtain rfl := hwS.symm; refine hK _ _ HS ?_; clear hK K)
            all_goals try simp only [Act.put, List.setIfInBounds_toArray, List.set_cons_zero, List.set_cons_succ]
            all_goals first | (refine soft_pass rfl HS ?_) | (refine soft_read (v := ?_) rfl (fun W hW => ?_) ?_; rotate_left; (· go_simp; try with_reducible rfl))
            all_goals try simp only [Act.put, List.setIfInBounds_toArray, List.set_cons_zero, List.set_cons_succ]
            all_goals first | (refine soft_pass rfl HS ?_; have hg4 := True.intro) | (refine soft_part (v := ?_) (b := ?_) rfl (fun W hW => ?_) ?_ (fun b hg4 => ?_); rotate_left; rotate_left; (· go_simp; try with_reducible rfl); (· with_reducible rfl); cases b; all_goals first | (exact Bool.noConfusion hg4) | (simp only [Bool.not_eq_true', Bool.not_eq_false'] at hg4) | skip)
            all_goals try simp only [Act.put, List.setIfInBounds_toArray, List.set_cons_zero, List.set_cons_succ]
            all_goals first | (refine soft_pass rfl HS ?_) | (refine soft_read (v := ?_) rfl (fun W hW => ?_) ?_; rotate_left; (· go_simp; try with_reducible rfl))
            all_goals try simp only [Act.put, List.setIfInBounds_toArray, List.set_cons_zero, List.set_cons_succ]
            all_goals first | (refine soft_pass rfl HS ?_) | (refine soft_read (v := ?_) rfl (fun W hW => ?_) ?_; rotate_left; (· have A_D1 := cell_later hW D1; have A_N0 := cell_later hW N0; have A_N1 := cell_later hW N1; have A_N2 := cell_later hW N2; have A_Ay0 := cell_later hW Ay0; clear hW; go_simp; try with_reducible rfl))
            all_goals try simp only [Act.put, List.setIfInBounds_toArray, List.set_cons_zero, List.set_cons_succ]
            all_goals first | (refine soft_pass rfl HS ?_) | (refine soft_do rfl (fun K hK => ?_); go_simp; refine (implInRange_c).mono ?_; rintro e wS1 ⟨rfl, hwS⟩; obtain rfl := hwS.symm; refine hK _ _ HS ?_; clear hK K)
            iterate 2
             all_goals try simp only [Act.put, List.setIfInBounds_toArray, List.set_cons_zero, List.set_cons_succ]
             all_goals first | (refine soft_pass rfl HS ?_) | (refine soft_read (v := ?_) rfl (fun W hW => ?_) ?_; rotate_left; (· go_simp; try with_reducible rfl))
            all_goals try simp only [Act.put, List.setIfInBounds_toArray, List.set_cons_zero, List.set_cons_succ]
            all_goals first | (refine soft_pass rfl HS ?_; have hg10 := True.intro) | (refine soft_part (v := ?_) (b := ?_) rfl (fun W hW => ?_) ?_ (fun b hg10 => ?_); rotate_left; rotate_left; (· go_simp; try with_reducible rfl); (· with_reducible rfl); cases b; all_goals first | (exact Bool.noConfusion hg10) | (simp only [Bool.not_eq_true', Bool.not_eq_false'] at hg10) | skip)
            iterate 2
             all_goals try simp only [Act.put, List.setIfInBounds_toArray, List.set_cons_zero, List.set_cons_succ]
             all_goals first | (refine soft_pass rfl HS ?_) | (refine soft_read (v := ?_) rfl (fun W hW => ?_) ?_; rotate_left; (· go_simp; try with_reducible rfl))
            all_goals try simp only [Act.put, List.setIfInBounds_toArray, List.set_cons_zero, List.set_cons_succ]
            all_goals first | (refine soft_pass rfl HS ?_; have hg13 := True.intro) | (refine soft_part (v := ?_) (b := ?_) rfl (fun W hW => ?_) ?_ (fun b hg13 => ?_); rotate_left; rotate_left; (· go_simp; try with_reducible rfl); (· with_reducible rfl); cases b; all_goals first | (exact Bool.noConfusion hg13) | (simp only [Bool.not_eq_true', Bool.not_eq_false'] at hg13) | skip)
            all_goals try simp only [Act.put, List.setIfInBounds_toArray, List.set_cons_zero, List.set_cons_succ]
            all_goals first | (refine soft_pass rfl HS ?_) | (refine soft_read (v := ?_) rfl (fun W hW => ?_) ?_; rotate_left; (· go_simp; try with_reducible rfl))
            all_goals try simp only [Act.put, List.setIfInBounds_toArray, List.set_cons_zero, List.set_cons_succ]
            all_goals first | (refine soft_pass rfl HS ?_) | (refine soft_read (v := ?_) rfl (fun W hW => ?_) ?_; rotate_left; (· have A_D1 := cell_later hW D1; have A_N0 := cell_later hW N0; have A_N1 := cell_later hW N1; have A_N2 := cell_later hW N2; have A_Ay0 := cell_later hW Ay0; clear hW; go_simp; try with_reducible rfl))
            iterate 4
             all_goals try simp only [Act.put, List.setIfInBounds_toArray, List.set_cons_zero, List.set_cons_succ]
             all_goals first | (refine soft_pass rfl HS ?_) | (refine soft_read (v := ?_) rfl (fun W hW => ?_) ?_; rotate_left; (· go_simp; try with_reducible rfl))
            iterate 2
             all_goals try simp only [Act.put, List.setIfInBounds_toArray, List.set_cons_zero, List.set_cons_succ]
             all_goals first | (refine soft_pass rfl HS ?_) | (refine soft_read (v := ?_) rfl (fun W hW => ?_) ?_; rotate_left; (· have A_D1 := cell_later hW D1; have A_N0 := cell_later hW N0; have A_N1 := cell_later hW N1; have A_N2 := cell_later hW N2; have A_Ay0 := cell_later hW Ay0; clear hW; go_simp; try with_reducible rfl))
             all_goals try simp only [Act.put, List.setIfInBounds_toArray, List.set_cons_zero, List.set_cons_succ]
             all_goals first | (refine soft_pass rfl HS ?_) | (refine soft_read (v := ?_) rfl (fun W hW => ?_) ?_; rotate_left; (· go_simp; try with_reducible rfl))
            all_goals try simp only [Act.put, List.setIfInBounds_toArray, List.set_cons_zero, List.set_cons_succ]
            all_goals first | (refine soft_pass rfl HS ?_) | (refine soft_read (v := ?_) rfl (fun W hW => ?_) ?_; rotate_left; (· go_simp; try with_reducible rfl))
            all_goals try simp only [Act.put, List.setIfInBounds_toArray, List.set_cons_zero, List.set_cons_succ]
            all_goals first | (refine soft_pass rfl HS ?_; have hg25 := True.intro) | (refine soft_part (v := ?_) (b := ?_) rfl (fun W hW => ?_) ?_ (fun b hg25 => ?_); rotate_left; rotate_left; (· go_simp; try with_reducible rfl); (· with_reducible rfl); cases b; all_goals first | (exact Bool.noConfusion hg25) | (simp only [Bool.not_eq_true', Bool.not_eq_false'] at hg25) | skip)
            all_goals try simp only [Act.put, List.setIfInBounds_toArray, List.set_cons_zero, List.set_cons_succ]
            all_goals refine soft_nil ?_
            all_goals have EQ := hq.trans ((ED.trans (HS.mono ED.size)).mono hq.size)
            all_goals first
              | (have HT := Lib.hid (HB.out (show _ = false by rw [HO.out]; simp only [okA, Bool.not_true, Bool.not_false, Bool.and_true, Bool.true_and, Bool.and_false, Bool.false_and, Bool.or_true, Bool.true_or, Bool.or_false, Bool.false_or, Bool.not_not, ge_iff_le, hg4, hg10, hg13, hg25])); clear HB HX HM HO; have EG := hbel.trans ((EC.trans (EQ.mono EC.size)).mono hbel.size); go_wp2; go_ret; exact ⟨ret_bool HT.out.symm, EG⟩)
              | (have HT := Lib.hid (HX.out (show _ = true by rw [HO.out]; simp only [okA, Bool.not_true, Bool.not_false, Bool.and_true, Bool.true_and, Bool.and_false, Bool.false_and, Bool.or_true, Bool.true_or, Bool.or_false, Bool.false_or, Bool.not_not, ge_iff_le, hg4, hg10, hg13, hg25])); clear HB HX HM HO; go_wp2; go_roundw; (case rel => exact ⟨j + 1, by omega, by go_num, HT, EQ⟩); (case measure => simp [intOf]; omega))
          · have HO := Lib.hid (okAsk_zero (l := P) (x := P[j]) h0)
            have hp : decide ((j : Int) > 0) = false := by simp; omega
            have hp2 : decide (0 < j) = false := by simpa using h0
            have hp3 : ¬ (0 : Int) < j := by omega
            generalize P[j] = y at *
            have HB := Lib.hid hb; have HX := Lib.hid hxx; clear hb hxx
            obtain ⟨phe, p_0, p_1, p_2⟩ := RRequester_raw pr
            simp only [List.cons.injEq, and_true] at phe
            obtain ⟨rfl, rfl, rfl⟩ := phe
            go_upto_region 9 with fail
            generalize hwD : World.alloc wr _ = wD
            have ED : Below wr.heap.size wr wD := by rw [← hwD]; exact (Below.refl _ _).alloc (Nat.le_refl _) _
            have N0 : wD.cell? ⟨wr.heap.size, 0, none⟩ = some (.int .i64 y.1) := by rw [← hwD]; simp [go_sem]
            have N1 : wD.cell? ⟨wr.heap.size, 1, none⟩ = some (.int .i64 y.2.1) := by rw [← hwD]; simp [go_sem]
            have N2 : wD.cell? ⟨wr.heap.size, 2, none⟩ = some (.int .i64 y.2.2) := by rw [← hwD]; simp [go_sem]
            have D1 := cell_later ED C1
            clear hwD
            refine wp_region_soft (fun W => Below wD.heap.size wD W) [true, true, false, true, true, true, true, false, true, true, true, true, true, true, true, true, true, true, true, true, true, true, true, true, true, true] (by kernel_rfl) (by kernel_rfl) (fun c a d v w h => by cases d <;> exact h) ((Below.refl _ _).drew) ?_
            intro wS HS
            all_goals first | (refine soft_pass rfl HS ?_) | (refine soft_read (v := ?_) rfl (fun W hW => ?_) ?_; rotate_left; (· go_simp; try with_reducible rfl))
            all_goals try simp only [Act.put, List.setIfInBounds_toArray, List.set_cons_zero, List.set_cons_succ]
            all_goals first | (refine soft_pass rfl HS ?_) | (refine soft_read (v := ?_) rfl (fun W hW => ?_) ?_; rotate_left; (· have A_D1 := cell_later hW D1; have A_N0 := cell_later hW N0; have A_N1 := cell_later hW N1; have A_N2 := cell_later hW N2; clear hW; go_simp; try with_reducible rfl))
            all_goals try simp only [Act.put, List.setIfInBounds_toArray, List.set_cons_zero, List.set_cons_succ]
            all_goals first | (refine soft_pass rfl HS ?_) | (refine soft_do rfl (fun K hK => ?_); go_simp; refine (implInRange_c).mono ?_; rintro e wS1 ⟨rfl, hwS⟩; obtain rfl := hwS.symm; refine hK _ _ HS ?_; clear hK K)
            all_goals try simp only [Act.put, List.setIfInBounds_toArray, List.set_cons_zero, List.set_cons_succ]
            all_goals first | (refine soft_pass rfl HS ?_) | (refine soft_read (v := ?_) rfl (fun W hW => ?_) ?_; rotate_left; (· go_simp; try with_reducible rfl))
            all_goals try simp only [Act.put, List.setIfInBounds_toArray, List.set_cons_zero, List.set_cons_succ]
            all_goals first | (refine soft_pass rfl HS ?_; have hg4 := True.intro) | (refine soft_part (v := ?_) (b := ?_) rfl (fun W hW => ?_) ?_ (fun b hg4 => ?_); rotate_left; rotate_left; (· go_simp; try with_reducible rfl); (· with_reducible rfl); cases b; all_goals first | (exact Bool.noConfusion hg4) | (simp only [Bool.not_eq_true', Bool.not_eq_false'] at hg4) | skip)
            all_goals try simp only [Act.put, List.setIfInBounds_toArray, List.set_cons_zero, List.set_cons_succ]
            all_goals first | (refine soft_pass rfl HS ?_) | (refine soft_read (v := ?_) rfl (fun W hW => ?_) ?_; rotate_left; (· go_simp; try with_reducible rfl))
            all_goals try simp only [Act.put, List.setIfInBounds_toArray, List.set_cons_zero, List.set_cons_succ]
            all_goals first | (refine soft_pass rfl HS ?_) | (refine soft_read (v := ?_) rfl (fun W hW => ?_) ?_; rotate_left; (· have A_D1 := cell_later hW D1; have A_N0 := cell_later hW N0; have A_N1 := cell_later hW N1; have A_N2 := cell_later hW N2; clear hW; go_simp; try with_reducible rfl))
            all_goals try simp only [Act.put, List.setIfInBounds_toArray, List.set_cons_zero, List.set_cons_succ]
            all_goals first | (refine soft_pass rfl HS ?_) | (refine soft_do rfl (fun K hK => ?_); go_simp; refine (implInRange_c).mono ?_; rintro e wS1 ⟨rfl, hwS⟩; obtain rfl := hwS.symm; refine hK _ _ HS ?_; clear hK K)
            iterate 2
             all_goals try simp only [Act.put, List.setIfInBounds_toArray, List.set_cons_zero, List.set_cons_succ]
             all_goals first | (refine soft_pass rfl HS ?_) | (refine soft_read (v := ?_) rfl (fun W hW => ?_) ?_; rotate_left; (· go_simp; try with_reducible rfl))
            all_goals try simp only [Act.put, List.setIfInBounds_toArray, List.set_cons_zero, List.set_cons_succ]
            all_goals first | (refine soft_pass rfl HS ?_; have hg10 := True.intro) | (refine soft_part (v := ?_) (b := ?_) rfl (fun W hW => ?_) ?_ (fun b hg10 => ?_); rotate_left; rotate_left; (· go_simp; try with_reducible rfl); (· with_reducible rfl); cases b; all_goals first | (exact Bool.noConfusion hg10) | (simp only [Bool.not_eq_true', Bool.not_eq_false'] at hg10) | skip)
            iterate 2
             all_goals try simp only [Act.put, List.setIfInBounds_toArray, List.set_cons_zero, List.set_cons_succ]
             all_goals first | (refine soft_pass rfl HS ?_) | (refine soft_read (v := ?_) rfl (fun W hW => ?_) ?_; rotate_left; (· go_simp; try with_reducible rfl))
            all_goals try simp only [Act.put, List.setIfInBounds_toArray, List.set_cons_zero, List.set_cons_succ]
            all_goals first | (refine soft_pass rfl HS ?_; have hg13 := True.intro) | (refine soft_part (v := ?_) (b := ?_) rfl (fun W hW => ?_) ?_ (fun b hg13 => ?_); rotate_left; rotate_left; (· go_simp; try with_reducible rfl); (· with_reducible rfl); cases b; all_goals first | (exact Bool.noConfusion hg13) | (simp only [Bool.not_eq_true', Bool.not_eq_false'] at hg13) | skip)
            all_goals try simp only [Act.put, List.setIfInBounds_toArray, List.set_cons_zero, List.set_cons_succ]
            all_goals first | (refine soft_pass rfl HS ?_) | (refine soft_read (v := ?_) rfl (fun W hW => ?_) ?_; rotate_left; (· go_simp; try with_reducible rfl))
            all_goals try simp only [Act.put, List.setIfInBounds_toArray, List.set_cons_zero, List.set_cons_succ]
            all_goals first | (refine soft_pass rfl HS ?_) | (refine soft_read (v := ?_) rfl (fun W hW => ?_) ?_; rotate_left; (· have A_D1 := cell_later hW D1; have A_N0 := cell_later hW N0; have A_N1 := cell_later hW N1; have A_N2 := cell_later hW N2; clear hW; go_simp; try with_reducible rfl))
            iterate 4
             all_goals try simp only [Act.put, List.setIfInBounds_toArray, List.set_cons_zero, List.set_cons_succ]
             all_goals first | (refine soft_pass rfl HS ?_) | (refine soft_read (v := ?_) rfl (fun W hW => ?_) ?_; rotate_left; (· go_simp; try with_reducible rfl))
            iterate 2
             all_goals try simp only [Act.put, List.setIfInBounds_toArray, List.set_cons_zero, List.set_cons_succ]
             all_goals first | (refine soft_pass rfl HS ?_) | (refine soft_read (v := ?_) rfl (fun W hW => ?_) ?_; rotate_left; (· have A_D1 := cell_later hW D1; have A_N0 := cell_later hW N0; have A_N1 := cell_later hW N1; have A_N2 := cell_later hW N2; clear hW; go_simp; try with_reducible rfl))
             all_goals try simp only [Act.put, List.setIfInBounds_toArray, List.set_cons_zero, List.set_cons_succ]
             all_goals first | (refine soft_pass rfl HS ?_) | (refine soft_read (v := ?_) rfl (fun W hW => ?_) ?_; rotate_left; (· go_simp; try with_reducible rfl))
            all_goals try simp only [Act.put, List.setIfInBounds_toArray, List.set_cons_zero, List.set_cons_succ]
            all_goals first | (refine soft_pass rfl HS ?_) | (refine soft_read (v := ?_) rfl (fun W hW => ?_) ?_; rotate_left; (· go_simp; try with_reducible rfl))
            all_goals try simp only [Act.put, List.setIfInBounds_toArray, List.set_cons_zero, List.set_cons_succ]
            all_goals first | (refine soft_pass rfl HS ?_; have hg25 := True.intro) | (refine soft_part (v := ?_) (b := ?_) rfl (fun W hW => ?_) ?_ (fun b hg25 => ?_); rotate_left; rotate_left; (· go_simp; try with_reducible rfl); (· with_reducible rfl); cases b; all_goals first | (exact Bool.noConfusion hg25) | (simp only [Bool.not_eq_true', Bool.not_eq_false'] at hg25) | skip)
            all_goals try simp only [Act.put, List.setIfInBounds_toArray, List.set_cons_zero, List.set_cons_succ]
            all_goals refine soft_nil ?_
            all_goals have EQ := hq.trans ((ED.trans (HS.mono ED.size)).mono hq.size)
            all_goals first
              | (have HT := Lib.hid (HB.out (show _ = false by rw [HO.out]; simp only [okA0, Bool.not_true, Bool.not_false, Bool.and_true, Bool.true_and, Bool.and_false, Bool.false_and, Bool.or_true, Bool.true_or, Bool.or_false, Bool.false_or, Bool.not_not, ge_iff_le, hg4, hg10, hg13, hg25])); clear HB HX HM HO; have EG := hbel.trans ((EC.trans (EQ.mono EC.size)).mono hbel.size); go_wp2; go_ret; exact ⟨ret_bool HT.out.symm, EG⟩)
              | (have HT := Lib.hid (HX.out (show _ = true by rw [HO.out]; simp only [okA0, Bool.not_true, Bool.not_false, Bool.and_true, Bool.true_and, Bool.and_false, Bool.false_and, Bool.or_true, Bool.true_or, Bool.or_false, Bool.false_or, Bool.not_not, ge_iff_le, hg4, hg10, hg13, hg25])); clear HB HX HM HO; go_wp2; go_roundw; (case rel => exact ⟨j + 1, by omega, by go_num, HT, EQ⟩); (case measure => simp [intOf]; omega))
        · have HT := Lib.hid (HYES.out ((vAsk_good HM.out hjl hj).trans (by have := HLP.out; simpa using this)))
          have EG := hbel.trans ((EC.trans (hq.mono EC.size)).mono hbel.size)
          have hjn : ¬ (j : Int) < P.length := by omega
          go_wp2
          go_roundw
          case rel => exact ⟨k + 1, by omega, by go_num, HT, EG⟩
          case measure => simp [intOf]; omega
    · have HT := Lib.hid (vPends_yes HN.out hlt hk)
      have hkn : ¬ (k : Int) < l.length := by omega
      go_wp2
      go_ret
      exact ⟨ret_bool HT.out.symm, hbel⟩
end Go.Proofs.YtcnhfggfgknooaaGreat

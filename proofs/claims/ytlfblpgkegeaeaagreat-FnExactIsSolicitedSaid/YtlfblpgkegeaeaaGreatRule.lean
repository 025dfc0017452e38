/-
  Rules of trust: whether they are valid, which of them allows.
-/
import Derived.Test.YtlfblpgkegeaeaaGreatPMt
import Derived.IntWalk
import Derived.Deep.Cut
import Derived.WalkSpells
import Derived.WalkLawsBesides
namespace Go.Proofs.YtlfblpgkegeaeaaGreat
open Go.RowKit
set_option linter.unusedVariables false
set_option linter.unusedSimpArgs false
set_option linter.unnecessarySimpa false
def eqS (s t : ByteArray) : Bool := t.toList == s.toList
def hasS (p : List ByteArray) (s : ByteArray) : Bool := decide (0 ≤ idxOf (eqS s) p)
def keyBad (r : LRule) (s : ByteArray) : Bool := isLet s && !hasS r.1 s
def vRule (r : LRule) : Bool := (vPat r.1 && vPat r.2) && allB (fun j => !keyBad r (r.2.getD j ByteArray.empty)) r.2.length
def allows (n m : LName) (r : LRule) : Bool := (vRule r && mOk r.1 n []) && mOk r.2 m (mB r.1 n [])
def firstA (l : List LRule) (n m : LName) : Int := idxOf (allows n m) l
def allowedR (l : List LRule) (n m : LName) : Bool := decide (firstA l n m ≥ 0)
theorem eqS_comm (s t : ByteArray) : eqS s t = (s.toList == t.toList) := by unfold eqS; rw [Bool.eq_iff_iff]; simp only [beq_iff_eq]; exact ⟨Eq.symm, Eq.symm⟩
section
variable {r : LRule} {k : Nat}
theorem vRule_out (h : (vPat r.1 && vPat r.2) = false) : vRule r = false := by unfold vRule; rw [h]; rfl
theorem vRule_bad (h : k < r.2.length) (q : keyBad r r.2[k] = true) : vRule r = false := by
  unfold vRule; rw [allB_bad h (by (try simp only); rw [getD_get h, q]; rfl)]; simp
theorem vRule_next (h : k < r.2.length) (q : keyBad r r.2[k] = false) (a : allB (fun j => !keyBad r (r.2.getD j ByteArray.empty)) k = true) : allB (fun j => !keyBad r (r.2.getD j ByteArray.empty)) (k + 1) = true :=
  allB_succ a (by (try simp only); rw [getD_get h, q]; rfl)
theorem vRule_good (v : (vPat r.1 && vPat r.2) = true) (q : allB (fun j => !keyBad r (r.2.getD j ByteArray.empty)) k = true) (h : ¬ k < r.2.length) (hk : k ≤ r.2.length) : vRule r = true := by
  obtain rfl : k = r.2.length := by omega
  unfold vRule; rw [q, v]; rfl
end
set_option maxRecDepth 100000 in
set_option maxHeartbeats 1000000 in
theorem specl10Has_c {w : World} {cl : List Value} {l : LPattern} (hl : RPattern.raw w cl l) {s : ByteArray} :
    Calls Tryz.prog 256 #[.agg cl.toArray, .string s] w fun e w' => e = .returned (.bool (hasS l s)) ∧ Below w.heap.size w w' := by
  obtain ⟨pv, rfl, p_0⟩ := RPattern_raw hl
  obtain ⟨al, pl, el, ll⟩ := Rep.len_raw p_0; obtain rfl : pv = _ := by simpa using el
  have HL := Lib.hid p_0
  clear el p_0 hl
  go_enter Tryz.func256, Tryz.ntmps256
  go_wp2
  generalize hwB : World.alloc w _ = wB
  have EB : Below w.heap.size w wB := by rw [← hwB]; exact (by repeat (first | (with_reducible exact Below.refl _ _) | refine Below.alloc ?_ (by simp; try omega) _ | refine Below.drew ?_ | refine Below.setCell ?_ (by simp; try omega) _))
  have K0 : wB.cell? ⟨w.heap.size, 0, none⟩ = some (.slice al l.length pl) := by rw [← hwB]; simp [go_sem]
  clear hwB
  go_loopw [5] (fun i wr => ∃ k : Nat, k ≤ l.length ∧ i = .int .i64 k ∧ Hid (∀ j, (h : j < k) → (h2 : j < l.length) → eqS s l[j] = false) ∧ Below wB.heap.size wB wr) (fun i _ => l.length - (intOf i).toNat)
  case atStart => exact ⟨0, Nat.zero_le _, rfl, Lib.hid (fun _ h => by omega), Below.refl _ _⟩
  case round =>
    obtain ⟨k, hk, rfl, HN, hbel⟩ := hrel
    have EG := EB.trans (hbel.mono EB.size)
    replace K0 := cell_later hbel K0
    by_cases hlt : k < l.length
    · obtain ⟨qb, qo, rfl, qc0, qr, Aq0⟩ := Rep.get1 (HL.out.below EG) hlt rfl
      obtain ⟨he, hsz⟩ := Rep.str_raw qr
      obtain rfl : qc0 = _ := by simpa using he
      have hhit := fun q => idxOf_hit (p := eqS s) hlt q HN.out
      have hmis := fun q => no_succ (p := eqS s) hlt q HN.out
      generalize l[k] = x at *
      have HD := Lib.hid hhit; have HX := Lib.hid hmis; clear hhit hmis he qr
      cases hv : eqS s x
      · have HT := Lib.hid (HX.out hv)
        have hv2 : (x.toList == s.toList) = false := hv
        clear hv HD HX
        go_wp2
        go_roundw
        case rel => exact ⟨k + 1, by omega, by go_num, HT, hbel⟩
        case measure => simp [intOf]; omega
      · have HT := Lib.hid (HD.out hv)
        have hv2 : (x.toList == s.toList) = true := hv
        clear hv HD HX
        go_wp2
        go_ret
        exact ⟨ret_bool (show _ = hasS l s by unfold hasS; rw [HT.out]; simp), EG⟩
    · have HT := Lib.hid (idxOf_miss hlt HN.out)
      go_wp2
      go_ret
      exact ⟨ret_bool (show _ = hasS l s by unfold hasS; rw [HT.out]; rfl), EG⟩
set_option maxRecDepth 100000 in
set_option maxHeartbeats 1000000 in
theorem Index_str_c {w : World} {vl : Value} {l : List ByteArray} (hl : (Rep.slice 9 Rep.str).raw w [vl] l) {s : ByteArray} :
    Calls Tryz.prog 265 #[vl, .string s] w fun e w' => e = .returned (.int .i64 (idxOf (eqS s) l)) ∧ Below w.heap.size w w' := by
  obtain ⟨al, pl, el, ll⟩ := Rep.len_raw hl; obtain rfl : vl = _ := by simpa using el
  have HL := Lib.hid hl
  clear el hl
  go_enter Tryz.func265, Tryz.ntmps265
  go_wp2
  obtain ⟨wB, hwB⟩ : ∃ wB, wB = w := ⟨_, rfl⟩
  have EB : Below w.heap.size w wB := by rw [hwB]; exact Below.refl _ _
  rw [← hwB]
  clear hwB
  go_loopw [8] (fun i wr => ∃ k : Nat, k ≤ l.length ∧ i = .int .i64 k ∧ Hid (∀ j, (h : j < k) → (h2 : j < l.length) → eqS s l[j] = false) ∧ Below wB.heap.size wB wr) (fun i _ => l.length - (intOf i).toNat)
  case atStart => exact ⟨0, Nat.zero_le _, rfl, Lib.hid (fun _ h => by omega), Below.refl _ _⟩
  case round =>
    obtain ⟨k, hk, rfl, HN, hbel⟩ := hrel
    have EG := EB.trans (hbel.mono EB.size)
    skip
    by_cases hlt : k < l.length
    · obtain ⟨qb, qo, rfl, qc0, qr, Aq0⟩ := Rep.get1 (HL.out.below EG) hlt rfl
      obtain ⟨he, hsz⟩ := Rep.str_raw qr
      obtain rfl : qc0 = _ := by simpa using he
      have hhit := fun q => idxOf_hit (p := eqS s) hlt q HN.out
      have hmis := fun q => no_succ (p := eqS s) hlt q HN.out
      generalize l[k] = x at *
      have HD := Lib.hid hhit; have HX := Lib.hid hmis; clear hhit hmis he qr
      cases hv : eqS s x
      · have HT := Lib.hid (HX.out hv)
        have hv2 : (s.toList == x.toList) = false := by rw [← eqS_comm]; exact hv
        clear hv HD HX
        go_wp2
        go_roundw
        case rel => exact ⟨k + 1, by omega, by go_num, HT, hbel⟩
        case measure => simp [intOf]; omega
      · have HT := Lib.hid (HD.out hv)
        have hv2 : (s.toList == x.toList) = true := by rw [← eqS_comm]; exact hv
        clear hv HD HX
        go_wp2
        go_ret
        exact ⟨ret_int HT.out.symm, EG⟩
    · have HT := Lib.hid (idxOf_miss hlt HN.out)
      go_wp2
      go_ret
      exact ⟨ret_int HT.out.symm, EG⟩
set_option maxHeartbeats 400000 in
theorem Contains_str_c {w : World} {vl : Value} {l : List ByteArray} (hl : (Rep.slice 9 Rep.str).raw w [vl] l) {s : ByteArray} :
    Calls Tryz.prog 264 #[vl, .string s] w fun e w' => e = .returned (.bool (hasS l s)) ∧ Below w.heap.size w w' := by
  go_enter Tryz.func264, Tryz.ntmps264
  go_wp2_with fail
  refine (Index_str_c hl).mono ?_
  rintro e w1 ⟨rfl, hb⟩
  go_wp2
  go_ret
  exact ⟨ret_bool rfl, hb⟩
set_option maxRecDepth 100000 in
set_option maxHeartbeats 2000000 in
theorem specValidRule_c {w : World} {cr : List Value} {r : LRule} (hr : RRule.raw w cr r) : Calls Tryz.prog 244 #[.agg cr.toArray] w fun e w' => e = .returned (.bool (vRule r)) ∧ Below w.heap.size w w' := by
  obtain ⟨av0, av1, rfl, a_0, a_1, a_2, a_3⟩ := RRule_raw hr
  obtain ⟨aa0, ap0, ah0, al0⟩ := Rep.len_raw a_1; obtain rfl : av0 = _ := by simpa using ah0
  clear ah0
  obtain ⟨aa1, ap1, ah1, al1⟩ := Rep.len_raw a_3; obtain rfl : av1 = _ := by simpa using ah1
  clear ah1
  have H0 := Lib.hid a_0; have H2 := Lib.hid a_2; have H1 := Lib.hid a_1; have H3 := Lib.hid a_3
  clear hr a_0 a_1 a_2 a_3
  go_enter Tryz.func244, Tryz.ntmps244
  go_upto_region 1 with fail
  generalize hwB : World.alloc w _ = wB
  have EB : Below w.heap.size w wB := by rw [← hwB]; exact (by repeat (first | (with_reducible exact Below.refl _ _) | refine Below.alloc ?_ (by simp; try omega) _ | refine Below.drew ?_ | refine Below.setCell ?_ (by simp; try omega) _))
  have K0 : wB.cell? ⟨w.heap.size, 0, none⟩ = some (.slice aa0 r.1.length ap0) := by rw [← hwB]; simp [go_sem]
  have K1 : wB.cell? ⟨w.heap.size, 1, none⟩ = some (.slice aa1 r.2.length ap1) := by rw [← hwB]; simp [go_sem]
  clear hwB
  go_wp2_with fail
  refine (specValidPattern_c (H0.out.below EB)).mono ?_
  rintro e w1 ⟨rfl, hb1⟩
  replace K0 := cell_later hb1 K0
  replace K1 := cell_later hb1 K1
  have E1 := EB.trans (hb1.mono EB.size)
  clear hb1 EB
  cases hv1 : vPat r.1
  · have HT := Lib.hid (vRule_out (r := r) (by rw [hv1]; rfl))
    go_wp2
    go_ret
    exact ⟨ret_bool HT.out.symm, E1⟩
  go_wp2_with fail
  refine (specValidPattern_c (H2.out.below E1)).mono ?_
  rintro e w2 ⟨rfl, hb2⟩
  replace K0 := cell_later hb2 K0
  replace K1 := cell_later hb2 K1
  have E2 := E1.trans (hb2.mono E1.size)
  clear hb2 E1
  cases hv2 : vPat r.2
  · have HT := Lib.hid (vRule_out (r := r) (by rw [hv1, hv2]; rfl))
    clear hv1 hv2
    go_wp2
    go_ret
    exact ⟨ret_bool HT.out.symm, E2⟩
  have HV : Hid ((vPat r.1 && vPat r.2) = true) := Lib.hid (by rw [hv1, hv2]; rfl)
  clear hv1 hv2
  go_wp2
  go_loopw [3] (fun i wr => ∃ k : Nat, k ≤ r.2.length ∧ i = .int .i64 k ∧ Hid (allB (fun j => !keyBad r (r.2.getD j ByteArray.empty)) k = true) ∧ Below w2.heap.size w2 wr) (fun i _ => r.2.length - (intOf i).toNat)
  case atStart => exact ⟨0, Nat.zero_le _, rfl, Lib.hid rfl, Below.refl _ _⟩
  case round =>
    obtain ⟨k, hk, rfl, HN, hbel⟩ := hrel
    have EG := E2.trans (hbel.mono E2.size)
    replace K0 := cell_later hbel K0
    replace K1 := cell_later hbel K1
    by_cases hlt : k < r.2.length
    · obtain ⟨qb, qo, rfl, qc0, qr, Aq0⟩ := Rep.get1 (H3.out.below EG) hlt rfl
      obtain ⟨he, hsz⟩ := Rep.str_raw qr
      obtain rfl : qc0 = _ := by simpa using he
      have hhit := fun q => vRule_bad hlt q
      have hmis := fun q => vRule_next hlt q HN.out
      generalize r.2[k] = s at *
      have HD := Lib.hid hhit; have HX := Lib.hid hmis; clear hhit hmis he qr
      go_upto_region 6 with fail
      refine wp_region_soft (fun W => Below wr.heap.size wr W) [true, true, true, true, true, true, false, true, true, true, true, true, true, true, true, true, false, true, true] (by kernel_rfl) (by kernel_rfl) (fun c a d v w h => by cases d <;> exact h) ((Below.refl _ _).drew) ?_
      intro wS HS
      all_goals first | (refine soft_pass rfl HS ?_) | (refine soft_read (v := ?_) rfl (fun W hW => ?_) ?_; rotate_left; (· go_simp; try with_reducible rfl))
      all_goals try simp only [Act.put, List.setIfInBounds_toArray, List.set_cons_zero, List.set_cons_succ]
      all_goals first | (refine soft_pass rfl HS ?_) | (refine soft_read (v := ?_) rfl (fun W hW => ?_) ?_; rotate_left; (· go_simp; try with_reducible rfl))
      all_goals try simp only [Act.put, List.setIfInBounds_toArray, List.set_cons_zero, List.set_cons_succ]
      all_goals first | (refine soft_pass rfl HS ?_) | (refine soft_read (v := ?_) rfl (fun W hW => ?_) ?_; rotate_left; (· have A_K0 := cell_later hW K0; have A_K1 := cell_later hW K1; have A_Aq0 := cell_later hW Aq0; clear hW; go_simp; try with_reducible rfl))
      all_goals try simp only [Act.put, List.setIfInBounds_toArray, List.set_cons_zero, List.set_cons_succ]
      all_goals first | (refine soft_pass rfl HS ?_) | (refine soft_read (v := ?_) rfl (fun W hW => ?_) ?_; rotate_left; (· go_simp; try with_reducible rfl))
      all_goals try simp only [Act.put, List.setIfInBounds_toArray, List.set_cons_zero, List.set_cons_succ]
      all_goals first | (refine soft_pass rfl HS ?_) | (refine soft_read (v := ?_) rfl (fun W hW => ?_) ?_; rotate_left; (· go_simp; try with_reducible rfl))
      all_goals try simp only [Act.put, List.setIfInBounds_toArray, List.set_cons_zero, List.set_cons_succ]
      all_goals first | (refine soft_pass rfl HS ?_) | (refine soft_read (v := ?_) rfl (fun W hW => ?_) ?_; rotate_left; (· have A_K0 := cell_later hW K0; have A_K1 := cell_later hW K1; have A_Aq0 := cell_later hW Aq0; clear hW; go_simp; try with_reducible rfl))
      all_goals try simp only [Act.put, List.setIfInBounds_toArray, List.set_cons_zero, List.set_cons_succ]
      all_goals first | (refine soft_pass rfl HS ?_) | (refine soft_do rfl (fun K hK => ?_); go_simp; refine (specl5Letter_c hsz).mono ?_; rintro e wS1 ⟨rfl, hwS⟩; obtain rfl := hwS.symm; refine hK _ _ HS ?_; clear hK K)
      all_goals try simp only [Act.put, List.setIfInBounds_toArray, List.set_cons_zero, List.set_cons_succ]
      all_goals first | (refine soft_pass rfl HS ?_; have hg7 := True.intro) | (refine soft_part (v := ?_) (b := ?_) rfl (fun W hW => ?_) ?_ (fun b hg7 => ?_); rotate_left; rotate_left; (· go_simp; try with_reducible rfl); (· with_reducible rfl); cases b; all_goals first | (exact Bool.noConfusion hg7) | (simp only [Bool.not_eq_true', Bool.not_eq_false'] at hg7) | skip)
      all_goals try simp only [Act.put, List.setIfInBounds_toArray, List.set_cons_zero, List.set_cons_succ]
      all_goals first | (refine soft_pass rfl HS ?_) | (refine soft_read (v := ?_) rfl (fun W hW => ?_) ?_; rotate_left; (· go_simp; try with_reducible rfl))
      all_goals try simp only [Act.put, List.setIfInBounds_toArray, List.set_cons_zero, List.set_cons_succ]
      all_goals first | (refine soft_pass rfl HS ?_) | (refine soft_read (v := ?_) rfl (fun W hW => ?_) ?_; rotate_left; (· have A_K0 := cell_later hW K0; have A_K1 := cell_later hW K1; have A_Aq0 := cell_later hW Aq0; clear hW; go_simp; try with_reducible rfl))
      all_goals try simp only [Act.put, List.setIfInBounds_toArray, List.set_cons_zero, List.set_cons_succ]
      all_goals first | (refine soft_pass rfl HS ?_) | (refine soft_read (v := ?_) rfl (fun W hW => ?_) ?_; rotate_left; (· go_simp; try with_reducible rfl))
      all_goals try simp only [Act.put, List.setIfInBounds_toArray, List.set_cons_zero, List.set_cons_succ]
      all_goals first | (refine soft_pass rfl HS ?_) | (refine soft_read (v := ?_) rfl (fun W hW => ?_) ?_; rotate_left; (· go_simp; try with_reducible rfl))
      all_goals try simp only [Act.put, List.setIfInBounds_toArray, List.set_cons_zero, List.set_cons_succ]
      all_goals first | (refine soft_pass rfl HS ?_) | (refine soft_read (v := ?_) rfl (fun W hW => ?_) ?_; rotate_left; (· have A_K0 := cell_later hW K0; have A_K1 := cell_later hW K1; have A_Aq0 := cell_later hW Aq0; clear hW; go_simp; try with_reducible rfl))
      all_goals try simp only [Act.put, List.setIfInBounds_toArray, List.set_cons_zero, List.set_cons_succ]
      all_goals first | (refine soft_pass rfl HS ?_) | (refine soft_read (v := ?_) rfl (fun W hW => ?_) ?_; rotate_left; (· go_simp; try with_reducible rfl))
      all_goals try simp only [Act.put, List.setIfInBounds_toArray, List.set_cons_zero, List.set_cons_succ]
      all_goals first | (refine soft_pass rfl HS ?_) | (refine soft_read (v := ?_) rfl (fun W hW => ?_) ?_; rotate_left; (· go_simp; try with_reducible rfl))
      all_goals try simp only [Act.put, List.setIfInBounds_toArray, List.set_cons_zero, List.set_cons_succ]
      all_goals first | (refine soft_pass rfl HS ?_) | (refine soft_read (v := ?_) rfl (fun W hW => ?_) ?_; rotate_left; (· have A_K0 := cell_later hW K0; have A_K1 := cell_later hW K1; have A_Aq0 := cell_later hW Aq0; clear hW; go_simp; try with_reducible rfl))
      all_goals try simp only [Act.put, List.setIfInBounds_toArray, List.set_cons_zero, List.set_cons_succ]
      all_goals first | (refine soft_pass rfl HS ?_) | (refine soft_do rfl (fun K hK => ?_); go_simp; refine (specl10Has_c (H0.out.below (EG.trans (HS.mono EG.size)))).mono ?_; rintro e wS1 ⟨rfl, hbS⟩; replace HS := HS.trans (hbS.mono HS.size); refine hK _ _ HS ?_; clear hK K hbS)
      all_goals try simp only [Act.put, List.setIfInBounds_toArray, List.set_cons_zero, List.set_cons_succ]
      all_goals first | (refine soft_pass rfl HS ?_) | (refine soft_read (v := ?_) rfl (fun W hW => ?_) ?_; rotate_left; (· go_simp; try with_reducible rfl))
      all_goals try simp only [Act.put, List.setIfInBounds_toArray, List.set_cons_zero, List.set_cons_succ]
      all_goals first | (refine soft_pass rfl HS ?_; have hg18 := True.intro) | (refine soft_part (v := ?_) (b := ?_) rfl (fun W hW => ?_) ?_ (fun b hg18 => ?_); rotate_left; rotate_left; (· go_simp; try with_reducible rfl); (· with_reducible rfl); cases b; all_goals first | (exact Bool.noConfusion hg18) | (simp only [Bool.not_eq_true', Bool.not_eq_false'] at hg18) | skip)
      all_goals try simp only [Act.put, List.setIfInBounds_toArray, List.set_cons_zero, List.set_cons_succ]
      all_goals refine soft_nil ?_
      all_goals have ER := hbel.trans (HS.mono hbel.size)
      all_goals have EF := EG.trans (HS.mono EG.size)
      all_goals first
        | (have HT := Lib.hid (HD.out (show keyBad r s = true by simp only [keyBad, Bool.not_true, Bool.not_false, Bool.and_true, Bool.true_and, Bool.and_false, Bool.false_and, Bool.or_true, Bool.true_or, Bool.or_false, Bool.false_or, Bool.not_not, hg7, hg18])); clear HD HX; go_wp2; go_ret; exact ⟨ret_bool HT.out.symm, EF⟩)
        | (have HT := Lib.hid (HX.out (show keyBad r s = false by simp only [keyBad, Bool.not_true, Bool.not_false, Bool.and_true, Bool.true_and, Bool.and_false, Bool.false_and, Bool.or_true, Bool.true_or, Bool.or_false, Bool.false_or, Bool.not_not, hg7, hg18])); clear HD HX; go_wp2; go_roundw; (case rel => exact ⟨k + 1, by omega, by go_num, HT, ER⟩); (case measure => simp [intOf]; omega))
    · have HT := Lib.hid (vRule_good HV.out HN.out hlt hk)
      go_wp2
      go_ret
      exact ⟨ret_bool HT.out.symm, EG⟩
set_option maxRecDepth 100000 in
set_option maxHeartbeats 2000000 in
theorem implValidRule_c {w : World} {cr : List Value} {r : LRule} (hr : RRule.raw w cr r) : Calls Tryz.prog 250 #[.agg cr.toArray] w fun e w' => e = .returned (.bool (vRule r)) ∧ Below w.heap.size w w' := by
  obtain ⟨av0, av1, rfl, a_0, a_1, a_2, a_3⟩ := RRule_raw hr
  obtain ⟨aa0, ap0, ah0, al0⟩ := Rep.len_raw a_1; obtain rfl : av0 = _ := by simpa using ah0
  clear ah0
  obtain ⟨aa1, ap1, ah1, al1⟩ := Rep.len_raw a_3; obtain rfl : av1 = _ := by simpa using ah1
  clear ah1
  have H0 := Lib.hid a_0; have H2 := Lib.hid a_2; have H1 := Lib.hid a_1; have H3 := Lib.hid a_3
  clear hr a_0 a_1 a_2 a_3
  go_enter Tryz.func250, Tryz.ntmps250
  go_upto_region 1 with fail
  generalize hwB : World.alloc w _ = wB
  have EB : Below w.heap.size w wB := by rw [← hwB]; exact (by repeat (first | (with_reducible exact Below.refl _ _) | refine Below.alloc ?_ (by simp; try omega) _ | refine Below.drew ?_ | refine Below.setCell ?_ (by simp; try omega) _))
  have K0 : wB.cell? ⟨w.heap.size, 0, none⟩ = some (.slice aa0 r.1.length ap0) := by rw [← hwB]; simp [go_sem]
  have K1 : wB.cell? ⟨w.heap.size, 1, none⟩ = some (.slice aa1 r.2.length ap1) := by rw [← hwB]; simp [go_sem]
  clear hwB
  go_wp2_with fail
  refine (implValidPattern_c (H0.out.below EB)).mono ?_
  rintro e w1 ⟨rfl, hb1⟩
  replace K0 := cell_later hb1 K0
  replace K1 := cell_later hb1 K1
  have E1 := EB.trans (hb1.mono EB.size)
  clear hb1 EB
  cases hv1 : vPat r.1
  · have HT := Lib.hid (vRule_out (r := r) (by rw [hv1]; rfl))
    go_wp2
    go_ret
    exact ⟨ret_bool HT.out.symm, E1⟩
  go_wp2_with fail
  refine (implValidPattern_c (H2.out.below E1)).mono ?_
  rintro e w2 ⟨rfl, hb2⟩
  replace K0 := cell_later hb2 K0
  replace K1 := cell_later hb2 K1
  have E2 := E1.trans (hb2.mono E1.size)
  clear hb2 E1
  cases hv2 : vPat r.2
  · have HT := Lib.hid (vRule_out (r := r) (by rw [hv1, hv2]; rfl))
    clear hv1 hv2
    go_wp2
    go_ret
    exact ⟨ret_bool HT.out.symm, E2⟩
  have HV : Hid ((vPat r.1 && vPat r.2) = true) := Lib.hid (by rw [hv1, hv2]; rfl)
  clear hv1 hv2
  go_wp2
  go_loopw [19] (fun i wr => ∃ k : Nat, k ≤ r.2.length ∧ i = .int .i64 k ∧ Hid (allB (fun j => !keyBad r (r.2.getD j ByteArray.empty)) k = true) ∧ Below w2.heap.size w2 wr) (fun i _ => r.2.length - (intOf i).toNat)
  case atStart => exact ⟨0, Nat.zero_le _, rfl, Lib.hid rfl, Below.refl _ _⟩
  case round =>
    obtain ⟨k, hk, rfl, HN, hbel⟩ := hrel
    have EG := E2.trans (hbel.mono E2.size)
    replace K0 := cell_later hbel K0
    replace K1 := cell_later hbel K1
    by_cases hlt : k < r.2.length
    · obtain ⟨qb, qo, rfl, qc0, qr, Aq0⟩ := Rep.get1 (H3.out.below EG) hlt rfl
      obtain ⟨he, hsz⟩ := Rep.str_raw qr
      obtain rfl : qc0 = _ := by simpa using he
      have hhit := fun q => vRule_bad hlt q
      have hmis := fun q => vRule_next hlt q HN.out
      generalize r.2[k] = s at *
      have HD := Lib.hid hhit; have HX := Lib.hid hmis; clear hhit hmis he qr
      go_upto_region 6 with fail
      refine wp_region_soft_plain (fun W => Below wr.heap.size wr W) [true, false, true, true, true, true, true, false, true, true] (Below.refl _ _) ?_
      intro wS HS
      all_goals first | (refine soft_pass rfl HS ?_) | (refine soft_read (v := ?_) rfl (fun W hW => ?_) ?_; rotate_left; (· go_simp; try with_reducible rfl))
      all_goals try simp only [Act.put, List.setIfInBounds_toArray, List.set_cons_zero, List.set_cons_succ]
      all_goals first | (refine soft_pass rfl HS ?_) | (refine soft_do rfl (fun K hK => ?_); go_simp; refine (implisVariable_c hsz).mono ?_; rintro e wS1 ⟨rfl, hwS⟩; obtain rfl := hwS.symm; refine hK _ _ HS ?_; clear hK K)
      all_goals try simp only [Act.put, List.setIfInBounds_toArray, List.set_cons_zero, List.set_cons_succ]
      all_goals first | (refine soft_pass rfl HS ?_; have hg2 := True.intro) | (refine soft_part (v := ?_) (b := ?_) rfl (fun W hW => ?_) ?_ (fun b hg2 => ?_); rotate_left; rotate_left; (· go_simp; try with_reducible rfl); (· with_reducible rfl); cases b; all_goals first | (exact Bool.noConfusion hg2) | (simp only [Bool.not_eq_true', Bool.not_eq_false'] at hg2) | skip)
      all_goals try simp only [Act.put, List.setIfInBounds_toArray, List.set_cons_zero, List.set_cons_succ]
      all_goals first | (refine soft_pass rfl HS ?_) | (refine soft_read (v := ?_) rfl (fun W hW => ?_) ?_; rotate_left; (· go_simp; try with_reducible rfl))
      all_goals try simp only [Act.put, List.setIfInBounds_toArray, List.set_cons_zero, List.set_cons_succ]
      all_goals first | (refine soft_pass rfl HS ?_) | (refine soft_read (v := ?_) rfl (fun W hW => ?_) ?_; rotate_left; (· go_simp; try with_reducible rfl))
      all_goals try simp only [Act.put, List.setIfInBounds_toArray, List.set_cons_zero, List.set_cons_succ]
      all_goals first | (refine soft_pass rfl HS ?_) | (refine soft_read (v := ?_) rfl (fun W hW => ?_) ?_; rotate_left; (· have A_K0 := cell_later hW K0; have A_K1 := cell_later hW K1; clear hW; go_simp; try with_reducible rfl))
      all_goals try simp only [Act.put, List.setIfInBounds_toArray, List.set_cons_zero, List.set_cons_succ]
      all_goals first | (refine soft_pass rfl HS ?_) | (refine soft_read (v := ?_) rfl (fun W hW => ?_) ?_; rotate_left; (· go_simp; try with_reducible rfl))
      all_goals try simp only [Act.put, List.setIfInBounds_toArray, List.set_cons_zero, List.set_cons_succ]
      all_goals first | (refine soft_pass rfl HS ?_) | (refine soft_do rfl (fun K hK => ?_); go_simp; refine (Contains_str_c (H1.out.below (EG.trans (HS.mono EG.size)))).mono ?_; rintro e wS1 ⟨rfl, hbS⟩; replace HS := HS.trans (hbS.mono HS.size); refine hK _ _ HS ?_; clear hK K hbS)
      all_goals try simp only [Act.put, List.setIfInBounds_toArray, List.set_cons_zero, List.set_cons_succ]
      all_goals first | (refine soft_pass rfl HS ?_) | (refine soft_read (v := ?_) rfl (fun W hW => ?_) ?_; rotate_left; (· go_simp; try with_reducible rfl))
      all_goals try simp only [Act.put, List.setIfInBounds_toArray, List.set_cons_zero, List.set_cons_succ]
      all_goals first | (refine soft_pass rfl HS ?_; have hg9 := True.intro) | (refine soft_part (v := ?_) (b := ?_) rfl (fun W hW => ?_) ?_ (fun b hg9 => ?_); rotate_left; rotate_left; (· go_simp; try with_reducible rfl); (· with_reducible rfl); cases b; all_goals first | (exact Bool.noConfusion hg9) | (simp only [Bool.not_eq_true', Bool.not_eq_false'] at hg9) | skip)
      all_goals try simp only [Act.put, List.setIfInBounds_toArray, List.set_cons_zero, List.set_cons_succ]
      all_goals refine soft_nil ?_
      all_goals have ER := hbel.trans (HS.mono hbel.size)
      all_goals have EF := EG.trans (HS.mono EG.size)
      all_goals first
        | (have HT := Lib.hid (HD.out (show keyBad r s = true by simp only [keyBad, Bool.not_true, Bool.not_false, Bool.and_true, Bool.true_and, Bool.and_false, Bool.false_and, Bool.or_true, Bool.true_or, Bool.or_false, Bool.false_or, Bool.not_not, hg2, hg9])); clear HD HX; go_wp2; go_ret; exact ⟨ret_bool HT.out.symm, EF⟩)
        | (have HT := Lib.hid (HX.out (show keyBad r s = false by simp only [keyBad, Bool.not_true, Bool.not_false, Bool.and_true, Bool.true_and, Bool.and_false, Bool.false_and, Bool.or_true, Bool.true_or, Bool.or_false, Bool.false_or, Bool.not_not, hg2, hg9])); clear HD HX; go_wp2; go_roundw; (case rel => exact ⟨k + 1, by omega, by go_num, HT, ER⟩); (case measure => simp [intOf]; omega))
    · have HT := Lib.hid (vRule_good HV.out HN.out hlt hk)
      go_wp2
      go_ret
      exact ⟨ret_bool HT.out.symm, EG⟩
set_option maxRecDepth 100000 in
set_option maxHeartbeats 2000000 in
theorem specRuleAllows_c {w : World} {cr : List Value} {r : LRule} (hr : RRule.raw w cr r) {cn : List Value} {n : LName} (hn : RName.raw w cn n) {cm : List Value} {m : LName} (hm : RName.raw w cm m) :
    Calls Tryz.prog 228 #[.agg cr.toArray, .agg cn.toArray, .agg cm.toArray] w fun e w' => e = .returned (.bool (allows n m r)) ∧ Below w.heap.size w w' := by
  have HR := Lib.hid hr; have HN := Lib.hid hn; have HM := Lib.hid hm
  obtain ⟨av0, av1, rfl, a_0, a_1, a_2, a_3⟩ := RRule_raw hr
  obtain ⟨aa0, ap0, ah0, al0⟩ := Rep.len_raw a_1; obtain rfl : av0 = _ := by simpa using ah0
  clear ah0
  obtain ⟨aa1, ap1, ah1, al1⟩ := Rep.len_raw a_3; obtain rfl : av1 = _ := by simpa using ah1
  clear ah1
  obtain ⟨bv0, rfl, b_0⟩ := RName_raw hn
  obtain ⟨ba0, bp0, bh0, bl0⟩ := Rep.len_raw b_0; obtain rfl : bv0 = _ := by simpa using bh0
  clear bh0
  obtain ⟨dv0, rfl, d_0⟩ := RName_raw hm
  obtain ⟨da0, dp0, dh0, dl0⟩ := Rep.len_raw d_0; obtain rfl : dv0 = _ := by simpa using dh0
  clear dh0
  have H0 := Lib.hid a_0; have H2 := Lib.hid a_2
  have HT := Lib.hid (show allows n m r = ((vRule r && mOk r.1 n []) && mOk r.2 m (mB r.1 n [])) from rfl)
  have hb6 := mB_len6 (p := r.1) (n := n) (l := [])
  simp only [List.length_nil] at hb6
  clear hr hn hm a_0 a_1 a_2 a_3 b_0 d_0
  go_enter Tryz.func228, Tryz.ntmps228
  go_upto_region 1 with fail
  generalize hwB : World.alloc (World.alloc (World.alloc w _) _) _ = wB
  have EB : Below w.heap.size w wB := by rw [← hwB]; exact (by repeat (first | (with_reducible exact Below.refl _ _) | refine Below.alloc ?_ (by simp; try omega) _ | refine Below.drew ?_ | refine Below.setCell ?_ (by simp; try omega) _))
  have K0 : wB.cell? ⟨w.heap.size, 0, none⟩ = some (.slice aa0 r.1.length ap0) := by rw [← hwB]; simp [go_sem]
  have K1 : wB.cell? ⟨w.heap.size, 1, none⟩ = some (.slice aa1 r.2.length ap1) := by rw [← hwB]; simp [go_sem]
  have K2 : wB.cell? ⟨w.heap.size + 1, 0, none⟩ = some (.slice ba0 n.length bp0) := by rw [← hwB]; simp [go_sem]
  have K3 : wB.cell? ⟨w.heap.size + 1 + 1, 0, none⟩ = some (.slice da0 m.length dp0) := by rw [← hwB]; simp [go_sem]
  clear hwB
  go_wp2_with fail
  have RV := ((litB (w := wB) (e := 284)).own (Nat.zero_le _)).rd
  have BX : Below wB.heap.size wB (World.alloc wB (.cells #[] 284)) := (Below.refl _ _).alloc (Nat.le_refl _) _
  have EL := EB.trans (BX.mono EB.size)
  refine (specMatch_c (H0.out.below EL) (HN.out.below EL) (cn := [.slice ba0 n.length bp0]) (l := []) RV (by simp)).mono ?_
  rintro e w1 ⟨v1, rfl, O1, hb1⟩
  obtain ⟨a1, n1, c1, hv1, HN1⟩ := O1.parts; obtain rfl := hv1
  replace K0 := cell_later (BX.trans (hb1.mono BX.size)) K0
  replace K1 := cell_later (BX.trans (hb1.mono BX.size)) K1
  replace K3 := cell_later (BX.trans (hb1.mono BX.size)) K3
  have E1 := EL.trans (hb1.mono EL.size)
  have R1 := Lib.hid ((O1.own (by unfold Big; omega)).rd)
  clear hb1 O1 EB EL K2 BX RV
  generalize mOk r.1 n [] = ok1 at *
  generalize mB r.1 n [] = out1 at *
  go_wp2_with fail
  refine (specMatch_c (H2.out.below E1) (HM.out.below E1) (cn := [.slice da0 m.length dp0]) R1.out (by omega)).mono ?_
  rintro e w2 ⟨v2, rfl, O2, hb2⟩
  obtain ⟨a2, n2, c2, hv2, HN2⟩ := O2.parts; obtain rfl := hv2
  replace K0 := cell_later hb2 K0
  replace K1 := cell_later hb2 K1
  have E2 := E1.trans (hb2.mono E1.size)
  clear hb2 O2 E1 K3 R1
  generalize mOk r.2 m out1 = ok2 at *
  go_wp2_with fail
  refine (specValidRule_c (HR.out.below E2)).mono ?_
  rintro e w3 ⟨rfl, hb3⟩
  have E3 := E2.trans (hb3.mono E2.size)
  clear hb3 E2
  cases hv : vRule r
  · have HU : Hid (allows n m r = false) := Lib.hid (by rw [HT.out, hv]; rfl)
    clear hv
    go_wp2
    go_ret
    exact ⟨ret_bool HU.out.symm, E3⟩
  · cases ok1
    · have HU : Hid (allows n m r = false) := Lib.hid (by rw [HT.out, hv]; rfl)
      clear hv
      go_wp2
      go_ret
      exact ⟨ret_bool HU.out.symm, E3⟩
    · have HU : Hid (allows n m r = ok2) := Lib.hid (by rw [HT.out, hv]; rfl)
      clear hv
      go_wp2
      go_ret
      exact ⟨ret_bool HU.out.symm, E3⟩
set_option maxRecDepth 100000 in
set_option maxHeartbeats 2000000 in
theorem implRuleAllows_c {w : World} {cr : List Value} {r : LRule} (hr : RRule.raw w cr r) {cn : List Value} {n : LName} (hn : RName.raw w cn n) {cm : List Value} {m : LName} (hm : RName.raw w cm m) :
    Calls Tryz.prog 236 #[.agg cr.toArray, .agg cn.toArray, .agg cm.toArray] w fun e w' => e = .returned (.bool (allows n m r)) ∧ Below w.heap.size w w' := by
  have HR := Lib.hid hr; have HN := Lib.hid hn; have HM := Lib.hid hm
  obtain ⟨av0, av1, rfl, a_0, a_1, a_2, a_3⟩ := RRule_raw hr
  obtain ⟨aa0, ap0, ah0, al0⟩ := Rep.len_raw a_1; obtain rfl : av0 = _ := by simpa using ah0
  clear ah0
  obtain ⟨aa1, ap1, ah1, al1⟩ := Rep.len_raw a_3; obtain rfl : av1 = _ := by simpa using ah1
  clear ah1
  obtain ⟨bv0, rfl, b_0⟩ := RName_raw hn
  obtain ⟨ba0, bp0, bh0, bl0⟩ := Rep.len_raw b_0; obtain rfl : bv0 = _ := by simpa using bh0
  clear bh0
  obtain ⟨dv0, rfl, d_0⟩ := RName_raw hm
  obtain ⟨da0, dp0, dh0, dl0⟩ := Rep.len_raw d_0; obtain rfl : dv0 = _ := by simpa using dh0
  clear dh0
  have H0 := Lib.hid a_0; have H2 := Lib.hid a_2
  have HT := Lib.hid (show allows n m r = ((vRule r && mOk r.1 n []) && mOk r.2 m (mB r.1 n [])) from rfl)
  have hb6 := mB_len6 (p := r.1) (n := n) (l := [])
  simp only [List.length_nil] at hb6
  clear hr hn hm a_0 a_1 a_2 a_3 b_0 d_0
  go_enter Tryz.func236, Tryz.ntmps236
  go_upto_region 1 with fail
  generalize hwB : World.alloc (World.alloc (World.alloc w _) _) _ = wB
  have EB : Below w.heap.size w wB := by rw [← hwB]; exact (by repeat (first | (with_reducible exact Below.refl _ _) | refine Below.alloc ?_ (by simp; try omega) _ | refine Below.drew ?_ | refine Below.setCell ?_ (by simp; try omega) _))
  have K0 : wB.cell? ⟨w.heap.size, 0, none⟩ = some (.slice aa0 r.1.length ap0) := by rw [← hwB]; simp [go_sem]
  have K1 : wB.cell? ⟨w.heap.size, 1, none⟩ = some (.slice aa1 r.2.length ap1) := by rw [← hwB]; simp [go_sem]
  have K2 : wB.cell? ⟨w.heap.size + 1, 0, none⟩ = some (.slice ba0 n.length bp0) := by rw [← hwB]; simp [go_sem]
  have K3 : wB.cell? ⟨w.heap.size + 1 + 1, 0, none⟩ = some (.slice da0 m.length dp0) := by rw [← hwB]; simp [go_sem]
  clear hwB
  go_wp2_with fail
  have RV := ((Rep.own0.void (e := 284) (r := RBinding) (w := wB) (a := none) (S := fun _ => False)).own (Nat.zero_le _)).rd
  have BX := Below.refl wB.heap.size wB
  have EL := EB
  refine (implMatch_c (H0.out.below EL) (HN.out.below EL) (cn := [.slice ba0 n.length bp0]) (l := []) RV (by simp)).mono ?_
  rintro e w1 ⟨v1, rfl, O1, hb1⟩
  obtain ⟨a1, n1, c1, hv1, HN1⟩ := O1.parts; obtain rfl := hv1
  replace K0 := cell_later (BX.trans (hb1.mono BX.size)) K0
  replace K1 := cell_later (BX.trans (hb1.mono BX.size)) K1
  replace K3 := cell_later (BX.trans (hb1.mono BX.size)) K3
  have E1 := EL.trans (hb1.mono EL.size)
  have R1 := Lib.hid ((O1.own (by unfold Big; omega)).rd)
  clear hb1 O1 EB EL K2 BX RV
  generalize mOk r.1 n [] = ok1 at *
  generalize mB r.1 n [] = out1 at *
  go_wp2_with fail
  refine (implMatch_c (H2.out.below E1) (HM.out.below E1) (cn := [.slice da0 m.length dp0]) R1.out (by omega)).mono ?_
  rintro e w2 ⟨v2, rfl, O2, hb2⟩
  obtain ⟨a2, n2, c2, hv2, HN2⟩ := O2.parts; obtain rfl := hv2
  replace K0 := cell_later hb2 K0
  replace K1 := cell_later hb2 K1
  have E2 := E1.trans (hb2.mono E1.size)
  clear hb2 O2 E1 K3 R1
  generalize mOk r.2 m out1 = ok2 at *
  go_wp2_with fail
  refine (implValidRule_c (HR.out.below E2)).mono ?_
  rintro e w3 ⟨rfl, hb3⟩
  have E3 := E2.trans (hb3.mono E2.size)
  clear hb3 E2
  cases hv : vRule r
  · have HU : Hid (allows n m r = false) := Lib.hid (by rw [HT.out, hv]; rfl)
    clear hv
    go_wp2
    go_ret
    exact ⟨ret_bool HU.out.symm, E3⟩
  · cases ok1
    · have HU : Hid (allows n m r = false) := Lib.hid (by rw [HT.out, hv]; rfl)
      clear hv
      go_wp2
      go_ret
      exact ⟨ret_bool HU.out.symm, E3⟩
    · have HU : Hid (allows n m r = ok2) := Lib.hid (by rw [HT.out, hv]; rfl)
      clear hv
      go_wp2
      go_ret
      exact ⟨ret_bool HU.out.symm, E3⟩
set_option maxRecDepth 100000 in
set_option maxHeartbeats 2000000 in
theorem specFirstAllowingRule_w {w : World} {vl : Value} {l : (List LRule)} (hl : (Rep.slice 191 RRule).raw w [vl] l) {cn : List Value} {n : LName} (hn : RName.raw w cn n) {cm : List Value} {m : LName} (hm : RName.raw w cm m) :
    Calls Tryz.prog 202 #[vl, .agg cn.toArray, .agg cm.toArray] w fun e w' => e = .returned (.int .i64 (idxOf (allows n m) l)) ∧ Below w.heap.size w w' := by
  obtain ⟨al, pl, el, ll⟩ := Rep.len_raw hl; obtain rfl : vl = _ := by simpa using el
  clear el
  have Hn := Lib.hid hn
  obtain ⟨fnv0, rfl, fn_0⟩ := RName_raw hn
  obtain ⟨fna0, fnp0, fnh0, fnl0⟩ := Rep.len_raw fn_0; obtain rfl : fnv0 = _ := by simpa using fnh0
  clear fnh0
  have Hm := Lib.hid hm
  obtain ⟨fmv0, rfl, fm_0⟩ := RName_raw hm
  obtain ⟨fma0, fmp0, fmh0, fml0⟩ := Rep.len_raw fm_0; obtain rfl : fmv0 = _ := by simpa using fmh0
  clear fmh0
  go_enter Tryz.func202, Tryz.ntmps202
  go_wp2
  generalize hwB : World.alloc (World.alloc w _) _ = wB
  have EB : Below w.heap.size w wB := by rw [← hwB]; exact (by repeat (first | (with_reducible exact Below.refl _ _) | refine Below.alloc ?_ (by simp; try omega) _ | refine Below.drew ?_ | refine Below.setCell ?_ (by simp; try omega) _))
  have K4_0 : wB.cell? ⟨w.heap.size, 0, none⟩ = some (.slice fna0 (n).length fnp0) := by rw [← hwB]; simp [go_sem]
  have K5_0 : wB.cell? ⟨w.heap.size + 1, 0, none⟩ = some (.slice fma0 (m).length fmp0) := by rw [← hwB]; simp [go_sem]
  clear hwB
  replace hl := hl.below EB
  go_loopw [7] (fun i wr => ∃ k : Nat, k ≤ l.length ∧ i = .int .i64 k ∧ Hid (∀ j, (h : j < k) → (h2 : j < l.length) → (allows n m) l[j] = false) ∧ Below wB.heap.size wB wr) (fun i _ => l.length - (intOf i).toNat)
  case atStart => exact ⟨0, Nat.zero_le _, rfl, Lib.hid (fun _ h => by omega), Below.refl _ _⟩
  case round =>
    obtain ⟨k, hk, rfl, HN, hbel⟩ := hrel
    replace K4_0 := cell_later hbel K4_0
    replace K5_0 := cell_later hbel K5_0
    by_cases hlt : k < l.length
    · obtain ⟨qb, qo, rfl, qc0, qc1, qr, Aq0, Aq1⟩ := Rep.get2 (hl.below hbel) (i := k) (by omega) rfl
      have hhit := fun q => idxOf_hit hlt q HN.out
      have hmis := fun q => no_succ hlt q HN.out
      generalize l[k] = x at *
      have HD := Lib.hid hhit; have HX := Lib.hid hmis; clear hhit hmis
      obtain ⟨x0, x1⟩ := x
      obtain ⟨qv0, qv1, qhe, q_0, q_1, q_2, q_3⟩ := RRule_raw qr
      simp only [List.cons.injEq, and_true] at qhe
      obtain ⟨rfl, rfl⟩ := qhe
      obtain ⟨qa0, qp0, qh0, ql0⟩ := Rep.len_raw q_1; obtain rfl : qc0 = _ := by simpa using qh0
      clear qh0
      obtain ⟨qa1, qp1, qh1, ql1⟩ := Rep.len_raw q_3; obtain rfl : qc1 = _ := by simpa using qh1
      clear qh1
      go_upto_region 4 with fail
      refine wp_region_soft (fun W => Below wr.heap.size wr W) [true, true, true, true, true, true, false] (by kernel_rfl) (by kernel_rfl) (fun c a d v w h => by cases d <;> exact h) ((Below.refl _ _).drew) ?_
      intro wS HS
      all_goals first | (refine soft_pass rfl HS ?_) | (refine soft_read (v := ?_) rfl (fun W hW => ?_) ?_; rotate_left; (· go_simp; try with_reducible rfl))
      all_goals try simp only [Act.put, List.setIfInBounds_toArray, List.set_cons_zero, List.set_cons_succ]
      all_goals first | (refine soft_pass rfl HS ?_) | (refine soft_read (v := ?_) rfl (fun W hW => ?_) ?_; rotate_left; (· go_simp; try with_reducible rfl))
      all_goals try simp only [Act.put, List.setIfInBounds_toArray, List.set_cons_zero, List.set_cons_succ]
      all_goals first | (refine soft_pass rfl HS ?_) | (refine soft_read (v := ?_) rfl (fun W hW => ?_) ?_; rotate_left; (· go_simp; try with_reducible rfl))
      all_goals try simp only [Act.put, List.setIfInBounds_toArray, List.set_cons_zero, List.set_cons_succ]
      all_goals first | (refine soft_pass rfl HS ?_) | (refine soft_read (v := ?_) rfl (fun W hW => ?_) ?_; rotate_left; (· have A_K4_0 := cell_later hW K4_0; have A_K5_0 := cell_later hW K5_0; have A_Aq0 := cell_later hW Aq0; have A_Aq1 := cell_later hW Aq1; clear hW; go_simp; try with_reducible rfl))
      all_goals try simp only [Act.put, List.setIfInBounds_toArray, List.set_cons_zero, List.set_cons_succ]
      all_goals first | (refine soft_pass rfl HS ?_) | (refine soft_read (v := ?_) rfl (fun W hW => ?_) ?_; rotate_left; (· have A_K4_0 := cell_later hW K4_0; have A_K5_0 := cell_later hW K5_0; have A_Aq0 := cell_later hW Aq0; have A_Aq1 := cell_later hW Aq1; clear hW; go_simp; try with_reducible rfl))
      all_goals try simp only [Act.put, List.setIfInBounds_toArray, List.set_cons_zero, List.set_cons_succ]
      all_goals first | (refine soft_pass rfl HS ?_) | (refine soft_read (v := ?_) rfl (fun W hW => ?_) ?_; rotate_left; (· have A_K4_0 := cell_later hW K4_0; have A_K5_0 := cell_later hW K5_0; have A_Aq0 := cell_later hW Aq0; have A_Aq1 := cell_later hW Aq1; clear hW; go_simp; try with_reducible rfl))
      all_goals try simp only [Act.put, List.setIfInBounds_toArray, List.set_cons_zero, List.set_cons_succ]
      all_goals first | (refine soft_pass rfl HS ?_) | (refine soft_do rfl (fun K hK => ?_); go_simp; refine (specRuleAllows_c (Rep.raw.below qr HS) (Rep.raw.below Hn.out (EB.trans ((hbel.trans (HS.mono hbel.size)).mono EB.size))) (Rep.raw.below Hm.out (EB.trans ((hbel.trans (HS.mono hbel.size)).mono EB.size)))).mono ?_; rintro e wS1 ⟨rfl, hbS⟩; replace HS := HS.trans (hbS.mono HS.size); refine hK _ _ HS ?_; clear hK K hbS)
      all_goals try simp only [Act.put, List.setIfInBounds_toArray, List.set_cons_zero, List.set_cons_succ]
      all_goals refine soft_nil ?_
      all_goals cases hg6 : allows n m (x0, x1)
      all_goals have EG := hbel.trans (HS.mono hbel.size)
      all_goals first
        | (have HT := Lib.hid (HD.out (show _ = true by simp only [Bool.not_true, Bool.not_false, Bool.and_true, Bool.true_and, Bool.and_false, Bool.false_and, Bool.or_true, Bool.true_or, Bool.or_false, Bool.false_or, Bool.not_not, hg6])); clear HD HX; go_wp2; go_ret; exact ⟨ret_int HT.out.symm, EB.trans (EG.mono EB.size)⟩)
        | (have HT := Lib.hid (HX.out (show _ = false by simp only [Bool.not_true, Bool.not_false, Bool.and_true, Bool.true_and, Bool.and_false, Bool.false_and, Bool.or_true, Bool.true_or, Bool.or_false, Bool.false_or, Bool.not_not, hg6])); clear HD HX; go_wp2; go_roundw; (case rel => exact ⟨k + 1, by omega, by go_num, HT, EG⟩); (case measure => simp [intOf]; omega))
    · have HT := Lib.hid (idxOf_miss hlt HN.out)
      go_wp2
      go_ret
      exact ⟨ret_int HT.out.symm, EB.trans (hbel.mono EB.size)⟩
set_option maxRecDepth 100000 in
set_option maxHeartbeats 2000000 in
theorem implFirstAllowingRule1_c {w : World} {cr : List Value} {r : LRule} (hr : RRule.raw w cr r) {n : LName} {nc0 : Value} {Bn : Nat} (nr : RName.raw w [nc0] n) (An0 : w.cell? ⟨Bn, 0, none⟩ = some nc0) {m : LName} {mc0 : Value} {Bm : Nat} (mr : RName.raw w [mc0] m) (Am0 : w.cell? ⟨Bm, 0, none⟩ = some mc0) :
    Calls Tryz.prog 235 (#[.agg cr.toArray] ++ #[.pointer (some ⟨Bn, 0, none⟩), .pointer (some ⟨Bm, 0, none⟩)]) w fun e w' => e = .returned (.bool (allows n m r)) ∧ Below w.heap.size w w' := by
  have Hr := Lib.hid hr
  obtain ⟨frv0, frv1, rfl, fr_0, fr_1, fr_2, fr_3⟩ := RRule_raw hr
  obtain ⟨fra0, frp0, frh0, frl0⟩ := Rep.len_raw fr_1; obtain rfl : frv0 = _ := by simpa using frh0
  clear frh0
  obtain ⟨fra1, frp1, frh1, frl1⟩ := Rep.len_raw fr_3; obtain rfl : frv1 = _ := by simpa using frh1
  clear frh1
  obtain ⟨nv0, nhe, n_0⟩ := RName_raw nr
  simp only [List.cons.injEq, and_true] at nhe
  obtain rfl := nhe
  obtain ⟨na0, np0, nh0, nl0⟩ := Rep.len_raw n_0; obtain rfl : nc0 = _ := by simpa using nh0
  clear nh0
  obtain ⟨mv0, mhe, m_0⟩ := RName_raw mr
  simp only [List.cons.injEq, and_true] at mhe
  obtain rfl := mhe
  obtain ⟨ma0, mp0, mh0, ml0⟩ := Rep.len_raw m_0; obtain rfl : mc0 = _ := by simpa using mh0
  clear mh0
  show Calls Tryz.prog 235 #[_, _, _] w _
  go_enter Tryz.func235, Tryz.ntmps235
  go_upto_region 1 with fail
  generalize hwB : World.alloc w _ = wB
  have EB : Below w.heap.size w wB := by rw [← hwB]; exact (by repeat (first | (with_reducible exact Below.refl _ _) | refine Below.alloc ?_ (by simp; try omega) _ | refine Below.drew ?_ | refine Below.setCell ?_ (by simp; try omega) _))
  have K3_0 : wB.cell? ⟨w.heap.size, 0, none⟩ = some (.slice fra0 (r.1).length frp0) := by rw [← hwB]; simp [go_sem]
  have K3_1 : wB.cell? ⟨w.heap.size, 1, none⟩ = some (.slice fra1 (r.2).length frp1) := by rw [← hwB]; simp [go_sem]
  clear hwB
  replace An0 := cell_later EB An0
  replace Am0 := cell_later EB Am0
  refine wp_region_soft_plain (fun W => Below wB.heap.size wB W) [true, true, true, false, true] (Below.refl _ _) ?_
  intro wS HS
  all_goals first | (refine soft_pass rfl HS ?_) | (refine soft_read (v := ?_) rfl (fun W hW => ?_) ?_; rotate_left; (· have A_K3_0 := cell_later hW K3_0; have A_K3_1 := cell_later hW K3_1; have A_An0 := cell_later hW An0; have A_Am0 := cell_later hW Am0; clear hW; go_simp; try with_reducible rfl))
  all_goals try simp only [Act.put, List.setIfInBounds_toArray, List.set_cons_zero, List.set_cons_succ]
  all_goals first | (refine soft_pass rfl HS ?_) | (refine soft_read (v := ?_) rfl (fun W hW => ?_) ?_; rotate_left; (· have A_K3_0 := cell_later hW K3_0; have A_K3_1 := cell_later hW K3_1; have A_An0 := cell_later hW An0; have A_Am0 := cell_later hW Am0; clear hW; go_simp; try with_reducible rfl))
  all_goals try simp only [Act.put, List.setIfInBounds_toArray, List.set_cons_zero, List.set_cons_succ]
  all_goals first | (refine soft_pass rfl HS ?_) | (refine soft_read (v := ?_) rfl (fun W hW => ?_) ?_; rotate_left; (· have A_K3_0 := cell_later hW K3_0; have A_K3_1 := cell_later hW K3_1; have A_An0 := cell_later hW An0; have A_Am0 := cell_later hW Am0; clear hW; go_simp; try with_reducible rfl))
  all_goals try simp only [Act.put, List.setIfInBounds_toArray, List.set_cons_zero, List.set_cons_succ]
  all_goals first | (refine soft_pass rfl HS ?_) | (refine soft_do rfl (fun K hK => ?_); go_simp; refine (implRuleAllows_c (Rep.raw.below Hr.out (EB.trans (HS.mono EB.size))) (Rep.raw.below nr (EB.trans (HS.mono EB.size))) (Rep.raw.below mr (EB.trans (HS.mono EB.size)))).mono ?_; rintro e wS1 ⟨rfl, hbS⟩; replace HS := HS.trans (hbS.mono HS.size); refine hK _ _ HS ?_; clear hK K hbS)
  all_goals try simp only [Act.put, List.setIfInBounds_toArray, List.set_cons_zero, List.set_cons_succ]
  all_goals first | (refine soft_pass rfl HS ?_; have hg4 := True.intro) | (refine soft_part (v := ?_) (b := ?_) rfl (fun W hW => ?_) ?_ (fun b hg4 => ?_); rotate_left; rotate_left; (· go_simp; try with_reducible rfl); (· with_reducible rfl); cases b; all_goals first | (exact Bool.noConfusion hg4) | (simp only [Bool.not_eq_true', Bool.not_eq_false'] at hg4) | skip)
  all_goals try simp only [Act.put, List.setIfInBounds_toArray, List.set_cons_zero, List.set_cons_succ]
  all_goals refine soft_nil ?_
  all_goals have EG := EB.trans (HS.mono EB.size)
  all_goals first
    | (have HT := Lib.hid (show (allows n m r) = false by simp only [Bool.not_true, Bool.not_false, Bool.and_true, Bool.true_and, Bool.and_false, Bool.false_and, Bool.or_true, Bool.true_or, Bool.or_false, Bool.false_or, Bool.not_not, hg4]); go_wp2; go_ret; exact ⟨ret_bool HT.out.symm, EG⟩)
    | (have HT := Lib.hid (show (allows n m r) = true by simp only [Bool.not_true, Bool.not_false, Bool.and_true, Bool.true_and, Bool.and_false, Bool.false_and, Bool.or_true, Bool.true_or, Bool.or_false, Bool.false_or, Bool.not_not, hg4]); go_wp2; go_ret; exact ⟨ret_bool HT.out.symm, EG⟩)
theorem callable_implFirstAllowingRule1_c : Callable Tryz.prog 235 := callable_of Tryz.func235 (by kernel_rfl) (by kernel_rfl)
set_option maxRecDepth 100000 in
set_option maxHeartbeats 1000000 in
theorem implFirstAllowingRule_w {w : World} {vl : Value} {l : (List LRule)} (hl : (Rep.slice 191 RRule).raw w [vl] l) {cn : List Value} {n : LName} (hn : RName.raw w cn n) {cm : List Value} {m : LName} (hm : RName.raw w cm m) :
    Calls Tryz.prog 210 #[vl, .agg cn.toArray, .agg cm.toArray] w fun e w' => e = .returned (.int .i64 (idxOf (allows n m) l)) ∧ Below w.heap.size w w' := by
  obtain ⟨al, pl, el, ll⟩ := Rep.len_raw hl; obtain rfl : vl = _ := by simpa using el
  clear el
  have Hn := Lib.hid hn
  obtain ⟨fnv0, rfl, fn_0⟩ := RName_raw hn
  obtain ⟨fna0, fnp0, fnh0, fnl0⟩ := Rep.len_raw fn_0; obtain rfl : fnv0 = _ := by simpa using fnh0
  clear fnh0
  have Hm := Lib.hid hm
  obtain ⟨fmv0, rfl, fm_0⟩ := RName_raw hm
  obtain ⟨fma0, fmp0, fmh0, fml0⟩ := Rep.len_raw fm_0; obtain rfl : fmv0 = _ := by simpa using fmh0
  clear fmh0
  go_enter Tryz.func210, Tryz.ntmps210
  go_upto_region 1 with fail
  generalize hwB : World.alloc (World.alloc w _) _ = wB
  have EB : Below w.heap.size w wB := by rw [← hwB]; exact (by repeat (first | (with_reducible exact Below.refl _ _) | refine Below.alloc ?_ (by simp; try omega) _ | refine Below.drew ?_ | refine Below.setCell ?_ (by simp; try omega) _))
  have K4_0 : wB.cell? ⟨w.heap.size, 0, none⟩ = some (.slice fna0 (n).length fnp0) := by rw [← hwB]; simp [go_sem]
  have K5_0 : wB.cell? ⟨w.heap.size + 1, 0, none⟩ = some (.slice fma0 (m).length fmp0) := by rw [← hwB]; simp [go_sem]
  clear hwB
  go_wp2_with fail
  refine (IndexFunc_Rule_c (allows n m) callable_implFirstAllowingRule1_c (Rep.raw.below hl EB) ?_).mono ?_
  · intro wr hb i h cs hr
    exact implFirstAllowingRule1_c hr (Rep.raw.below Hn.out (EB.trans (hb.mono EB.size))) (cell_later hb K4_0) (Rep.raw.below Hm.out (EB.trans (hb.mono EB.size))) (cell_later hb K5_0)
  rintro e w1 ⟨rfl, hb1⟩
  have EG : Below w.heap.size w w1 := EB.trans (hb1.mono EB.size)
  clear hb1
  go_wp2
  go_ret
  exact ⟨rfl, EG⟩
set_option maxRecDepth 100000 in
set_option maxHeartbeats 2000000 in
theorem specAllowed_w {w : World} {vl : Value} {l : (List LRule)} (hl : (Rep.slice 191 RRule).raw w [vl] l) {cn : List Value} {n : LName} (hn : RName.raw w cn n) {cm : List Value} {m : LName} (hm : RName.raw w cm m) :
    Calls Tryz.prog 169 #[vl, .agg cn.toArray, .agg cm.toArray] w fun e w' => e = .returned (.bool (allowedR l n m)) ∧ Below w.heap.size w w' := by
  obtain ⟨al, pl, el, ll⟩ := Rep.len_raw hl; obtain rfl : vl = _ := by simpa using el
  clear el
  have Hn := Lib.hid hn
  obtain ⟨fnv0, rfl, fn_0⟩ := RName_raw hn
  obtain ⟨fna0, fnp0, fnh0, fnl0⟩ := Rep.len_raw fn_0; obtain rfl : fnv0 = _ := by simpa using fnh0
  clear fnh0
  have Hm := Lib.hid hm
  obtain ⟨fmv0, rfl, fm_0⟩ := RName_raw hm
  obtain ⟨fma0, fmp0, fmh0, fml0⟩ := Rep.len_raw fm_0; obtain rfl : fmv0 = _ := by simpa using fmh0
  clear fmh0
  go_enter Tryz.func169, Tryz.ntmps169
  go_upto_region 1 with fail
  generalize hwB : World.alloc (World.alloc w _) _ = wB
  have EB : Below w.heap.size w wB := by rw [← hwB]; exact (by repeat (first | (with_reducible exact Below.refl _ _) | refine Below.alloc ?_ (by simp; try omega) _ | refine Below.drew ?_ | refine Below.setCell ?_ (by simp; try omega) _))
  have K4_0 : wB.cell? ⟨w.heap.size, 0, none⟩ = some (.slice fna0 (n).length fnp0) := by rw [← hwB]; simp [go_sem]
  have K5_0 : wB.cell? ⟨w.heap.size + 1, 0, none⟩ = some (.slice fma0 (m).length fmp0) := by rw [← hwB]; simp [go_sem]
  clear hwB
  refine wp_region_soft_plain (fun W => Below wB.heap.size wB W) [true, true, true, false, true, true] (Below.refl _ _) ?_
  intro wS HS
  all_goals first | (refine soft_pass rfl HS ?_) | (refine soft_read (v := ?_) rfl (fun W hW => ?_) ?_; rotate_left; (· go_simp; try with_reducible rfl))
  all_goals try simp only [Act.put, List.setIfInBounds_toArray, List.set_cons_zero, List.set_cons_succ]
  all_goals first | (refine soft_pass rfl HS ?_) | (refine soft_read (v := ?_) rfl (fun W hW => ?_) ?_; rotate_left; (· have A_K4_0 := cell_later hW K4_0; have A_K5_0 := cell_later hW K5_0; clear hW; go_simp; try with_reducible rfl))
  all_goals try simp only [Act.put, List.setIfInBounds_toArray, List.set_cons_zero, List.set_cons_succ]
  all_goals first | (refine soft_pass rfl HS ?_) | (refine soft_read (v := ?_) rfl (fun W hW => ?_) ?_; rotate_left; (· have A_K4_0 := cell_later hW K4_0; have A_K5_0 := cell_later hW K5_0; clear hW; go_simp; try with_reducible rfl))
  all_goals try simp only [Act.put, List.setIfInBounds_toArray, List.set_cons_zero, List.set_cons_succ]
  all_goals first | (refine soft_pass rfl HS ?_) | (refine soft_do rfl (fun K hK => ?_); go_simp; refine (specFirstAllowingRule_w (Rep.raw.below hl (EB.trans (HS.mono EB.size))) (Rep.raw.below Hn.out (EB.trans (HS.mono EB.size))) (Rep.raw.below Hm.out (EB.trans (HS.mono EB.size)))).mono ?_; rintro e wS1 ⟨rfl, hbS⟩; replace HS := HS.trans (hbS.mono HS.size); refine hK _ _ HS ?_; clear hK K hbS)
  all_goals try simp only [Act.put, List.setIfInBounds_toArray, List.set_cons_zero, List.set_cons_succ]
  all_goals first | (refine soft_pass rfl HS ?_) | (refine soft_read (v := ?_) rfl (fun W hW => ?_) ?_; rotate_left; (· go_simp; try with_reducible rfl))
  all_goals try simp only [Act.put, List.setIfInBounds_toArray, List.set_cons_zero, List.set_cons_succ]
  all_goals first | (refine soft_pass rfl HS ?_; have hg5 := True.intro) | (refine soft_part (v := ?_) (b := ?_) rfl (fun W hW => ?_) ?_ (fun b hg5 => ?_); rotate_left; rotate_left; (· go_simp; try with_reducible rfl); (· with_reducible rfl); cases b; all_goals first | (exact Bool.noConfusion hg5) | (simp only [Bool.not_eq_true', Bool.not_eq_false'] at hg5) | skip)
  all_goals try simp only [Act.put, List.setIfInBounds_toArray, List.set_cons_zero, List.set_cons_succ]
  all_goals refine soft_nil ?_
  all_goals have EG := EB.trans (HS.mono EB.size)
  all_goals first
    | (have HT := Lib.hid (show (allowedR l n m) = false by simp only [allowedR, firstA, ge_iff_le, Bool.not_true, Bool.not_false, Bool.and_true, Bool.true_and, Bool.and_false, Bool.false_and, Bool.or_true, Bool.true_or, Bool.or_false, Bool.false_or, Bool.not_not, hg5]); go_wp2; go_ret; exact ⟨ret_bool HT.out.symm, EG⟩)
    | (have HT := Lib.hid (show (allowedR l n m) = true by simp only [allowedR, firstA, ge_iff_le, Bool.not_true, Bool.not_false, Bool.and_true, Bool.true_and, Bool.and_false, Bool.false_and, Bool.or_true, Bool.true_or, Bool.or_false, Bool.false_or, Bool.not_not, hg5]); go_wp2; go_ret; exact ⟨ret_bool HT.out.symm, EG⟩)
set_option maxRecDepth 100000 in
set_option maxHeartbeats 2000000 in
theorem implAllowed_w {w : World} {vl : Value} {l : (List LRule)} (hl : (Rep.slice 191 RRule).raw w [vl] l) {cn : List Value} {n : LName} (hn : RName.raw w cn n) {cm : List Value} {m : LName} (hm : RName.raw w cm m) :
    Calls Tryz.prog 180 #[vl, .agg cn.toArray, .agg cm.toArray] w fun e w' => e = .returned (.bool (allowedR l n m)) ∧ Below w.heap.size w w' := by
  obtain ⟨al, pl, el, ll⟩ := Rep.len_raw hl; obtain rfl : vl = _ := by simpa using el
  clear el
  have Hn := Lib.hid hn
  obtain ⟨fnv0, rfl, fn_0⟩ := RName_raw hn
  obtain ⟨fna0, fnp0, fnh0, fnl0⟩ := Rep.len_raw fn_0; obtain rfl : fnv0 = _ := by simpa using fnh0
  clear fnh0
  have Hm := Lib.hid hm
  obtain ⟨fmv0, rfl, fm_0⟩ := RName_raw hm
  obtain ⟨fma0, fmp0, fmh0, fml0⟩ := Rep.len_raw fm_0; obtain rfl : fmv0 = _ := by simpa using fmh0
  clear fmh0
  go_enter Tryz.func180, Tryz.ntmps180
  go_upto_region 1 with fail
  generalize hwB : World.alloc (World.alloc w _) _ = wB
  have EB : Below w.heap.size w wB := by rw [← hwB]; exact (by repeat (first | (with_reducible exact Below.refl _ _) | refine Below.alloc ?_ (by simp; try omega) _ | refine Below.drew ?_ | refine Below.setCell ?_ (by simp; try omega) _))
  have K4_0 : wB.cell? ⟨w.heap.size, 0, none⟩ = some (.slice fna0 (n).length fnp0) := by rw [← hwB]; simp [go_sem]
  have K5_0 : wB.cell? ⟨w.heap.size + 1, 0, none⟩ = some (.slice fma0 (m).length fmp0) := by rw [← hwB]; simp [go_sem]
  clear hwB
  refine wp_region_soft_plain (fun W => Below wB.heap.size wB W) [true, true, true, false, true, true] (Below.refl _ _) ?_
  intro wS HS
  all_goals first | (refine soft_pass rfl HS ?_) | (refine soft_read (v := ?_) rfl (fun W hW => ?_) ?_; rotate_left; (· go_simp; try with_reducible rfl))
  all_goals try simp only [Act.put, List.setIfInBounds_toArray, List.set_cons_zero, List.set_cons_succ]
  all_goals first | (refine soft_pass rfl HS ?_) | (refine soft_read (v := ?_) rfl (fun W hW => ?_) ?_; rotate_left; (· have A_K4_0 := cell_later hW K4_0; have A_K5_0 := cell_later hW K5_0; clear hW; go_simp; try with_reducible rfl))
  all_goals try simp only [Act.put, List.setIfInBounds_toArray, List.set_cons_zero, List.set_cons_succ]
  all_goals first | (refine soft_pass rfl HS ?_) | (refine soft_read (v := ?_) rfl (fun W hW => ?_) ?_; rotate_left; (· have A_K4_0 := cell_later hW K4_0; have A_K5_0 := cell_later hW K5_0; clear hW; go_simp; try with_reducible rfl))
  all_goals try simp only [Act.put, List.setIfInBounds_toArray, List.set_cons_zero, List.set_cons_succ]
  all_goals first | (refine soft_pass rfl HS ?_) | (refine soft_do rfl (fun K hK => ?_); go_simp; refine (implFirstAllowingRule_w (Rep.raw.below hl (EB.trans (HS.mono EB.size))) (Rep.raw.below Hn.out (EB.trans (HS.mono EB.size))) (Rep.raw.below Hm.out (EB.trans (HS.mono EB.size)))).mono ?_; rintro e wS1 ⟨rfl, hbS⟩; replace HS := HS.trans (hbS.mono HS.size); refine hK _ _ HS ?_; clear hK K hbS)
  all_goals try simp only [Act.put, List.setIfInBounds_toArray, List.set_cons_zero, List.set_cons_succ]
  all_goals first | (refine soft_pass rfl HS ?_) | (refine soft_read (v := ?_) rfl (fun W hW => ?_) ?_; rotate_left; (· go_simp; try with_reducible rfl))
  all_goals try simp only [Act.put, List.setIfInBounds_toArray, List.set_cons_zero, List.set_cons_succ]
  all_goals first | (refine soft_pass rfl HS ?_; have hg5 := True.intro) | (refine soft_part (v := ?_) (b := ?_) rfl (fun W hW => ?_) ?_ (fun b hg5 => ?_); rotate_left; rotate_left; (· go_simp; try with_reducible rfl); (· with_reducible rfl); cases b; all_goals first | (exact Bool.noConfusion hg5) | (simp only [Bool.not_eq_true', Bool.not_eq_false'] at hg5) | skip)
  all_goals try simp only [Act.put, List.setIfInBounds_toArray, List.set_cons_zero, List.set_cons_succ]
  all_goals refine soft_nil ?_
  all_goals have EG := EB.trans (HS.mono EB.size)
  all_goals first
    | (have HT := Lib.hid (show (allowedR l n m) = false by simp only [allowedR, firstA, ge_iff_le, Bool.not_true, Bool.not_false, Bool.and_true, Bool.true_and, Bool.and_false, Bool.false_and, Bool.or_true, Bool.true_or, Bool.or_false, Bool.false_or, Bool.not_not, hg5]); go_wp2; go_ret; exact ⟨ret_bool HT.out.symm, EG⟩)
    | (have HT := Lib.hid (show (allowedR l n m) = true by simp only [allowedR, firstA, ge_iff_le, Bool.not_true, Bool.not_false, Bool.and_true, Bool.true_and, Bool.and_false, Bool.false_and, Bool.or_true, Bool.true_or, Bool.or_false, Bool.false_or, Bool.not_not, hg5]); go_wp2; go_ret; exact ⟨ret_bool HT.out.symm, EG⟩)
end Go.Proofs.YtlfblpgkegeaeaaGreat

/-
  Retransmissions.
-/
import Derived.Test.YtigfchigjcnghaaPend
import Derived.IntWalk
import Derived.Deep.Cut
namespace Go.Proofs.Ytigfchigjcnghaa
open Go.RowKit
set_option linter.unusedSimpArgs false
set_option linter.unnecessarySimpa false
set_option linter.unusedVariables false
def fromF (f : Int) (r : LRequester) : Bool := r.1 == f
def retr (l : List LPendingInterest) (n : LName) (f : Int) : Bool := if idxOf (isPend n) l < 0 then false else decide (0 ≤ idxOf (fromF f) (l.getD (idxOf (isPend n) l).toNat ([], [], 0)).2.1)
theorem retr_no {l : List LPendingInterest} {n : LName} {f : Int} (h : idxOf (isPend n) l < 0) : retr l n f = false := by unfold retr; rw [if_pos h]
theorem retr_yes {l : List LPendingInterest} {n : LName} {f : Int} {k : Nat} (hk : k < l.length) (h : idxOf (isPend n) l = k) : retr l n f = decide (0 ≤ idxOf (fromF f) l[k].2.1) := by
  unfold retr; rw [h, if_neg (by omega), Int.toNat_natCast, getD_get hk]
set_option maxRecDepth 100000 in
set_option maxHeartbeats 2000000 in
theorem implIsRetransmission1_c {w : World} {cr : List Value} {r : LRequester} (hr : RRequester.raw w cr r) {f : Int} {Bf : Nat} (Af0 : w.cell? ⟨Bf, 0, none⟩ = some (.int .i64 f)) :
    Calls Try.prog 108 (#[.agg cr.toArray] ++ #[.pointer (some ⟨Bf, 0, none⟩)]) w fun e w' => e = .returned (.bool (fromF f r)) ∧ Below w.heap.size w w' := by
  have Hr := Lib.hid hr
  obtain ⟨rfl, fr_0, fr_1, fr_2⟩ := RRequester_raw hr
  show Calls Try.prog 108 #[_, _] w _
  go_enter Try.func108, Try.ntmps108
  go_upto_region 1 with fail
  generalize hwB : World.alloc w _ = wB
  have EB : Below w.heap.size w wB := by rw [← hwB]; exact (by repeat (first | (with_reducible exact Below.refl _ _) | refine Below.alloc ?_ (by simp; try omega) _ | refine Below.drew ?_ | refine Below.setCell ?_ (by simp; try omega) _))
  have K2_0 : wB.cell? ⟨w.heap.size, 0, none⟩ = some (.int .i64 r.1) := by rw [← hwB]; simp [go_sem]
  have K2_1 : wB.cell? ⟨w.heap.size, 1, none⟩ = some (.int .i64 r.2.1) := by rw [← hwB]; simp [go_sem]
  have K2_2 : wB.cell? ⟨w.heap.size, 2, none⟩ = some (.int .i64 r.2.2) := by rw [← hwB]; simp [go_sem]
  clear hwB
  replace Af0 := cell_later EB Af0
  refine wp_region_soft_plain (fun W => Below wB.heap.size wB W) [true, true, true, true, true] (Below.refl _ _) ?_
  intro wS HS
  all_goals first | (refine soft_pass rfl HS ?_) | (refine soft_read (v := ?_) rfl (fun W hW => ?_) ?_; rotate_left; (· go_simp; try with_reducible rfl))
  all_goals try simp only [Act.put, List.setIfInBounds_toArray, List.set_cons_zero, List.set_cons_succ]
  all_goals first | (refine soft_pass rfl HS ?_) | (refine soft_read (v := ?_) rfl (fun W hW => ?_) ?_; rotate_left; (· have A_K2_0 := cell_later hW K2_0; have A_K2_1 := cell_later hW K2_1; have A_K2_2 := cell_later hW K2_2; have A_Af0 := cell_later hW Af0; clear hW; go_simp; try with_reducible rfl))
  all_goals try simp only [Act.put, List.setIfInBounds_toArray, List.set_cons_zero, List.set_cons_succ]
  all_goals first | (refine soft_pass rfl HS ?_) | (refine soft_read (v := ?_) rfl (fun W hW => ?_) ?_; rotate_left; (· have A_K2_0 := cell_later hW K2_0; have A_K2_1 := cell_later hW K2_1; have A_K2_2 := cell_later hW K2_2; have A_Af0 := cell_later hW Af0; clear hW; go_simp; try with_reducible rfl))
  all_goals try simp only [Act.put, List.setIfInBounds_toArray, List.set_cons_zero, List.set_cons_succ]
  all_goals first | (refine soft_pass rfl HS ?_) | (refine soft_read (v := ?_) rfl (fun W hW => ?_) ?_; rotate_left; (· go_simp; try with_reducible rfl))
  all_goals try simp only [Act.put, List.setIfInBounds_toArray, List.set_cons_zero, List.set_cons_succ]
  all_goals first | (refine soft_pass rfl HS ?_; have hg4 := True.intro) | (refine soft_part (v := ?_) (b := ?_) rfl (fun W hW => ?_) ?_ (fun b hg4 => ?_); rotate_left; rotate_left; (· go_simp; try with_reducible rfl); (· with_reducible rfl); cases b; all_goals first | (exact Bool.noConfusion hg4) | (simp only [Bool.not_eq_true', Bool.not_eq_false'] at hg4) | skip)
  all_goals try simp only [Act.put, List.setIfInBounds_toArray, List.set_cons_zero, List.set_cons_succ]
  all_goals refine soft_nil ?_
  all_goals have EG := EB.trans (HS.mono EB.size)
  all_goals first
    | (have HT := Lib.hid (show (fromF f r) = false by simp only [fromF, Bool.not_true, Bool.not_false, Bool.and_true, Bool.true_and, Bool.and_false, Bool.false_and, Bool.or_true, Bool.true_or, Bool.or_false, Bool.false_or, Bool.not_not, hg4]); go_wp2; go_ret; exact ⟨ret_bool HT.out.symm, EG⟩)
    | (have HT := Lib.hid (show (fromF f r) = true by simp only [fromF, Bool.not_true, Bool.not_false, Bool.and_true, Bool.true_and, Bool.and_false, Bool.false_and, Bool.or_true, Bool.true_or, Bool.or_false, Bool.false_or, Bool.not_not, hg4]); go_wp2; go_ret; exact ⟨ret_bool HT.out.symm, EG⟩)
theorem callable_implIsRetransmission1_c : Callable Try.prog 108 := callable_of Try.func108 (by kernel_rfl) (by kernel_rfl)
set_option maxRecDepth 100000 in
set_option maxHeartbeats 1000000 in
theorem implIsRetransmission_w {w : World} {vl : Value} {l : List LPendingInterest} (hl : (Rep.slice 129 RPendingInterest).raw w [vl] l) {cn : List Value} {n : LName} (hn : RName.raw w cn n) {f : Int} :
    Calls Try.prog 51 #[vl, .agg cn.toArray, .int .i64 f] w fun e w' => e = .returned (.bool (retr l n f)) ∧ Below w.heap.size w w' := by
  have HN := Lib.hid hn
  have HL := Lib.hid hl
  obtain ⟨av, rfl, _⟩ := RName_raw hn
  obtain ⟨aa, capa, hva, la⟩ := Rep.len_raw hl; obtain rfl : vl = _ := by simpa using hva
  clear hn hva hl
  go_enter Try.func51, Try.ntmps51
  go_wp2_with fail
  refine (implpendingAt_c (HL.out.below (by repeat (first | (with_reducible exact Below.refl _ _) | refine Below.alloc ?_ (by simp; try omega) _ | refine Below.drew ?_ | refine Below.setCell ?_ (by simp; try omega) _))) (HN.out.below (by repeat (first | (with_reducible exact Below.refl _ _) | refine Below.alloc ?_ (by simp; try omega) _ | refine Below.drew ?_ | refine Below.setCell ?_ (by simp; try omega) _)))).mono ?_
  rintro e w1 ⟨rfl, hb1⟩
  have EF : Below w.heap.size w w1 := Below.trans (by repeat (first | (with_reducible exact Below.refl _ _) | refine Below.alloc ?_ (by simp; try omega) _ | refine Below.drew ?_ | refine Below.setCell ?_ (by simp; try omega) _)) (hb1.mono (by simp; try omega))
  have K5 : w1.cell? ⟨w.heap.size + 1, 0, none⟩ = some (.int .i64 f) := (hb1.cell (p := ⟨w.heap.size + 1, 0, none⟩) (by simp)).trans (by simp [go_sem])
  clear hb1
  by_cases h : idxOf (isPend n) l < 0
  · have HT := Lib.hid (retr_no (f := f) h)
    have hd : decide (0 ≤ idxOf (isPend n) l) = false := by simpa using h
    go_wp2
    go_ret
    exact ⟨ret_bool HT.out.symm, EF⟩
  · obtain ⟨k, hk, hi⟩ := idxOf_at h
    have HT := Lib.hid (retr_yes (f := f) hk hi)
    rw [hi] at h ⊢
    clear hi
    obtain ⟨ba, offa, rfl, c0, c1, c2, hr, A0, A1, A2⟩ := Rep.get3 (HL.out.below EF) hk rfl
    obtain ⟨v0, v1, he, p0, p1, p2, p3⟩ := RPendingInterest_raw hr
    simp only [List.cons.injEq, and_true] at he
    obtain ⟨rfl, rfl, rfl⟩ := he
    clear hr p0 p1 p3
    generalize l[k] = y at *
    obtain ⟨ra, rc, hrv, lr⟩ := Rep.len_raw p2; obtain rfl : c1 = _ := by simpa using hrv
    clear hrv
    have hk2 := Int.ofNat_lt.2 hk
    have hk0 := Int.natCast_nonneg k
    have hd : decide ((0 : Int) ≤ (k : Int)) = true := by simp
    go_wp2_with fail
    refine (ContainsFunc_Requester_c (fromF f) callable_implIsRetransmission1_c p2 ?_).mono ?_
    · intro wr hb i h cs hr
      exact implIsRetransmission1_c hr (cell_later hb K5)
    rintro e w2 ⟨rfl, hb2⟩
    have EG := EF.trans (hb2.mono EF.size)
    clear hb2
    go_wp2
    go_ret
    exact ⟨ret_bool HT.out.symm, EG⟩
set_option maxRecDepth 100000 in
set_option maxHeartbeats 1000000 in
theorem specIsRetransmission_w {w : World} {vl : Value} {l : List LPendingInterest} (hl : (Rep.slice 129 RPendingInterest).raw w [vl] l) {cn : List Value} {n : LName} (hn : RName.raw w cn n) {f : Int} :
    Calls Try.prog 49 #[vl, .agg cn.toArray, .int .i64 f] w fun e w' => e = .returned (.bool (retr l n f)) ∧ Below w.heap.size w w' := by
  have HN := Lib.hid hn
  have HL := Lib.hid hl
  obtain ⟨av, rfl, _⟩ := RName_raw hn
  obtain ⟨aa, capa, hva, la⟩ := Rep.len_raw hl; obtain rfl : vl = _ := by simpa using hva
  clear hn hva hl
  go_enter Try.func49, Try.ntmps49
  go_wp2_with fail
  refine (specl13Find_c (HL.out.below (by repeat (first | (with_reducible exact Below.refl _ _) | refine Below.alloc ?_ (by simp; try omega) _ | refine Below.drew ?_ | refine Below.setCell ?_ (by simp; try omega) _))) (HN.out.below (by repeat (first | (with_reducible exact Below.refl _ _) | refine Below.alloc ?_ (by simp; try omega) _ | refine Below.drew ?_ | refine Below.setCell ?_ (by simp; try omega) _)))).mono ?_
  rintro e w1 ⟨rfl, hb1⟩
  have EF : Below w.heap.size w w1 := Below.trans (by repeat (first | (with_reducible exact Below.refl _ _) | refine Below.alloc ?_ (by simp; try omega) _ | refine Below.drew ?_ | refine Below.setCell ?_ (by simp; try omega) _)) (hb1.mono (by simp; try omega))
  clear hb1
  by_cases h : idxOf (isPend n) l < 0
  · have HT := Lib.hid (retr_no (f := f) h)
    have hd : decide (0 ≤ idxOf (isPend n) l) = false := by simpa using h
    go_wp2
    go_loop [8] (fun i => i = .int .i64 0) (fun _ => 0)
    case atStart => rfl
    case round =>
      obtain rfl := hrel
      go_wp2
      go_ret
      exact ⟨ret_bool HT.out.symm, EF⟩
  · obtain ⟨k, hk, hi⟩ := idxOf_at h
    have HT := Lib.hid (retr_yes (f := f) hk hi)
    rw [hi] at h ⊢
    clear hi
    obtain ⟨ba, offa, rfl, c0, c1, c2, hr, A0, A1, A2⟩ := Rep.get3 (HL.out.below EF) hk rfl
    obtain ⟨v0, v1, he, p0, p1, p2, p3⟩ := RPendingInterest_raw hr
    simp only [List.cons.injEq, and_true] at he
    obtain ⟨rfl, rfl, rfl⟩ := he
    clear hr p0 p1 p3
    generalize l[k] = y at *
    obtain ⟨ra, rc, hrv, lr⟩ := Rep.len_raw p2; obtain rfl : c1 = _ := by simpa using hrv
    clear hrv
    have hk2 := Int.ofNat_lt.2 hk
    have hk0 := Int.natCast_nonneg k
    have hd : decide ((0 : Int) ≤ (k : Int)) = true := by simp
    generalize hR : y.2.1 = R at *
    clear hR
    go_wp2
    go_loop [8] (fun i => ∃ j : Nat, j ≤ R.length ∧ i = .int .i64 j ∧ Hid (∀ m, (h : m < j) → (h2 : m < R.length) → fromF f R[m] = false)) (fun i => R.length - (intOf i).toNat)
    case atStart => exact ⟨0, Nat.zero_le _, rfl, Lib.hid (fun _ h => by omega)⟩
    case round =>
      obtain ⟨j, hj, rfl, HNO⟩ := hrel
      by_cases hlt : j < R.length
      · obtain ⟨bb, offb, rfl, d0, d1, d2, hr, B0, B1, B2⟩ := Rep.get3 p2 hlt rfl
        obtain ⟨he, _⟩ := RRequester_raw hr
        simp only [List.cons.injEq, and_true] at he
        obtain ⟨rfl, rfl, rfl⟩ := he
        clear hr
        have hh := fun q => idxOf_hit hlt q HNO.out
        have hm := fun q => no_succ hlt q HNO.out
        generalize R[j] = z at *
        have HH := Lib.hid hh; have HM := Lib.hid hm; clear hh hm
        cases hq : (z.1 == f)
        · have HU := Lib.hid (HM.out hq)
          clear HH HM
          go_wp2
          go_round
          case rel => exact ⟨j + 1, by omega, by go_num, HU⟩
          case measure => simp [intOf]; omega
        · have HU := Lib.hid (HT.out.trans (show decide (0 ≤ idxOf (fromF f) R) = true by rw [HH.out hq]; simp))
          clear HH HM
          go_wp2
          go_ret
          exact ⟨ret_bool HU.out.symm, EF⟩
      · have HU := Lib.hid (HT.out.trans (show decide (0 ≤ idxOf (fromF f) R) = false by rw [idxOf_miss hlt HNO.out]; simp))
        go_wp2
        go_ret
        exact ⟨ret_bool HU.out.symm, EF⟩
theorem specIsRetransmission_c {w : World} {vl : Value} {l : (List LPendingInterest)} (hl : (Rep.slice 129 RPendingInterest).rd w [vl] l) {cn : List Value} {n : LName} (hn : RName.rd w cn n) {f : Int} (hf : -9223372036854775808 ≤ f ∧ f ≤ 9223372036854775807) :
    Calls Try.prog 49 #[vl, .agg cn.toArray, .int .i64 f] w fun e w' => e = .returned (.bool (retr l n f)) ∧ Below w.heap.size w w' := specIsRetransmission_w hl.1 hn.1
theorem implIsRetransmission_c {w : World} {vl : Value} {l : (List LPendingInterest)} (hl : (Rep.slice 129 RPendingInterest).rd w [vl] l) {cn : List Value} {n : LName} (hn : RName.rd w cn n) {f : Int} (hf : -9223372036854775808 ≤ f ∧ f ≤ 9223372036854775807) :
    Calls Try.prog 51 #[vl, .agg cn.toArray, .int .i64 f] w fun e w' => e = .returned (.bool (retr l n f)) ∧ Below w.heap.size w w' := implIsRetransmission_w hl.1 hn.1
end Go.Proofs.Ytigfchigjcnghaa

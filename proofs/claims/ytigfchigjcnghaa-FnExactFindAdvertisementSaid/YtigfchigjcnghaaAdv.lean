/-
  Advertisements: found.
-/
import Derived.Test.YtigfchigjcnghaaLib
import Derived.Test.YtigfchigjcnghaaSoft
import Derived.IntWalk
import Derived.Deep.Cut
namespace Go.Proofs.Ytigfchigjcnghaa
open Go.RowKit
set_option linter.unusedVariables false
def isAdv (f : Int) (a : LAdvertisement) : Bool := a.1 == f
set_option maxRecDepth 100000 in
set_option maxHeartbeats 2000000 in
theorem specFindAdvertisement_w {w : World} {vl : Value} {l : (List LAdvertisement)} (hl : (Rep.slice 58 RAdvertisement).raw w [vl] l) {f : Int} :
    Calls Try.prog 31 #[vl, .int .i64 f] w fun e w' => e = .returned (.int .i64 (idxOf (isAdv f) l)) ∧ Below w.heap.size w w' := by
  obtain ⟨al, pl, el, ll⟩ := Rep.len_raw hl; obtain rfl : vl = _ := by simpa using el
  clear el
  go_enter Try.func31, Try.ntmps31
  go_wp2
  have EB := Below.refl w.heap.size w
  replace hl := hl.below EB
  go_loopw [5] (fun i wr => ∃ k : Nat, k ≤ l.length ∧ i = .int .i64 k ∧ Hid (∀ j, (h : j < k) → (h2 : j < l.length) → (isAdv f) l[j] = false) ∧ Below w.heap.size w wr) (fun i _ => l.length - (intOf i).toNat)
  case atStart => exact ⟨0, Nat.zero_le _, rfl, Lib.hid (fun _ h => by omega), Below.refl _ _⟩
  case round =>
    obtain ⟨k, hk, rfl, HN, hbel⟩ := hrel
    by_cases hlt : k < l.length
    · obtain ⟨qb, qo, rfl, qc0, qc1, qc2, qc3, qr, Aq0, Aq1, Aq2, Aq3⟩ := Rep.get4 (hl.below hbel) (i := k) (by omega) rfl
      have hhit := fun q => idxOf_hit hlt q HN.out
      have hmis := fun q => no_succ hlt q HN.out
      generalize l[k] = x at *
      have HD := Lib.hid hhit; have HX := Lib.hid hmis; clear hhit hmis
      obtain ⟨x0, x1, x2, x3⟩ := x
      obtain ⟨qv2, qv3, qhe, q_0, q_1, q_2, q_3⟩ := RAdvertisement_raw qr
      simp only [List.cons.injEq, and_true] at qhe
      obtain ⟨rfl, rfl, rfl, rfl⟩ := qhe
      obtain ⟨qa2, qp2, qh2, ql2⟩ := Rep.len_raw q_2; obtain rfl : qc2 = _ := by simpa using qh2
      clear qh2
      obtain ⟨qa3, qp3, qh3, ql3⟩ := Rep.len_raw q_3; obtain rfl : qc3 = _ := by simpa using qh3
      clear qh3
      go_upto_region 4 with fail
      refine wp_region_soft_plain (fun W => Below wr.heap.size wr W) [true, true, true, true, true, true, true] (Below.refl _ _) ?_
      intro wS HS
      all_goals first | (refine soft_pass rfl HS ?_) | (refine soft_read (v := ?_) rfl (fun W hW => ?_) ?_; rotate_left; (· go_simp; try with_reducible rfl))
      all_goals try simp only [Act.put, List.setIfInBounds_toArray, List.set_cons_zero, List.set_cons_succ]
      all_goals first | (refine soft_pass rfl HS ?_) | (refine soft_read (v := ?_) rfl (fun W hW => ?_) ?_; rotate_left; (· go_simp; try with_reducible rfl))
      all_goals try simp only [Act.put, List.setIfInBounds_toArray, List.set_cons_zero, List.set_cons_succ]
      all_goals first | (refine soft_pass rfl HS ?_) | (refine soft_read (v := ?_) rfl (fun W hW => ?_) ?_; rotate_left; (· go_simp; try with_reducible rfl))
      all_goals try simp only [Act.put, List.setIfInBounds_toArray, List.set_cons_zero, List.set_cons_succ]
      all_goals first | (refine soft_pass rfl HS ?_) | (refine soft_read (v := ?_) rfl (fun W hW => ?_) ?_; rotate_left; (· go_simp; try with_reducible rfl))
      all_goals try simp only [Act.put, List.setIfInBounds_toArray, List.set_cons_zero, List.set_cons_succ]
      all_goals first | (refine soft_pass rfl HS ?_) | (refine soft_read (v := ?_) rfl (fun W hW => ?_) ?_; rotate_left; (· have A_Aq0 := cell_later hW Aq0; have A_Aq1 := cell_later hW Aq1; have A_Aq2 := cell_later hW Aq2; have A_Aq3 := cell_later hW Aq3; clear hW; go_simp; try with_reducible rfl))
      all_goals try simp only [Act.put, List.setIfInBounds_toArray, List.set_cons_zero, List.set_cons_succ]
      all_goals first | (refine soft_pass rfl HS ?_) | (refine soft_read (v := ?_) rfl (fun W hW => ?_) ?_; rotate_left; (· go_simp; try with_reducible rfl))
      all_goals try simp only [Act.put, List.setIfInBounds_toArray, List.set_cons_zero, List.set_cons_succ]
      all_goals first | (refine soft_pass rfl HS ?_; have hg6 := True.intro) | (refine soft_part (v := ?_) (b := ?_) rfl (fun W hW => ?_) ?_ (fun b hg6 => ?_); rotate_left; rotate_left; (· go_simp; try with_reducible rfl); (· with_reducible rfl); cases b; all_goals first | (exact Bool.noConfusion hg6) | (simp only [Bool.not_eq_true', Bool.not_eq_false'] at hg6) | skip)
      all_goals try simp only [Act.put, List.setIfInBounds_toArray, List.set_cons_zero, List.set_cons_succ]
      all_goals refine soft_nil ?_
      all_goals have EG := hbel.trans (HS.mono hbel.size)
      all_goals first
        | (have HT := Lib.hid (HD.out (show _ = true by simp only [isAdv, Bool.not_true, Bool.not_false, Bool.and_true, Bool.true_and, Bool.and_false, Bool.false_and, Bool.or_true, Bool.true_or, Bool.or_false, Bool.false_or, Bool.not_not, hg6])); clear HD HX; go_wp2; go_ret; exact ⟨ret_int HT.out.symm, EB.trans (EG.mono EB.size)⟩)
        | (have HT := Lib.hid (HX.out (show _ = false by simp only [isAdv, Bool.not_true, Bool.not_false, Bool.and_true, Bool.true_and, Bool.and_false, Bool.false_and, Bool.or_true, Bool.true_or, Bool.or_false, Bool.false_or, Bool.not_not, hg6])); clear HD HX; go_wp2; go_roundw; (case rel => exact ⟨k + 1, by omega, by go_num, HT, EG⟩); (case measure => simp [intOf]; omega))
    · have HT := Lib.hid (idxOf_miss hlt HN.out)
      go_wp2
      go_ret
      exact ⟨ret_int HT.out.symm, EB.trans (hbel.mono EB.size)⟩
set_option maxRecDepth 100000 in
set_option maxHeartbeats 2000000 in
theorem implFindAdvertisement1_c {w : World} {ca : List Value} {a : LAdvertisement} (ha : RAdvertisement.raw w ca a) {f : Int} {Bf : Nat} (Af0 : w.cell? ⟨Bf, 0, none⟩ = some (.int .i64 f)) :
    Calls Try.prog 82 (#[.agg ca.toArray] ++ #[.pointer (some ⟨Bf, 0, none⟩)]) w fun e w' => e = .returned (.bool (isAdv f a)) ∧ Below w.heap.size w w' := by
  have Ha := Lib.hid ha
  obtain ⟨fav2, fav3, rfl, fa_0, fa_1, fa_2, fa_3⟩ := RAdvertisement_raw ha
  obtain ⟨faa2, fap2, fah2, fal2⟩ := Rep.len_raw fa_2; obtain rfl : fav2 = _ := by simpa using fah2
  clear fah2
  obtain ⟨faa3, fap3, fah3, fal3⟩ := Rep.len_raw fa_3; obtain rfl : fav3 = _ := by simpa using fah3
  clear fah3
  show Calls Try.prog 82 #[_, _] w _
  go_enter Try.func82, Try.ntmps82
  go_upto_region 1 with fail
  generalize hwB : World.alloc w _ = wB
  have EB : Below w.heap.size w wB := by rw [← hwB]; exact (by repeat (first | (with_reducible exact Below.refl _ _) | refine Below.alloc ?_ (by simp; try omega) _ | refine Below.drew ?_ | refine Below.setCell ?_ (by simp; try omega) _))
  have K2_0 : wB.cell? ⟨w.heap.size, 0, none⟩ = some (.int .i64 a.1) := by rw [← hwB]; simp [go_sem]
  have K2_1 : wB.cell? ⟨w.heap.size, 1, none⟩ = some (.int .i64 a.2.1) := by rw [← hwB]; simp [go_sem]
  have K2_2 : wB.cell? ⟨w.heap.size, 2, none⟩ = some (.slice faa2 (a.2.2.1).length fap2) := by rw [← hwB]; simp [go_sem]
  have K2_3 : wB.cell? ⟨w.heap.size, 3, none⟩ = some (.slice faa3 (a.2.2.2).length fap3) := by rw [← hwB]; simp [go_sem]
  clear hwB
  replace Af0 := cell_later EB Af0
  refine wp_region_soft_plain (fun W => Below wB.heap.size wB W) [true, true, true, true, true] (Below.refl _ _) ?_
  intro wS HS
  all_goals first | (refine soft_pass rfl HS ?_) | (refine soft_read (v := ?_) rfl (fun W hW => ?_) ?_; rotate_left; (· go_simp; try with_reducible rfl))
  all_goals try simp only [Act.put, List.setIfInBounds_toArray, List.set_cons_zero, List.set_cons_succ]
  all_goals first | (refine soft_pass rfl HS ?_) | (refine soft_read (v := ?_) rfl (fun W hW => ?_) ?_; rotate_left; (· have A_K2_0 := cell_later hW K2_0; have A_K2_1 := cell_later hW K2_1; have A_K2_2 := cell_later hW K2_2; have A_K2_3 := cell_later hW K2_3; have A_Af0 := cell_later hW Af0; clear hW; go_simp; try with_reducible rfl))
  all_goals try simp only [Act.put, List.setIfInBounds_toArray, List.set_cons_zero, List.set_cons_succ]
  all_goals first | (refine soft_pass rfl HS ?_) | (refine soft_read (v := ?_) rfl (fun W hW => ?_) ?_; rotate_left; (· have A_K2_0 := cell_later hW K2_0; have A_K2_1 := cell_later hW K2_1; have A_K2_2 := cell_later hW K2_2; have A_K2_3 := cell_later hW K2_3; have A_Af0 := cell_later hW Af0; clear hW; go_simp; try with_reducible rfl))
  all_goals try simp only [Act.put, List.setIfInBounds_toArray, List.set_cons_zero, List.set_cons_succ]
  all_goals first | (refine soft_pass rfl HS ?_) | (refine soft_read (v := ?_) rfl (fun W hW => ?_) ?_; rotate_left; (· go_simp; try with_reducible rfl))
  all_goals try simp only [Act.put, List.setIfInBounds_toArray, List.set_cons_zero, List.set_cons_succ]
  all_goals first | (refine soft_pass rfl HS ?_; have hg4 := True.intro) | (refine soft_part (v := ?_) (b := ?_) rfl (fun W hW => ?_) ?_ (fun b hg4 => ?_); rotate_left; rotate_left; (· go_simp; try with_reducible rfl); (· with_reducible rfl); cases b; all_goals first | (exact Bool.noConfusion hg4) | (simp only [Bool.not_eq_true', Bool.not_eq_false'] at hg4) | skip)
  all_goals try simp only [Act.put, List.setIfInBounds_toArray, List.set_cons_zero, List.set_cons_succ]
  all_goals refine soft_nil ?_
  all_goals have EG := EB.trans (HS.mono EB.size)
  all_goals first
    | (have HT := Lib.hid (show (isAdv f a) = false by simp only [isAdv, Bool.not_true, Bool.not_false, Bool.and_true, Bool.true_and, Bool.and_false, Bool.false_and, Bool.or_true, Bool.true_or, Bool.or_false, Bool.false_or, Bool.not_not, hg4]); go_wp2; go_ret; exact ⟨ret_bool HT.out.symm, EG⟩)
    | (have HT := Lib.hid (show (isAdv f a) = true by simp only [isAdv, Bool.not_true, Bool.not_false, Bool.and_true, Bool.true_and, Bool.and_false, Bool.false_and, Bool.or_true, Bool.true_or, Bool.or_false, Bool.false_or, Bool.not_not, hg4]); go_wp2; go_ret; exact ⟨ret_bool HT.out.symm, EG⟩)
theorem callable_implFindAdvertisement1_c : Callable Try.prog 82 := callable_of Try.func82 (by kernel_rfl) (by kernel_rfl)
set_option maxRecDepth 100000 in
set_option maxHeartbeats 1000000 in
theorem implFindAdvertisement_w {w : World} {vl : Value} {l : (List LAdvertisement)} (hl : (Rep.slice 58 RAdvertisement).raw w [vl] l) {f : Int} :
    Calls Try.prog 33 #[vl, .int .i64 f] w fun e w' => e = .returned (.int .i64 (idxOf (isAdv f) l)) ∧ Below w.heap.size w w' := by
  obtain ⟨al, pl, el, ll⟩ := Rep.len_raw hl; obtain rfl : vl = _ := by simpa using el
  clear el
  go_enter Try.func33, Try.ntmps33
  go_upto_region 1 with fail
  generalize hwB : World.alloc w _ = wB
  have EB : Below w.heap.size w wB := by rw [← hwB]; exact (by repeat (first | (with_reducible exact Below.refl _ _) | refine Below.alloc ?_ (by simp; try omega) _ | refine Below.drew ?_ | refine Below.setCell ?_ (by simp; try omega) _))
  have K3_0 : wB.cell? ⟨w.heap.size, 0, none⟩ = some (.int .i64 f) := by rw [← hwB]; simp [go_sem]
  clear hwB
  go_wp2_with fail
  refine (IndexFunc_Advertisement_c (isAdv f) callable_implFindAdvertisement1_c (Rep.raw.below hl EB) ?_).mono ?_
  · intro wr hb i h cs hr
    exact implFindAdvertisement1_c hr (cell_later hb K3_0)
  rintro e w1 ⟨rfl, hb1⟩
  have EG : Below w.heap.size w w1 := EB.trans (hb1.mono EB.size)
  clear hb1
  go_wp2
  go_ret
  exact ⟨rfl, EG⟩
theorem specFindAdvertisement_c {w : World} {vl : Value} {l : (List LAdvertisement)} (hl : (Rep.slice 58 RAdvertisement).rd w [vl] l) {f : Int} (hf : -9223372036854775808 ≤ f ∧ f ≤ 9223372036854775807) :
    Calls Try.prog 31 #[vl, .int .i64 f] w fun e w' => e = .returned (.int .i64 (idxOf (isAdv f) l)) ∧ Below w.heap.size w w' := specFindAdvertisement_w hl.1
theorem implFindAdvertisement_c {w : World} {vl : Value} {l : (List LAdvertisement)} (hl : (Rep.slice 58 RAdvertisement).rd w [vl] l) {f : Int} (hf : -9223372036854775808 ≤ f ∧ f ≤ 9223372036854775807) :
    Calls Try.prog 33 #[vl, .int .i64 f] w fun e w' => e = .returned (.int .i64 (idxOf (isAdv f) l)) ∧ Below w.heap.size w w' := implFindAdvertisement_w hl.1
end Go.Proofs.Ytigfchigjcnghaa

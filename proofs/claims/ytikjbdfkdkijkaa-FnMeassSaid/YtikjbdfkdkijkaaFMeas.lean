/-
  A measurement found.
-/
import Derived.Test.YtikjbdfkdkijkaaName
import Derived.IntWalk
import Derived.Deep.Cut
namespace Go.Proofs.Ytikjbdfkdkijkaa
open Go.RowKit
set_option linter.unusedVariables false
set_option linter.unusedSimpArgs false
set_option linter.unnecessarySimpa false
def isMeas (n : LName) (f : Int) (m : LMeasurement) : Bool := (m.2.1 == f) && eqN m.1 n
set_option maxRecDepth 100000 in
set_option maxHeartbeats 2000000 in
theorem specl15Find_c {w : World} {vl : Value} {l : (List LMeasurement)} (hl : (Rep.slice 76 RMeasurement).raw w [vl] l) {cn : List Value} {n : LName} (hn : RName.raw w cn n) {f : Int} :
    Calls Try.prog 70 #[vl, .agg cn.toArray, .int .i64 f] w fun e w' => e = .returned (.int .i64 (idxOf (isMeas n f) l)) ∧ Below w.heap.size w w' := by
  obtain ⟨al, pl, el, ll⟩ := Rep.len_raw hl; obtain rfl : vl = _ := by simpa using el
  clear el
  have Hn := Lib.hid hn
  obtain ⟨fnv0, rfl, fn_0⟩ := RName_raw hn
  obtain ⟨fna0, fnp0, fnh0, fnl0⟩ := Rep.len_raw fn_0; obtain rfl : fnv0 = _ := by simpa using fnh0
  clear fnh0
  go_enter Try.func70, Try.ntmps70
  go_wp2
  generalize hwB : World.alloc w _ = wB
  have EB : Below w.heap.size w wB := by rw [← hwB]; exact (by repeat (first | (with_reducible exact Below.refl _ _) | refine Below.alloc ?_ (by simp; try omega) _ | refine Below.drew ?_ | refine Below.setCell ?_ (by simp; try omega) _))
  have K4_0 : wB.cell? ⟨w.heap.size, 0, none⟩ = some (.slice fna0 (n).length fnp0) := by rw [← hwB]; simp [go_sem]
  clear hwB
  replace hl := hl.below EB
  go_loopw [7] (fun i wr => ∃ k : Nat, k ≤ l.length ∧ i = .int .i64 k ∧ Hid (∀ j, (h : j < k) → (h2 : j < l.length) → (isMeas n f) l[j] = false) ∧ Below wB.heap.size wB wr) (fun i _ => l.length - (intOf i).toNat)
  case atStart => exact ⟨0, Nat.zero_le _, rfl, Lib.hid (fun _ h => by omega), Below.refl _ _⟩
  case round =>
    obtain ⟨k, hk, rfl, HN, hbel⟩ := hrel
    replace K4_0 := cell_later hbel K4_0
    by_cases hlt : k < l.length
    · obtain ⟨qb, qo, rfl, qc0, qc1, qc2, qr, Aq0, Aq1, Aq2⟩ := Rep.get3 (hl.below hbel) (i := k) (by omega) rfl
      have hhit := fun q => idxOf_hit hlt q HN.out
      have hmis := fun q => no_succ hlt q HN.out
      generalize l[k] = x at *
      have HD := Lib.hid hhit; have HX := Lib.hid hmis; clear hhit hmis
      obtain ⟨x0, x1, x2⟩ := x
      obtain ⟨qv0, qhe, q_0, q_1, q_2, q_3⟩ := RMeasurement_raw qr
      simp only [List.cons.injEq, and_true] at qhe
      obtain ⟨rfl, rfl, rfl⟩ := qhe
      obtain ⟨qa0, qp0, qh0, ql0⟩ := Rep.len_raw q_1; obtain rfl : qc0 = _ := by simpa using qh0
      clear qh0
      go_upto_region 4 with fail
      refine wp_region_soft (fun W => Below wr.heap.size wr W) [true, true, true, true, true, true, true, true, true, true, true, true, true, true, false, true] (by kernel_rfl) (by kernel_rfl) (fun c a d v w h => by cases d <;> exact h) ((Below.refl _ _).drew) ?_
      intro wS HS
      all_goals first | (refine soft_pass rfl HS ?_) | (refine soft_read (v := ?_) rfl (fun W hW => ?_) ?_; rotate_left; (· go_simp; try with_reducible rfl))
      all_goals try simp only [Act.put, List.setIfInBounds_toArray, List.set_cons_zero, List.set_cons_succ]
      all_goals first | (refine soft_pass rfl HS ?_) | (refine soft_read (v := ?_) rfl (fun W hW => ?_) ?_; rotate_left; (· go_simp; try with_reducible rfl))
      all_goals try simp only [Act.put, List.setIfInBounds_toArray, List.set_cons_zero, List.set_cons_succ]
      all_goals first | (refine soft_pass rfl HS ?_) | (refine soft_read (v := ?_) rfl (fun W hW => ?_) ?_; rotate_left; (· go_simp; try with_reducible rfl))
      all_goals try simp only [Act.put, List.setIfInBounds_toArray, List.set_cons_zero, List.set_cons_succ]
      all_goals first | (refine soft_pass rfl HS ?_) | (refine soft_read (v := ?_) rfl (fun W hW => ?_) ?_; rotate_left; (· go_simp; try with_reducible rfl))
      all_goals try simp only [Act.put, List.setIfInBounds_toArray, List.set_cons_zero, List.set_cons_succ]
      all_goals first | (refine soft_pass rfl HS ?_) | (refine soft_read (v := ?_) rfl (fun W hW => ?_) ?_; rotate_left; (· have A_K4_0 := cell_later hW K4_0; have A_Aq0 := cell_later hW Aq0; have A_Aq1 := cell_later hW Aq1; have A_Aq2 := cell_later hW Aq2; clear hW; go_simp; try with_reducible rfl))
      all_goals try simp only [Act.put, List.setIfInBounds_toArray, List.set_cons_zero, List.set_cons_succ]
      all_goals first | (refine soft_pass rfl HS ?_) | (refine soft_read (v := ?_) rfl (fun W hW => ?_) ?_; rotate_left; (· go_simp; try with_reducible rfl))
      all_goals try simp only [Act.put, List.setIfInBounds_toArray, List.set_cons_zero, List.set_cons_succ]
      all_goals first | (refine soft_pass rfl HS ?_) | (refine soft_read (v := ?_) rfl (fun W hW => ?_) ?_; rotate_left; (· go_simp; try with_reducible rfl))
      all_goals try simp only [Act.put, List.setIfInBounds_toArray, List.set_cons_zero, List.set_cons_succ]
      all_goals first | (refine soft_pass rfl HS ?_; have hg7 := True.intro) | (refine soft_part (v := ?_) (b := ?_) rfl (fun W hW => ?_) ?_ (fun b hg7 => ?_); rotate_left; rotate_left; (· go_simp; try with_reducible rfl); (· with_reducible rfl); cases b; all_goals first | (exact Bool.noConfusion hg7) | (simp only [Bool.not_eq_true', Bool.not_eq_false'] at hg7) | skip)
      all_goals try simp only [Act.put, List.setIfInBounds_toArray, List.set_cons_zero, List.set_cons_succ]
      all_goals first | (refine soft_pass rfl HS ?_) | (refine soft_read (v := ?_) rfl (fun W hW => ?_) ?_; rotate_left; (· go_simp; try with_reducible rfl))
      all_goals try simp only [Act.put, List.setIfInBounds_toArray, List.set_cons_zero, List.set_cons_succ]
      all_goals first | (refine soft_pass rfl HS ?_) | (refine soft_read (v := ?_) rfl (fun W hW => ?_) ?_; rotate_left; (· go_simp; try with_reducible rfl))
      all_goals try simp only [Act.put, List.setIfInBounds_toArray, List.set_cons_zero, List.set_cons_succ]
      all_goals first | (refine soft_pass rfl HS ?_) | (refine soft_read (v := ?_) rfl (fun W hW => ?_) ?_; rotate_left; (· go_simp; try with_reducible rfl))
      all_goals try simp only [Act.put, List.setIfInBounds_toArray, List.set_cons_zero, List.set_cons_succ]
      all_goals first | (refine soft_pass rfl HS ?_) | (refine soft_read (v := ?_) rfl (fun W hW => ?_) ?_; rotate_left; (· go_simp; try with_reducible rfl))
      all_goals try simp only [Act.put, List.setIfInBounds_toArray, List.set_cons_zero, List.set_cons_succ]
      all_goals first | (refine soft_pass rfl HS ?_) | (refine soft_read (v := ?_) rfl (fun W hW => ?_) ?_; rotate_left; (· have A_K4_0 := cell_later hW K4_0; have A_Aq0 := cell_later hW Aq0; have A_Aq1 := cell_later hW Aq1; have A_Aq2 := cell_later hW Aq2; clear hW; go_simp; try with_reducible rfl))
      all_goals try simp only [Act.put, List.setIfInBounds_toArray, List.set_cons_zero, List.set_cons_succ]
      all_goals first | (refine soft_pass rfl HS ?_) | (refine soft_read (v := ?_) rfl (fun W hW => ?_) ?_; rotate_left; (· have A_K4_0 := cell_later hW K4_0; have A_Aq0 := cell_later hW Aq0; have A_Aq1 := cell_later hW Aq1; have A_Aq2 := cell_later hW Aq2; clear hW; go_simp; try with_reducible rfl))
      all_goals try simp only [Act.put, List.setIfInBounds_toArray, List.set_cons_zero, List.set_cons_succ]
      all_goals first | (refine soft_pass rfl HS ?_) | (refine soft_do rfl (fun K hK => ?_); go_simp; refine (specEqualNames_c (Rep.raw.below q_0 HS) (Rep.raw.below Hn.out (EB.trans ((hbel.trans (HS.mono hbel.size)).mono EB.size)))).mono ?_; rintro e wS1 ⟨rfl, hbS⟩; replace HS := HS.trans (hbS.mono HS.size); refine hK _ _ HS ?_; clear hK K hbS)
      all_goals try simp only [Act.put, List.setIfInBounds_toArray, List.set_cons_zero, List.set_cons_succ]
      all_goals first | (refine soft_pass rfl HS ?_; have hg15 := True.intro) | (refine soft_part (v := ?_) (b := ?_) rfl (fun W hW => ?_) ?_ (fun b hg15 => ?_); rotate_left; rotate_left; (· go_simp; try with_reducible rfl); (· with_reducible rfl); cases b; all_goals first | (exact Bool.noConfusion hg15) | (simp only [Bool.not_eq_true', Bool.not_eq_false'] at hg15) | skip)
      all_goals try simp only [Act.put, List.setIfInBounds_toArray, List.set_cons_zero, List.set_cons_succ]
      all_goals refine soft_nil ?_
      all_goals have EG := hbel.trans (HS.mono hbel.size)
      all_goals first
        | (have HT := Lib.hid (HD.out (show _ = true by simp only [isMeas, Bool.not_true, Bool.not_false, Bool.and_true, Bool.true_and, Bool.and_false, Bool.false_and, Bool.or_true, Bool.true_or, Bool.or_false, Bool.false_or, Bool.not_not, hg7, hg15])); clear HD HX; go_wp2; go_ret; exact ⟨ret_int HT.out.symm, EB.trans (EG.mono EB.size)⟩)
        | (have HT := Lib.hid (HX.out (show _ = false by simp only [isMeas, Bool.not_true, Bool.not_false, Bool.and_true, Bool.true_and, Bool.and_false, Bool.false_and, Bool.or_true, Bool.true_or, Bool.or_false, Bool.false_or, Bool.not_not, hg7, hg15])); clear HD HX; go_wp2; go_roundw; (case rel => exact ⟨k + 1, by omega, by go_num, HT, EG⟩); (case measure => simp [intOf]; omega))
    · have HT := Lib.hid (idxOf_miss hlt HN.out)
      go_wp2
      go_ret
      exact ⟨ret_int HT.out.symm, EB.trans (hbel.mono EB.size)⟩
set_option maxRecDepth 100000 in
set_option maxHeartbeats 2000000 in
theorem implmeasuredAt1_c {w : World} {cm : List Value} {m : LMeasurement} (hm : RMeasurement.raw w cm m) {f : Int} {Bf : Nat} (Af0 : w.cell? ⟨Bf, 0, none⟩ = some (.int .i64 f)) {n : LName} {nc0 : Value} {Bn : Nat} (nr : RName.raw w [nc0] n) (An0 : w.cell? ⟨Bn, 0, none⟩ = some nc0) :
    Calls Try.prog 108 (#[.agg cm.toArray] ++ #[.pointer (some ⟨Bf, 0, none⟩), .pointer (some ⟨Bn, 0, none⟩)]) w fun e w' => e = .returned (.bool (isMeas n f m)) ∧ Below w.heap.size w w' := by
  have Hm := Lib.hid hm
  obtain ⟨fmv0, rfl, fm_0, fm_1, fm_2, fm_3⟩ := RMeasurement_raw hm
  obtain ⟨fma0, fmp0, fmh0, fml0⟩ := Rep.len_raw fm_1; obtain rfl : fmv0 = _ := by simpa using fmh0
  clear fmh0
  obtain ⟨nv0, nhe, n_0⟩ := RName_raw nr
  simp only [List.cons.injEq, and_true] at nhe
  obtain rfl := nhe
  obtain ⟨na0, np0, nh0, nl0⟩ := Rep.len_raw n_0; obtain rfl : nc0 = _ := by simpa using nh0
  clear nh0
  show Calls Try.prog 108 #[_, _, _] w _
  go_enter Try.func108, Try.ntmps108
  go_upto_region 1 with fail
  generalize hwB : World.alloc w _ = wB
  have EB : Below w.heap.size w wB := by rw [← hwB]; exact (by repeat (first | (with_reducible exact Below.refl _ _) | refine Below.alloc ?_ (by simp; try omega) _ | refine Below.drew ?_ | refine Below.setCell ?_ (by simp; try omega) _))
  have K3_0 : wB.cell? ⟨w.heap.size, 0, none⟩ = some (.slice fma0 (m.1).length fmp0) := by rw [← hwB]; simp [go_sem]
  have K3_1 : wB.cell? ⟨w.heap.size, 1, none⟩ = some (.int .i64 m.2.1) := by rw [← hwB]; simp [go_sem]
  have K3_2 : wB.cell? ⟨w.heap.size, 2, none⟩ = some (.int .i64 m.2.2) := by rw [← hwB]; simp [go_sem]
  clear hwB
  replace Af0 := cell_later EB Af0
  replace An0 := cell_later EB An0
  refine wp_region_soft_plain (fun W => Below wB.heap.size wB W) [true, true, true, true, true, true, true, true, false, true, true] (Below.refl _ _) ?_
  intro wS HS
  all_goals first | (refine soft_pass rfl HS ?_) | (refine soft_read (v := ?_) rfl (fun W hW => ?_) ?_; rotate_left; (· go_simp; try with_reducible rfl))
  all_goals try simp only [Act.put, List.setIfInBounds_toArray, List.set_cons_zero, List.set_cons_succ]
  all_goals first | (refine soft_pass rfl HS ?_) | (refine soft_read (v := ?_) rfl (fun W hW => ?_) ?_; rotate_left; (· have A_K3_0 := cell_later hW K3_0; have A_K3_1 := cell_later hW K3_1; have A_K3_2 := cell_later hW K3_2; have A_Af0 := cell_later hW Af0; have A_An0 := cell_later hW An0; clear hW; go_simp; try with_reducible rfl))
  all_goals try simp only [Act.put, List.setIfInBounds_toArray, List.set_cons_zero, List.set_cons_succ]
  all_goals first | (refine soft_pass rfl HS ?_) | (refine soft_read (v := ?_) rfl (fun W hW => ?_) ?_; rotate_left; (· have A_K3_0 := cell_later hW K3_0; have A_K3_1 := cell_later hW K3_1; have A_K3_2 := cell_later hW K3_2; have A_Af0 := cell_later hW Af0; have A_An0 := cell_later hW An0; clear hW; go_simp; try with_reducible rfl))
  all_goals try simp only [Act.put, List.setIfInBounds_toArray, List.set_cons_zero, List.set_cons_succ]
  all_goals first | (refine soft_pass rfl HS ?_) | (refine soft_read (v := ?_) rfl (fun W hW => ?_) ?_; rotate_left; (· go_simp; try with_reducible rfl))
  all_goals try simp only [Act.put, List.setIfInBounds_toArray, List.set_cons_zero, List.set_cons_succ]
  all_goals first | (refine soft_pass rfl HS ?_; have hg4 := True.intro) | (refine soft_part (v := ?_) (b := ?_) rfl (fun W hW => ?_) ?_ (fun b hg4 => ?_); rotate_left; rotate_left; (· go_simp; try with_reducible rfl); (· with_reducible rfl); cases b; all_goals first | (exact Bool.noConfusion hg4) | (simp only [Bool.not_eq_true', Bool.not_eq_false'] at hg4) | skip)
  all_goals try simp only [Act.put, List.setIfInBounds_toArray, List.set_cons_zero, List.set_cons_succ]
  all_goals first | (refine soft_pass rfl HS ?_) | (refine soft_read (v := ?_) rfl (fun W hW => ?_) ?_; rotate_left; (· go_simp; try with_reducible rfl))
  all_goals try simp only [Act.put, List.setIfInBounds_toArray, List.set_cons_zero, List.set_cons_succ]
  all_goals first | (refine soft_pass rfl HS ?_) | (refine soft_read (v := ?_) rfl (fun W hW => ?_) ?_; rotate_left; (· have A_K3_0 := cell_later hW K3_0; have A_K3_1 := cell_later hW K3_1; have A_K3_2 := cell_later hW K3_2; have A_Af0 := cell_later hW Af0; have A_An0 := cell_later hW An0; clear hW; go_simp; try with_reducible rfl))
  all_goals try simp only [Act.put, List.setIfInBounds_toArray, List.set_cons_zero, List.set_cons_succ]
  all_goals first | (refine soft_pass rfl HS ?_) | (refine soft_read (v := ?_) rfl (fun W hW => ?_) ?_; rotate_left; (· have A_K3_0 := cell_later hW K3_0; have A_K3_1 := cell_later hW K3_1; have A_K3_2 := cell_later hW K3_2; have A_Af0 := cell_later hW Af0; have A_An0 := cell_later hW An0; clear hW; go_simp; try with_reducible rfl))
  all_goals try simp only [Act.put, List.setIfInBounds_toArray, List.set_cons_zero, List.set_cons_succ]
  all_goals first | (refine soft_pass rfl HS ?_) | (refine soft_do rfl (fun K hK => ?_); go_simp; refine (implEqualNames_c (Rep.raw.below fm_0 (EB.trans (HS.mono EB.size))) (Rep.raw.below nr (EB.trans (HS.mono EB.size)))).mono ?_; rintro e wS1 ⟨rfl, hbS⟩; replace HS := HS.trans (hbS.mono HS.size); refine hK _ _ HS ?_; clear hK K hbS)
  all_goals try simp only [Act.put, List.setIfInBounds_toArray, List.set_cons_zero, List.set_cons_succ]
  all_goals first | (refine soft_pass rfl HS ?_) | (refine soft_read (v := ?_) rfl (fun W hW => ?_) ?_; rotate_left; (· go_simp; try with_reducible rfl))
  all_goals try simp only [Act.put, List.setIfInBounds_toArray, List.set_cons_zero, List.set_cons_succ]
  all_goals first | (refine soft_pass rfl HS ?_; have hg10 := True.intro) | (refine soft_part (v := ?_) (b := ?_) rfl (fun W hW => ?_) ?_ (fun b hg10 => ?_); rotate_left; rotate_left; (· go_simp; try with_reducible rfl); (· with_reducible rfl); cases b; all_goals first | (exact Bool.noConfusion hg10) | (simp only [Bool.not_eq_true', Bool.not_eq_false'] at hg10) | skip)
  all_goals try simp only [Act.put, List.setIfInBounds_toArray, List.set_cons_zero, List.set_cons_succ]
  all_goals refine soft_nil ?_
  all_goals have EG := EB.trans (HS.mono EB.size)
  all_goals first
    | (have HT := Lib.hid (show (isMeas n f m) = false by simp only [isMeas, Bool.not_true, Bool.not_false, Bool.and_true, Bool.true_and, Bool.and_false, Bool.false_and, Bool.or_true, Bool.true_or, Bool.or_false, Bool.false_or, Bool.not_not, hg4, hg10]); go_wp2; go_ret; exact ⟨ret_bool HT.out.symm, EG⟩)
    | (have HT := Lib.hid (show (isMeas n f m) = true by simp only [isMeas, Bool.not_true, Bool.not_false, Bool.and_true, Bool.true_and, Bool.and_false, Bool.false_and, Bool.or_true, Bool.true_or, Bool.or_false, Bool.false_or, Bool.not_not, hg4, hg10]); go_wp2; go_ret; exact ⟨ret_bool HT.out.symm, EG⟩)
theorem callable_implmeasuredAt1_c : Callable Try.prog 108 := callable_of Try.func108 (by kernel_rfl) (by kernel_rfl)
set_option maxRecDepth 100000 in
set_option maxHeartbeats 1000000 in
theorem implmeasuredAt_c {w : World} {vl : Value} {l : (List LMeasurement)} (hl : (Rep.slice 76 RMeasurement).raw w [vl] l) {cn : List Value} {n : LName} (hn : RName.raw w cn n) {f : Int} :
    Calls Try.prog 54 #[vl, .agg cn.toArray, .int .i64 f] w fun e w' => e = .returned (.int .i64 (idxOf (isMeas n f) l)) ∧ Below w.heap.size w w' := by
  obtain ⟨al, pl, el, ll⟩ := Rep.len_raw hl; obtain rfl : vl = _ := by simpa using el
  clear el
  have Hn := Lib.hid hn
  obtain ⟨fnv0, rfl, fn_0⟩ := RName_raw hn
  obtain ⟨fna0, fnp0, fnh0, fnl0⟩ := Rep.len_raw fn_0; obtain rfl : fnv0 = _ := by simpa using fnh0
  clear fnh0
  go_enter Try.func54, Try.ntmps54
  go_upto_region 1 with fail
  generalize hwB : World.alloc (World.alloc w _) _ = wB
  have EB : Below w.heap.size w wB := by rw [← hwB]; exact (by repeat (first | (with_reducible exact Below.refl _ _) | refine Below.alloc ?_ (by simp; try omega) _ | refine Below.drew ?_ | refine Below.setCell ?_ (by simp; try omega) _))
  have K4_0 : wB.cell? ⟨w.heap.size, 0, none⟩ = some (.slice fna0 (n).length fnp0) := by rw [← hwB]; simp [go_sem]
  have K5_0 : wB.cell? ⟨w.heap.size + 1, 0, none⟩ = some (.int .i64 f) := by rw [← hwB]; simp [go_sem]
  clear hwB
  go_wp2_with fail
  refine (IndexFunc_Measurement_c (isMeas n f) callable_implmeasuredAt1_c (Rep.raw.below hl EB) ?_).mono ?_
  · intro wr hb i h cs hr
    exact implmeasuredAt1_c hr (cell_later hb K5_0) (Rep.raw.below Hn.out (EB.trans (hb.mono EB.size))) (cell_later hb K4_0)
  rintro e w1 ⟨rfl, hb1⟩
  have EG : Below w.heap.size w w1 := EB.trans (hb1.mono EB.size)
  clear hb1
  go_wp2
  go_ret
  exact ⟨rfl, EG⟩
end Go.Proofs.Ytikjbdfkdkijkaa

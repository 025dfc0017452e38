/-
  Patterns that are valid.
-/
import Derived.Test.YtlfblpgkegeaeaaGreatVName
import Derived.Test.YtlfblpgkegeaeaaGreatMade
import Derived.Test.YtlfblpgkegeaeaaGreatPushT
import Derived.IntWalk
import Derived.Deep.Cut
import Derived.WalkSpells
import Derived.WalkLawsBesides
namespace Go.Proofs.YtlfblpgkegeaeaaGreat
open Go.RowKit
set_option linter.unusedVariables false
set_option linter.unusedSimpArgs false
set_option linter.unnecessarySimpa false
def isLet (s : ByteArray) : Bool := decide (s.size = 2) && (decide (byteAt s 0 = 63) && inR (byteAt s 1) 97 122)
theorem isLet_no {s : ByteArray} (h : ¬ s.size = 2) : isLet s = false := by unfold isLet; rw [decide_eq_false h]; rfl
theorem isLet_no0 {s : ByteArray} (h : ¬ byteAt s 0 = 63) : isLet s = false := by unfold isLet; rw [decide_eq_false h]; simp
theorem isLet_yes {s : ByteArray} (h : s.size = 2) (h0 : byteAt s 0 = 63) : isLet s = inR (byteAt s 1) 97 122 := by unfold isLet; rw [decide_eq_true h, decide_eq_true h0]; rfl
set_option maxRecDepth 100000 in
set_option maxHeartbeats 1000000 in
theorem specl5Letter_c {w : World} {s : ByteArray} (hs : s.size ≤ maxLen) : Calls Tryz.prog 254 #[.string s] w fun e w' => e = .returned (.bool (isLet s)) ∧ w' = w := by
  go_enter Tryz.func254, Tryz.ntmps254
  by_cases h2 : s.size = 2
  case neg =>
    have HT := Lib.hid (isLet_no h2)
    have hz : ((s.size : Int) == 2) = false := by simp; omega
    go_wp2
    go_ret
    exact ⟨ret_bool HT.out.symm, rfl⟩
  have hz : ((s.size : Int) == 2) = true := by simp; omega
  have g0 := byteAt_get (s := s) (k := 0) (by omega)
  have g1 := byteAt_get (s := s) (k := 1) (by omega)
  have r1 := byteAt_rng s 1
  have hl0 : 0 < s.size := by omega
  have hl1 : 1 < s.size := by omega
  by_cases h0 : byteAt s 0 = 63
  case neg =>
    have HT := Lib.hid (isLet_no0 h0)
    have h0' : ¬ ((s[0].toNat : Int) = 63) := by rw [← g0]; exact h0
    have h0b : ((s[0].toNat : Int) == 63) = false := by simpa using h0'
    clear g1 r1
    go_wp2
    go_ret
    exact ⟨ret_bool HT.out.symm, rfl⟩
  have HT := Lib.hid (isLet_yes h2 h0)
  have h0' : ((s[0].toNat : Int) = 63) := by rw [← g0]; exact h0
  have h0b : ((s[0].toNat : Int) == 63) = true := by simpa using h0'
  have HG := Lib.hid g1
  clear g1 g0 h0
  go_wp2_with fail
  refine specl1In_c.mono ?_
  rintro e w1 ⟨rfl, hw⟩
  obtain rfl := hw.symm
  go_wp2
  go_ret
  exact ⟨ret_bool (by rw [HT.out, HG.out, show wrap64 (s[1].toNat : Int) = s[1].toNat from (by have := s[1].toNat_lt; unfold wrap64; omega)]), rfl⟩
set_option maxRecDepth 100000 in
set_option maxHeartbeats 1000000 in
theorem implisVariable_c {w : World} {s : ByteArray} (hs : s.size ≤ maxLen) : Calls Tryz.prog 263 #[.string s] w fun e w' => e = .returned (.bool (isLet s)) ∧ w' = w := by
  go_enter Tryz.func263, Tryz.ntmps263
  by_cases h2 : s.size = 2
  case neg =>
    have HT := Lib.hid (isLet_no h2)
    have hz : ((s.size : Int) == 2) = false := by simp; omega
    go_wp2
    go_ret
    exact ⟨ret_bool HT.out.symm, rfl⟩
  have hz : ((s.size : Int) == 2) = true := by simp; omega
  have g0 := byteAt_get (s := s) (k := 0) (by omega)
  have g1 := byteAt_get (s := s) (k := 1) (by omega)
  have r1 := byteAt_rng s 1
  have hl0 : 0 < s.size := by omega
  have hl1 : 1 < s.size := by omega
  by_cases h0 : byteAt s 0 = 63
  case neg =>
    have HT := Lib.hid (isLet_no0 h0)
    have h0' : ¬ ((s[0].toNat : Int) = 63) := by rw [← g0]; exact h0
    have h0b : ((s[0].toNat : Int) == 63) = false := by simpa using h0'
    clear g1 r1
    go_wp2
    go_ret
    exact ⟨ret_bool HT.out.symm, rfl⟩
  have HT := Lib.hid (isLet_yes h2 h0)
  have h0' : ((s[0].toNat : Int) = 63) := by rw [← g0]; exact h0
  have h0b : ((s[0].toNat : Int) == 63) = true := by simpa using h0'
  have HG := Lib.hid g1
  clear g1 g0 h0
  have HV := Lib.hid (show inR (byteAt s 1) 97 122 = (decide ((s[1].toNat : Int) ≥ 97) && decide ((s[1].toNat : Int) ≤ 122)) by rw [← HG.out]; rfl)
  go_wp2
  all_goals
    go_ret
    refine ⟨ret_bool ?_, rfl⟩
    rw [HT.out, HV.out, Bool.eq_iff_iff]
    simp
    try omega
def star1 (s : ByteArray) : Bool := s.toList == [42]
def star2 (s : ByteArray) : Bool := s.toList == [42, 42]
def patBad (n k : Nat) (s : ByteArray) : Bool := ((!vPart s && !star1 s) && !isLet s) && (!star2 s || decide ((k : Int) < (n : Int) - 1))
def patBadI (n k : Nat) (s : ByteArray) : Bool := ((!vPart s && !star1 s) && !isLet s) && (!star2 s || ((k : Int) != (n : Int) - 1))
def vPat (p : LPattern) : Bool := allB (fun j => !patBad p.length j (p.getD j ByteArray.empty)) p.length && decide (p.length ≤ 6)
theorem patBadI_eq {n k : Nat} (h : k < n) (s : ByteArray) : patBadI n k s = patBad n k s := by
  unfold patBadI patBad
  have : ((k : Int) != (n : Int) - 1) = decide ((k : Int) < (n : Int) - 1) := by rw [Bool.eq_iff_iff]; simp; omega
  rw [this]
theorem vPat_bad {p : LPattern} {k : Nat} (h : k < p.length) (q : patBad p.length k p[k] = true) : vPat p = false := by
  unfold vPat; rw [allB_bad h (by (try simp only); rw [getD_get h, q]; rfl)]; rfl
theorem vPat_next {p : LPattern} {k : Nat} (h : k < p.length) (q : patBad p.length k p[k] = false) (a : allB (fun j => !patBad p.length j (p.getD j ByteArray.empty)) k = true) : allB (fun j => !patBad p.length j (p.getD j ByteArray.empty)) (k + 1) = true :=
  allB_succ a (by (try simp only); rw [getD_get h, q]; rfl)
theorem vPat_good {p : LPattern} {k : Nat} (q : allB (fun j => !patBad p.length j (p.getD j ByteArray.empty)) k = true) (h : ¬ k < p.length) (hk : k ≤ p.length) : vPat p = decide (p.length ≤ 6) := by
  obtain rfl : k = p.length := by omega
  unfold vPat; rw [q]; rfl
set_option maxRecDepth 100000 in
set_option maxHeartbeats 2000000 in
theorem specValidPattern_c {w : World} {cp : List Value} {p : LPattern} (hp : RPattern.raw w cp p) : Calls Tryz.prog 253 #[.agg cp.toArray] w fun e w' => e = .returned (.bool (vPat p)) ∧ Below w.heap.size w w' := by
  obtain ⟨av, rfl, a_0⟩ := RPattern_raw hp
  obtain ⟨aa, capa, hva, la⟩ := Rep.len_raw a_0; obtain rfl : av = _ := by simpa using hva
  clear hp hva
  go_enter Tryz.func253, Tryz.ntmps253
  go_wp2
  generalize hwB : World.alloc w _ = wB
  have EB : Below w.heap.size w wB := by rw [← hwB]; exact (by repeat (first | (with_reducible exact Below.refl _ _) | refine Below.alloc ?_ (by simp; try omega) _ | refine Below.drew ?_ | refine Below.setCell ?_ (by simp; try omega) _))
  have K0 : wB.cell? ⟨w.heap.size, 0, none⟩ = some (.slice aa p.length capa) := by rw [← hwB]; simp [go_sem]
  clear hwB
  replace a_0 := a_0.below EB
  go_loopw [3] (fun i wr => ∃ k : Nat, k ≤ p.length ∧ i = .int .i64 k ∧ Hid (allB (fun j => !patBad p.length j (p.getD j ByteArray.empty)) k = true) ∧ Below wB.heap.size wB wr) (fun i _ => p.length - (intOf i).toNat)
  case atStart => exact ⟨0, Nat.zero_le _, rfl, Lib.hid rfl, Below.refl _ _⟩
  case round =>
    obtain ⟨k, hk, rfl, HN, hbel⟩ := hrel
    replace K0 := cell_later hbel K0
    have EB2 := EB.trans (hbel.mono EB.size)
    by_cases hlt : k < p.length
    · obtain ⟨ba, offa, rfl, c0, hr, A0⟩ := Rep.get1 (a_0.below hbel) hlt rfl
      obtain ⟨he, hsz⟩ := Rep.str_raw hr
      obtain rfl : c0 = _ := by simpa using he
      clear he hr
      have hb := fun q => vPat_bad hlt q
      have hx := fun q => vPat_next hlt q HN.out
      have hI := patBadI_eq hlt p[k]
      generalize p[k] = s at *
      have HB := Lib.hid hb; have HX := Lib.hid hx; have HSZ := Lib.hid hsz; have HI := Lib.hid hI; clear hb hx hsz hI
      have hsub : IntKind.i64.wrap ((p.length : Int) - 1) = (p.length : Int) - 1 := IntWalk.i64_in _ (by omega)
      go_upto_region 5 with fail
      refine wp_region_soft_plain (fun W => Below wr.heap.size wr W) [true, false, true, true, true, true, true, true, true, false, true, true, true, true, true, true, true, true, true, true, true, true, true, true] (Below.refl _ _) ?_
      intro wS HS
      all_goals first | (refine soft_pass rfl HS ?_) | (refine soft_read (v := ?_) rfl (fun W hW => ?_) ?_; rotate_left; (· go_simp; try with_reducible rfl))
      all_goals try simp only [Act.put, List.setIfInBounds_toArray, List.set_cons_zero, List.set_cons_succ]
      all_goals first | (refine soft_pass rfl HS ?_) | (refine soft_do rfl (fun K hK => ?_); go_simp; refine (specValidPart_c HSZ.out).mono ?_; rintro e wS1 ⟨rfl, hwS⟩; obtain rfl := hwS.symm; refine hK _ _ HS ?_; clear hK K)
      all_goals try simp only [Act.put, List.setIfInBounds_toArray, List.set_cons_zero, List.set_cons_succ]
      all_goals first | (refine soft_pass rfl HS ?_) | (refine soft_read (v := ?_) rfl (fun W hW => ?_) ?_; rotate_left; (· go_simp; try with_reducible rfl))
      all_goals try simp only [Act.put, List.setIfInBounds_toArray, List.set_cons_zero, List.set_cons_succ]
      all_goals first | (refine soft_pass rfl HS ?_; have hg3 := True.intro) | (refine soft_part (v := ?_) (b := ?_) rfl (fun W hW => ?_) ?_ (fun b hg3 => ?_); rotate_left; rotate_left; (· go_simp; try with_reducible rfl); (· with_reducible rfl); cases b; all_goals first | (exact Bool.noConfusion hg3) | (simp only [Bool.not_eq_true', Bool.not_eq_false'] at hg3) | skip)
      all_goals try simp only [Act.put, List.setIfInBounds_toArray, List.set_cons_zero, List.set_cons_succ]
      all_goals first | (refine soft_pass rfl HS ?_) | (refine soft_read (v := ?_) rfl (fun W hW => ?_) ?_; rotate_left; (· go_simp; try with_reducible rfl))
      all_goals try simp only [Act.put, List.setIfInBounds_toArray, List.set_cons_zero, List.set_cons_succ]
      all_goals first | (refine soft_pass rfl HS ?_) | (refine soft_read (v := ?_) rfl (fun W hW => ?_) ?_; rotate_left; (· go_simp; try with_reducible rfl))
      all_goals try simp only [Act.put, List.setIfInBounds_toArray, List.set_cons_zero, List.set_cons_succ]
      all_goals first | (refine soft_pass rfl HS ?_) | (refine soft_read (v := ?_) rfl (fun W hW => ?_) ?_; rotate_left; (· go_simp; try with_reducible rfl))
      all_goals try simp only [Act.put, List.setIfInBounds_toArray, List.set_cons_zero, List.set_cons_succ]
      all_goals first | (refine soft_pass rfl HS ?_; have hg7 := True.intro) | (refine soft_part (v := ?_) (b := ?_) rfl (fun W hW => ?_) ?_ (fun b hg7 => ?_); rotate_left; rotate_left; (· go_simp; try with_reducible rfl); (· with_reducible rfl); cases b; all_goals first | (exact Bool.noConfusion hg7) | (simp only [Bool.not_eq_true', Bool.not_eq_false'] at hg7) | skip)
      all_goals try simp only [Act.put, List.setIfInBounds_toArray, List.set_cons_zero, List.set_cons_succ]
      all_goals first | (refine soft_pass rfl HS ?_) | (refine soft_read (v := ?_) rfl (fun W hW => ?_) ?_; rotate_left; (· go_simp; try with_reducible rfl))
      all_goals try simp only [Act.put, List.setIfInBounds_toArray, List.set_cons_zero, List.set_cons_succ]
      all_goals first | (refine soft_pass rfl HS ?_) | (refine soft_do rfl (fun K hK => ?_); go_simp; refine (specl5Letter_c HSZ.out).mono ?_; rintro e wS1 ⟨rfl, hwS⟩; obtain rfl := hwS.symm; refine hK _ _ HS ?_; clear hK K)
      all_goals try simp only [Act.put, List.setIfInBounds_toArray, List.set_cons_zero, List.set_cons_succ]
      all_goals first | (refine soft_pass rfl HS ?_) | (refine soft_read (v := ?_) rfl (fun W hW => ?_) ?_; rotate_left; (· go_simp; try with_reducible rfl))
      all_goals try simp only [Act.put, List.setIfInBounds_toArray, List.set_cons_zero, List.set_cons_succ]
      all_goals first | (refine soft_pass rfl HS ?_) | (refine soft_read (v := ?_) rfl (fun W hW => ?_) ?_; rotate_left; (· go_simp; try with_reducible rfl))
      all_goals try simp only [Act.put, List.setIfInBounds_toArray, List.set_cons_zero, List.set_cons_succ]
      all_goals first | (refine soft_pass rfl HS ?_; have hg12 := True.intro) | (refine soft_part (v := ?_) (b := ?_) rfl (fun W hW => ?_) ?_ (fun b hg12 => ?_); rotate_left; rotate_left; (· go_simp; try with_reducible rfl); (· with_reducible rfl); cases b; all_goals first | (exact Bool.noConfusion hg12) | (simp only [Bool.not_eq_true', Bool.not_eq_false'] at hg12) | skip)
      all_goals try simp only [Act.put, List.setIfInBounds_toArray, List.set_cons_zero, List.set_cons_succ]
      all_goals first | (refine soft_pass rfl HS ?_) | (refine soft_read (v := ?_) rfl (fun W hW => ?_) ?_; rotate_left; (· go_simp; try with_reducible rfl))
      all_goals try simp only [Act.put, List.setIfInBounds_toArray, List.set_cons_zero, List.set_cons_succ]
      all_goals first | (refine soft_pass rfl HS ?_) | (refine soft_read (v := ?_) rfl (fun W hW => ?_) ?_; rotate_left; (· go_simp; try with_reducible rfl))
      all_goals try simp only [Act.put, List.setIfInBounds_toArray, List.set_cons_zero, List.set_cons_succ]
      all_goals first | (refine soft_pass rfl HS ?_; have hg15 := True.intro) | (refine soft_part (v := ?_) (b := ?_) rfl (fun W hW => ?_) ?_ (fun b hg15 => ?_); rotate_left; rotate_left; (· go_simp; try with_reducible rfl); (· with_reducible rfl); cases b; all_goals first | (exact Bool.noConfusion hg15) | (simp only [Bool.not_eq_true', Bool.not_eq_false'] at hg15) | skip)
      all_goals try simp only [Act.put, List.setIfInBounds_toArray, List.set_cons_zero, List.set_cons_succ]
      all_goals first | (refine soft_pass rfl HS ?_) | (refine soft_read (v := ?_) rfl (fun W hW => ?_) ?_; rotate_left; (· go_simp; try with_reducible rfl))
      all_goals try simp only [Act.put, List.setIfInBounds_toArray, List.set_cons_zero, List.set_cons_succ]
      all_goals first | (refine soft_pass rfl HS ?_) | (refine soft_read (v := ?_) rfl (fun W hW => ?_) ?_; rotate_left; (· go_simp; try with_reducible rfl))
      all_goals try simp only [Act.put, List.setIfInBounds_toArray, List.set_cons_zero, List.set_cons_succ]
      all_goals first | (refine soft_pass rfl HS ?_) | (refine soft_read (v := ?_) rfl (fun W hW => ?_) ?_; rotate_left; (· have A_K0 := cell_later hW K0; clear hW; go_simp; try with_reducible rfl))
      all_goals try simp only [Act.put, List.setIfInBounds_toArray, List.set_cons_zero, List.set_cons_succ]
      all_goals first | (refine soft_pass rfl HS ?_) | (refine soft_read (v := ?_) rfl (fun W hW => ?_) ?_; rotate_left; (· go_simp; try with_reducible rfl))
      all_goals try simp only [Act.put, List.setIfInBounds_toArray, List.set_cons_zero, List.set_cons_succ]
      all_goals first | (refine soft_pass rfl HS ?_) | (refine soft_read (v := ?_) rfl (fun W hW => ?_) ?_; rotate_left; (· go_simp; try with_reducible rfl))
      all_goals try simp only [Act.put, List.setIfInBounds_toArray, List.set_cons_zero, List.set_cons_succ]
      all_goals first | (refine soft_pass rfl HS ?_) | (refine soft_read (v := ?_) rfl (fun W hW => ?_) ?_; rotate_left; (· go_simp; try with_reducible rfl))
      all_goals try simp only [Act.put, List.setIfInBounds_toArray, List.set_cons_zero, List.set_cons_succ]
      all_goals first | (refine soft_pass rfl HS ?_) | (refine soft_read (v := ?_) rfl (fun W hW => ?_) ?_; rotate_left; (· go_simp; try with_reducible rfl))
      all_goals try simp only [Act.put, List.setIfInBounds_toArray, List.set_cons_zero, List.set_cons_succ]
      all_goals first | (refine soft_pass rfl HS ?_; have hg23 := True.intro) | (refine soft_part (v := ?_) (b := ?_) rfl (fun W hW => ?_) ?_ (fun b hg23 => ?_); rotate_left; rotate_left; (· go_simp; try with_reducible rfl); (· with_reducible rfl); cases b; all_goals first | (exact Bool.noConfusion hg23) | (simp only [Bool.not_eq_true', Bool.not_eq_false'] at hg23) | skip)
      all_goals try simp only [Act.put, List.setIfInBounds_toArray, List.set_cons_zero, List.set_cons_succ]
      all_goals refine soft_nil ?_
      all_goals have EG := EB2.trans (HS.mono EB2.size)
      all_goals have ER := hbel.trans (HS.mono hbel.size)
      all_goals first
        | (have HT := Lib.hid (HB.out (show patBad p.length k s = true by simp only [patBad, star1, star2, decide_not, Bool.not_true, Bool.not_false, Bool.and_true, Bool.true_and, Bool.and_false, Bool.false_and, Bool.or_true, Bool.true_or, Bool.or_false, Bool.false_or, Bool.not_not, hg3, hg7, hg12, hg15, hg23])); clear HB HX; go_wp2; go_ret; exact ⟨ret_bool HT.out.symm, EG⟩)
        | (have HT := Lib.hid (HX.out (show patBad p.length k s = false by simp only [patBad, star1, star2, decide_not, Bool.not_true, Bool.not_false, Bool.and_true, Bool.true_and, Bool.and_false, Bool.false_and, Bool.or_true, Bool.true_or, Bool.or_false, Bool.false_or, Bool.not_not, hg3, hg7, hg12, hg15, hg23])); clear HB HX; go_wp2; go_roundw; (case rel => exact ⟨k + 1, by omega, by go_num, HT, ER⟩); (case measure => simp [intOf]; omega))
    · have HT := Lib.hid (vPat_good HN.out hlt hk)
      go_wp2
      go_ret
      exact ⟨ret_bool (by rw [HT.out]; simp; try omega), EB2⟩
set_option maxRecDepth 100000 in
set_option maxHeartbeats 2000000 in
theorem implValidPattern_c {w : World} {cp : List Value} {p : LPattern} (hp : RPattern.raw w cp p) : Calls Tryz.prog 260 #[.agg cp.toArray] w fun e w' => e = .returned (.bool (vPat p)) ∧ Below w.heap.size w w' := by
  obtain ⟨av, rfl, a_0⟩ := RPattern_raw hp
  obtain ⟨aa, capa, hva, la⟩ := Rep.len_raw a_0; obtain rfl : av = _ := by simpa using hva
  clear hp hva
  go_enter Tryz.func260, Tryz.ntmps260
  go_wp2
  generalize hwB : World.alloc w _ = wB
  have EB : Below w.heap.size w wB := by rw [← hwB]; exact (by repeat (first | (with_reducible exact Below.refl _ _) | refine Below.alloc ?_ (by simp; try omega) _ | refine Below.drew ?_ | refine Below.setCell ?_ (by simp; try omega) _))
  have K0 : wB.cell? ⟨w.heap.size, 0, none⟩ = some (.slice aa p.length capa) := by rw [← hwB]; simp [go_sem]
  clear hwB
  replace a_0 := a_0.below EB
  go_loopw [8] (fun i wr => ∃ k : Nat, k ≤ p.length ∧ i = .int .i64 k ∧ Hid (allB (fun j => !patBad p.length j (p.getD j ByteArray.empty)) k = true) ∧ Below wB.heap.size wB wr) (fun i _ => p.length - (intOf i).toNat)
  case atStart => exact ⟨0, Nat.zero_le _, rfl, Lib.hid rfl, Below.refl _ _⟩
  case round =>
    obtain ⟨k, hk, rfl, HN, hbel⟩ := hrel
    replace K0 := cell_later hbel K0
    have EB2 := EB.trans (hbel.mono EB.size)
    by_cases hlt : k < p.length
    · obtain ⟨ba, offa, rfl, c0, hr, A0⟩ := Rep.get1 (a_0.below hbel) hlt rfl
      obtain ⟨he, hsz⟩ := Rep.str_raw hr
      obtain rfl : c0 = _ := by simpa using he
      clear he hr
      have hb := fun q => vPat_bad hlt q
      have hx := fun q => vPat_next hlt q HN.out
      have hI := patBadI_eq hlt p[k]
      generalize p[k] = s at *
      have HB := Lib.hid hb; have HX := Lib.hid hx; have HSZ := Lib.hid hsz; have HI := Lib.hid hI; clear hb hx hsz hI
      have hsub : IntKind.i64.wrap ((p.length : Int) - 1) = (p.length : Int) - 1 := IntWalk.i64_in _ (by omega)
      go_upto_region 4 with fail
      refine wp_region_soft_plain (fun W => Below wr.heap.size wr W) [true, false, true, true, true, true, true, true, true, false, true, true, true, true, true, true, true, true, true, true, true, true, true, true] (Below.refl _ _) ?_
      intro wS HS
      all_goals first | (refine soft_pass rfl HS ?_) | (refine soft_read (v := ?_) rfl (fun W hW => ?_) ?_; rotate_left; (· go_simp; try with_reducible rfl))
      all_goals try simp only [Act.put, List.setIfInBounds_toArray, List.set_cons_zero, List.set_cons_succ]
      all_goals first | (refine soft_pass rfl HS ?_) | (refine soft_do rfl (fun K hK => ?_); go_simp; refine (implValidPart_c HSZ.out).mono ?_; rintro e wS1 ⟨rfl, hwS⟩; obtain rfl := hwS.symm; refine hK _ _ HS ?_; clear hK K)
      all_goals try simp only [Act.put, List.setIfInBounds_toArray, List.set_cons_zero, List.set_cons_succ]
      all_goals first | (refine soft_pass rfl HS ?_) | (refine soft_read (v := ?_) rfl (fun W hW => ?_) ?_; rotate_left; (· go_simp; try with_reducible rfl))
      all_goals try simp only [Act.put, List.setIfInBounds_toArray, List.set_cons_zero, List.set_cons_succ]
      all_goals first | (refine soft_pass rfl HS ?_; have hg3 := True.intro) | (refine soft_part (v := ?_) (b := ?_) rfl (fun W hW => ?_) ?_ (fun b hg3 => ?_); rotate_left; rotate_left; (· go_simp; try with_reducible rfl); (· with_reducible rfl); cases b; all_goals first | (exact Bool.noConfusion hg3) | (simp only [Bool.not_eq_true', Bool.not_eq_false'] at hg3) | skip)
      all_goals try simp only [Act.put, List.setIfInBounds_toArray, List.set_cons_zero, List.set_cons_succ]
      all_goals first | (refine soft_pass rfl HS ?_) | (refine soft_read (v := ?_) rfl (fun W hW => ?_) ?_; rotate_left; (· go_simp; try with_reducible rfl))
      all_goals try simp only [Act.put, List.setIfInBounds_toArray, List.set_cons_zero, List.set_cons_succ]
      all_goals first | (refine soft_pass rfl HS ?_) | (refine soft_read (v := ?_) rfl (fun W hW => ?_) ?_; rotate_left; (· go_simp; try with_reducible rfl))
      all_goals try simp only [Act.put, List.setIfInBounds_toArray, List.set_cons_zero, List.set_cons_succ]
      all_goals first | (refine soft_pass rfl HS ?_) | (refine soft_read (v := ?_) rfl (fun W hW => ?_) ?_; rotate_left; (· go_simp; try with_reducible rfl))
      all_goals try simp only [Act.put, List.setIfInBounds_toArray, List.set_cons_zero, List.set_cons_succ]
      all_goals first | (refine soft_pass rfl HS ?_; have hg7 := True.intro) | (refine soft_part (v := ?_) (b := ?_) rfl (fun W hW => ?_) ?_ (fun b hg7 => ?_); rotate_left; rotate_left; (· go_simp; try with_reducible rfl); (· with_reducible rfl); cases b; all_goals first | (exact Bool.noConfusion hg7) | (simp only [Bool.not_eq_true', Bool.not_eq_false'] at hg7) | skip)
      all_goals try simp only [Act.put, List.setIfInBounds_toArray, List.set_cons_zero, List.set_cons_succ]
      all_goals first | (refine soft_pass rfl HS ?_) | (refine soft_read (v := ?_) rfl (fun W hW => ?_) ?_; rotate_left; (· go_simp; try with_reducible rfl))
      all_goals try simp only [Act.put, List.setIfInBounds_toArray, List.set_cons_zero, List.set_cons_succ]
      all_goals first | (refine soft_pass rfl HS ?_) | (refine soft_do rfl (fun K hK => ?_); go_simp; refine (implisVariable_c HSZ.out).mono ?_; rintro e wS1 ⟨rfl, hwS⟩; obtain rfl := hwS.symm; refine hK _ _ HS ?_; clear hK K)
      all_goals try simp only [Act.put, List.setIfInBounds_toArray, List.set_cons_zero, List.set_cons_succ]
      all_goals first | (refine soft_pass rfl HS ?_) | (refine soft_read (v := ?_) rfl (fun W hW => ?_) ?_; rotate_left; (· go_simp; try with_reducible rfl))
      all_goals try simp only [Act.put, List.setIfInBounds_toArray, List.set_cons_zero, List.set_cons_succ]
      all_goals first | (refine soft_pass rfl HS ?_) | (refine soft_read (v := ?_) rfl (fun W hW => ?_) ?_; rotate_left; (· go_simp; try with_reducible rfl))
      all_goals try simp only [Act.put, List.setIfInBounds_toArray, List.set_cons_zero, List.set_cons_succ]
      all_goals first | (refine soft_pass rfl HS ?_; have hg12 := True.intro) | (refine soft_part (v := ?_) (b := ?_) rfl (fun W hW => ?_) ?_ (fun b hg12 => ?_); rotate_left; rotate_left; (· go_simp; try with_reducible rfl); (· with_reducible rfl); cases b; all_goals first | (exact Bool.noConfusion hg12) | (simp only [Bool.not_eq_true', Bool.not_eq_false'] at hg12) | skip)
      all_goals try simp only [Act.put, List.setIfInBounds_toArray, List.set_cons_zero, List.set_cons_succ]
      all_goals first | (refine soft_pass rfl HS ?_) | (refine soft_read (v := ?_) rfl (fun W hW => ?_) ?_; rotate_left; (· go_simp; try with_reducible rfl))
      all_goals try simp only [Act.put, List.setIfInBounds_toArray, List.set_cons_zero, List.set_cons_succ]
      all_goals first | (refine soft_pass rfl HS ?_) | (refine soft_read (v := ?_) rfl (fun W hW => ?_) ?_; rotate_left; (· go_simp; try with_reducible rfl))
      all_goals try simp only [Act.put, List.setIfInBounds_toArray, List.set_cons_zero, List.set_cons_succ]
      all_goals first | (refine soft_pass rfl HS ?_; have hg15 := True.intro) | (refine soft_part (v := ?_) (b := ?_) rfl (fun W hW => ?_) ?_ (fun b hg15 => ?_); rotate_left; rotate_left; (· go_simp; try with_reducible rfl); (· with_reducible rfl); cases b; all_goals first | (exact Bool.noConfusion hg15) | (simp only [Bool.not_eq_true', Bool.not_eq_false'] at hg15) | skip)
      all_goals try simp only [Act.put, List.setIfInBounds_toArray, List.set_cons_zero, List.set_cons_succ]
      all_goals first | (refine soft_pass rfl HS ?_) | (refine soft_read (v := ?_) rfl (fun W hW => ?_) ?_; rotate_left; (· go_simp; try with_reducible rfl))
      all_goals try simp only [Act.put, List.setIfInBounds_toArray, List.set_cons_zero, List.set_cons_succ]
      all_goals first | (refine soft_pass rfl HS ?_) | (refine soft_read (v := ?_) rfl (fun W hW => ?_) ?_; rotate_left; (· go_simp; try with_reducible rfl))
      all_goals try simp only [Act.put, List.setIfInBounds_toArray, List.set_cons_zero, List.set_cons_succ]
      all_goals first | (refine soft_pass rfl HS ?_) | (refine soft_read (v := ?_) rfl (fun W hW => ?_) ?_; rotate_left; (· have A_K0 := cell_later hW K0; clear hW; go_simp; try with_reducible rfl))
      all_goals try simp only [Act.put, List.setIfInBounds_toArray, List.set_cons_zero, List.set_cons_succ]
      all_goals first | (refine soft_pass rfl HS ?_) | (refine soft_read (v := ?_) rfl (fun W hW => ?_) ?_; rotate_left; (· go_simp; try with_reducible rfl))
      all_goals try simp only [Act.put, List.setIfInBounds_toArray, List.set_cons_zero, List.set_cons_succ]
      all_goals first | (refine soft_pass rfl HS ?_) | (refine soft_read (v := ?_) rfl (fun W hW => ?_) ?_; rotate_left; (· go_simp; try with_reducible rfl))
      all_goals try simp only [Act.put, List.setIfInBounds_toArray, List.set_cons_zero, List.set_cons_succ]
      all_goals first | (refine soft_pass rfl HS ?_) | (refine soft_read (v := ?_) rfl (fun W hW => ?_) ?_; rotate_left; (· go_simp; try with_reducible rfl))
      all_goals try simp only [Act.put, List.setIfInBounds_toArray, List.set_cons_zero, List.set_cons_succ]
      all_goals first | (refine soft_pass rfl HS ?_) | (refine soft_read (v := ?_) rfl (fun W hW => ?_) ?_; rotate_left; (· go_simp; try with_reducible rfl))
      all_goals try simp only [Act.put, List.setIfInBounds_toArray, List.set_cons_zero, List.set_cons_succ]
      all_goals first | (refine soft_pass rfl HS ?_; have hg23 := True.intro) | (refine soft_part (v := ?_) (b := ?_) rfl (fun W hW => ?_) ?_ (fun b hg23 => ?_); rotate_left; rotate_left; (· go_simp; try with_reducible rfl); (· with_reducible rfl); cases b; all_goals first | (exact Bool.noConfusion hg23) | (simp only [Bool.not_eq_true', Bool.not_eq_false'] at hg23) | skip)
      all_goals try simp only [Act.put, List.setIfInBounds_toArray, List.set_cons_zero, List.set_cons_succ]
      all_goals refine soft_nil ?_
      all_goals have EG := EB2.trans (HS.mono EB2.size)
      all_goals have ER := hbel.trans (HS.mono hbel.size)
      all_goals first
        | (have HT := Lib.hid (HB.out (HI.out.symm.trans (show patBadI p.length k s = true by simp only [patBadI, star1, star2, decide_not, Bool.not_true, Bool.not_false, Bool.and_true, Bool.true_and, Bool.and_false, Bool.false_and, Bool.or_true, Bool.true_or, Bool.or_false, Bool.false_or, Bool.not_not, hg3, hg7, hg12, hg15, hg23]))); clear HB HX; go_wp2; go_ret; exact ⟨ret_bool HT.out.symm, EG⟩)
        | (have HT := Lib.hid (HX.out (HI.out.symm.trans (show patBadI p.length k s = false by simp only [patBadI, star1, star2, decide_not, Bool.not_true, Bool.not_false, Bool.and_true, Bool.true_and, Bool.and_false, Bool.false_and, Bool.or_true, Bool.true_or, Bool.or_false, Bool.false_or, Bool.not_not, hg3, hg7, hg12, hg15, hg23]))); clear HB HX; go_wp2; go_roundw; (case rel => exact ⟨k + 1, by omega, by go_num, HT, ER⟩); (case measure => simp [intOf]; omega))
    · have HT := Lib.hid (vPat_good HN.out hlt hk)
      go_wp2
      go_ret
      exact ⟨ret_bool (by rw [HT.out]; simp; try omega), EB2⟩
end Go.Proofs.YtlfblpgkegeaeaaGreat

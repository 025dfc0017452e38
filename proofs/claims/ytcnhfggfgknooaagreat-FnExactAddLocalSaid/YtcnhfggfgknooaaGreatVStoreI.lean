/-
  Content stores that are valid: the program.
-/
import Derived.Test.YtcnhfggfgknooaaGreatVStore
import Derived.IntWalk
import Derived.Deep.Cut
import Derived.WalkSpells
import Derived.WalkLawsBesides
namespace Go.Proofs.YtcnhfggfgknooaaGreat
open Go.RowKit
set_option linter.unusedVariables false
set_option linter.unusedSimpArgs false
set_option linter.unnecessarySimpa false
theorem vStore_rng {c : Int} {l : List LCacheEntry} (h : inR c 0 8 = false) : vStore (c, l) = false := by unfold vStore; simp only; rw [h, Bool.false_and, Bool.and_false]
theorem vStore_len {c : Int} {l : List LCacheEntry} (h : ¬ (l.length : Int) ≤ c) : vStore (c, l) = false := by unfold vStore; simp only; rw [decide_eq_false h, Bool.and_false, Bool.and_false]
theorem vStore_yes {c : Int} {l : List LCacheEntry} {k : Nat} (q : allB (fun j => okCe l j (l.getD j void0)) k = true) (h : ¬ k < l.length) (hk : k ≤ l.length) (h1 : inR c 0 8 = true) (h2 : (l.length : Int) ≤ c) : vStore (c, l) = true := by
  rw [vStore_good q h hk, h1, decide_eq_true h2]; rfl
set_option maxRecDepth 100000 in
set_option maxHeartbeats 4000000 in
theorem implValidContentStore_w {w : World} {cs : List Value} {x : LContentStore} (hx : RContentStore.raw w cs x) :
    Calls Tryz.prog 94 #[.agg cs.toArray] w fun e w' => e = .returned (.bool (vStore x)) ∧ Below w.heap.size w w' := by
  obtain ⟨sv, rfl, s_r, hl⟩ := RContentStore_raw hx
  obtain ⟨aa, pl, hva, la⟩ := Rep.len_raw hl; obtain rfl : sv = _ := by simpa using hva
  obtain ⟨c, l⟩ := x
  replace hl : (Rep.slice 152 RCacheEntry).raw w [.slice aa l.length pl] l := hl
  have hcap := Rep.cap_raw hl
  replace la : l.length ≤ 9223372036854775807 := la
  clear hva hx s_r
  go_enter Tryz.func94, Tryz.ntmps94
  go_upto_region 1 with fail
  generalize hwB : World.alloc w _ = wB
  have EB : Below w.heap.size w wB := by rw [← hwB]; exact (by repeat (first | (with_reducible exact Below.refl _ _) | refine Below.alloc ?_ (by simp; try omega) _ | refine Below.drew ?_ | refine Below.setCell ?_ (by simp; try omega) _))
  have K0 : wB.cell? ⟨w.heap.size, 0, none⟩ = some (.int .i64 c) := by rw [← hwB]; simp [go_sem]
  have K1 : wB.cell? ⟨w.heap.size, 1, none⟩ = some (.slice aa l.length pl) := by rw [← hwB]; simp [go_sem]
  clear hwB
  replace hl := hl.below EB
  have HR := Lib.hid (vStore_rng (c := c) (l := l)); have HL := Lib.hid (vStore_len (c := c) (l := l)); have HG := Lib.hid (fun (k : Nat) => vStore_yes (c := c) (l := l) (k := k))
  by_cases hr : inR c 0 8 = true
  case neg =>
    have hr0 : inR c 0 8 = false := by simpa using hr
    have HT := Lib.hid (HR.out hr0)
    clear HR HL HG hr
    go_wp2_with fail
    refine implInRange_c.mono ?_
    rintro e w1 ⟨rfl, hw1⟩
    obtain rfl := hw1.symm
    rw [hr0]
    go_wp2
    go_ret
    exact ⟨ret_bool HT.out.symm, EB.trans (Below.mono (by repeat (first | (with_reducible exact Below.refl _ _) | refine Below.alloc ?_ (by simp; try omega) _ | refine Below.drew ?_ | refine Below.setCell ?_ (by simp; try omega) _)) EB.size)⟩
  by_cases hc : (l.length : Int) ≤ c
  case neg =>
    have HT := Lib.hid (HL.out hc)
    have hd : decide ((l.length : Int) > c) = true := by simp; omega
    have hd2 : decide (c < (l.length : Int)) = true := by simp; omega
    have hd3 : c < (l.length : Int) := by omega
    clear HR HL HG hc
    go_wp2_with fail
    refine implInRange_c.mono ?_
    rintro e w1 ⟨rfl, hw1⟩
    obtain rfl := hw1.symm
    rw [hr]
    go_wp2
    go_ret
    exact ⟨ret_bool HT.out.symm, EB.trans (Below.mono (by repeat (first | (with_reducible exact Below.refl _ _) | refine Below.alloc ?_ (by simp; try omega) _ | refine Below.drew ?_ | refine Below.setCell ?_ (by simp; try omega) _)) EB.size)⟩
  have HG2 := Lib.hid (fun k q h hk => HG.out k q h hk hr hc)
  have hd : decide ((l.length : Int) > c) = false := by simp; omega
  have hd2 : decide (c < (l.length : Int)) = false := by simp; omega
  have hd3 : ¬ c < (l.length : Int) := by omega
  go_wp2_with fail
  refine implInRange_c.mono ?_
  rintro e w1 ⟨rfl, hw1⟩
  obtain rfl := hw1.symm
  rw [hr]
  clear HR HL HG hc hr
  go_wp2
  clear hd hd2 hd3
  go_loopw [20] (fun i wr => ∃ k : Nat, k ≤ l.length ∧ i = .int .i64 k ∧ Hid (allB (fun j => okCe l j (l.getD j void0)) k = true) ∧ Below wB.heap.size wB wr) (fun i _ => l.length - (intOf i).toNat)
  case atStart => exact ⟨0, Nat.zero_le _, rfl, Lib.hid rfl, (by repeat (first | (with_reducible exact Below.refl _ _) | refine Below.alloc ?_ (by simp; try omega) _ | refine Below.drew ?_ | refine Below.setCell ?_ (by simp; try omega) _))⟩
  case round =>
    obtain ⟨k, hk, rfl, HN, hbel⟩ := hrel
    replace K0 := cell_later hbel K0
    replace K1 := cell_later hbel K1
    by_cases hlt : k < l.length
    · have HTK := Lib.hid (Rep.take_raw (hl.below hbel) hk)
      have hb := fun q => vStore_bad (c := c) hlt q
      have hxx := fun q => vStore_next hlt q HN.out
      obtain ⟨qb, qo, rfl, qc0, qc1, qc2, qc3, qc4, qc5, qr, Aq0, Aq1, Aq2, Aq3, Aq4, Aq5⟩ := Rep.get6 (hl.below hbel) (i := k) (by omega) rfl
      generalize l[k] = x at *
      have HB := Lib.hid hb; have HX := Lib.hid hxx; clear hb hxx
      obtain ⟨qv0, qv1, qv2, qhe, q_0, q_1, q_2, q_3, q_4, q_5, q_6, q_7, q_8⟩ := RCacheEntry_raw qr
      simp only [List.cons.injEq, and_true] at qhe
      obtain ⟨rfl, rfl, rfl, rfl, rfl, rfl⟩ := qhe
      obtain ⟨qa0, qp0, qh0, ql0⟩ := Rep.len_raw q_2; obtain rfl : qc0 = _ := by simpa using qh0
      clear qh0
      obtain ⟨qa1, qp1, qh1, ql1⟩ := Rep.len_raw q_3; obtain rfl : qc1 = _ := by simpa using qh1
      clear qh1
      obtain ⟨qa2, qp2, qh2, ql2⟩ := Rep.len_raw q_5; obtain rfl : qc2 = _ := by simpa using qh2
      clear qh2
      have hkI := Int.ofNat_lt.2 hlt
      have hk0 := Int.natCast_nonneg k
      have hkc : (k : Int) ≤ (pl : Int) := by omega
      have hkd : k ≤ pl := by omega
      go_upto_region 6 with fail
      generalize hwC : World.alloc wr _ = wC
      have EC : Below wr.heap.size wr wC := by rw [← hwC]; exact (Below.refl _ _).alloc (Nat.le_refl _) _
      have M0 : wC.cell? ⟨wr.heap.size, 0, none⟩ = some (.slice qa0 x.1.1.length qp0) := by rw [← hwC]; simp [go_sem]
      have M1 : wC.cell? ⟨wr.heap.size, 1, none⟩ = some (.slice qa1 x.1.2.1.length qp1) := by rw [← hwC]; simp [go_sem]
      have M2 : wC.cell? ⟨wr.heap.size, 2, none⟩ = some (.slice qa2 x.1.2.2.1.length qp2) := by rw [← hwC]; simp [go_sem]
      have M3 : wC.cell? ⟨wr.heap.size, 3, none⟩ = some (.int .i64 x.1.2.2.2.1) := by rw [← hwC]; simp [go_sem]
      have M4 : wC.cell? ⟨wr.heap.size, 4, none⟩ = some (.int .i64 x.1.2.2.2.2) := by rw [← hwC]; simp [go_sem]
      have M5 : wC.cell? ⟨wr.heap.size, 5, none⟩ = some (.int .i64 x.2) := by rw [← hwC]; simp [go_sem]
      replace K1 := cell_later EC K1
      clear hwC
      refine wp_region_soft_plain (fun W => Below wC.heap.size wC W) [true, true, false, true, true, true, true, true, true, false, false, true] (Below.refl _ _) ?_
      intro wS HS
      all_goals first | (refine soft_pass rfl HS ?_) | (refine soft_read (v := ?_) rfl (fun W hW => ?_) ?_; rotate_left; (· go_simp; try with_reducible rfl))
      all_goals try simp only [Act.put, List.setIfInBounds_toArray, List.set_cons_zero, List.set_cons_succ]
      all_goals first | (refine soft_pass rfl HS ?_) | (refine soft_read (v := ?_) rfl (fun W hW => ?_) ?_; rotate_left; (· have A_K1 := cell_later hW K1; have A_M0 := cell_later hW M0; have A_M1 := cell_later hW M1; have A_M2 := cell_later hW M2; have A_M3 := cell_later hW M3; have A_M4 := cell_later hW M4; have A_M5 := cell_later hW M5; clear hW; go_simp; try with_reducible rfl))
      all_goals try simp only [Act.put, List.setIfInBounds_toArray, List.set_cons_zero, List.set_cons_succ]
      all_goals first | (refine soft_pass rfl HS ?_) | (refine soft_do rfl (fun K hK => ?_); go_simp; refine (implValidData_w (Rep.raw.below q_0 (EC.trans (HS.mono EC.size)))).mono ?_; rintro e wS1 ⟨rfl, hbS⟩; replace HS := HS.trans (hbS.mono HS.size); refine hK _ _ HS ?_; clear hK K hbS)
      all_goals try simp only [Act.put, List.setIfInBounds_toArray, List.set_cons_zero, List.set_cons_succ]
      all_goals first | (refine soft_pass rfl HS ?_) | (refine soft_read (v := ?_) rfl (fun W hW => ?_) ?_; rotate_left; (· go_simp; try with_reducible rfl))
      all_goals try simp only [Act.put, List.setIfInBounds_toArray, List.set_cons_zero, List.set_cons_succ]
      all_goals first | (refine soft_pass rfl HS ?_; have hg4 := True.intro) | (refine soft_part (v := ?_) (b := ?_) rfl (fun W hW => ?_) ?_ (fun b hg4 => ?_); rotate_left; rotate_left; (· go_simp; try with_reducible rfl); (· with_reducible rfl); cases b; all_goals first | (exact Bool.noConfusion hg4) | (simp only [Bool.not_eq_true', Bool.not_eq_false'] at hg4) | skip)
      all_goals try simp only [Act.put, List.setIfInBounds_toArray, List.set_cons_zero, List.set_cons_succ]
      all_goals first | (refine soft_pass rfl HS ?_) | (refine soft_read (v := ?_) rfl (fun W hW => ?_) ?_; rotate_left; (· go_simp; try with_reducible rfl))
      all_goals try simp only [Act.put, List.setIfInBounds_toArray, List.set_cons_zero, List.set_cons_succ]
      all_goals first | (refine soft_pass rfl HS ?_) | (refine soft_read (v := ?_) rfl (fun W hW => ?_) ?_; rotate_left; (· have A_K1 := cell_later hW K1; have A_M0 := cell_later hW M0; have A_M1 := cell_later hW M1; have A_M2 := cell_later hW M2; have A_M3 := cell_later hW M3; have A_M4 := cell_later hW M4; have A_M5 := cell_later hW M5; clear hW; go_simp; try with_reducible rfl))
      iterate 2
       all_goals try simp only [Act.put, List.setIfInBounds_toArray, List.set_cons_zero, List.set_cons_succ]
       all_goals first | (refine soft_pass rfl HS ?_) | (refine soft_read (v := ?_) rfl (fun W hW => ?_) ?_; rotate_left; (· go_simp; try with_reducible rfl))
      all_goals try simp only [Act.put, List.setIfInBounds_toArray, List.set_cons_zero, List.set_cons_succ]
      all_goals first | (refine soft_pass rfl HS ?_) | (refine soft_do rfl (fun K hK => ?_); go_simp; refine hK _ _ HS ?_; clear hK K)
      all_goals try simp only [Act.put, List.setIfInBounds_toArray, List.set_cons_zero, List.set_cons_succ]
      all_goals first | (refine soft_pass rfl HS ?_) | (refine soft_do rfl (fun K hK => ?_); go_simp; refine (ContainsFunc_CacheEntry_c (isC x.1.1) callable_implValidContentStore1_c (Rep.raw.below HTK.out (EC.trans (HS.mono EC.size))) ?_).mono ?_; (· intro wr2 hb2 i hi cs2 hcs; exact implValidContentStore1_c hcs (Rep.raw.below qr ((EC.trans (HS.mono EC.size)).trans (hb2.mono (Below.size (EC.trans (HS.mono EC.size)))))) (cell_later hb2 (cell_later HS M0)) (cell_later hb2 (cell_later HS M1)) (cell_later hb2 (cell_later HS M2)) (cell_later hb2 (cell_later HS M3)) (cell_later hb2 (cell_later HS M4)) (cell_later hb2 (cell_later HS M5))); rintro e wS1 ⟨rfl, hbS⟩; replace HS := HS.trans (hbS.mono HS.size); refine hK _ _ HS ?_; clear hK K hbS)
      all_goals try simp only [Act.put, List.setIfInBounds_toArray, List.set_cons_zero, List.set_cons_succ]
      all_goals first | (refine soft_pass rfl HS ?_; have hg11 := True.intro) | (refine soft_part (v := ?_) (b := ?_) rfl (fun W hW => ?_) ?_ (fun b hg11 => ?_); rotate_left; rotate_left; (· go_simp; try with_reducible rfl); (· with_reducible rfl); cases b; all_goals first | (exact Bool.noConfusion hg11) | (simp only [Bool.not_eq_true', Bool.not_eq_false'] at hg11) | skip)
      all_goals try simp only [Act.put, List.setIfInBounds_toArray, List.set_cons_zero, List.set_cons_succ]
      all_goals refine soft_nil ?_
      all_goals have EG := hbel.trans (Below.mono (EC.trans (HS.mono EC.size)) hbel.size)
      all_goals have hdc : decide (idxOf (isC x.1.1) (l.take k) ≥ 0) = decide (0 ≤ idxOf (isC x.1.1) (l.take k)) := rfl
      all_goals first
        | (have HT := Lib.hid (HB.out (show _ = false by simp only [okCe, Bool.not_true, Bool.not_false, Bool.and_true, Bool.true_and, Bool.and_false, Bool.false_and, Bool.or_true, Bool.true_or, Bool.or_false, Bool.false_or, Bool.not_not, ge_iff_le, hg4, hg11])); clear HB HX HN HTK; go_wp2; go_ret; exact ⟨ret_bool HT.out.symm, EB.trans (EG.mono EB.size)⟩)
        | (have HT := Lib.hid (HX.out (show _ = true by simp only [okCe, Bool.not_true, Bool.not_false, Bool.and_true, Bool.true_and, Bool.and_false, Bool.false_and, Bool.or_true, Bool.true_or, Bool.or_false, Bool.false_or, Bool.not_not, ge_iff_le, hg4, hg11])); clear HB HX HN HTK; go_wp2; go_roundw; (case rel => exact ⟨k + 1, by omega, by go_num, HT, EG⟩); (case measure => simp [intOf]; omega))
    · have HT := Lib.hid (HG2.out k HN.out hlt hk)
      have hkn : ¬ (k : Int) < l.length := by omega
      go_wp2
      go_ret
      exact ⟨ret_bool HT.out.symm, EB.trans (hbel.mono EB.size)⟩
end Go.Proofs.YtcnhfggfgknooaaGreat

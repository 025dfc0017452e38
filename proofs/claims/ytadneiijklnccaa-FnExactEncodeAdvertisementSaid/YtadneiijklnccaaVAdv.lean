/-
  Advertisements that are valid.
-/
import Derived.Test.YtadneiijklnccaaVName
import Derived.Test.YtadneiijklnccaaLib
import Derived.Test.YtadneiijklnccaaSoft
import Derived.IntWalk
import Derived.Deep.Cut
namespace Go.Proofs.Ytadneiijklnccaa
open Go.RowKit
set_option linter.unusedVariables false
set_option linter.unusedSimpArgs false
set_option linter.unnecessarySimpa false
theorem wrapJ (m : Nat) (h : m ≤ 9223372036854775807) : IntKind.i64.wrap (m : Int) = m := by rw [IntWalk.i64_left]; exact IntWalk.wrap64_in _ (by omega)
def advHead (a : LAdvertisement) : Bool := !((!inR a.1 0 5 || !inR a.2.1 1 1000) || decide ((a.2.2.2.length : Int) > 4))
def advNb (f : Int) (n : List Int) (k : Nat) : Bool := !((!inR (n.getD k 0) 0 5 || (n.getD k 0 == f)) || (decide ((k : Int) > 0) && decide (n.getD (k - 1) 0 ≥ n.getD k 0)))
def vAdvert (a : LAdvertisement) : Bool := advHead a && (allB (advNb a.1 a.2.2.1) a.2.2.1.length && allB (fun j => vName (a.2.2.2.getD j [])) a.2.2.2.length)
theorem vAdvert_head {a : LAdvertisement} (h : advHead a = false) : vAdvert a = false := by unfold vAdvert; rw [h]; rfl
theorem vAdvert_nb {a : LAdvertisement} {k : Nat} (hk : k < a.2.2.1.length) (h : advNb a.1 a.2.2.1 k = false) : vAdvert a = false := by
  unfold vAdvert; rw [allB_bad hk h]; simp
theorem vAdvert_good {a : LAdvertisement} {k : Nat} (h : advHead a = true) (hk : ¬ k < a.2.2.1.length) (hk2 : k ≤ a.2.2.1.length) (h2 : allB (advNb a.1 a.2.2.1) k = true) : vAdvert a = allB (fun j => vName (a.2.2.2.getD j [])) a.2.2.2.length := by
  obtain rfl : k = a.2.2.1.length := by omega
  unfold vAdvert; rw [h, h2]; rfl
theorem advNb_0 {f : Int} {n : List Int} {k : Nat} (hk : k = 0) (h : k < n.length) : advNb f n k = !(!inR n[k] 0 5 || (n[k] == f)) := by
  unfold advNb; rw [getD_get h, decide_eq_false (p := (k : Int) > 0) (by omega)]; simp
theorem advNb_s {f : Int} {n : List Int} {j k : Nat} (hk : k = j + 1) (h : k < n.length) (h2 : j < n.length) : advNb f n k = !((!inR n[k] 0 5 || (n[k] == f)) || decide (n[j] ≥ n[k])) := by
  have e : k - 1 = j := by omega
  unfold advNb
  rw [getD_get h, e, getD_get h2, decide_eq_true (p := (k : Int) > 0) (by omega), Bool.true_and]
set_option maxHeartbeats 400000 in
theorem implValidAdvertisement1_c {w : World} {ca : List Value} {n : LName} (hn : RName.raw w ca n) :
    Calls Try.prog 35 #[.agg ca.toArray] w fun e w' => e = .returned (.bool (!vName n)) ∧ Below w.heap.size w w' := by
  have HN := Lib.hid hn
  obtain ⟨av, rfl, n_0⟩ := RName_raw hn
  obtain ⟨an, capn, hvn, ln⟩ := Rep.len_raw n_0; obtain rfl : av = _ := by simpa using hvn
  clear hvn hn n_0
  go_enter Try.func35, Try.ntmps35
  go_wp2_with fail
  refine (implValidName_c (HN.out.below (by repeat (first | (with_reducible exact Below.refl _ _) | refine Below.alloc ?_ (by simp; try omega) _ | refine Below.drew ?_ | refine Below.setCell ?_ (by simp; try omega) _)))).mono ?_
  rintro e w1 ⟨rfl, hb1⟩
  have EF : Below w.heap.size w w1 := Below.trans (by repeat (first | (with_reducible exact Below.refl _ _) | refine Below.alloc ?_ (by simp; try omega) _ | refine Below.drew ?_ | refine Below.setCell ?_ (by simp; try omega) _)) (hb1.mono (by simp))
  clear hb1
  go_wp2
  go_ret
  exact ⟨rfl, EF⟩
theorem callable_implValidAdvertisement1_c : Callable Try.prog 35 := callable_of Try.func35 (by kernel_rfl) (by kernel_rfl)
set_option maxRecDepth 100000 in
set_option maxHeartbeats 8000000 in
theorem specValidAdvertisement_w {w : World} {ca : List Value} {a : LAdvertisement} (ha : RAdvertisement.raw w ca a) :
    Calls Try.prog 15 #[.agg ca.toArray] w fun e w' => e = .returned (.bool (vAdvert a)) ∧ Below w.heap.size w w' := by
  obtain ⟨v2, v3, rfl, a_0, a_1, a_2, a_3⟩ := RAdvertisement_raw ha
  obtain ⟨b2, p2, h2, l2⟩ := Rep.len_raw a_2; obtain rfl : v2 = _ := by simpa using h2
  obtain ⟨b3, p3, h3, l3⟩ := Rep.len_raw a_3; obtain rfl : v3 = _ := by simpa using h3
  clear h2 h3 ha
  go_enter Try.func15, Try.ntmps15
  go_upto_region 1 with fail
  generalize hwB : World.alloc w _ = wB
  have EB : Below w.heap.size w wB := by rw [← hwB]; exact (by repeat (first | (with_reducible exact Below.refl _ _) | refine Below.alloc ?_ (by simp; try omega) _ | refine Below.drew ?_ | refine Below.setCell ?_ (by simp; try omega) _))
  have K0 : wB.cell? ⟨w.heap.size, 0, none⟩ = some (.int .i64 a.1) := by rw [← hwB]; simp [go_sem]
  have K1 : wB.cell? ⟨w.heap.size, 1, none⟩ = some (.int .i64 a.2.1) := by rw [← hwB]; simp [go_sem]
  have K2 : wB.cell? ⟨w.heap.size, 2, none⟩ = some (.slice b2 a.2.2.1.length p2) := by rw [← hwB]; simp [go_sem]
  have K3 : wB.cell? ⟨w.heap.size, 3, none⟩ = some (.slice b3 a.2.2.2.length p3) := by rw [← hwB]; simp [go_sem]
  clear hwB
  have HH := Lib.hid (fun q => vAdvert_head (a := a) q)
  have HB := Lib.hid (fun k (hk : k < a.2.2.1.length) q => vAdvert_nb (a := a) hk q)
  have HG := Lib.hid (fun k q (hk : ¬ k < a.2.2.1.length) hk2 q2 => vAdvert_good (a := a) (k := k) q hk hk2 q2)
  refine wp_region_soft_plain (fun W => Below wB.heap.size wB W) [true, true, false, true, true, true, true, false, true, true, true, true, true, true, true, true] (Below.refl _ _) ?_
  intro wS HS
  all_goals first | (refine soft_pass rfl HS ?_) | (refine soft_read (v := ?_) rfl (fun W hW => ?_) ?_; rotate_left; (· go_simp; try with_reducible rfl))
  all_goals try simp only [Act.put, List.setIfInBounds_toArray, List.set_cons_zero, List.set_cons_succ]
  all_goals first | (refine soft_pass rfl HS ?_) | (refine soft_read (v := ?_) rfl (fun W hW => ?_) ?_; rotate_left; (· have A_K0 := cell_later hW K0; have A_K1 := cell_later hW K1; have A_K2 := cell_later hW K2; have A_K3 := cell_later hW K3; clear hW; go_simp; try with_reducible rfl))
  all_goals try simp only [Act.put, List.setIfInBounds_toArray, List.set_cons_zero, List.set_cons_succ]
  all_goals first | (refine soft_pass rfl HS ?_) | (refine soft_do rfl (fun K hK => ?_); go_simp; refine (specl1In_c).mono ?_; rintro e wS1 ⟨rfl, hwS⟩; obtain rfl := hwS.symm; refine hK _ _ HS ?_; clear hK K)
  all_goals try simp only [Act.put, List.setIfInBounds_toArray, List.set_cons_zero, List.set_cons_succ]
  all_goals first | (refine soft_pass rfl HS ?_) | (refine soft_read (v := ?_) rfl (fun W hW => ?_) ?_; rotate_left; (· go_simp; try with_reducible rfl))
  all_goals try simp only [Act.put, List.setIfInBounds_toArray, List.set_cons_zero, List.set_cons_succ]
  all_goals first | (refine soft_pass rfl HS ?_; have hg4 := True.intro) | (refine soft_part (v := ?_) (b := ?_) rfl (fun W hW => ?_) ?_ (fun b hg4 => ?_); rotate_left; rotate_left; (· go_simp; try with_reducible rfl); (· with_reducible rfl); cases b; all_goals first | (exact Bool.noConfusion hg4) | (simp only [Bool.not_eq_true', Bool.not_eq_false'] at hg4) | skip)
  all_goals try simp only [Act.put, List.setIfInBounds_toArray, List.set_cons_zero, List.set_cons_succ]
  all_goals first | (refine soft_pass rfl HS ?_) | (refine soft_read (v := ?_) rfl (fun W hW => ?_) ?_; rotate_left; (· go_simp; try with_reducible rfl))
  all_goals try simp only [Act.put, List.setIfInBounds_toArray, List.set_cons_zero, List.set_cons_succ]
  all_goals first | (refine soft_pass rfl HS ?_) | (refine soft_read (v := ?_) rfl (fun W hW => ?_) ?_; rotate_left; (· have A_K0 := cell_later hW K0; have A_K1 := cell_later hW K1; have A_K2 := cell_later hW K2; have A_K3 := cell_later hW K3; clear hW; go_simp; try with_reducible rfl))
  all_goals try simp only [Act.put, List.setIfInBounds_toArray, List.set_cons_zero, List.set_cons_succ]
  all_goals first | (refine soft_pass rfl HS ?_) | (refine soft_do rfl (fun K hK => ?_); go_simp; refine (specl1In_c).mono ?_; rintro e wS1 ⟨rfl, hwS⟩; obtain rfl := hwS.symm; refine hK _ _ HS ?_; clear hK K)
  iterate 2
   all_goals try simp only [Act.put, List.setIfInBounds_toArray, List.set_cons_zero, List.set_cons_succ]
   all_goals first | (refine soft_pass rfl HS ?_) | (refine soft_read (v := ?_) rfl (fun W hW => ?_) ?_; rotate_left; (· go_simp; try with_reducible rfl))
  all_goals try simp only [Act.put, List.setIfInBounds_toArray, List.set_cons_zero, List.set_cons_succ]
  all_goals first | (refine soft_pass rfl HS ?_; have hg10 := True.intro) | (refine soft_part (v := ?_) (b := ?_) rfl (fun W hW => ?_) ?_ (fun b hg10 => ?_); rotate_left; rotate_left; (· go_simp; try with_reducible rfl); (· with_reducible rfl); cases b; all_goals first | (exact Bool.noConfusion hg10) | (simp only [Bool.not_eq_true', Bool.not_eq_false'] at hg10) | skip)
  all_goals try simp only [Act.put, List.setIfInBounds_toArray, List.set_cons_zero, List.set_cons_succ]
  all_goals first | (refine soft_pass rfl HS ?_) | (refine soft_read (v := ?_) rfl (fun W hW => ?_) ?_; rotate_left; (· go_simp; try with_reducible rfl))
  all_goals try simp only [Act.put, List.setIfInBounds_toArray, List.set_cons_zero, List.set_cons_succ]
  all_goals first | (refine soft_pass rfl HS ?_) | (refine soft_read (v := ?_) rfl (fun W hW => ?_) ?_; rotate_left; (· have A_K0 := cell_later hW K0; have A_K1 := cell_later hW K1; have A_K2 := cell_later hW K2; have A_K3 := cell_later hW K3; clear hW; go_simp; try with_reducible rfl))
  iterate 2
   all_goals try simp only [Act.put, List.setIfInBounds_toArray, List.set_cons_zero, List.set_cons_succ]
   all_goals first | (refine soft_pass rfl HS ?_) | (refine soft_read (v := ?_) rfl (fun W hW => ?_) ?_; rotate_left; (· go_simp; try with_reducible rfl))
  all_goals try simp only [Act.put, List.setIfInBounds_toArray, List.set_cons_zero, List.set_cons_succ]
  all_goals first | (refine soft_pass rfl HS ?_; have hg15 := True.intro) | (refine soft_part (v := ?_) (b := ?_) rfl (fun W hW => ?_) ?_ (fun b hg15 => ?_); rotate_left; rotate_left; (· go_simp; try with_reducible rfl); (· with_reducible rfl); cases b; all_goals first | (exact Bool.noConfusion hg15) | (simp only [Bool.not_eq_true', Bool.not_eq_false'] at hg15) | skip)
  all_goals try simp only [Act.put, List.setIfInBounds_toArray, List.set_cons_zero, List.set_cons_succ]
  all_goals refine soft_nil ?_
  all_goals have EF := EB.trans (HS.mono EB.size)
  all_goals first
    | (have HT := Lib.hid (HH.out (show advHead a = false by simp only [advHead, Bool.not_true, Bool.not_false, Bool.and_true, Bool.true_and, Bool.and_false, Bool.false_and, Bool.or_true, Bool.true_or, Bool.or_false, Bool.false_or, Bool.not_not, hg4, hg10, hg15])); clear HH HB HG; go_wp2; go_ret; exact ⟨ret_bool HT.out.symm, EF⟩)
    | have HT := Lib.hid (show advHead a = true by simp only [advHead, Bool.not_true, Bool.not_false, Bool.and_true, Bool.true_and, Bool.and_false, Bool.false_and, Bool.or_true, Bool.true_or, Bool.or_false, Bool.false_or, Bool.not_not, hg4, hg10, hg15])
  clear hg4 hg10 hg15 HH
  have HG2 := Lib.hid (fun k => HG.out k HT.out)
  clear HG HT
  have bb := a_2.below EF
  have nn := a_3.below EF
  replace K0 := cell_later HS K0
  replace K2 := cell_later HS K2
  replace K3 := cell_later HS K3
  clear K1 a_2 a_3 HS EB a_1 a_0
  generalize a.2.2.1 = n at *
  generalize a.2.2.2 = P at *
  generalize a.1 = f at *
  go_wp2
  go_loopw [3] (fun i wr => ∃ k : Nat, k ≤ n.length ∧ i = .int .i64 k ∧ Hid (allB (advNb f n) k = true) ∧ Below wS.heap.size wS wr) (fun i _ => n.length - (intOf i).toNat)
  case atStart => exact ⟨0, Nat.zero_le _, rfl, Lib.hid rfl, Below.refl _ _⟩
  case round =>
    obtain ⟨k, hk, rfl, HN, hbel⟩ := hrel
    replace K0 := cell_later hbel K0
    replace K2 := cell_later hbel K2
    replace K3 := cell_later hbel K3
    by_cases hlt : k < n.length
    · have hk2 := Int.ofNat_lt.2 hlt
      have hx := fun q => allB_succ HN.out q
      have hb := HB.out k hlt
      obtain ⟨yb, yo, rfl, c0, hr, A0⟩ := Rep.get1 (bb.below hbel) hlt rfl
      obtain ⟨he, hrg⟩ := Rep.int_raw hr
      obtain rfl : c0 = _ := by simpa using he
      clear he hr hrg
      by_cases hk00 : k = 0
      · have hd : decide ((k : Int) > 0) = false := by simp; omega
        have hd2 : decide (0 < (k : Int)) = false := by simp; omega
        have hd3 : decide (0 < k) = false := by simp; omega
        rw [advNb_0 hk00 hlt] at hb hx
        clear hk00
        generalize n[k] = x at *
        have HB2 := Lib.hid hb; have HX := Lib.hid hx; clear hb hx
        go_upto_region 6 with fail
        refine wp_region_soft (fun W => Below wr.heap.size wr W) [true, true, true, true, true, false, true, true, true, true, true, true, true, true, true, true, true, true, true, true, true, true, true, true, true, true, true, true, true, true, true, true, true, true, true] (by kernel_rfl) (by kernel_rfl) (fun c a d v w h => by cases d <;> exact h) ((Below.refl _ _).drew) ?_
        intro wS HS
        all_goals first | (refine soft_pass rfl HS ?_) | (refine soft_read (v := ?_) rfl (fun W hW => ?_) ?_; rotate_left; (· go_simp; try with_reducible rfl))
        all_goals try simp only [Act.put, List.setIfInBounds_toArray, List.set_cons_zero, List.set_cons_succ]
        all_goals first | (refine soft_pass rfl HS ?_) | (refine soft_read (v := ?_) rfl (fun W hW => ?_) ?_; rotate_left; (· have A_K0 := cell_later hW K0; have A_K2 := cell_later hW K2; have A_A0 := cell_later hW A0; clear hW; go_simp; try with_reducible rfl))
        iterate 2
         all_goals try simp only [Act.put, List.setIfInBounds_toArray, List.set_cons_zero, List.set_cons_succ]
         all_goals first | (refine soft_pass rfl HS ?_) | (refine soft_read (v := ?_) rfl (fun W hW => ?_) ?_; rotate_left; (· go_simp; try with_reducible rfl))
        all_goals try simp only [Act.put, List.setIfInBounds_toArray, List.set_cons_zero, List.set_cons_succ]
        all_goals first | (refine soft_pass rfl HS ?_) | (refine soft_read (v := ?_) rfl (fun W hW => ?_) ?_; rotate_left; (· have A_K0 := cell_later hW K0; have A_K2 := cell_later hW K2; have A_A0 := cell_later hW A0; clear hW; go_simp; try with_reducible rfl))
        all_goals try simp only [Act.put, List.setIfInBounds_toArray, List.set_cons_zero, List.set_cons_succ]
        all_goals first | (refine soft_pass rfl HS ?_) | (refine soft_do rfl (fun K hK => ?_); go_simp; refine (specl1In_c).mono ?_; rintro e wS1 ⟨rfl, hwS⟩; obtain rfl := hwS.symm; refine hK _ _ HS ?_; clear hK K)
        all_goals try simp only [Act.put, List.setIfInBounds_toArray, List.set_cons_zero, List.set_cons_succ]
        all_goals first | (refine soft_pass rfl HS ?_) | (refine soft_read (v := ?_) rfl (fun W hW => ?_) ?_; rotate_left; (· go_simp; try with_reducible rfl))
        all_goals try simp only [Act.put, List.setIfInBounds_toArray, List.set_cons_zero, List.set_cons_succ]
        all_goals first | (refine soft_pass rfl HS ?_; have hg7 := True.intro) | (refine soft_part (v := ?_) (b := ?_) rfl (fun W hW => ?_) ?_ (fun b hg7 => ?_); rotate_left; rotate_left; (· go_simp; try with_reducible rfl); (· with_reducible rfl); cases b; all_goals first | (exact Bool.noConfusion hg7) | (simp only [Bool.not_eq_true', Bool.not_eq_false'] at hg7) | skip)
        iterate 2
         all_goals try simp only [Act.put, List.setIfInBounds_toArray, List.set_cons_zero, List.set_cons_succ]
         all_goals first | (refine soft_pass rfl HS ?_) | (refine soft_read (v := ?_) rfl (fun W hW => ?_) ?_; rotate_left; (· go_simp; try with_reducible rfl))
         all_goals try simp only [Act.put, List.setIfInBounds_toArray, List.set_cons_zero, List.set_cons_succ]
         all_goals first | (refine soft_pass rfl HS ?_) | (refine soft_read (v := ?_) rfl (fun W hW => ?_) ?_; rotate_left; (· have A_K0 := cell_later hW K0; have A_K2 := cell_later hW K2; have A_A0 := cell_later hW A0; clear hW; go_simp; try with_reducible rfl))
         all_goals try simp only [Act.put, List.setIfInBounds_toArray, List.set_cons_zero, List.set_cons_succ]
         all_goals first | (refine soft_pass rfl HS ?_) | (refine soft_read (v := ?_) rfl (fun W hW => ?_) ?_; rotate_left; (· go_simp; try with_reducible rfl))
        all_goals try simp only [Act.put, List.setIfInBounds_toArray, List.set_cons_zero, List.set_cons_succ]
        all_goals first | (refine soft_pass rfl HS ?_) | (refine soft_read (v := ?_) rfl (fun W hW => ?_) ?_; rotate_left; (· have A_K0 := cell_later hW K0; have A_K2 := cell_later hW K2; have A_A0 := cell_later hW A0; clear hW; go_simp; try with_reducible rfl))
        iterate 2
         all_goals try simp only [Act.put, List.setIfInBounds_toArray, List.set_cons_zero, List.set_cons_succ]
         all_goals first | (refine soft_pass rfl HS ?_) | (refine soft_read (v := ?_) rfl (fun W hW => ?_) ?_; rotate_left; (· go_simp; try with_reducible rfl))
        all_goals try simp only [Act.put, List.setIfInBounds_toArray, List.set_cons_zero, List.set_cons_succ]
        all_goals first | (refine soft_pass rfl HS ?_; have hg17 := True.intro) | (refine soft_part (v := ?_) (b := ?_) rfl (fun W hW => ?_) ?_ (fun b hg17 => ?_); rotate_left; rotate_left; (· go_simp; try with_reducible rfl); (· with_reducible rfl); cases b; all_goals first | (exact Bool.noConfusion hg17) | (simp only [Bool.not_eq_true', Bool.not_eq_false'] at hg17) | skip)
        iterate 2
         all_goals try simp only [Act.put, List.setIfInBounds_toArray, List.set_cons_zero, List.set_cons_succ]
         all_goals first | (refine soft_pass rfl HS ?_) | (refine soft_read (v := ?_) rfl (fun W hW => ?_) ?_; rotate_left; (· go_simp; try with_reducible rfl))
        all_goals try simp only [Act.put, List.setIfInBounds_toArray, List.set_cons_zero, List.set_cons_succ]
        all_goals first | (refine soft_pass rfl HS ?_; have hg20 := True.intro) | (refine soft_part (v := ?_) (b := ?_) rfl (fun W hW => ?_) ?_ (fun b hg20 => ?_); rotate_left; rotate_left; (· go_simp; try with_reducible rfl); (· with_reducible rfl); cases b; all_goals first | (exact Bool.noConfusion hg20) | (simp only [Bool.not_eq_true', Bool.not_eq_false'] at hg20) | skip)
        all_goals try simp only [Act.put, List.setIfInBounds_toArray, List.set_cons_zero, List.set_cons_succ]
        all_goals first | (refine soft_pass rfl HS ?_) | (refine soft_read (v := ?_) rfl (fun W hW => ?_) ?_; rotate_left; (· go_simp; try with_reducible rfl))
        all_goals try simp only [Act.put, List.setIfInBounds_toArray, List.set_cons_zero, List.set_cons_succ]
        all_goals first | (refine soft_pass rfl HS ?_) | (refine soft_read (v := ?_) rfl (fun W hW => ?_) ?_; rotate_left; (· have A_K0 := cell_later hW K0; have A_K2 := cell_later hW K2; have A_A0 := cell_later hW A0; clear hW; go_simp; try with_reducible rfl))
        iterate 3
         all_goals try simp only [Act.put, List.setIfInBounds_toArray, List.set_cons_zero, List.set_cons_succ]
         all_goals first | (refine soft_pass rfl HS ?_) | (refine soft_read (v := ?_) rfl (fun W hW => ?_) ?_; rotate_left; (· go_simp; try with_reducible rfl))
        iterate 2
         all_goals try simp only [Act.put, List.setIfInBounds_toArray, List.set_cons_zero, List.set_cons_succ]
         all_goals first | (refine soft_pass rfl HS ?_) | (refine soft_read (v := ?_) rfl (fun W hW => ?_) ?_; rotate_left; (· have A_K0 := cell_later hW K0; have A_K2 := cell_later hW K2; have A_A0 := cell_later hW A0; clear hW; go_simp; try with_reducible rfl))
         all_goals try simp only [Act.put, List.setIfInBounds_toArray, List.set_cons_zero, List.set_cons_succ]
         all_goals first | (refine soft_pass rfl HS ?_) | (refine soft_read (v := ?_) rfl (fun W hW => ?_) ?_; rotate_left; (· go_simp; try with_reducible rfl))
        all_goals try simp only [Act.put, List.setIfInBounds_toArray, List.set_cons_zero, List.set_cons_succ]
        all_goals first | (refine soft_pass rfl HS ?_) | (refine soft_read (v := ?_) rfl (fun W hW => ?_) ?_; rotate_left; (· go_simp; try with_reducible rfl))
        all_goals try simp only [Act.put, List.setIfInBounds_toArray, List.set_cons_zero, List.set_cons_succ]
        all_goals first | (refine soft_pass rfl HS ?_) | (refine soft_read (v := ?_) rfl (fun W hW => ?_) ?_; rotate_left; (· have A_K0 := cell_later hW K0; have A_K2 := cell_later hW K2; have A_A0 := cell_later hW A0; clear hW; go_simp; try with_reducible rfl))
        iterate 2
         all_goals try simp only [Act.put, List.setIfInBounds_toArray, List.set_cons_zero, List.set_cons_succ]
         all_goals first | (refine soft_pass rfl HS ?_) | (refine soft_read (v := ?_) rfl (fun W hW => ?_) ?_; rotate_left; (· go_simp; try with_reducible rfl))
        all_goals try simp only [Act.put, List.setIfInBounds_toArray, List.set_cons_zero, List.set_cons_succ]
        all_goals first | (refine soft_pass rfl HS ?_; have hg34 := True.intro) | (refine soft_part (v := ?_) (b := ?_) rfl (fun W hW => ?_) ?_ (fun b hg34 => ?_); rotate_left; rotate_left; (· go_simp; try with_reducible rfl); (· with_reducible rfl); cases b; all_goals first | (exact Bool.noConfusion hg34) | (simp only [Bool.not_eq_true', Bool.not_eq_false'] at hg34) | skip)
        all_goals try simp only [Act.put, List.setIfInBounds_toArray, List.set_cons_zero, List.set_cons_succ]
        all_goals refine soft_nil ?_
        all_goals have EG := hbel.trans (HS.mono hbel.size)
        all_goals first
          | (have HT := Lib.hid (HB2.out (by simp only [Bool.not_true, Bool.not_false, Bool.and_true, Bool.true_and, Bool.and_false, Bool.false_and, Bool.or_true, Bool.true_or, Bool.or_false, Bool.false_or, Bool.not_not, hg7, hg17, hg20, hg34])); clear HB2 HX; have EH := EF.trans (EG.mono EF.size); go_wp2; go_ret; exact ⟨ret_bool HT.out.symm, EH⟩)
          | (have HT := Lib.hid (HX.out (by simp only [Bool.not_true, Bool.not_false, Bool.and_true, Bool.true_and, Bool.and_false, Bool.false_and, Bool.or_true, Bool.true_or, Bool.or_false, Bool.false_or, Bool.not_not, hg7, hg17, hg20, hg34])); clear HB2 HX; go_wp2; go_roundw; (case rel => exact ⟨k + 1, by omega, by go_num, HT, EG⟩); (case measure => simp [intOf]; omega))
      · obtain ⟨j, hkj⟩ : ∃ j, k = j + 1 := ⟨k - 1, by omega⟩
        have hj : j < n.length := by omega
        have hj2 := Int.ofNat_lt.2 hj
        have hj0 := Int.natCast_nonneg j
        have e2 := wrapJ j (by omega)
        have hs : (k : Int) - 1 = j := by omega
        have hw : IntKind.i64.wrap ((k : Int) - 1) = j := by rw [hs, e2]
        have hd : decide ((k : Int) > 0) = true := by simp; omega
        have hd2 : decide (0 < (k : Int)) = true := by simp; omega
        have hd3 : decide (0 < k) = true := by simp; omega
        obtain ⟨zb, zo, zE, d0, dr, D0⟩ := Rep.get1 (bb.below hbel) hj rfl
        simp only [Option.some.injEq, Addr.mk.injEq, and_true] at zE
        obtain ⟨rfl, rfl⟩ := zE
        obtain ⟨de, _⟩ := Rep.int_raw dr
        obtain rfl : d0 = _ := by simpa using de
        clear de dr
        rw [advNb_s hkj hlt hj] at hb hx
        clear hkj hk00
        generalize n[k] = x at *
        generalize n[j] = y at *
        have HB2 := Lib.hid hb; have HX := Lib.hid hx; clear hb hx
        go_upto_region 6 with fail
        refine wp_region_soft (fun W => Below wr.heap.size wr W) [true, true, true, true, true, false, true, true, true, true, true, true, true, true, true, true, true, true, true, true, true, true, true, true, true, true, true, true, true, true, true, true, true, true, true] (by kernel_rfl) (by kernel_rfl) (fun c a d v w h => by cases d <;> exact h) ((Below.refl _ _).drew) ?_
        intro wS HS
        all_goals first | (refine soft_pass rfl HS ?_) | (refine soft_read (v := ?_) rfl (fun W hW => ?_) ?_; rotate_left; (· go_simp; try with_reducible rfl))
        all_goals try simp only [Act.put, List.setIfInBounds_toArray, List.set_cons_zero, List.set_cons_succ]
        all_goals first | (refine soft_pass rfl HS ?_) | (refine soft_read (v := ?_) rfl (fun W hW => ?_) ?_; rotate_left; (· have A_K0 := cell_later hW K0; have A_K2 := cell_later hW K2; have A_A0 := cell_later hW A0; have A_D0 := cell_later hW D0; clear hW; go_simp; try with_reducible rfl))
        iterate 2
         all_goals try simp only [Act.put, List.setIfInBounds_toArray, List.set_cons_zero, List.set_cons_succ]
         all_goals first | (refine soft_pass rfl HS ?_) | (refine soft_read (v := ?_) rfl (fun W hW => ?_) ?_; rotate_left; (· go_simp; try with_reducible rfl))
        all_goals try simp only [Act.put, List.setIfInBounds_toArray, List.set_cons_zero, List.set_cons_succ]
        all_goals first | (refine soft_pass rfl HS ?_) | (refine soft_read (v := ?_) rfl (fun W hW => ?_) ?_; rotate_left; (· have A_K0 := cell_later hW K0; have A_K2 := cell_later hW K2; have A_A0 := cell_later hW A0; have A_D0 := cell_later hW D0; clear hW; go_simp; try with_reducible rfl))
        all_goals try simp only [Act.put, List.setIfInBounds_toArray, List.set_cons_zero, List.set_cons_succ]
        all_goals first | (refine soft_pass rfl HS ?_) | (refine soft_do rfl (fun K hK => ?_); go_simp; refine (specl1In_c).mono ?_; rintro e wS1 ⟨rfl, hwS⟩; obtain rfl := hwS.symm; refine hK _ _ HS ?_; clear hK K)
        all_goals try simp only [Act.put, List.setIfInBounds_toArray, List.set_cons_zero, List.set_cons_succ]
        all_goals first | (refine soft_pass rfl HS ?_) | (refine soft_read (v := ?_) rfl (fun W hW => ?_) ?_; rotate_left; (· go_simp; try with_reducible rfl))
        all_goals try simp only [Act.put, List.setIfInBounds_toArray, List.set_cons_zero, List.set_cons_succ]
        all_goals first | (refine soft_pass rfl HS ?_; have hg7 := True.intro) | (refine soft_part (v := ?_) (b := ?_) rfl (fun W hW => ?_) ?_ (fun b hg7 => ?_); rotate_left; rotate_left; (· go_simp; try with_reducible rfl); (· with_reducible rfl); cases b; all_goals first | (exact Bool.noConfusion hg7) | (simp only [Bool.not_eq_true', Bool.not_eq_false'] at hg7) | skip)
        iterate 2
         all_goals try simp only [Act.put, List.setIfInBounds_toArray, List.set_cons_zero, List.set_cons_succ]
         all_goals first | (refine soft_pass rfl HS ?_) | (refine soft_read (v := ?_) rfl (fun W hW => ?_) ?_; rotate_left; (· go_simp; try with_reducible rfl))
         all_goals try simp only [Act.put, List.setIfInBounds_toArray, List.set_cons_zero, List.set_cons_succ]
         all_goals first | (refine soft_pass rfl HS ?_) | (refine soft_read (v := ?_) rfl (fun W hW => ?_) ?_; rotate_left; (· have A_K0 := cell_later hW K0; have A_K2 := cell_later hW K2; have A_A0 := cell_later hW A0; have A_D0 := cell_later hW D0; clear hW; go_simp; try with_reducible rfl))
         all_goals try simp only [Act.put, List.setIfInBounds_toArray, List.set_cons_zero, List.set_cons_succ]
         all_goals first | (refine soft_pass rfl HS ?_) | (refine soft_read (v := ?_) rfl (fun W hW => ?_) ?_; rotate_left; (· go_simp; try with_reducible rfl))
        all_goals try simp only [Act.put, List.setIfInBounds_toArray, List.set_cons_zero, List.set_cons_succ]
        all_goals first | (refine soft_pass rfl HS ?_) | (refine soft_read (v := ?_) rfl (fun W hW => ?_) ?_; rotate_left; (· have A_K0 := cell_later hW K0; have A_K2 := cell_later hW K2; have A_A0 := cell_later hW A0; have A_D0 := cell_later hW D0; clear hW; go_simp; try with_reducible rfl))
        iterate 2
         all_goals try simp only [Act.put, List.setIfInBounds_toArray, List.set_cons_zero, List.set_cons_succ]
         all_goals first | (refine soft_pass rfl HS ?_) | (refine soft_read (v := ?_) rfl (fun W hW => ?_) ?_; rotate_left; (· go_simp; try with_reducible rfl))
        all_goals try simp only [Act.put, List.setIfInBounds_toArray, List.set_cons_zero, List.set_cons_succ]
        all_goals first | (refine soft_pass rfl HS ?_; have hg17 := True.intro) | (refine soft_part (v := ?_) (b := ?_) rfl (fun W hW => ?_) ?_ (fun b hg17 => ?_); rotate_left; rotate_left; (· go_simp; try with_reducible rfl); (· with_reducible rfl); cases b; all_goals first | (exact Bool.noConfusion hg17) | (simp only [Bool.not_eq_true', Bool.not_eq_false'] at hg17) | skip)
        iterate 2
         all_goals try simp only [Act.put, List.setIfInBounds_toArray, List.set_cons_zero, List.set_cons_succ]
         all_goals first | (refine soft_pass rfl HS ?_) | (refine soft_read (v := ?_) rfl (fun W hW => ?_) ?_; rotate_left; (· go_simp; try with_reducible rfl))
        all_goals try simp only [Act.put, List.setIfInBounds_toArray, List.set_cons_zero, List.set_cons_succ]
        all_goals first | (refine soft_pass rfl HS ?_; have hg20 := True.intro) | (refine soft_part (v := ?_) (b := ?_) rfl (fun W hW => ?_) ?_ (fun b hg20 => ?_); rotate_left; rotate_left; (· go_simp; try with_reducible rfl); (· with_reducible rfl); cases b; all_goals first | (exact Bool.noConfusion hg20) | (simp only [Bool.not_eq_true', Bool.not_eq_false'] at hg20) | skip)
        all_goals try simp only [Act.put, List.setIfInBounds_toArray, List.set_cons_zero, List.set_cons_succ]
        all_goals first | (refine soft_pass rfl HS ?_) | (refine soft_read (v := ?_) rfl (fun W hW => ?_) ?_; rotate_left; (· go_simp; try with_reducible rfl))
        all_goals try simp only [Act.put, List.setIfInBounds_toArray, List.set_cons_zero, List.set_cons_succ]
        all_goals first | (refine soft_pass rfl HS ?_) | (refine soft_read (v := ?_) rfl (fun W hW => ?_) ?_; rotate_left; (· have A_K0 := cell_later hW K0; have A_K2 := cell_later hW K2; have A_A0 := cell_later hW A0; have A_D0 := cell_later hW D0; clear hW; go_simp; try with_reducible rfl))
        iterate 3
         all_goals try simp only [Act.put, List.setIfInBounds_toArray, List.set_cons_zero, List.set_cons_succ]
         all_goals first | (refine soft_pass rfl HS ?_) | (refine soft_read (v := ?_) rfl (fun W hW => ?_) ?_; rotate_left; (· go_simp; try with_reducible rfl))
        iterate 2
         all_goals try simp only [Act.put, List.setIfInBounds_toArray, List.set_cons_zero, List.set_cons_succ]
         all_goals first | (refine soft_pass rfl HS ?_) | (refine soft_read (v := ?_) rfl (fun W hW => ?_) ?_; rotate_left; (· have A_K0 := cell_later hW K0; have A_K2 := cell_later hW K2; have A_A0 := cell_later hW A0; have A_D0 := cell_later hW D0; clear hW; go_simp; try with_reducible rfl))
         all_goals try simp only [Act.put, List.setIfInBounds_toArray, List.set_cons_zero, List.set_cons_succ]
         all_goals first | (refine soft_pass rfl HS ?_) | (refine soft_read (v := ?_) rfl (fun W hW => ?_) ?_; rotate_left; (· go_simp; try with_reducible rfl))
        all_goals try simp only [Act.put, List.setIfInBounds_toArray, List.set_cons_zero, List.set_cons_succ]
        all_goals first | (refine soft_pass rfl HS ?_) | (refine soft_read (v := ?_) rfl (fun W hW => ?_) ?_; rotate_left; (· go_simp; try with_reducible rfl))
        all_goals try simp only [Act.put, List.setIfInBounds_toArray, List.set_cons_zero, List.set_cons_succ]
        all_goals first | (refine soft_pass rfl HS ?_) | (refine soft_read (v := ?_) rfl (fun W hW => ?_) ?_; rotate_left; (· have A_K0 := cell_later hW K0; have A_K2 := cell_later hW K2; have A_A0 := cell_later hW A0; have A_D0 := cell_later hW D0; clear hW; go_simp; try with_reducible rfl))
        iterate 2
         all_goals try simp only [Act.put, List.setIfInBounds_toArray, List.set_cons_zero, List.set_cons_succ]
         all_goals first | (refine soft_pass rfl HS ?_) | (refine soft_read (v := ?_) rfl (fun W hW => ?_) ?_; rotate_left; (· go_simp; try with_reducible rfl))
        all_goals try simp only [Act.put, List.setIfInBounds_toArray, List.set_cons_zero, List.set_cons_succ]
        all_goals first | (refine soft_pass rfl HS ?_; have hg34 := True.intro) | (refine soft_part (v := ?_) (b := ?_) rfl (fun W hW => ?_) ?_ (fun b hg34 => ?_); rotate_left; rotate_left; (· go_simp; try with_reducible rfl); (· with_reducible rfl); cases b; all_goals first | (exact Bool.noConfusion hg34) | (simp only [Bool.not_eq_true', Bool.not_eq_false'] at hg34) | skip)
        all_goals try simp only [Act.put, List.setIfInBounds_toArray, List.set_cons_zero, List.set_cons_succ]
        all_goals refine soft_nil ?_
        all_goals have EG := hbel.trans (HS.mono hbel.size)
        all_goals first
          | (have HT := Lib.hid (HB2.out (by simp only [Bool.not_true, Bool.not_false, Bool.and_true, Bool.true_and, Bool.and_false, Bool.false_and, Bool.or_true, Bool.true_or, Bool.or_false, Bool.false_or, Bool.not_not, hg7, hg17, hg20, hg34])); clear HB2 HX; have EH := EF.trans (EG.mono EF.size); go_wp2; go_ret; exact ⟨ret_bool HT.out.symm, EH⟩)
          | (have HT := Lib.hid (HX.out (by simp only [Bool.not_true, Bool.not_false, Bool.and_true, Bool.true_and, Bool.and_false, Bool.false_and, Bool.or_true, Bool.true_or, Bool.or_false, Bool.false_or, Bool.not_not, hg7, hg17, hg20, hg34])); clear HB2 HX; go_wp2; go_roundw; (case rel => exact ⟨k + 1, by omega, by go_num, HT, EG⟩); (case measure => simp [intOf]; omega))
    · have HU := Lib.hid (HG2.out k hlt hk HN.out)
      have EH := EF.trans (hbel.mono EF.size)
      replace nn := nn.below hbel
      clear HG2 HB HN bb
      go_wp2
      go_loopw [4] (fun i wq => ∃ k : Nat, k ≤ P.length ∧ i = .int .i64 k ∧ Hid (allB (fun j => vName (P.getD j [])) k = true) ∧ Below wr.heap.size wr wq) (fun i _ => P.length - (intOf i).toNat)
      case atStart => exact ⟨0, Nat.zero_le _, rfl, Lib.hid rfl, Below.refl _ _⟩
      case round =>
        obtain ⟨q, hq, rfl, HN, hbl⟩ := hrel
        replace K3 := cell_later hbl K3
        by_cases hqt : q < P.length
        · have hq2 := Int.ofNat_lt.2 hqt
          have hx := fun h => allB_succ (f := fun j => vName (P.getD j [])) HN.out h
          have hb := fun h => HU.out.trans (allB_bad (f := fun j => vName (P.getD j [])) hqt h)
          simp only [getD_get hqt] at hx hb
          obtain ⟨yb, yo, rfl, c0, hr, A0⟩ := Rep.get1 (nn.below hbl) hqt rfl
          generalize P[q] = x at *
          have HB2 := Lib.hid hb; have HX := Lib.hid hx; clear hb hx
          obtain ⟨mv0, mhe, m_0⟩ := RName_raw hr
          simp only [List.cons.injEq, and_true] at mhe
          obtain rfl := mhe
          obtain ⟨ma, mp, mh, ml⟩ := Rep.len_raw m_0; obtain rfl : c0 = _ := by simpa using mh
          clear mh m_0
          go_wp2_with fail
          refine (specValidName_c hr).mono ?_
          rintro e w5 ⟨rfl, hb5⟩
          have EG := hbl.trans (hb5.mono hbl.size)
          clear hb5
          cases hv : vName x
          · have HT := Lib.hid (HB2.out hv)
            have EI := EH.trans (EG.mono EH.size)
            clear HB2 HX
            go_wp2
            go_ret
            exact ⟨ret_bool HT.out.symm, EI⟩
          · have HT := Lib.hid (HX.out hv)
            clear HB2 HX
            go_wp2
            go_roundw
            case rel => exact ⟨q + 1, by omega, by go_num, HT, EG⟩
            case measure => simp [intOf]; omega
        · obtain rfl : q = P.length := by omega
          have HT := Lib.hid (HU.out.trans HN.out)
          have EI := EH.trans (hbl.mono EH.size)
          go_wp2
          go_ret
          exact ⟨ret_bool HT.out.symm, EI⟩
set_option maxRecDepth 100000 in
set_option maxHeartbeats 8000000 in
theorem implValidAdvertisement_w {w : World} {ca : List Value} {a : LAdvertisement} (ha : RAdvertisement.raw w ca a) :
    Calls Try.prog 21 #[.agg ca.toArray] w fun e w' => e = .returned (.bool (vAdvert a)) ∧ Below w.heap.size w w' := by
  obtain ⟨v2, v3, rfl, a_0, a_1, a_2, a_3⟩ := RAdvertisement_raw ha
  obtain ⟨b2, p2, h2, l2⟩ := Rep.len_raw a_2; obtain rfl : v2 = _ := by simpa using h2
  obtain ⟨b3, p3, h3, l3⟩ := Rep.len_raw a_3; obtain rfl : v3 = _ := by simpa using h3
  clear h2 h3 ha
  go_enter Try.func21, Try.ntmps21
  go_upto_region 1 with fail
  generalize hwB : World.alloc w _ = wB
  have EB : Below w.heap.size w wB := by rw [← hwB]; exact (by repeat (first | (with_reducible exact Below.refl _ _) | refine Below.alloc ?_ (by simp; try omega) _ | refine Below.drew ?_ | refine Below.setCell ?_ (by simp; try omega) _))
  have K0 : wB.cell? ⟨w.heap.size, 0, none⟩ = some (.int .i64 a.1) := by rw [← hwB]; simp [go_sem]
  have K1 : wB.cell? ⟨w.heap.size, 1, none⟩ = some (.int .i64 a.2.1) := by rw [← hwB]; simp [go_sem]
  have K2 : wB.cell? ⟨w.heap.size, 2, none⟩ = some (.slice b2 a.2.2.1.length p2) := by rw [← hwB]; simp [go_sem]
  have K3 : wB.cell? ⟨w.heap.size, 3, none⟩ = some (.slice b3 a.2.2.2.length p3) := by rw [← hwB]; simp [go_sem]
  clear hwB
  have HH := Lib.hid (fun q => vAdvert_head (a := a) q)
  have HB := Lib.hid (fun k (hk : k < a.2.2.1.length) q => vAdvert_nb (a := a) hk q)
  have HG := Lib.hid (fun k q (hk : ¬ k < a.2.2.1.length) hk2 q2 => vAdvert_good (a := a) (k := k) q hk hk2 q2)
  refine wp_region_soft_plain (fun W => Below wB.heap.size wB W) [true, true, false, true, true, true, true, false, true, true, true, true, true, true, true, true] (Below.refl _ _) ?_
  intro wS HS
  all_goals first | (refine soft_pass rfl HS ?_) | (refine soft_read (v := ?_) rfl (fun W hW => ?_) ?_; rotate_left; (· go_simp; try with_reducible rfl))
  all_goals try simp only [Act.put, List.setIfInBounds_toArray, List.set_cons_zero, List.set_cons_succ]
  all_goals first | (refine soft_pass rfl HS ?_) | (refine soft_read (v := ?_) rfl (fun W hW => ?_) ?_; rotate_left; (· have A_K0 := cell_later hW K0; have A_K1 := cell_later hW K1; have A_K2 := cell_later hW K2; have A_K3 := cell_later hW K3; clear hW; go_simp; try with_reducible rfl))
  all_goals try simp only [Act.put, List.setIfInBounds_toArray, List.set_cons_zero, List.set_cons_succ]
  all_goals first | (refine soft_pass rfl HS ?_) | (refine soft_do rfl (fun K hK => ?_); go_simp; refine (implInRange_c).mono ?_; rintro e wS1 ⟨rfl, hwS⟩; obtain rfl := hwS.symm; refine hK _ _ HS ?_; clear hK K)
  all_goals try simp only [Act.put, List.setIfInBounds_toArray, List.set_cons_zero, List.set_cons_succ]
  all_goals first | (refine soft_pass rfl HS ?_) | (refine soft_read (v := ?_) rfl (fun W hW => ?_) ?_; rotate_left; (· go_simp; try with_reducible rfl))
  all_goals try simp only [Act.put, List.setIfInBounds_toArray, List.set_cons_zero, List.set_cons_succ]
  all_goals first | (refine soft_pass rfl HS ?_; have hg4 := True.intro) | (refine soft_part (v := ?_) (b := ?_) rfl (fun W hW => ?_) ?_ (fun b hg4 => ?_); rotate_left; rotate_left; (· go_simp; try with_reducible rfl); (· with_reducible rfl); cases b; all_goals first | (exact Bool.noConfusion hg4) | (simp only [Bool.not_eq_true', Bool.not_eq_false'] at hg4) | skip)
  all_goals try simp only [Act.put, List.setIfInBounds_toArray, List.set_cons_zero, List.set_cons_succ]
  all_goals first | (refine soft_pass rfl HS ?_) | (refine soft_read (v := ?_) rfl (fun W hW => ?_) ?_; rotate_left; (· go_simp; try with_reducible rfl))
  all_goals try simp only [Act.put, List.setIfInBounds_toArray, List.set_cons_zero, List.set_cons_succ]
  all_goals first | (refine soft_pass rfl HS ?_) | (refine soft_read (v := ?_) rfl (fun W hW => ?_) ?_; rotate_left; (· have A_K0 := cell_later hW K0; have A_K1 := cell_later hW K1; have A_K2 := cell_later hW K2; have A_K3 := cell_later hW K3; clear hW; go_simp; try with_reducible rfl))
  all_goals try simp only [Act.put, List.setIfInBounds_toArray, List.set_cons_zero, List.set_cons_succ]
  all_goals first | (refine soft_pass rfl HS ?_) | (refine soft_do rfl (fun K hK => ?_); go_simp; refine (implInRange_c).mono ?_; rintro e wS1 ⟨rfl, hwS⟩; obtain rfl := hwS.symm; refine hK _ _ HS ?_; clear hK K)
  iterate 2
   all_goals try simp only [Act.put, List.setIfInBounds_toArray, List.set_cons_zero, List.set_cons_succ]
   all_goals first | (refine soft_pass rfl HS ?_) | (refine soft_read (v := ?_) rfl (fun W hW => ?_) ?_; rotate_left; (· go_simp; try with_reducible rfl))
  all_goals try simp only [Act.put, List.setIfInBounds_toArray, List.set_cons_zero, List.set_cons_succ]
  all_goals first | (refine soft_pass rfl HS ?_; have hg10 := True.intro) | (refine soft_part (v := ?_) (b := ?_) rfl (fun W hW => ?_) ?_ (fun b hg10 => ?_); rotate_left; rotate_left; (· go_simp; try with_reducible rfl); (· with_reducible rfl); cases b; all_goals first | (exact Bool.noConfusion hg10) | (simp only [Bool.not_eq_true', Bool.not_eq_false'] at hg10) | skip)
  all_goals try simp only [Act.put, List.setIfInBounds_toArray, List.set_cons_zero, List.set_cons_succ]
  all_goals first | (refine soft_pass rfl HS ?_) | (refine soft_read (v := ?_) rfl (fun W hW => ?_) ?_; rotate_left; (· go_simp; try with_reducible rfl))
  all_goals try simp only [Act.put, List.setIfInBounds_toArray, List.set_cons_zero, List.set_cons_succ]
  all_goals first | (refine soft_pass rfl HS ?_) | (refine soft_read (v := ?_) rfl (fun W hW => ?_) ?_; rotate_left; (· have A_K0 := cell_later hW K0; have A_K1 := cell_later hW K1; have A_K2 := cell_later hW K2; have A_K3 := cell_later hW K3; clear hW; go_simp; try with_reducible rfl))
  iterate 2
   all_goals try simp only [Act.put, List.setIfInBounds_toArray, List.set_cons_zero, List.set_cons_succ]
   all_goals first | (refine soft_pass rfl HS ?_) | (refine soft_read (v := ?_) rfl (fun W hW => ?_) ?_; rotate_left; (· go_simp; try with_reducible rfl))
  all_goals try simp only [Act.put, List.setIfInBounds_toArray, List.set_cons_zero, List.set_cons_succ]
  all_goals first | (refine soft_pass rfl HS ?_; have hg15 := True.intro) | (refine soft_part (v := ?_) (b := ?_) rfl (fun W hW => ?_) ?_ (fun b hg15 => ?_); rotate_left; rotate_left; (· go_simp; try with_reducible rfl); (· with_reducible rfl); cases b; all_goals first | (exact Bool.noConfusion hg15) | (simp only [Bool.not_eq_true', Bool.not_eq_false'] at hg15) | skip)
  all_goals try simp only [Act.put, List.setIfInBounds_toArray, List.set_cons_zero, List.set_cons_succ]
  all_goals refine soft_nil ?_
  all_goals have EF := EB.trans (HS.mono EB.size)
  all_goals first
    | (have HT := Lib.hid (HH.out (show advHead a = false by simp only [advHead, Bool.not_true, Bool.not_false, Bool.and_true, Bool.true_and, Bool.and_false, Bool.false_and, Bool.or_true, Bool.true_or, Bool.or_false, Bool.false_or, Bool.not_not, hg4, hg10, hg15])); clear HH HB HG; go_wp2; go_ret; exact ⟨ret_bool HT.out.symm, EF⟩)
    | have HT := Lib.hid (show advHead a = true by simp only [advHead, Bool.not_true, Bool.not_false, Bool.and_true, Bool.true_and, Bool.and_false, Bool.false_and, Bool.or_true, Bool.true_or, Bool.or_false, Bool.false_or, Bool.not_not, hg4, hg10, hg15])
  clear hg4 hg10 hg15 HH
  have HG2 := Lib.hid (fun k => HG.out k HT.out)
  clear HG HT
  have bb := a_2.below EF
  have nn := a_3.below EF
  replace K0 := cell_later HS K0
  replace K2 := cell_later HS K2
  replace K3 := cell_later HS K3
  clear K1 a_2 a_3 HS EB a_1 a_0
  generalize a.2.2.1 = n at *
  generalize a.2.2.2 = P at *
  generalize a.1 = f at *
  go_wp2
  go_loopw [24] (fun i wr => ∃ k : Nat, k ≤ n.length ∧ i = .int .i64 k ∧ Hid (allB (advNb f n) k = true) ∧ Below wS.heap.size wS wr) (fun i _ => n.length - (intOf i).toNat)
  case atStart => exact ⟨0, Nat.zero_le _, rfl, Lib.hid rfl, Below.refl _ _⟩
  case round =>
    obtain ⟨k, hk, rfl, HN, hbel⟩ := hrel
    replace K0 := cell_later hbel K0
    replace K2 := cell_later hbel K2
    replace K3 := cell_later hbel K3
    by_cases hlt : k < n.length
    · have hk2 := Int.ofNat_lt.2 hlt
      have hx := fun q => allB_succ HN.out q
      have hb := HB.out k hlt
      obtain ⟨yb, yo, rfl, c0, hr, A0⟩ := Rep.get1 (bb.below hbel) hlt rfl
      obtain ⟨he, hrg⟩ := Rep.int_raw hr
      obtain rfl : c0 = _ := by simpa using he
      clear he hr hrg
      by_cases hk00 : k = 0
      · have hd : decide ((k : Int) > 0) = false := by simp; omega
        have hd2 : decide (0 < (k : Int)) = false := by simp; omega
        have hd3 : decide (0 < k) = false := by simp; omega
        rw [advNb_0 hk00 hlt] at hb hx
        clear hk00
        generalize n[k] = x at *
        have HB2 := Lib.hid hb; have HX := Lib.hid hx; clear hb hx
        go_upto_region 6 with fail
        refine wp_region_soft_plain (fun W => Below wr.heap.size wr W) [true, false, true, true, true, true, true, true, true, true, true, true, true, true, true, true, true, true, true, true, true, true, true] (Below.refl _ _) ?_
        intro wS HS
        all_goals first | (refine soft_pass rfl HS ?_) | (refine soft_read (v := ?_) rfl (fun W hW => ?_) ?_; rotate_left; (· go_simp; try with_reducible rfl))
        all_goals try simp only [Act.put, List.setIfInBounds_toArray, List.set_cons_zero, List.set_cons_succ]
        all_goals first | (refine soft_pass rfl HS ?_) | (refine soft_do rfl (fun K hK => ?_); go_simp; refine (implInRange_c).mono ?_; rintro e wS1 ⟨rfl, hwS⟩; obtain rfl := hwS.symm; refine hK _ _ HS ?_; clear hK K)
        all_goals try simp only [Act.put, List.setIfInBounds_toArray, List.set_cons_zero, List.set_cons_succ]
        all_goals first | (refine soft_pass rfl HS ?_) | (refine soft_read (v := ?_) rfl (fun W hW => ?_) ?_; rotate_left; (· go_simp; try with_reducible rfl))
        all_goals try simp only [Act.put, List.setIfInBounds_toArray, List.set_cons_zero, List.set_cons_succ]
        all_goals first | (refine soft_pass rfl HS ?_; have hg3 := True.intro) | (refine soft_part (v := ?_) (b := ?_) rfl (fun W hW => ?_) ?_ (fun b hg3 => ?_); rotate_left; rotate_left; (· go_simp; try with_reducible rfl); (· with_reducible rfl); cases b; all_goals first | (exact Bool.noConfusion hg3) | (simp only [Bool.not_eq_true', Bool.not_eq_false'] at hg3) | skip)
        iterate 2
         all_goals try simp only [Act.put, List.setIfInBounds_toArray, List.set_cons_zero, List.set_cons_succ]
         all_goals first | (refine soft_pass rfl HS ?_) | (refine soft_read (v := ?_) rfl (fun W hW => ?_) ?_; rotate_left; (· go_simp; try with_reducible rfl))
        all_goals try simp only [Act.put, List.setIfInBounds_toArray, List.set_cons_zero, List.set_cons_succ]
        all_goals first | (refine soft_pass rfl HS ?_) | (refine soft_read (v := ?_) rfl (fun W hW => ?_) ?_; rotate_left; (· have A_K0 := cell_later hW K0; have A_K2 := cell_later hW K2; have A_A0 := cell_later hW A0; clear hW; go_simp; try with_reducible rfl))
        iterate 2
         all_goals try simp only [Act.put, List.setIfInBounds_toArray, List.set_cons_zero, List.set_cons_succ]
         all_goals first | (refine soft_pass rfl HS ?_) | (refine soft_read (v := ?_) rfl (fun W hW => ?_) ?_; rotate_left; (· go_simp; try with_reducible rfl))
        all_goals try simp only [Act.put, List.setIfInBounds_toArray, List.set_cons_zero, List.set_cons_succ]
        all_goals first | (refine soft_pass rfl HS ?_; have hg9 := True.intro) | (refine soft_part (v := ?_) (b := ?_) rfl (fun W hW => ?_) ?_ (fun b hg9 => ?_); rotate_left; rotate_left; (· go_simp; try with_reducible rfl); (· with_reducible rfl); cases b; all_goals first | (exact Bool.noConfusion hg9) | (simp only [Bool.not_eq_true', Bool.not_eq_false'] at hg9) | skip)
        iterate 2
         all_goals try simp only [Act.put, List.setIfInBounds_toArray, List.set_cons_zero, List.set_cons_succ]
         all_goals first | (refine soft_pass rfl HS ?_) | (refine soft_read (v := ?_) rfl (fun W hW => ?_) ?_; rotate_left; (· go_simp; try with_reducible rfl))
        all_goals try simp only [Act.put, List.setIfInBounds_toArray, List.set_cons_zero, List.set_cons_succ]
        all_goals first | (refine soft_pass rfl HS ?_; have hg12 := True.intro) | (refine soft_part (v := ?_) (b := ?_) rfl (fun W hW => ?_) ?_ (fun b hg12 => ?_); rotate_left; rotate_left; (· go_simp; try with_reducible rfl); (· with_reducible rfl); cases b; all_goals first | (exact Bool.noConfusion hg12) | (simp only [Bool.not_eq_true', Bool.not_eq_false'] at hg12) | skip)
        all_goals try simp only [Act.put, List.setIfInBounds_toArray, List.set_cons_zero, List.set_cons_succ]
        all_goals first | (refine soft_pass rfl HS ?_) | (refine soft_read (v := ?_) rfl (fun W hW => ?_) ?_; rotate_left; (· go_simp; try with_reducible rfl))
        all_goals try simp only [Act.put, List.setIfInBounds_toArray, List.set_cons_zero, List.set_cons_succ]
        all_goals first | (refine soft_pass rfl HS ?_) | (refine soft_read (v := ?_) rfl (fun W hW => ?_) ?_; rotate_left; (· have A_K0 := cell_later hW K0; have A_K2 := cell_later hW K2; have A_A0 := cell_later hW A0; clear hW; go_simp; try with_reducible rfl))
        iterate 3
         all_goals try simp only [Act.put, List.setIfInBounds_toArray, List.set_cons_zero, List.set_cons_succ]
         all_goals first | (refine soft_pass rfl HS ?_) | (refine soft_read (v := ?_) rfl (fun W hW => ?_) ?_; rotate_left; (· go_simp; try with_reducible rfl))
        all_goals try simp only [Act.put, List.setIfInBounds_toArray, List.set_cons_zero, List.set_cons_succ]
        all_goals first | (refine soft_pass rfl HS ?_) | (refine soft_read (v := ?_) rfl (fun W hW => ?_) ?_; rotate_left; (· have A_K0 := cell_later hW K0; have A_K2 := cell_later hW K2; have A_A0 := cell_later hW A0; clear hW; go_simp; try with_reducible rfl))
        iterate 3
         all_goals try simp only [Act.put, List.setIfInBounds_toArray, List.set_cons_zero, List.set_cons_succ]
         all_goals first | (refine soft_pass rfl HS ?_) | (refine soft_read (v := ?_) rfl (fun W hW => ?_) ?_; rotate_left; (· go_simp; try with_reducible rfl))
        all_goals try simp only [Act.put, List.setIfInBounds_toArray, List.set_cons_zero, List.set_cons_succ]
        all_goals first | (refine soft_pass rfl HS ?_; have hg22 := True.intro) | (refine soft_part (v := ?_) (b := ?_) rfl (fun W hW => ?_) ?_ (fun b hg22 => ?_); rotate_left; rotate_left; (· go_simp; try with_reducible rfl); (· with_reducible rfl); cases b; all_goals first | (exact Bool.noConfusion hg22) | (simp only [Bool.not_eq_true', Bool.not_eq_false'] at hg22) | skip)
        all_goals try simp only [Act.put, List.setIfInBounds_toArray, List.set_cons_zero, List.set_cons_succ]
        all_goals refine soft_nil ?_
        all_goals have EG := hbel.trans (HS.mono hbel.size)
        all_goals first
          | (have HT := Lib.hid (HB2.out (by simp only [Bool.not_true, Bool.not_false, Bool.and_true, Bool.true_and, Bool.and_false, Bool.false_and, Bool.or_true, Bool.true_or, Bool.or_false, Bool.false_or, Bool.not_not, hg3, hg9, hg12, hg22])); clear HB2 HX; have EH := EF.trans (EG.mono EF.size); go_wp2; go_ret; exact ⟨ret_bool HT.out.symm, EH⟩)
          | (have HT := Lib.hid (HX.out (by simp only [Bool.not_true, Bool.not_false, Bool.and_true, Bool.true_and, Bool.and_false, Bool.false_and, Bool.or_true, Bool.true_or, Bool.or_false, Bool.false_or, Bool.not_not, hg3, hg9, hg12, hg22])); clear HB2 HX; go_wp2; go_roundw; (case rel => exact ⟨k + 1, by omega, by go_num, HT, EG⟩); (case measure => simp [intOf]; omega))
      · obtain ⟨j, hkj⟩ : ∃ j, k = j + 1 := ⟨k - 1, by omega⟩
        have hj : j < n.length := by omega
        have hj2 := Int.ofNat_lt.2 hj
        have hj0 := Int.natCast_nonneg j
        have e2 := wrapJ j (by omega)
        have hs : (k : Int) - 1 = j := by omega
        have hw : IntKind.i64.wrap ((k : Int) - 1) = j := by rw [hs, e2]
        have hd : decide ((k : Int) > 0) = true := by simp; omega
        have hd2 : decide (0 < (k : Int)) = true := by simp; omega
        have hd3 : decide (0 < k) = true := by simp; omega
        obtain ⟨zb, zo, zE, d0, dr, D0⟩ := Rep.get1 (bb.below hbel) hj rfl
        simp only [Option.some.injEq, Addr.mk.injEq, and_true] at zE
        obtain ⟨rfl, rfl⟩ := zE
        obtain ⟨de, _⟩ := Rep.int_raw dr
        obtain rfl : d0 = _ := by simpa using de
        clear de dr
        rw [advNb_s hkj hlt hj] at hb hx
        clear hkj hk00
        generalize n[k] = x at *
        generalize n[j] = y at *
        have HB2 := Lib.hid hb; have HX := Lib.hid hx; clear hb hx
        go_upto_region 6 with fail
        refine wp_region_soft_plain (fun W => Below wr.heap.size wr W) [true, false, true, true, true, true, true, true, true, true, true, true, true, true, true, true, true, true, true, true, true, true, true] (Below.refl _ _) ?_
        intro wS HS
        all_goals first | (refine soft_pass rfl HS ?_) | (refine soft_read (v := ?_) rfl (fun W hW => ?_) ?_; rotate_left; (· go_simp; try with_reducible rfl))
        all_goals try simp only [Act.put, List.setIfInBounds_toArray, List.set_cons_zero, List.set_cons_succ]
        all_goals first | (refine soft_pass rfl HS ?_) | (refine soft_do rfl (fun K hK => ?_); go_simp; refine (implInRange_c).mono ?_; rintro e wS1 ⟨rfl, hwS⟩; obtain rfl := hwS.symm; refine hK _ _ HS ?_; clear hK K)
        all_goals try simp only [Act.put, List.setIfInBounds_toArray, List.set_cons_zero, List.set_cons_succ]
        all_goals first | (refine soft_pass rfl HS ?_) | (refine soft_read (v := ?_) rfl (fun W hW => ?_) ?_; rotate_left; (· go_simp; try with_reducible rfl))
        all_goals try simp only [Act.put, List.setIfInBounds_toArray, List.set_cons_zero, List.set_cons_succ]
        all_goals first | (refine soft_pass rfl HS ?_; have hg3 := True.intro) | (refine soft_part (v := ?_) (b := ?_) rfl (fun W hW => ?_) ?_ (fun b hg3 => ?_); rotate_left; rotate_left; (· go_simp; try with_reducible rfl); (· with_reducible rfl); cases b; all_goals first | (exact Bool.noConfusion hg3) | (simp only [Bool.not_eq_true', Bool.not_eq_false'] at hg3) | skip)
        iterate 2
         all_goals try simp only [Act.put, List.setIfInBounds_toArray, List.set_cons_zero, List.set_cons_succ]
         all_goals first | (refine soft_pass rfl HS ?_) | (refine soft_read (v := ?_) rfl (fun W hW => ?_) ?_; rotate_left; (· go_simp; try with_reducible rfl))
        all_goals try simp only [Act.put, List.setIfInBounds_toArray, List.set_cons_zero, List.set_cons_succ]
        all_goals first | (refine soft_pass rfl HS ?_) | (refine soft_read (v := ?_) rfl (fun W hW => ?_) ?_; rotate_left; (· have A_K0 := cell_later hW K0; have A_K2 := cell_later hW K2; have A_A0 := cell_later hW A0; have A_D0 := cell_later hW D0; clear hW; go_simp; try with_reducible rfl))
        iterate 2
         all_goals try simp only [Act.put, List.setIfInBounds_toArray, List.set_cons_zero, List.set_cons_succ]
         all_goals first | (refine soft_pass rfl HS ?_) | (refine soft_read (v := ?_) rfl (fun W hW => ?_) ?_; rotate_left; (· go_simp; try with_reducible rfl))
        all_goals try simp only [Act.put, List.setIfInBounds_toArray, List.set_cons_zero, List.set_cons_succ]
        all_goals first | (refine soft_pass rfl HS ?_; have hg9 := True.intro) | (refine soft_part (v := ?_) (b := ?_) rfl (fun W hW => ?_) ?_ (fun b hg9 => ?_); rotate_left; rotate_left; (· go_simp; try with_reducible rfl); (· with_reducible rfl); cases b; all_goals first | (exact Bool.noConfusion hg9) | (simp only [Bool.not_eq_true', Bool.not_eq_false'] at hg9) | skip)
        iterate 2
         all_goals try simp only [Act.put, List.setIfInBounds_toArray, List.set_cons_zero, List.set_cons_succ]
         all_goals first | (refine soft_pass rfl HS ?_) | (refine soft_read (v := ?_) rfl (fun W hW => ?_) ?_; rotate_left; (· go_simp; try with_reducible rfl))
        all_goals try simp only [Act.put, List.setIfInBounds_toArray, List.set_cons_zero, List.set_cons_succ]
        all_goals first | (refine soft_pass rfl HS ?_; have hg12 := True.intro) | (refine soft_part (v := ?_) (b := ?_) rfl (fun W hW => ?_) ?_ (fun b hg12 => ?_); rotate_left; rotate_left; (· go_simp; try with_reducible rfl); (· with_reducible rfl); cases b; all_goals first | (exact Bool.noConfusion hg12) | (simp only [Bool.not_eq_true', Bool.not_eq_false'] at hg12) | skip)
        all_goals try simp only [Act.put, List.setIfInBounds_toArray, List.set_cons_zero, List.set_cons_succ]
        all_goals first | (refine soft_pass rfl HS ?_) | (refine soft_read (v := ?_) rfl (fun W hW => ?_) ?_; rotate_left; (· go_simp; try with_reducible rfl))
        all_goals try simp only [Act.put, List.setIfInBounds_toArray, List.set_cons_zero, List.set_cons_succ]
        all_goals first | (refine soft_pass rfl HS ?_) | (refine soft_read (v := ?_) rfl (fun W hW => ?_) ?_; rotate_left; (· have A_K0 := cell_later hW K0; have A_K2 := cell_later hW K2; have A_A0 := cell_later hW A0; have A_D0 := cell_later hW D0; clear hW; go_simp; try with_reducible rfl))
        iterate 3
         all_goals try simp only [Act.put, List.setIfInBounds_toArray, List.set_cons_zero, List.set_cons_succ]
         all_goals first | (refine soft_pass rfl HS ?_) | (refine soft_read (v := ?_) rfl (fun W hW => ?_) ?_; rotate_left; (· go_simp; try with_reducible rfl))
        all_goals try simp only [Act.put, List.setIfInBounds_toArray, List.set_cons_zero, List.set_cons_succ]
        all_goals first | (refine soft_pass rfl HS ?_) | (refine soft_read (v := ?_) rfl (fun W hW => ?_) ?_; rotate_left; (· have A_K0 := cell_later hW K0; have A_K2 := cell_later hW K2; have A_A0 := cell_later hW A0; have A_D0 := cell_later hW D0; clear hW; go_simp; try with_reducible rfl))
        iterate 3
         all_goals try simp only [Act.put, List.setIfInBounds_toArray, List.set_cons_zero, List.set_cons_succ]
         all_goals first | (refine soft_pass rfl HS ?_) | (refine soft_read (v := ?_) rfl (fun W hW => ?_) ?_; rotate_left; (· go_simp; try with_reducible rfl))
        all_goals try simp only [Act.put, List.setIfInBounds_toArray, List.set_cons_zero, List.set_cons_succ]
        all_goals first | (refine soft_pass rfl HS ?_; have hg22 := True.intro) | (refine soft_part (v := ?_) (b := ?_) rfl (fun W hW => ?_) ?_ (fun b hg22 => ?_); rotate_left; rotate_left; (· go_simp; try with_reducible rfl); (· with_reducible rfl); cases b; all_goals first | (exact Bool.noConfusion hg22) | (simp only [Bool.not_eq_true', Bool.not_eq_false'] at hg22) | skip)
        all_goals try simp only [Act.put, List.setIfInBounds_toArray, List.set_cons_zero, List.set_cons_succ]
        all_goals refine soft_nil ?_
        all_goals have EG := hbel.trans (HS.mono hbel.size)
        all_goals first
          | (have HT := Lib.hid (HB2.out (by simp only [Bool.not_true, Bool.not_false, Bool.and_true, Bool.true_and, Bool.and_false, Bool.false_and, Bool.or_true, Bool.true_or, Bool.or_false, Bool.false_or, Bool.not_not, hg3, hg9, hg12, hg22])); clear HB2 HX; have EH := EF.trans (EG.mono EF.size); go_wp2; go_ret; exact ⟨ret_bool HT.out.symm, EH⟩)
          | (have HT := Lib.hid (HX.out (by simp only [Bool.not_true, Bool.not_false, Bool.and_true, Bool.true_and, Bool.and_false, Bool.false_and, Bool.or_true, Bool.true_or, Bool.or_false, Bool.false_or, Bool.not_not, hg3, hg9, hg12, hg22])); clear HB2 HX; go_wp2; go_roundw; (case rel => exact ⟨k + 1, by omega, by go_num, HT, EG⟩); (case measure => simp [intOf]; omega))
    · have HU := Lib.hid (HG2.out k hlt hk HN.out)
      have EH := EF.trans (hbel.mono EF.size)
      replace nn := nn.below hbel
      clear HG2 HB HN bb
      go_wp2_with fail
      refine (ContainsFunc_Name_c (fun m => !vName m) callable_implValidAdvertisement1_c nn ?_).mono ?_
      · intro wr hb i h cs hr
        exact implValidAdvertisement1_c hr
      rintro e w5 ⟨rfl, hb5⟩
      have EI := EH.trans (hb5.mono EH.size)
      have HT := Lib.hid (HU.out.trans (show allB (fun j => vName (P.getD j [])) P.length = !decide (0 ≤ idxOf (fun m => !vName m) P) by rw [idx_all _ _ []]; simp only [Bool.not_not]))
      clear hb5
      go_wp2
      go_ret
      exact ⟨ret_bool HT.out.symm, EI⟩
theorem specValidAdvertisement_c {w : World} {ca : List Value} {a : LAdvertisement} (ha : RAdvertisement.rd w ca a) :
    Calls Try.prog 15 #[.agg ca.toArray] w fun e w' => e = .returned (.bool (vAdvert a)) ∧ Below w.heap.size w w' := specValidAdvertisement_w ha.1
theorem implValidAdvertisement_c {w : World} {ca : List Value} {a : LAdvertisement} (ha : RAdvertisement.rd w ca a) :
    Calls Try.prog 21 #[.agg ca.toArray] w fun e w' => e = .returned (.bool (vAdvert a)) ∧ Below w.heap.size w w' := implValidAdvertisement_w ha.1
end Go.Proofs.Ytadneiijklnccaa

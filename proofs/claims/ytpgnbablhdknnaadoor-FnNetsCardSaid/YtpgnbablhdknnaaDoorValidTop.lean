/-
  Which topologies are valid: each link in range and in order.
-/
import Derived.Test.YtpgnbablhdknnaaDoorNum
import Derived.StillTailTactics
import Derived.IntWalk
import Derived.Test.YtpgnbablhdknnaaDoorSoft
namespace Go.Proofs.YtpgnbablhdknnaaDoor
open Go.RowKit
set_option linter.unusedVariables false
set_option linter.unusedSimpArgs false
set_option linter.unnecessarySimpa false
def pairLt (a b : LLink) : Bool := decide (a.1 < b.1) || (decide (a.1 = b.1) && decide (a.2 < b.2))
def cmpL (a b : LLink) : Int := orI [cmpI a.1 b.1, cmpI a.2 b.2]
theorem cmpL_lt (a b : LLink) : (cmpL a b ≥ 0) ↔ pairLt a b = false := by
  unfold cmpL cmpI pairLt
  simp only [orI]
  by_cases h1 : a.1 < b.1
  · simp [h1]
  · by_cases h2 : b.1 < a.1
    · simp [h1, h2]; omega
    · have h3 : a.1 = b.1 := by omega
      by_cases h4 : a.2 < b.2
      · simp [h3, h4]
      · by_cases h5 : b.2 < a.2
        · simp [h3, h4, h5]
        · simp [h3, h4, h5]
def topS (n : Int) : Int := IntKind.i64.wrap (n - 1)
/-- What a link must be: n the topology's size, i the link's place, p the link ahead. -/
def okS (n : Int) (i : Nat) (p l : LLink) : Bool := inR l.1 0 (topS n) && inR l.2 0 (topS n) && !(decide (l.1 ≥ l.2)) && (!(decide (0 < i)) || pairLt p l)
def okI (n : Int) (i : Nat) (p l : LLink) : Bool := inR l.1 0 (topS n) && inR l.2 (IntKind.i64.wrap (l.1 + 1)) (topS n) && (!(decide (0 < i)) || !(decide (cmpL p l ≥ 0)))
def topF (f : Int → Nat → LLink → LLink → Bool) (x : LTopology) (j : Nat) : Bool := f x.1 j (x.2.getD (j - 1) (0, 0)) (x.2.getD j (0, 0))
def validTopo (f : Int → Nat → LLink → LLink → Bool) (x : LTopology) : Bool := allB (topF f x) x.2.length && inR x.1 1 6
theorem topF_eq {f : Int → Nat → LLink → LLink → Bool} {x : LTopology} {k : Nat} (h : k < x.2.length) : topF f x k = f x.1 k (x.2.getD (k - 1) (0, 0)) x.2[k] := by
  unfold topF; rw [getD_get h]
theorem validTopo_bad {f : Int → Nat → LLink → LLink → Bool} {x : LTopology} {k : Nat} (h : k < x.2.length) (q : topF f x k = false) : validTopo f x = false := by
  unfold validTopo; rw [allB_bad h q]; rfl
theorem validTopo_good {f : Int → Nat → LLink → LLink → Bool} {x : LTopology} {k : Nat} (q : allB (topF f x) k = true) (h : ¬ k < x.2.length) (hk : k ≤ x.2.length) : validTopo f x = inR x.1 1 6 := by
  obtain rfl : k = x.2.length := by omega
  unfold validTopo; rw [q]; rfl
theorem wrap_nat (m : Nat) (h : m ≤ 9223372036854775807) : IntKind.i64.wrap (m : Int) = m := by rw [IntWalk.i64_left]; exact IntWalk.wrap64_in _ (by omega)
theorem topS_eq {n : Int} (h0 : -9223372036854775808 < n) (h1 : n ≤ 9223372036854775807) : topS n = n - 1 := by
  unfold topS
  rw [IntWalk.i64_left]
  exact IntWalk.wrap64_in _ (by omega)
set_option maxHeartbeats 400000 in
theorem specl19Pair_c {w : World} {ca cb : List Value} {x y : LLink} (ha : RLink.raw w ca x) (hb : RLink.raw w cb y) :
    Calls Tryd.prog 42 #[.agg ca.toArray, .agg cb.toArray] w fun e w' => e = .returned (.bool (pairLt x y)) ∧ Below w.heap.size w w' := by
  obtain ⟨rfl, _, _⟩ := RLink_raw ha
  obtain ⟨rfl, _, _⟩ := RLink_raw hb
  obtain ⟨x1, x2⟩ := x
  obtain ⟨y1, y2⟩ := y
  clear ha hb
  have E1 := fun o1 o2 => ((Below.refl w.heap.size w).alloc (Nat.le_refl _) o1).alloc (by simp) o2
  go_enter Tryd.func42, Tryd.ntmps42
  by_cases h1 : x1 < y1
  · have hd : decide (x1 < y1) = true := by simpa using h1
    go_wp2
    go_ret
    exact ⟨ret_bool (by simp [pairLt, h1]), E1 _ _⟩
  · have hd : decide (x1 < y1) = false := by simpa using h1
    by_cases h2 : x1 = y1
    · have hd2 : (x1 == y1) = true := by simpa using h2
      go_wp2
      go_ret
      exact ⟨ret_bool (by simp [pairLt]), E1 _ _⟩
    · have hd2 : (x1 == y1) = false := by simpa using h2
      go_wp2
      go_ret
      exact ⟨ret_bool (by simp [pairLt, h1, h2]), E1 _ _⟩
theorem cmpI_in (a b : Int) : -9223372036854775808 ≤ cmpI a b ∧ cmpI a b ≤ 9223372036854775807 := by unfold cmpI; split; omega; split <;> omega
theorem lit2 {w : World} {a b : Int} (ha : -9223372036854775808 ≤ a ∧ a ≤ 9223372036854775807) (hb : -9223372036854775808 ≤ b ∧ b ≤ 9223372036854775807) :
    (Rep.slice 3 Rep.int).raw (w.alloc (.cells #[.int .i64 a, .int .i64 b] 3)) [.slice (some ⟨w.heap.size, 0, none⟩) 2 2] [a, b] := by
  have h := Rep.own0_lit (e := 3) (r := Rep.int) (w := w) (cs := [.int .i64 a, .int .i64 b]) (xs := [a, b]) (T := fun _ => False) (S := fun _ => True) (fun _ _ => trivial) (by simp [maxLen]) ⟨[.int .i64 a], [.int .i64 b], fun _ => False, fun _ => False, rfl, ⟨rfl, ha⟩, ⟨[.int .i64 b], [], fun _ => False, fun _ => False, rfl, ⟨rfl, hb⟩, rfl, fun _ h => h, fun _ h => h, fun _ _ h => h.elim⟩, fun _ h => h, fun _ h => h, fun _ _ h => h.elim⟩ (fun _ h => h.elim) trivial
  exact (h.own (by simp [Big])).raw
set_option maxHeartbeats 400000 in
theorem compareLinks_c {w : World} {ca cb : List Value} {x y : LLink} (ha : RLink.raw w ca x) (hb : RLink.raw w cb y) :
    Calls Tryd.prog 41 #[.agg ca.toArray, .agg cb.toArray] w fun e w' => e = .returned (.int .i64 (cmpL x y)) ∧ Below w.heap.size w w' := by
  obtain ⟨rfl, _, _⟩ := RLink_raw ha
  obtain ⟨rfl, _, _⟩ := RLink_raw hb
  obtain ⟨x1, x2⟩ := x
  obtain ⟨y1, y2⟩ := y
  clear ha hb
  go_enter Tryd.func41, Tryd.ntmps41
  go_wp2_with fail
  generalize hwB : World.alloc (World.alloc w _) _ = wB
  have EB : Below w.heap.size w wB := by rw [← hwB]; exact ((Below.refl w.heap.size w).alloc (Nat.le_refl _) _).alloc (by simp) _
  have k1 : wB.cell? ⟨w.heap.size, 0, none⟩ = some (.int .i64 x1) := by rw [← hwB]; simp [go_sem]
  have k2 : wB.cell? ⟨w.heap.size, 1, none⟩ = some (.int .i64 x2) := by rw [← hwB]; simp [go_sem]
  have k3 : wB.cell? ⟨w.heap.size + 1, 0, none⟩ = some (.int .i64 y1) := by rw [← hwB]; simp [go_sem]
  have k4 : wB.cell? ⟨w.heap.size + 1, 1, none⟩ = some (.int .i64 y2) := by rw [← hwB]; simp [go_sem]
  clear hwB
  refine wp_region_still_tail 10 (by kernel_rfl) (by kernel_rfl) ?_
  simp only [List.take_succ_cons, List.take_zero, List.drop_succ_cons, List.drop_zero]
  iterate 4 still_step
  still_call cmpCompare_c
  iterate 4 still_step
  still_call cmpCompare_c
  try refine wpStill_nil ?_
  change wpList _ _ _ _ _ wB.drew
  have EB2 := EB.drew
  generalize wB.drew = wC at *
  go_wp2_with fail
  refine (cmpOr_c (lit2 (cmpI_in _ _) (cmpI_in _ _))).mono ?_
  rintro e u ⟨rfl, rfl⟩
  go_wp2
  go_ret
  exact ⟨rfl, by repeat (first | (with_reducible exact EB2) | refine Below.alloc ?_ (by have := EB2.size; simp; try omega) _ | refine Below.drew ?_)⟩
set_option maxHeartbeats 2000000 in
theorem specValidTopology_c {w : World} {ca : List Value} {x : LTopology} (ha : RTopology.rd w ca x) :
    Calls Tryd.prog 23 #[.agg ca.toArray] w fun e w' => e = .returned (.bool (validTopo okS x)) ∧ Below w.heap.size w w' := by
  obtain ⟨av1, rfl, a_0, a_1⟩ := RTopology_raw ha.1
  obtain ⟨x0, x1⟩ := x
  clear ha a_0
  obtain ⟨aa, capa, hva, la⟩ := Rep.len_raw a_1; obtain rfl : av1 = _ := by simpa using hva
  clear hva
  go_enter Tryd.func23, Tryd.ntmps23
  go_wp2
  generalize hwB : World.alloc w _ = wB
  have EB : Below w.heap.size w wB := by rw [← hwB]; exact (Below.refl w.heap.size w).alloc (Nat.le_refl _) _
  have X0 : Hid (wB.heap[w.heap.size]? = some (.cells #[.int .i64 x0, .slice aa x1.length capa] 26 (0, 0))) := Lib.hid (by rw [← hwB]; exact heap_new_at (by simp))
  replace a_1 := a_1.below EB
  clear hwB
  go_loopw [3] (fun i wr => ∃ k : Nat, k ≤ x1.length ∧ i = .int .i64 k ∧ Hid (allB (topF okS (x0, x1)) k = true) ∧ Below wB.heap.size wB wr) (fun i _ => x1.length - (intOf i).toNat)
  case atStart => exact ⟨0, Nat.zero_le _, rfl, Lib.hid rfl, Below.refl _ _⟩
  case round =>
    obtain ⟨k, hk, rfl, HN, hbel⟩ := hrel
    have L0 := boxCell (keepBox X0.out hbel) (j := 0) (v := .int .i64 x0) rfl
    have L1 := boxCell (keepBox X0.out hbel) (j := 1) (v := .slice aa x1.length capa) rfl
    by_cases hlt : k < x1.length
    · obtain ⟨ba, offa, rfl, c0, c1, hr, A0, A1⟩ := Rep.get2 (a_1.below hbel) hlt rfl
      obtain ⟨he, hr1, hr2⟩ := RLink_raw hr
      simp only [List.cons.injEq, and_true] at he
      obtain ⟨rfl, rfl⟩ := he
      clear hr
      have hgt := topF_eq (f := okS) (x := (x0, x1)) hlt
      simp only at hgt
      generalize hy : x1[k] = y at *
      obtain ⟨y1, y2⟩ := y
      obtain ⟨p, hp⟩ : ∃ p, p = x1.getD (k - 1) (0, 0) := ⟨_, rfl⟩
      simp only [← hp] at hgt
      obtain ⟨p1, p2⟩ := p
      have HG := Lib.hid hgt
      have HP := Lib.hid hp
      clear hgt hy hp
      try simp only at hr1 hr2 A0 A1
      go_wp2_with fail
      generalize hwC : World.alloc wr _ = wC
      have EC : Below wr.heap.size wr wC := by rw [← hwC]; exact (Below.refl _ _).alloc (Nat.le_refl _) _
      have M0 : wC.cell? ⟨wr.heap.size, 0, none⟩ = some (.int .i64 y1) := by rw [← hwC]; simp [go_sem]
      have M1 : wC.cell? ⟨wr.heap.size, 1, none⟩ = some (.int .i64 y2) := by rw [← hwC]; simp [go_sem]
      clear hwC
      replace L0 := cell_later EC L0
      replace L1 := cell_later EC L1
      have BP : 0 < k → wC.cell? ⟨ba, offa + (k - 1) * 2, none⟩ = some (.int .i64 p1) ∧ wC.cell? ⟨ba, offa + (k - 1) * 2 + 1, none⟩ = some (.int .i64 p2) ∧ (-9223372036854775808 ≤ p1 ∧ p1 ≤ 9223372036854775807) ∧ (-9223372036854775808 ≤ p2 ∧ p2 ≤ 9223372036854775807) := by
        intro hk0
        obtain ⟨bb, offb, hbb, d0, d1, hr3, B0, B1⟩ := Rep.get2 (a_1.below (hbel.trans (EC.mono hbel.size))) (i := k - 1) (by omega) rfl
        obtain ⟨rfl, rfl⟩ : ba = bb ∧ offa = offb := by simpa using hbb
        obtain ⟨he, hq1, hq2⟩ := RLink_raw hr3
        simp only [List.cons.injEq, and_true] at he
        obtain ⟨rfl, rfl⟩ := he
        have e : x1[k - 1] = (p1, p2) := by have := HP.out; rw [getD_get (by omega)] at this; exact this.symm
        rw [e] at B0 B1 hq1 hq2
        exact ⟨B0, B1, hq1, hq2⟩
      have HBP := Lib.hid BP
      clear A0 A1 BP
      have EC2 := hbel.trans (EC.mono hbel.size)
      refine wp_region_soft (fun W => Below wC.heap.size wC W) [true, true, true, true, true, false, true, true, true, true, true, true, true, false, true, true, true, true, true, true, true, true, true, true, true, true, true, true, true, true, true, true, true, true, false, true, true, true] (by kernel_rfl) (by kernel_rfl) (fun c a d v w h => by cases d <;> exact h) ((Below.refl _ _).drew) ?_
      intro wS HS
      all_goals first | (refine soft_pass rfl HS ?_) | (refine soft_read (v := ?_) rfl (fun W hW => ?_) ?_; rotate_left; (· go_simp; try with_reducible rfl))
      all_goals try simp only [Act.put, List.setIfInBounds_toArray, List.set_cons_zero, List.set_cons_succ]
      all_goals first | (refine soft_pass rfl HS ?_) | (refine soft_read (v := ?_) rfl (fun W hW => ?_) ?_; rotate_left; (· have A_L0 := cell_later hW L0; have A_L1 := cell_later hW L1; have A_M0 := cell_later hW M0; have A_M1 := cell_later hW M1; clear hW; go_simp; try with_reducible rfl))
      all_goals try simp only [Act.put, List.setIfInBounds_toArray, List.set_cons_zero, List.set_cons_succ]
      all_goals first | (refine soft_pass rfl HS ?_) | (refine soft_read (v := ?_) rfl (fun W hW => ?_) ?_; rotate_left; (· go_simp; try with_reducible rfl))
      all_goals try simp only [Act.put, List.setIfInBounds_toArray, List.set_cons_zero, List.set_cons_succ]
      all_goals first | (refine soft_pass rfl HS ?_) | (refine soft_read (v := ?_) rfl (fun W hW => ?_) ?_; rotate_left; (· have A_L0 := cell_later hW L0; have A_L1 := cell_later hW L1; have A_M0 := cell_later hW M0; have A_M1 := cell_later hW M1; clear hW; go_simp; try with_reducible rfl))
      all_goals try simp only [Act.put, List.setIfInBounds_toArray, List.set_cons_zero, List.set_cons_succ]
      all_goals first | (refine soft_pass rfl HS ?_) | (refine soft_read (v := ?_) rfl (fun W hW => ?_) ?_; rotate_left; (· go_simp; try with_reducible rfl))
      all_goals try simp only [Act.put, List.setIfInBounds_toArray, List.set_cons_zero, List.set_cons_succ]
      all_goals first | (refine soft_pass rfl HS ?_) | (refine soft_do rfl (fun K hK => ?_); go_simp; refine (specl1In_c).mono ?_; rintro e wS1 ⟨rfl, rfl⟩; refine hK _ _ HS ?_; clear hK K)
      all_goals try simp only [Act.put, List.setIfInBounds_toArray, List.set_cons_zero, List.set_cons_succ]
      all_goals first | (refine soft_pass rfl HS ?_) | (refine soft_read (v := ?_) rfl (fun W hW => ?_) ?_; rotate_left; (· go_simp; try with_reducible rfl))
      all_goals try simp only [Act.put, List.setIfInBounds_toArray, List.set_cons_zero, List.set_cons_succ]
      all_goals first | (refine soft_pass rfl HS ?_; have hg7 := True.intro) | (refine soft_part (v := ?_) (b := ?_) rfl (fun W hW => ?_) ?_ (fun b hg7 => ?_); rotate_left; rotate_left; (· go_simp; try with_reducible rfl); (· with_reducible rfl); cases b; all_goals first | (exact Bool.noConfusion hg7) | (simp only [Bool.not_eq_true', Bool.not_eq_false'] at hg7) | skip)
      all_goals try simp only [Act.put, List.setIfInBounds_toArray, List.set_cons_zero, List.set_cons_succ]
      all_goals first | (refine soft_pass rfl HS ?_) | (refine soft_read (v := ?_) rfl (fun W hW => ?_) ?_; rotate_left; (· go_simp; try with_reducible rfl))
      all_goals try simp only [Act.put, List.setIfInBounds_toArray, List.set_cons_zero, List.set_cons_succ]
      all_goals first | (refine soft_pass rfl HS ?_) | (refine soft_read (v := ?_) rfl (fun W hW => ?_) ?_; rotate_left; (· have A_L0 := cell_later hW L0; have A_L1 := cell_later hW L1; have A_M0 := cell_later hW M0; have A_M1 := cell_later hW M1; clear hW; go_simp; try with_reducible rfl))
      all_goals try simp only [Act.put, List.setIfInBounds_toArray, List.set_cons_zero, List.set_cons_succ]
      all_goals first | (refine soft_pass rfl HS ?_) | (refine soft_read (v := ?_) rfl (fun W hW => ?_) ?_; rotate_left; (· go_simp; try with_reducible rfl))
      all_goals try simp only [Act.put, List.setIfInBounds_toArray, List.set_cons_zero, List.set_cons_succ]
      all_goals first | (refine soft_pass rfl HS ?_) | (refine soft_read (v := ?_) rfl (fun W hW => ?_) ?_; rotate_left; (· have A_L0 := cell_later hW L0; have A_L1 := cell_later hW L1; have A_M0 := cell_later hW M0; have A_M1 := cell_later hW M1; clear hW; go_simp; try with_reducible rfl))
      all_goals try simp only [Act.put, List.setIfInBounds_toArray, List.set_cons_zero, List.set_cons_succ]
      all_goals first | (refine soft_pass rfl HS ?_) | (refine soft_read (v := ?_) rfl (fun W hW => ?_) ?_; rotate_left; (· go_simp; try with_reducible rfl))
      all_goals try simp only [Act.put, List.setIfInBounds_toArray, List.set_cons_zero, List.set_cons_succ]
      all_goals first | (refine soft_pass rfl HS ?_) | (refine soft_do rfl (fun K hK => ?_); go_simp; refine (specl1In_c).mono ?_; rintro e wS1 ⟨rfl, rfl⟩; refine hK _ _ HS ?_; clear hK K)
      all_goals try simp only [Act.put, List.setIfInBounds_toArray, List.set_cons_zero, List.set_cons_succ]
      all_goals first | (refine soft_pass rfl HS ?_) | (refine soft_read (v := ?_) rfl (fun W hW => ?_) ?_; rotate_left; (· go_simp; try with_reducible rfl))
      all_goals try simp only [Act.put, List.setIfInBounds_toArray, List.set_cons_zero, List.set_cons_succ]
      all_goals first | (refine soft_pass rfl HS ?_) | (refine soft_read (v := ?_) rfl (fun W hW => ?_) ?_; rotate_left; (· go_simp; try with_reducible rfl))
      all_goals try simp only [Act.put, List.setIfInBounds_toArray, List.set_cons_zero, List.set_cons_succ]
      all_goals first | (refine soft_pass rfl HS ?_; have hg16 := True.intro) | (refine soft_part (v := ?_) (b := ?_) rfl (fun W hW => ?_) ?_ (fun b hg16 => ?_); rotate_left; rotate_left; (· go_simp; try with_reducible rfl); (· with_reducible rfl); cases b; all_goals first | (exact Bool.noConfusion hg16) | (simp only [Bool.not_eq_true', Bool.not_eq_false'] at hg16) | skip)
      all_goals try simp only [Act.put, List.setIfInBounds_toArray, List.set_cons_zero, List.set_cons_succ]
      all_goals first | (refine soft_pass rfl HS ?_) | (refine soft_read (v := ?_) rfl (fun W hW => ?_) ?_; rotate_left; (· go_simp; try with_reducible rfl))
      all_goals try simp only [Act.put, List.setIfInBounds_toArray, List.set_cons_zero, List.set_cons_succ]
      all_goals first | (refine soft_pass rfl HS ?_) | (refine soft_read (v := ?_) rfl (fun W hW => ?_) ?_; rotate_left; (· have A_L0 := cell_later hW L0; have A_L1 := cell_later hW L1; have A_M0 := cell_later hW M0; have A_M1 := cell_later hW M1; clear hW; go_simp; try with_reducible rfl))
      all_goals try simp only [Act.put, List.setIfInBounds_toArray, List.set_cons_zero, List.set_cons_succ]
      all_goals first | (refine soft_pass rfl HS ?_) | (refine soft_read (v := ?_) rfl (fun W hW => ?_) ?_; rotate_left; (· go_simp; try with_reducible rfl))
      all_goals try simp only [Act.put, List.setIfInBounds_toArray, List.set_cons_zero, List.set_cons_succ]
      all_goals first | (refine soft_pass rfl HS ?_) | (refine soft_read (v := ?_) rfl (fun W hW => ?_) ?_; rotate_left; (· have A_L0 := cell_later hW L0; have A_L1 := cell_later hW L1; have A_M0 := cell_later hW M0; have A_M1 := cell_later hW M1; clear hW; go_simp; try with_reducible rfl))
      all_goals try simp only [Act.put, List.setIfInBounds_toArray, List.set_cons_zero, List.set_cons_succ]
      all_goals first | (refine soft_pass rfl HS ?_) | (refine soft_read (v := ?_) rfl (fun W hW => ?_) ?_; rotate_left; (· go_simp; try with_reducible rfl))
      all_goals try simp only [Act.put, List.setIfInBounds_toArray, List.set_cons_zero, List.set_cons_succ]
      all_goals first | (refine soft_pass rfl HS ?_) | (refine soft_read (v := ?_) rfl (fun W hW => ?_) ?_; rotate_left; (· go_simp; try with_reducible rfl))
      all_goals try simp only [Act.put, List.setIfInBounds_toArray, List.set_cons_zero, List.set_cons_succ]
      all_goals first | (refine soft_pass rfl HS ?_; have hg23 := True.intro) | (refine soft_part (v := ?_) (b := ?_) rfl (fun W hW => ?_) ?_ (fun b hg23 => ?_); rotate_left; rotate_left; (· go_simp; try with_reducible rfl); (· with_reducible rfl); cases b; all_goals first | (exact Bool.noConfusion hg23) | (simp only [Bool.not_eq_true', Bool.not_eq_false'] at hg23) | skip)
      all_goals try simp only [Act.put, List.setIfInBounds_toArray, List.set_cons_zero, List.set_cons_succ]
      all_goals first | (refine soft_pass rfl HS ?_) | (refine soft_read (v := ?_) rfl (fun W hW => ?_) ?_; rotate_left; (· go_simp; try with_reducible rfl))
      all_goals try simp only [Act.put, List.setIfInBounds_toArray, List.set_cons_zero, List.set_cons_succ]
      all_goals first | (refine soft_pass rfl HS ?_) | (refine soft_read (v := ?_) rfl (fun W hW => ?_) ?_; rotate_left; (· go_simp; try with_reducible rfl))
      all_goals try simp only [Act.put, List.setIfInBounds_toArray, List.set_cons_zero, List.set_cons_succ]
      all_goals first | (refine soft_pass rfl HS ?_; have hg26 := True.intro) | (refine soft_part (v := ?_) (b := ?_) rfl (fun W hW => ?_) ?_ (fun b hg26 => ?_); rotate_left; rotate_left; (· go_simp; try with_reducible rfl); (· with_reducible rfl); cases b; all_goals first | (exact Bool.noConfusion hg26) | (simp only [Bool.not_eq_true', Bool.not_eq_false'] at hg26) | skip)
      all_goals try simp only [Act.put, List.setIfInBounds_toArray, List.set_cons_zero, List.set_cons_succ]
      all_goals try (by_cases hk0 : 0 < k; rotate_left; (· exfalso; simp at hg26; omega); obtain ⟨N0, N1, hq1, hq2⟩ := HBP.out hk0; obtain ⟨m, rfl⟩ := Nat.exists_eq_succ_of_ne_zero (Nat.pos_iff_ne_zero.1 hk0); simp only [Nat.succ_eq_add_one, Nat.add_sub_cancel] at N0 N1; have e2 := wrap_nat m (Nat.le_trans (Nat.le_of_succ_le hk) la); have e3 := Int.natCast_nonneg m; have e4 := Int.ofNat_lt.2 (Nat.lt_of_succ_lt hlt))
      all_goals first | (refine soft_pass rfl HS ?_) | (refine soft_read (v := ?_) rfl (fun W hW => ?_) ?_; rotate_left; (· go_simp; try with_reducible rfl))
      all_goals try simp only [Act.put, List.setIfInBounds_toArray, List.set_cons_zero, List.set_cons_succ]
      all_goals first | (refine soft_pass rfl HS ?_) | (refine soft_read (v := ?_) rfl (fun W hW => ?_) ?_; rotate_left; (· have A_L0 := cell_later hW L0; have A_L1 := cell_later hW L1; have A_M0 := cell_later hW M0; have A_M1 := cell_later hW M1; have A_N0 := cell_later hW N0; have A_N1 := cell_later hW N1; clear hW; go_simp; try with_reducible rfl))
      all_goals try simp only [Act.put, List.setIfInBounds_toArray, List.set_cons_zero, List.set_cons_succ]
      all_goals first | (refine soft_pass rfl HS ?_) | (refine soft_read (v := ?_) rfl (fun W hW => ?_) ?_; rotate_left; (· go_simp; try with_reducible rfl))
      all_goals try simp only [Act.put, List.setIfInBounds_toArray, List.set_cons_zero, List.set_cons_succ]
      all_goals first | (refine soft_pass rfl HS ?_) | (refine soft_read (v := ?_) rfl (fun W hW => ?_) ?_; rotate_left; (· go_simp; try with_reducible rfl))
      all_goals try simp only [Act.put, List.setIfInBounds_toArray, List.set_cons_zero, List.set_cons_succ]
      all_goals first | (refine soft_pass rfl HS ?_) | (refine soft_read (v := ?_) rfl (fun W hW => ?_) ?_; rotate_left; (· go_simp; try with_reducible rfl))
      all_goals try simp only [Act.put, List.setIfInBounds_toArray, List.set_cons_zero, List.set_cons_succ]
      all_goals first | (refine soft_pass rfl HS ?_) | (refine soft_read (v := ?_) rfl (fun W hW => ?_) ?_; rotate_left; (· have A_L0 := cell_later hW L0; have A_L1 := cell_later hW L1; have A_M0 := cell_later hW M0; have A_M1 := cell_later hW M1; have A_N0 := cell_later hW N0; have A_N1 := cell_later hW N1; clear hW; go_simp; try with_reducible rfl))
      all_goals try simp only [Act.put, List.setIfInBounds_toArray, List.set_cons_zero, List.set_cons_succ]
      all_goals first | (refine soft_pass rfl HS ?_) | (refine soft_read (v := ?_) rfl (fun W hW => ?_) ?_; rotate_left; (· have A_L0 := cell_later hW L0; have A_L1 := cell_later hW L1; have A_M0 := cell_later hW M0; have A_M1 := cell_later hW M1; have A_N0 := cell_later hW N0; have A_N1 := cell_later hW N1; clear hW; go_simp; try with_reducible rfl))
      all_goals try simp only [Act.put, List.setIfInBounds_toArray, List.set_cons_zero, List.set_cons_succ]
      all_goals first | (refine soft_pass rfl HS ?_) | (refine soft_do rfl (fun K hK => ?_); go_simp; refine (specl19Pair_c (x := (p1, p2)) (y := (y1, y2)) (Rep.flat.raw (Rep.flat_pair (Rep.flat_int hq1) (Rep.flat_int hq2))) (Rep.flat.raw (Rep.flat_pair (Rep.flat_int hr1) (Rep.flat_int hr2)))).mono ?_; rintro e wS1 ⟨rfl, hbS⟩; replace HS := HS.trans (hbS.mono HS.size); refine hK _ _ HS ?_; clear hK K hbS)
      all_goals try simp only [Act.put, List.setIfInBounds_toArray, List.set_cons_zero, List.set_cons_succ]
      all_goals first | (refine soft_pass rfl HS ?_) | (refine soft_read (v := ?_) rfl (fun W hW => ?_) ?_; rotate_left; (· go_simp; try with_reducible rfl))
      all_goals try simp only [Act.put, List.setIfInBounds_toArray, List.set_cons_zero, List.set_cons_succ]
      all_goals first | (refine soft_pass rfl HS ?_) | (refine soft_read (v := ?_) rfl (fun W hW => ?_) ?_; rotate_left; (· go_simp; try with_reducible rfl))
      all_goals try simp only [Act.put, List.setIfInBounds_toArray, List.set_cons_zero, List.set_cons_succ]
      all_goals first | (refine soft_pass rfl HS ?_; have hg37 := True.intro) | (refine soft_part (v := ?_) (b := ?_) rfl (fun W hW => ?_) ?_ (fun b hg37 => ?_); rotate_left; rotate_left; (· go_simp; try with_reducible rfl); (· with_reducible rfl); cases b; all_goals first | (exact Bool.noConfusion hg37) | (simp only [Bool.not_eq_true', Bool.not_eq_false'] at hg37) | skip)
      all_goals try simp only [Act.put, List.setIfInBounds_toArray, List.set_cons_zero, List.set_cons_succ]
      all_goals refine soft_nil ?_
      all_goals have EF := EB.trans ((EC2.trans (HS.mono EC2.size)).mono EB.size)
      all_goals have EG := EC2.trans (HS.mono EC2.size)
      all_goals have HO := HN.out
      all_goals first
        | (have HV := HG.out.trans (show _ = false by simp only [okS, topS, ge_iff_le, Bool.not_true, Bool.not_false, Bool.and_true, Bool.true_and, Bool.and_false, Bool.false_and, Bool.or_true, Bool.true_or, Bool.or_false, Bool.false_or, Bool.not_not, hg7, hg16, hg23, hg26, hg37]); have HT := Lib.hid (validTopo_bad (x := (x0, x1)) hlt HV); clear HV HO HN HG HP HBP; go_wp2; go_ret; exact ⟨ret_bool HT.out.symm, EF⟩)
        | (have HV := HG.out.trans (show _ = true by simp only [okS, topS, ge_iff_le, Bool.not_true, Bool.not_false, Bool.and_true, Bool.true_and, Bool.and_false, Bool.false_and, Bool.or_true, Bool.true_or, Bool.or_false, Bool.false_or, Bool.not_not, hg7, hg16, hg23, hg26, hg37]); have HT := Lib.hid (allB_succ HO HV); clear HV HO HN HG HP HBP; go_wp2; go_roundw; (case rel => exact ⟨_, by omega, by go_num, HT, EG⟩); (case measure => simp [intOf]; omega))
    · have HT := validTopo_good HN.out hlt hk
      have EF := EB.trans (hbel.mono EB.size)
      go_wp2_with fail
      refine specl1In_c.mono ?_
      rintro e u ⟨rfl, rfl⟩
      go_wp2
      go_ret
      exact ⟨ret_bool HT.symm, EF⟩
set_option maxHeartbeats 2000000 in
theorem implValidTopology_w {w : World} {ca : List Value} {x : LTopology} (ha : RTopology.rd w ca x) :
    Calls Tryd.prog 22 #[.agg ca.toArray] w fun e w' => e = .returned (.bool (validTopo okI x)) ∧ Below w.heap.size w w' := by
  obtain ⟨av1, rfl, a_0, a_1⟩ := RTopology_raw ha.1
  obtain ⟨x0, x1⟩ := x
  clear ha a_0
  obtain ⟨aa, capa, hva, la⟩ := Rep.len_raw a_1; obtain rfl : av1 = _ := by simpa using hva
  clear hva
  go_enter Tryd.func22, Tryd.ntmps22
  go_wp2
  generalize hwB : World.alloc w _ = wB
  have EB : Below w.heap.size w wB := by rw [← hwB]; exact (Below.refl w.heap.size w).alloc (Nat.le_refl _) _
  have X0 : Hid (wB.heap[w.heap.size]? = some (.cells #[.int .i64 x0, .slice aa x1.length capa] 26 (0, 0))) := Lib.hid (by rw [← hwB]; exact heap_new_at (by simp))
  replace a_1 := a_1.below EB
  clear hwB
  go_loopw [8] (fun i wr => ∃ k : Nat, k ≤ x1.length ∧ i = .int .i64 k ∧ Hid (allB (topF okI (x0, x1)) k = true) ∧ Below wB.heap.size wB wr) (fun i _ => x1.length - (intOf i).toNat)
  case atStart => exact ⟨0, Nat.zero_le _, rfl, Lib.hid rfl, Below.refl _ _⟩
  case round =>
    obtain ⟨k, hk, rfl, HN, hbel⟩ := hrel
    have L0 := boxCell (keepBox X0.out hbel) (j := 0) (v := .int .i64 x0) rfl
    have L1 := boxCell (keepBox X0.out hbel) (j := 1) (v := .slice aa x1.length capa) rfl
    by_cases hlt : k < x1.length
    · obtain ⟨ba, offa, rfl, c0, c1, hr, A0, A1⟩ := Rep.get2 (a_1.below hbel) hlt rfl
      obtain ⟨he, hr1, hr2⟩ := RLink_raw hr
      simp only [List.cons.injEq, and_true] at he
      obtain ⟨rfl, rfl⟩ := he
      clear hr
      have hgt := topF_eq (f := okI) (x := (x0, x1)) hlt
      simp only at hgt
      generalize hy : x1[k] = y at *
      obtain ⟨y1, y2⟩ := y
      obtain ⟨p, hp⟩ : ∃ p, p = x1.getD (k - 1) (0, 0) := ⟨_, rfl⟩
      simp only [← hp] at hgt
      obtain ⟨p1, p2⟩ := p
      have HG := Lib.hid hgt
      have HP := Lib.hid hp
      clear hgt hy hp
      try simp only at hr1 hr2 A0 A1
      go_wp2_with fail
      generalize hwC : World.alloc wr _ = wC
      have EC : Below wr.heap.size wr wC := by rw [← hwC]; exact (Below.refl _ _).alloc (Nat.le_refl _) _
      have M0 : wC.cell? ⟨wr.heap.size, 0, none⟩ = some (.int .i64 y1) := by rw [← hwC]; simp [go_sem]
      have M1 : wC.cell? ⟨wr.heap.size, 1, none⟩ = some (.int .i64 y2) := by rw [← hwC]; simp [go_sem]
      clear hwC
      replace L0 := cell_later EC L0
      replace L1 := cell_later EC L1
      have BP : 0 < k → wC.cell? ⟨ba, offa + (k - 1) * 2, none⟩ = some (.int .i64 p1) ∧ wC.cell? ⟨ba, offa + (k - 1) * 2 + 1, none⟩ = some (.int .i64 p2) ∧ (-9223372036854775808 ≤ p1 ∧ p1 ≤ 9223372036854775807) ∧ (-9223372036854775808 ≤ p2 ∧ p2 ≤ 9223372036854775807) := by
        intro hk0
        obtain ⟨bb, offb, hbb, d0, d1, hr3, B0, B1⟩ := Rep.get2 (a_1.below (hbel.trans (EC.mono hbel.size))) (i := k - 1) (by omega) rfl
        obtain ⟨rfl, rfl⟩ : ba = bb ∧ offa = offb := by simpa using hbb
        obtain ⟨he, hq1, hq2⟩ := RLink_raw hr3
        simp only [List.cons.injEq, and_true] at he
        obtain ⟨rfl, rfl⟩ := he
        have e : x1[k - 1] = (p1, p2) := by have := HP.out; rw [getD_get (by omega)] at this; exact this.symm
        rw [e] at B0 B1 hq1 hq2
        exact ⟨B0, B1, hq1, hq2⟩
      have HBP := Lib.hid BP
      clear A0 A1 BP
      have EC2 := hbel.trans (EC.mono hbel.size)
      refine wp_region_soft (fun W => Below wC.heap.size wC W) [true, true, true, true, true, false, true, true, true, true, true, true, true, true, true, true, false, true, true, true, true, true, true, true, true, true, true, true, true, true, false, true, true, true] (by kernel_rfl) (by kernel_rfl) (fun c a d v w h => by cases d <;> exact h) ((Below.refl _ _).drew) ?_
      intro wS HS
      all_goals first | (refine soft_pass rfl HS ?_) | (refine soft_read (v := ?_) rfl (fun W hW => ?_) ?_; rotate_left; (· go_simp; try with_reducible rfl))
      all_goals try simp only [Act.put, List.setIfInBounds_toArray, List.set_cons_zero, List.set_cons_succ]
      all_goals first | (refine soft_pass rfl HS ?_) | (refine soft_read (v := ?_) rfl (fun W hW => ?_) ?_; rotate_left; (· have A_L0 := cell_later hW L0; have A_L1 := cell_later hW L1; have A_M0 := cell_later hW M0; have A_M1 := cell_later hW M1; clear hW; go_simp; try with_reducible rfl))
      all_goals try simp only [Act.put, List.setIfInBounds_toArray, List.set_cons_zero, List.set_cons_succ]
      all_goals first | (refine soft_pass rfl HS ?_) | (refine soft_read (v := ?_) rfl (fun W hW => ?_) ?_; rotate_left; (· go_simp; try with_reducible rfl))
      all_goals try simp only [Act.put, List.setIfInBounds_toArray, List.set_cons_zero, List.set_cons_succ]
      all_goals first | (refine soft_pass rfl HS ?_) | (refine soft_read (v := ?_) rfl (fun W hW => ?_) ?_; rotate_left; (· have A_L0 := cell_later hW L0; have A_L1 := cell_later hW L1; have A_M0 := cell_later hW M0; have A_M1 := cell_later hW M1; clear hW; go_simp; try with_reducible rfl))
      all_goals try simp only [Act.put, List.setIfInBounds_toArray, List.set_cons_zero, List.set_cons_succ]
      all_goals first | (refine soft_pass rfl HS ?_) | (refine soft_read (v := ?_) rfl (fun W hW => ?_) ?_; rotate_left; (· go_simp; try with_reducible rfl))
      all_goals try simp only [Act.put, List.setIfInBounds_toArray, List.set_cons_zero, List.set_cons_succ]
      all_goals first | (refine soft_pass rfl HS ?_) | (refine soft_do rfl (fun K hK => ?_); go_simp; refine (implInRange_c).mono ?_; rintro e wS1 ⟨rfl, rfl⟩; refine hK _ _ HS ?_; clear hK K)
      all_goals try simp only [Act.put, List.setIfInBounds_toArray, List.set_cons_zero, List.set_cons_succ]
      all_goals first | (refine soft_pass rfl HS ?_) | (refine soft_read (v := ?_) rfl (fun W hW => ?_) ?_; rotate_left; (· go_simp; try with_reducible rfl))
      all_goals try simp only [Act.put, List.setIfInBounds_toArray, List.set_cons_zero, List.set_cons_succ]
      all_goals first | (refine soft_pass rfl HS ?_; have hg7 := True.intro) | (refine soft_part (v := ?_) (b := ?_) rfl (fun W hW => ?_) ?_ (fun b hg7 => ?_); rotate_left; rotate_left; (· go_simp; try with_reducible rfl); (· with_reducible rfl); cases b; all_goals first | (exact Bool.noConfusion hg7) | (simp only [Bool.not_eq_true', Bool.not_eq_false'] at hg7) | skip)
      all_goals try simp only [Act.put, List.setIfInBounds_toArray, List.set_cons_zero, List.set_cons_succ]
      all_goals first | (refine soft_pass rfl HS ?_) | (refine soft_read (v := ?_) rfl (fun W hW => ?_) ?_; rotate_left; (· go_simp; try with_reducible rfl))
      all_goals try simp only [Act.put, List.setIfInBounds_toArray, List.set_cons_zero, List.set_cons_succ]
      all_goals first | (refine soft_pass rfl HS ?_) | (refine soft_read (v := ?_) rfl (fun W hW => ?_) ?_; rotate_left; (· have A_L0 := cell_later hW L0; have A_L1 := cell_later hW L1; have A_M0 := cell_later hW M0; have A_M1 := cell_later hW M1; clear hW; go_simp; try with_reducible rfl))
      all_goals try simp only [Act.put, List.setIfInBounds_toArray, List.set_cons_zero, List.set_cons_succ]
      all_goals first | (refine soft_pass rfl HS ?_) | (refine soft_read (v := ?_) rfl (fun W hW => ?_) ?_; rotate_left; (· go_simp; try with_reducible rfl))
      all_goals try simp only [Act.put, List.setIfInBounds_toArray, List.set_cons_zero, List.set_cons_succ]
      all_goals first | (refine soft_pass rfl HS ?_) | (refine soft_read (v := ?_) rfl (fun W hW => ?_) ?_; rotate_left; (· have A_L0 := cell_later hW L0; have A_L1 := cell_later hW L1; have A_M0 := cell_later hW M0; have A_M1 := cell_later hW M1; clear hW; go_simp; try with_reducible rfl))
      all_goals try simp only [Act.put, List.setIfInBounds_toArray, List.set_cons_zero, List.set_cons_succ]
      all_goals first | (refine soft_pass rfl HS ?_) | (refine soft_read (v := ?_) rfl (fun W hW => ?_) ?_; rotate_left; (· go_simp; try with_reducible rfl))
      all_goals try simp only [Act.put, List.setIfInBounds_toArray, List.set_cons_zero, List.set_cons_succ]
      all_goals first | (refine soft_pass rfl HS ?_) | (refine soft_read (v := ?_) rfl (fun W hW => ?_) ?_; rotate_left; (· go_simp; try with_reducible rfl))
      all_goals try simp only [Act.put, List.setIfInBounds_toArray, List.set_cons_zero, List.set_cons_succ]
      all_goals first | (refine soft_pass rfl HS ?_) | (refine soft_read (v := ?_) rfl (fun W hW => ?_) ?_; rotate_left; (· have A_L0 := cell_later hW L0; have A_L1 := cell_later hW L1; have A_M0 := cell_later hW M0; have A_M1 := cell_later hW M1; clear hW; go_simp; try with_reducible rfl))
      all_goals try simp only [Act.put, List.setIfInBounds_toArray, List.set_cons_zero, List.set_cons_succ]
      all_goals first | (refine soft_pass rfl HS ?_) | (refine soft_read (v := ?_) rfl (fun W hW => ?_) ?_; rotate_left; (· go_simp; try with_reducible rfl))
      all_goals try simp only [Act.put, List.setIfInBounds_toArray, List.set_cons_zero, List.set_cons_succ]
      all_goals first | (refine soft_pass rfl HS ?_) | (refine soft_do rfl (fun K hK => ?_); go_simp; refine (implInRange_c).mono ?_; rintro e wS1 ⟨rfl, rfl⟩; refine hK _ _ HS ?_; clear hK K)
      all_goals try simp only [Act.put, List.setIfInBounds_toArray, List.set_cons_zero, List.set_cons_succ]
      all_goals first | (refine soft_pass rfl HS ?_) | (refine soft_read (v := ?_) rfl (fun W hW => ?_) ?_; rotate_left; (· go_simp; try with_reducible rfl))
      all_goals try simp only [Act.put, List.setIfInBounds_toArray, List.set_cons_zero, List.set_cons_succ]
      all_goals first | (refine soft_pass rfl HS ?_) | (refine soft_read (v := ?_) rfl (fun W hW => ?_) ?_; rotate_left; (· go_simp; try with_reducible rfl))
      all_goals try simp only [Act.put, List.setIfInBounds_toArray, List.set_cons_zero, List.set_cons_succ]
      all_goals first | (refine soft_pass rfl HS ?_; have hg19 := True.intro) | (refine soft_part (v := ?_) (b := ?_) rfl (fun W hW => ?_) ?_ (fun b hg19 => ?_); rotate_left; rotate_left; (· go_simp; try with_reducible rfl); (· with_reducible rfl); cases b; all_goals first | (exact Bool.noConfusion hg19) | (simp only [Bool.not_eq_true', Bool.not_eq_false'] at hg19) | skip)
      all_goals try simp only [Act.put, List.setIfInBounds_toArray, List.set_cons_zero, List.set_cons_succ]
      all_goals first | (refine soft_pass rfl HS ?_) | (refine soft_read (v := ?_) rfl (fun W hW => ?_) ?_; rotate_left; (· go_simp; try with_reducible rfl))
      all_goals try simp only [Act.put, List.setIfInBounds_toArray, List.set_cons_zero, List.set_cons_succ]
      all_goals first | (refine soft_pass rfl HS ?_) | (refine soft_read (v := ?_) rfl (fun W hW => ?_) ?_; rotate_left; (· go_simp; try with_reducible rfl))
      all_goals try simp only [Act.put, List.setIfInBounds_toArray, List.set_cons_zero, List.set_cons_succ]
      all_goals first | (refine soft_pass rfl HS ?_; have hg22 := True.intro) | (refine soft_part (v := ?_) (b := ?_) rfl (fun W hW => ?_) ?_ (fun b hg22 => ?_); rotate_left; rotate_left; (· go_simp; try with_reducible rfl); (· with_reducible rfl); cases b; all_goals first | (exact Bool.noConfusion hg22) | (simp only [Bool.not_eq_true', Bool.not_eq_false'] at hg22) | skip)
      all_goals try simp only [Act.put, List.setIfInBounds_toArray, List.set_cons_zero, List.set_cons_succ]
      all_goals try (by_cases hk0 : 0 < k; rotate_left; (· exfalso; simp at hg22; omega); obtain ⟨N0, N1, hq1, hq2⟩ := HBP.out hk0; obtain ⟨m, rfl⟩ := Nat.exists_eq_succ_of_ne_zero (Nat.pos_iff_ne_zero.1 hk0); simp only [Nat.succ_eq_add_one, Nat.add_sub_cancel] at N0 N1; have e2 := wrap_nat m (Nat.le_trans (Nat.le_of_succ_le hk) la); have e3 := Int.natCast_nonneg m; have e4 := Int.ofNat_lt.2 (Nat.lt_of_succ_lt hlt))
      all_goals first | (refine soft_pass rfl HS ?_) | (refine soft_read (v := ?_) rfl (fun W hW => ?_) ?_; rotate_left; (· go_simp; try with_reducible rfl))
      all_goals try simp only [Act.put, List.setIfInBounds_toArray, List.set_cons_zero, List.set_cons_succ]
      all_goals first | (refine soft_pass rfl HS ?_) | (refine soft_read (v := ?_) rfl (fun W hW => ?_) ?_; rotate_left; (· have A_L0 := cell_later hW L0; have A_L1 := cell_later hW L1; have A_M0 := cell_later hW M0; have A_M1 := cell_later hW M1; have A_N0 := cell_later hW N0; have A_N1 := cell_later hW N1; clear hW; go_simp; try with_reducible rfl))
      all_goals try simp only [Act.put, List.setIfInBounds_toArray, List.set_cons_zero, List.set_cons_succ]
      all_goals first | (refine soft_pass rfl HS ?_) | (refine soft_read (v := ?_) rfl (fun W hW => ?_) ?_; rotate_left; (· go_simp; try with_reducible rfl))
      all_goals try simp only [Act.put, List.setIfInBounds_toArray, List.set_cons_zero, List.set_cons_succ]
      all_goals first | (refine soft_pass rfl HS ?_) | (refine soft_read (v := ?_) rfl (fun W hW => ?_) ?_; rotate_left; (· go_simp; try with_reducible rfl))
      all_goals try simp only [Act.put, List.setIfInBounds_toArray, List.set_cons_zero, List.set_cons_succ]
      all_goals first | (refine soft_pass rfl HS ?_) | (refine soft_read (v := ?_) rfl (fun W hW => ?_) ?_; rotate_left; (· go_simp; try with_reducible rfl))
      all_goals try simp only [Act.put, List.setIfInBounds_toArray, List.set_cons_zero, List.set_cons_succ]
      all_goals first | (refine soft_pass rfl HS ?_) | (refine soft_read (v := ?_) rfl (fun W hW => ?_) ?_; rotate_left; (· have A_L0 := cell_later hW L0; have A_L1 := cell_later hW L1; have A_M0 := cell_later hW M0; have A_M1 := cell_later hW M1; have A_N0 := cell_later hW N0; have A_N1 := cell_later hW N1; clear hW; go_simp; try with_reducible rfl))
      all_goals try simp only [Act.put, List.setIfInBounds_toArray, List.set_cons_zero, List.set_cons_succ]
      all_goals first | (refine soft_pass rfl HS ?_) | (refine soft_read (v := ?_) rfl (fun W hW => ?_) ?_; rotate_left; (· have A_L0 := cell_later hW L0; have A_L1 := cell_later hW L1; have A_M0 := cell_later hW M0; have A_M1 := cell_later hW M1; have A_N0 := cell_later hW N0; have A_N1 := cell_later hW N1; clear hW; go_simp; try with_reducible rfl))
      all_goals try simp only [Act.put, List.setIfInBounds_toArray, List.set_cons_zero, List.set_cons_succ]
      all_goals first | (refine soft_pass rfl HS ?_) | (refine soft_do rfl (fun K hK => ?_); go_simp; refine (compareLinks_c (x := (p1, p2)) (y := (y1, y2)) (Rep.flat.raw (Rep.flat_pair (Rep.flat_int hq1) (Rep.flat_int hq2))) (Rep.flat.raw (Rep.flat_pair (Rep.flat_int hr1) (Rep.flat_int hr2)))).mono ?_; rintro e wS1 ⟨rfl, hbS⟩; replace HS := HS.trans (hbS.mono HS.size); refine hK _ _ HS ?_; clear hK K hbS)
      all_goals try simp only [Act.put, List.setIfInBounds_toArray, List.set_cons_zero, List.set_cons_succ]
      all_goals first | (refine soft_pass rfl HS ?_) | (refine soft_read (v := ?_) rfl (fun W hW => ?_) ?_; rotate_left; (· go_simp; try with_reducible rfl))
      all_goals try simp only [Act.put, List.setIfInBounds_toArray, List.set_cons_zero, List.set_cons_succ]
      all_goals first | (refine soft_pass rfl HS ?_) | (refine soft_read (v := ?_) rfl (fun W hW => ?_) ?_; rotate_left; (· go_simp; try with_reducible rfl))
      all_goals try simp only [Act.put, List.setIfInBounds_toArray, List.set_cons_zero, List.set_cons_succ]
      all_goals first | (refine soft_pass rfl HS ?_; have hg33 := True.intro) | (refine soft_part (v := ?_) (b := ?_) rfl (fun W hW => ?_) ?_ (fun b hg33 => ?_); rotate_left; rotate_left; (· go_simp; try with_reducible rfl); (· with_reducible rfl); cases b; all_goals first | (exact Bool.noConfusion hg33) | (simp only [Bool.not_eq_true', Bool.not_eq_false'] at hg33) | skip)
      all_goals try simp only [Act.put, List.setIfInBounds_toArray, List.set_cons_zero, List.set_cons_succ]
      all_goals refine soft_nil ?_
      all_goals have EF := EB.trans ((EC2.trans (HS.mono EC2.size)).mono EB.size)
      all_goals have EG := EC2.trans (HS.mono EC2.size)
      all_goals have HO := HN.out
      all_goals first
        | (have HV := HG.out.trans (show _ = false by simp only [okI, topS, ge_iff_le, Bool.not_true, Bool.not_false, Bool.and_true, Bool.true_and, Bool.and_false, Bool.false_and, Bool.or_true, Bool.true_or, Bool.or_false, Bool.false_or, Bool.not_not, hg7, hg19, hg22, hg33]); have HT := Lib.hid (validTopo_bad (x := (x0, x1)) hlt HV); clear HV HO HN HG HP HBP; go_wp2; go_ret; exact ⟨ret_bool HT.out.symm, EF⟩)
        | (have HV := HG.out.trans (show _ = true by simp only [okI, topS, ge_iff_le, Bool.not_true, Bool.not_false, Bool.and_true, Bool.true_and, Bool.and_false, Bool.false_and, Bool.or_true, Bool.true_or, Bool.or_false, Bool.false_or, Bool.not_not, hg7, hg19, hg22, hg33]); have HT := Lib.hid (allB_succ HO HV); clear HV HO HN HG HP HBP; go_wp2; go_roundw; (case rel => exact ⟨_, by omega, by go_num, HT, EG⟩); (case measure => simp [intOf]; omega))
    · have HT := validTopo_good HN.out hlt hk
      have EF := EB.trans (hbel.mono EB.size)
      go_wp2_with fail
      refine implInRange_c.mono ?_
      rintro e u ⟨rfl, rfl⟩
      go_wp2
      go_ret
      exact ⟨ret_bool HT.symm, EF⟩
theorem validTopo_eq (x : LTopology) : validTopo okI x = validTopo okS x := by
  unfold validTopo
  cases h : inR x.1 1 6
  · simp
  · simp only [Bool.and_true]
    refine allB_congr fun j hj => ?_
    unfold topF okI okS
    have h' : 1 ≤ x.1 ∧ x.1 ≤ 6 := by simpa [inR] using h
    rw [topS_eq (by omega) (by omega)]
    generalize x.2.getD (j - 1) (0, 0) = p
    generalize x.2.getD j (0, 0) = l
    obtain ⟨a, b⟩ := l
    have hc := cmpL_lt p (a, b)
    have hd : (!decide (cmpL p (a, b) ≥ 0)) = pairLt p (a, b) := by
      cases hp : pairLt p (a, b) <;> simp [hp] at hc ⊢ <;> omega
    rw [hd]
    simp only
    by_cases ha : inR a 0 (x.1 - 1) = true
    · have ha' : 0 ≤ a ∧ a ≤ x.1 - 1 := by simpa [inR] using ha
      have hw : IntKind.i64.wrap (a + 1) = a + 1 := by rw [IntWalk.i64_left]; exact IntWalk.wrap64_in _ (by omega)
      rw [hw, ha]
      have he : inR b (a + 1) (x.1 - 1) = (inR b 0 (x.1 - 1) && !decide (a ≥ b)) := by
        rw [Bool.eq_iff_iff]; simp [inR]; omega
      rw [he]
      simp [Bool.and_assoc]
    · have ha : inR a 0 (x.1 - 1) = false := by simpa using ha
      simp [ha]
theorem implValidTopology_c {w : World} {ca : List Value} {x : LTopology} (ha : RTopology.rd w ca x) :
    Calls Tryd.prog 22 #[.agg ca.toArray] w fun e w' => e = .returned (.bool (validTopo okS x)) ∧ Below w.heap.size w w' := by
  rw [← validTopo_eq]; exact implValidTopology_w ha
end Go.Proofs.YtpgnbablhdknnaaDoor

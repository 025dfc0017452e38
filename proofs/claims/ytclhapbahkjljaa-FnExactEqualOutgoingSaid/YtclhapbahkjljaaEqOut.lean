/-
  What goes out: compared.
-/
import Derived.Test.YtclhapbahkjljaaEqData
import Derived.IntWalk
import Derived.Deep.Cut
namespace Go.Proofs.Ytclhapbahkjljaa
open Go.RowKit
set_option linter.unusedVariables false
set_option linter.unusedSimpArgs false
set_option linter.unnecessarySimpa false
def vOutS (x y : LOutgoing) : Bool := !((x.1 != y.1) || ((!(x.2.1 == y.2.1)) || ((!decide (x.2.2.1 = y.2.2.1)) || !decide (x.2.2.2 = y.2.2.2))))
theorem vOutS_eq (x y : LOutgoing) : vOutS x y = decide (x = y) := by
  obtain ⟨x0, x1, x2, x3⟩ := x
  obtain ⟨y0, y1, y2, y3⟩ := y
  rw [Bool.eq_iff_iff]
  simp [vOutS]
def vOut (x y : LOutgoing) : Bool := (((x.1 == y.1) && (x.2.1 == y.2.1)) && decide (x.2.2.1 = y.2.2.1)) && decide (x.2.2.2 = y.2.2.2)
theorem vOut_eq (x y : LOutgoing) : vOut x y = decide (x = y) := by
  obtain ⟨x0, x1, x2, x3⟩ := x
  obtain ⟨y0, y1, y2, y3⟩ := y
  rw [Bool.eq_iff_iff]
  simp [vOut, and_assoc]
set_option maxRecDepth 100000 in
set_option maxHeartbeats 2000000 in
theorem specEqualOutgoing_w {w : World} {va vb : Value} {a b : (List LOutgoing)} (a_0 : (Rep.slice 121 ROutgoing).raw w [va] a) (b_0 : (Rep.slice 121 ROutgoing).raw w [vb] b) :
    Calls Try.prog 41 #[va, vb] w fun e w' => e = .returned (.bool (decide (a = b))) ∧ Below w.heap.size w w' := by
  obtain ⟨aa, capa, hva, la⟩ := Rep.len_raw a_0; obtain rfl : va = _ := by simpa using hva
  obtain ⟨ab, capb, hvb, lb⟩ := Rep.len_raw b_0; obtain rfl : vb = _ := by simpa using hvb
  clear hva hvb
  go_enter Try.func41, Try.ntmps41
  by_cases hl : a.length = b.length
  case neg =>
    have HT := Lib.hid (show decide (a = b) = false by simp; rintro rfl; exact hl rfl)
    have hz : ((a.length : Int) != b.length) = true := by simp; omega
    have hzn : (a.length != b.length) = true := by simpa using hl
    go_wp2
    go_ret
    exact ⟨ret_bool HT.out.symm, Below.refl _ _⟩
  have hz : ((a.length : Int) != b.length) = false := by simp; omega
  have hzn : (a.length != b.length) = false := by simpa using hl
  have HL := Lib.hid hl; clear hl
  go_wp2
  go_loopw [5] (fun i wr => ∃ k : Nat, k ≤ a.length ∧ i = .int .i64 k ∧ Hid (a.take k = b.take k) ∧ Below w.heap.size w wr) (fun i _ => a.length - (intOf i).toNat)
  case atStart => exact ⟨0, Nat.zero_le _, rfl, Lib.hid rfl, Below.refl _ _⟩
  case round =>
    obtain ⟨k, hk, rfl, HN, hbel⟩ := hrel
    by_cases hlt : k < a.length
    · have hlt2 : k < b.length := by have := HL.out; omega
      obtain ⟨pb, po, rfl, pc0, pc1, pc2, pc3, pc4, pc5, pc6, pc7, pc8, pc9, pc10, pr, Ap0, Ap1, Ap2, Ap3, Ap4, Ap5, Ap6, Ap7, Ap8, Ap9, Ap10⟩ := Rep.get11 (a_0.below hbel) (i := k) (by omega) rfl
      obtain ⟨qb, qo, rfl, qc0, qc1, qc2, qc3, qc4, qc5, qc6, qc7, qc8, qc9, qc10, qr, Aq0, Aq1, Aq2, Aq3, Aq4, Aq5, Aq6, Aq7, Aq8, Aq9, Aq10⟩ := Rep.get11 (b_0.below hbel) (i := k) (by omega) rfl
      have hne := fun q => ne_of_get hlt hlt2 q
      have hnx := fun q => take_eq_succ HN.out hlt hlt2 q
      generalize a[k] = x at *
      generalize b[k] = y at *
      have HD : Hid (decide (x = y) = false → decide (a = b) = false) := Lib.hid (fun q => by simp at q; simpa using hne q)
      have HX : Hid (decide (x = y) = true → a.take (k + 1) = b.take (k + 1)) := Lib.hid (fun q => hnx (by simpa using q))
      have HV0 := Lib.hid (vOutS_eq x y)
      clear hne hnx
      obtain ⟨x0, x1, x2, x3⟩ := x
      obtain ⟨y0, y1, y2, y3⟩ := y
      obtain ⟨pv2, pv6, pv7, pv8, phe, p_0, p_1, p_2, p_3, p_4, p_5, p_6, p_7, p_8, p_9, p_10, p_11, p_12, p_13, p_14⟩ := ROutgoing_raw pr
      simp only [List.cons.injEq, and_true] at phe
      obtain ⟨rfl, rfl, rfl, rfl, rfl, rfl, rfl, rfl, rfl, rfl, rfl⟩ := phe
      obtain ⟨pa2, pp2, ph2, pl2⟩ := Rep.len_raw p_3; obtain rfl : pc2 = _ := by simpa using ph2
      clear ph2
      obtain ⟨pa6, pp6, ph6, pl6⟩ := Rep.len_raw p_9; obtain rfl : pc6 = _ := by simpa using ph6
      clear ph6
      obtain ⟨pa7, pp7, ph7, pl7⟩ := Rep.len_raw p_10; obtain rfl : pc7 = _ := by simpa using ph7
      clear ph7
      obtain ⟨pa8, pp8, ph8, pl8⟩ := Rep.len_raw p_12; obtain rfl : pc8 = _ := by simpa using ph8
      clear ph8
      obtain ⟨qv2, qv6, qv7, qv8, qhe, q_0, q_1, q_2, q_3, q_4, q_5, q_6, q_7, q_8, q_9, q_10, q_11, q_12, q_13, q_14⟩ := ROutgoing_raw qr
      simp only [List.cons.injEq, and_true] at qhe
      obtain ⟨rfl, rfl, rfl, rfl, rfl, rfl, rfl, rfl, rfl, rfl, rfl⟩ := qhe
      obtain ⟨qa2, qp2, qh2, ql2⟩ := Rep.len_raw q_3; obtain rfl : qc2 = _ := by simpa using qh2
      clear qh2
      obtain ⟨qa6, qp6, qh6, ql6⟩ := Rep.len_raw q_9; obtain rfl : qc6 = _ := by simpa using qh6
      clear qh6
      obtain ⟨qa7, qp7, qh7, ql7⟩ := Rep.len_raw q_10; obtain rfl : qc7 = _ := by simpa using qh7
      clear qh7
      obtain ⟨qa8, qp8, qh8, ql8⟩ := Rep.len_raw q_12; obtain rfl : qc8 = _ := by simpa using qh8
      clear qh8
      go_wp2_with fail
      refine wp_region_soft (fun W => Below wr.heap.size wr W) [true, true, true, true, true, true, true, true, true, true, true, true, true, true, true, true, true, true, true, true, true, true, true, true, true, true, true, true, true, true, true, true, true, true, true, false, true, true, true, true, true, true, true, true, true, true, true, true, true, false, true, true] (by kernel_rfl) (by kernel_rfl) (fun c a d v w h => by cases d <;> exact h) ((Below.refl _ _).drew) ?_
      intro wS HS
      all_goals first | (refine soft_pass rfl HS ?_) | (refine soft_read (v := ?_) rfl (fun W hW => ?_) ?_; rotate_left; (· go_simp; try with_reducible rfl))
      all_goals try simp only [Act.put, List.setIfInBounds_toArray, List.set_cons_zero, List.set_cons_succ]
      all_goals first | (refine soft_pass rfl HS ?_) | (refine soft_read (v := ?_) rfl (fun W hW => ?_) ?_; rotate_left; (· go_simp; try with_reducible rfl))
      all_goals try simp only [Act.put, List.setIfInBounds_toArray, List.set_cons_zero, List.set_cons_succ]
      all_goals first | (refine soft_pass rfl HS ?_) | (refine soft_read (v := ?_) rfl (fun W hW => ?_) ?_; rotate_left; (· go_simp; try with_reducible rfl))
      all_goals try simp only [Act.put, List.setIfInBounds_toArray, List.set_cons_zero, List.set_cons_succ]
      all_goals first | (refine soft_pass rfl HS ?_) | (refine soft_read (v := ?_) rfl (fun W hW => ?_) ?_; rotate_left; (· go_simp; try with_reducible rfl))
      all_goals try simp only [Act.put, List.setIfInBounds_toArray, List.set_cons_zero, List.set_cons_succ]
      all_goals first | (refine soft_pass rfl HS ?_) | (refine soft_read (v := ?_) rfl (fun W hW => ?_) ?_; rotate_left; (· have A_Ap0 := cell_later hW Ap0; have A_Ap1 := cell_later hW Ap1; have A_Ap2 := cell_later hW Ap2; have A_Ap3 := cell_later hW Ap3; have A_Ap4 := cell_later hW Ap4; have A_Ap5 := cell_later hW Ap5; have A_Ap6 := cell_later hW Ap6; have A_Ap7 := cell_later hW Ap7; have A_Ap8 := cell_later hW Ap8; have A_Ap9 := cell_later hW Ap9; have A_Ap10 := cell_later hW Ap10; have A_Aq0 := cell_later hW Aq0; have A_Aq1 := cell_later hW Aq1; have A_Aq2 := cell_later hW Aq2; have A_Aq3 := cell_later hW Aq3; have A_Aq4 := cell_later hW Aq4; have A_Aq5 := cell_later hW Aq5; have A_Aq6 := cell_later hW Aq6; have A_Aq7 := cell_later hW Aq7; have A_Aq8 := cell_later hW Aq8; have A_Aq9 := cell_later hW Aq9; have A_Aq10 := cell_later hW Aq10; clear hW; go_simp; try with_reducible rfl))
      all_goals try simp only [Act.put, List.setIfInBounds_toArray, List.set_cons_zero, List.set_cons_succ]
      all_goals first | (refine soft_pass rfl HS ?_) | (refine soft_read (v := ?_) rfl (fun W hW => ?_) ?_; rotate_left; (· go_simp; try with_reducible rfl))
      all_goals try simp only [Act.put, List.setIfInBounds_toArray, List.set_cons_zero, List.set_cons_succ]
      all_goals first | (refine soft_pass rfl HS ?_) | (refine soft_read (v := ?_) rfl (fun W hW => ?_) ?_; rotate_left; (· go_simp; try with_reducible rfl))
      all_goals try simp only [Act.put, List.setIfInBounds_toArray, List.set_cons_zero, List.set_cons_succ]
      all_goals first | (refine soft_pass rfl HS ?_) | (refine soft_read (v := ?_) rfl (fun W hW => ?_) ?_; rotate_left; (· go_simp; try with_reducible rfl))
      all_goals try simp only [Act.put, List.setIfInBounds_toArray, List.set_cons_zero, List.set_cons_succ]
      all_goals first | (refine soft_pass rfl HS ?_) | (refine soft_read (v := ?_) rfl (fun W hW => ?_) ?_; rotate_left; (· go_simp; try with_reducible rfl))
      all_goals try simp only [Act.put, List.setIfInBounds_toArray, List.set_cons_zero, List.set_cons_succ]
      all_goals first | (refine soft_pass rfl HS ?_) | (refine soft_read (v := ?_) rfl (fun W hW => ?_) ?_; rotate_left; (· have A_Ap0 := cell_later hW Ap0; have A_Ap1 := cell_later hW Ap1; have A_Ap2 := cell_later hW Ap2; have A_Ap3 := cell_later hW Ap3; have A_Ap4 := cell_later hW Ap4; have A_Ap5 := cell_later hW Ap5; have A_Ap6 := cell_later hW Ap6; have A_Ap7 := cell_later hW Ap7; have A_Ap8 := cell_later hW Ap8; have A_Ap9 := cell_later hW Ap9; have A_Ap10 := cell_later hW Ap10; have A_Aq0 := cell_later hW Aq0; have A_Aq1 := cell_later hW Aq1; have A_Aq2 := cell_later hW Aq2; have A_Aq3 := cell_later hW Aq3; have A_Aq4 := cell_later hW Aq4; have A_Aq5 := cell_later hW Aq5; have A_Aq6 := cell_later hW Aq6; have A_Aq7 := cell_later hW Aq7; have A_Aq8 := cell_later hW Aq8; have A_Aq9 := cell_later hW Aq9; have A_Aq10 := cell_later hW Aq10; clear hW; go_simp; try with_reducible rfl))
      all_goals try simp only [Act.put, List.setIfInBounds_toArray, List.set_cons_zero, List.set_cons_succ]
      all_goals first | (refine soft_pass rfl HS ?_) | (refine soft_read (v := ?_) rfl (fun W hW => ?_) ?_; rotate_left; (· go_simp; try with_reducible rfl))
      all_goals try simp only [Act.put, List.setIfInBounds_toArray, List.set_cons_zero, List.set_cons_succ]
      all_goals first | (refine soft_pass rfl HS ?_; have hg11 := True.intro) | (refine soft_part (v := ?_) (b := ?_) rfl (fun W hW => ?_) ?_ (fun b hg11 => ?_); rotate_left; rotate_left; (· go_simp; try with_reducible rfl); (· with_reducible rfl); cases b; all_goals first | (exact Bool.noConfusion hg11) | (simp only [Bool.not_eq_true', Bool.not_eq_false'] at hg11) | skip)
      all_goals try simp only [Act.put, List.setIfInBounds_toArray, List.set_cons_zero, List.set_cons_succ]
      all_goals first | (refine soft_pass rfl HS ?_) | (refine soft_read (v := ?_) rfl (fun W hW => ?_) ?_; rotate_left; (· go_simp; try with_reducible rfl))
      all_goals try simp only [Act.put, List.setIfInBounds_toArray, List.set_cons_zero, List.set_cons_succ]
      all_goals first | (refine soft_pass rfl HS ?_) | (refine soft_read (v := ?_) rfl (fun W hW => ?_) ?_; rotate_left; (· go_simp; try with_reducible rfl))
      all_goals try simp only [Act.put, List.setIfInBounds_toArray, List.set_cons_zero, List.set_cons_succ]
      all_goals first | (refine soft_pass rfl HS ?_) | (refine soft_read (v := ?_) rfl (fun W hW => ?_) ?_; rotate_left; (· go_simp; try with_reducible rfl))
      all_goals try simp only [Act.put, List.setIfInBounds_toArray, List.set_cons_zero, List.set_cons_succ]
      all_goals first | (refine soft_pass rfl HS ?_) | (refine soft_read (v := ?_) rfl (fun W hW => ?_) ?_; rotate_left; (· go_simp; try with_reducible rfl))
      all_goals try simp only [Act.put, List.setIfInBounds_toArray, List.set_cons_zero, List.set_cons_succ]
      all_goals first | (refine soft_pass rfl HS ?_) | (refine soft_read (v := ?_) rfl (fun W hW => ?_) ?_; rotate_left; (· have A_Ap0 := cell_later hW Ap0; have A_Ap1 := cell_later hW Ap1; have A_Ap2 := cell_later hW Ap2; have A_Ap3 := cell_later hW Ap3; have A_Ap4 := cell_later hW Ap4; have A_Ap5 := cell_later hW Ap5; have A_Ap6 := cell_later hW Ap6; have A_Ap7 := cell_later hW Ap7; have A_Ap8 := cell_later hW Ap8; have A_Ap9 := cell_later hW Ap9; have A_Ap10 := cell_later hW Ap10; have A_Aq0 := cell_later hW Aq0; have A_Aq1 := cell_later hW Aq1; have A_Aq2 := cell_later hW Aq2; have A_Aq3 := cell_later hW Aq3; have A_Aq4 := cell_later hW Aq4; have A_Aq5 := cell_later hW Aq5; have A_Aq6 := cell_later hW Aq6; have A_Aq7 := cell_later hW Aq7; have A_Aq8 := cell_later hW Aq8; have A_Aq9 := cell_later hW Aq9; have A_Aq10 := cell_later hW Aq10; clear hW; go_simp; try with_reducible rfl))
      all_goals try simp only [Act.put, List.setIfInBounds_toArray, List.set_cons_zero, List.set_cons_succ]
      all_goals first | (refine soft_pass rfl HS ?_) | (refine soft_read (v := ?_) rfl (fun W hW => ?_) ?_; rotate_left; (· go_simp; try with_reducible rfl))
      all_goals try simp only [Act.put, List.setIfInBounds_toArray, List.set_cons_zero, List.set_cons_succ]
      all_goals first | (refine soft_pass rfl HS ?_) | (refine soft_read (v := ?_) rfl (fun W hW => ?_) ?_; rotate_left; (· go_simp; try with_reducible rfl))
      all_goals try simp only [Act.put, List.setIfInBounds_toArray, List.set_cons_zero, List.set_cons_succ]
      all_goals first | (refine soft_pass rfl HS ?_) | (refine soft_read (v := ?_) rfl (fun W hW => ?_) ?_; rotate_left; (· go_simp; try with_reducible rfl))
      all_goals try simp only [Act.put, List.setIfInBounds_toArray, List.set_cons_zero, List.set_cons_succ]
      all_goals first | (refine soft_pass rfl HS ?_) | (refine soft_read (v := ?_) rfl (fun W hW => ?_) ?_; rotate_left; (· go_simp; try with_reducible rfl))
      all_goals try simp only [Act.put, List.setIfInBounds_toArray, List.set_cons_zero, List.set_cons_succ]
      all_goals first | (refine soft_pass rfl HS ?_) | (refine soft_read (v := ?_) rfl (fun W hW => ?_) ?_; rotate_left; (· have A_Ap0 := cell_later hW Ap0; have A_Ap1 := cell_later hW Ap1; have A_Ap2 := cell_later hW Ap2; have A_Ap3 := cell_later hW Ap3; have A_Ap4 := cell_later hW Ap4; have A_Ap5 := cell_later hW Ap5; have A_Ap6 := cell_later hW Ap6; have A_Ap7 := cell_later hW Ap7; have A_Ap8 := cell_later hW Ap8; have A_Ap9 := cell_later hW Ap9; have A_Ap10 := cell_later hW Ap10; have A_Aq0 := cell_later hW Aq0; have A_Aq1 := cell_later hW Aq1; have A_Aq2 := cell_later hW Aq2; have A_Aq3 := cell_later hW Aq3; have A_Aq4 := cell_later hW Aq4; have A_Aq5 := cell_later hW Aq5; have A_Aq6 := cell_later hW Aq6; have A_Aq7 := cell_later hW Aq7; have A_Aq8 := cell_later hW Aq8; have A_Aq9 := cell_later hW Aq9; have A_Aq10 := cell_later hW Aq10; clear hW; go_simp; try with_reducible rfl))
      all_goals try simp only [Act.put, List.setIfInBounds_toArray, List.set_cons_zero, List.set_cons_succ]
      all_goals first | (refine soft_pass rfl HS ?_) | (refine soft_read (v := ?_) rfl (fun W hW => ?_) ?_; rotate_left; (· go_simp; try with_reducible rfl))
      all_goals try simp only [Act.put, List.setIfInBounds_toArray, List.set_cons_zero, List.set_cons_succ]
      all_goals first | (refine soft_pass rfl HS ?_) | (refine soft_read (v := ?_) rfl (fun W hW => ?_) ?_; rotate_left; (· go_simp; try with_reducible rfl))
      all_goals try simp only [Act.put, List.setIfInBounds_toArray, List.set_cons_zero, List.set_cons_succ]
      all_goals first | (refine soft_pass rfl HS ?_; have hg24 := True.intro) | (refine soft_part (v := ?_) (b := ?_) rfl (fun W hW => ?_) ?_ (fun b hg24 => ?_); rotate_left; rotate_left; (· go_simp; try with_reducible rfl); (· with_reducible rfl); cases b; all_goals first | (exact Bool.noConfusion hg24) | (simp only [Bool.not_eq_true', Bool.not_eq_false'] at hg24) | skip)
      all_goals try simp only [Act.put, List.setIfInBounds_toArray, List.set_cons_zero, List.set_cons_succ]
      all_goals first | (refine soft_pass rfl HS ?_) | (refine soft_read (v := ?_) rfl (fun W hW => ?_) ?_; rotate_left; (· go_simp; try with_reducible rfl))
      all_goals try simp only [Act.put, List.setIfInBounds_toArray, List.set_cons_zero, List.set_cons_succ]
      all_goals first | (refine soft_pass rfl HS ?_) | (refine soft_read (v := ?_) rfl (fun W hW => ?_) ?_; rotate_left; (· go_simp; try with_reducible rfl))
      all_goals try simp only [Act.put, List.setIfInBounds_toArray, List.set_cons_zero, List.set_cons_succ]
      all_goals first | (refine soft_pass rfl HS ?_) | (refine soft_read (v := ?_) rfl (fun W hW => ?_) ?_; rotate_left; (· go_simp; try with_reducible rfl))
      all_goals try simp only [Act.put, List.setIfInBounds_toArray, List.set_cons_zero, List.set_cons_succ]
      all_goals first | (refine soft_pass rfl HS ?_) | (refine soft_read (v := ?_) rfl (fun W hW => ?_) ?_; rotate_left; (· go_simp; try with_reducible rfl))
      all_goals try simp only [Act.put, List.setIfInBounds_toArray, List.set_cons_zero, List.set_cons_succ]
      all_goals first | (refine soft_pass rfl HS ?_) | (refine soft_read (v := ?_) rfl (fun W hW => ?_) ?_; rotate_left; (· have A_Ap0 := cell_later hW Ap0; have A_Ap1 := cell_later hW Ap1; have A_Ap2 := cell_later hW Ap2; have A_Ap3 := cell_later hW Ap3; have A_Ap4 := cell_later hW Ap4; have A_Ap5 := cell_later hW Ap5; have A_Ap6 := cell_later hW Ap6; have A_Ap7 := cell_later hW Ap7; have A_Ap8 := cell_later hW Ap8; have A_Ap9 := cell_later hW Ap9; have A_Ap10 := cell_later hW Ap10; have A_Aq0 := cell_later hW Aq0; have A_Aq1 := cell_later hW Aq1; have A_Aq2 := cell_later hW Aq2; have A_Aq3 := cell_later hW Aq3; have A_Aq4 := cell_later hW Aq4; have A_Aq5 := cell_later hW Aq5; have A_Aq6 := cell_later hW Aq6; have A_Aq7 := cell_later hW Aq7; have A_Aq8 := cell_later hW Aq8; have A_Aq9 := cell_later hW Aq9; have A_Aq10 := cell_later hW Aq10; clear hW; go_simp; try with_reducible rfl))
      all_goals try simp only [Act.put, List.setIfInBounds_toArray, List.set_cons_zero, List.set_cons_succ]
      all_goals first | (refine soft_pass rfl HS ?_) | (refine soft_read (v := ?_) rfl (fun W hW => ?_) ?_; rotate_left; (· go_simp; try with_reducible rfl))
      all_goals try simp only [Act.put, List.setIfInBounds_toArray, List.set_cons_zero, List.set_cons_succ]
      all_goals first | (refine soft_pass rfl HS ?_) | (refine soft_read (v := ?_) rfl (fun W hW => ?_) ?_; rotate_left; (· go_simp; try with_reducible rfl))
      all_goals try simp only [Act.put, List.setIfInBounds_toArray, List.set_cons_zero, List.set_cons_succ]
      all_goals first | (refine soft_pass rfl HS ?_) | (refine soft_read (v := ?_) rfl (fun W hW => ?_) ?_; rotate_left; (· go_simp; try with_reducible rfl))
      all_goals try simp only [Act.put, List.setIfInBounds_toArray, List.set_cons_zero, List.set_cons_succ]
      all_goals first | (refine soft_pass rfl HS ?_) | (refine soft_read (v := ?_) rfl (fun W hW => ?_) ?_; rotate_left; (· go_simp; try with_reducible rfl))
      all_goals try simp only [Act.put, List.setIfInBounds_toArray, List.set_cons_zero, List.set_cons_succ]
      all_goals first | (refine soft_pass rfl HS ?_) | (refine soft_read (v := ?_) rfl (fun W hW => ?_) ?_; rotate_left; (· have A_Ap0 := cell_later hW Ap0; have A_Ap1 := cell_later hW Ap1; have A_Ap2 := cell_later hW Ap2; have A_Ap3 := cell_later hW Ap3; have A_Ap4 := cell_later hW Ap4; have A_Ap5 := cell_later hW Ap5; have A_Ap6 := cell_later hW Ap6; have A_Ap7 := cell_later hW Ap7; have A_Ap8 := cell_later hW Ap8; have A_Ap9 := cell_later hW Ap9; have A_Ap10 := cell_later hW Ap10; have A_Aq0 := cell_later hW Aq0; have A_Aq1 := cell_later hW Aq1; have A_Aq2 := cell_later hW Aq2; have A_Aq3 := cell_later hW Aq3; have A_Aq4 := cell_later hW Aq4; have A_Aq5 := cell_later hW Aq5; have A_Aq6 := cell_later hW Aq6; have A_Aq7 := cell_later hW Aq7; have A_Aq8 := cell_later hW Aq8; have A_Aq9 := cell_later hW Aq9; have A_Aq10 := cell_later hW Aq10; clear hW; go_simp; try with_reducible rfl))
      all_goals try simp only [Act.put, List.setIfInBounds_toArray, List.set_cons_zero, List.set_cons_succ]
      all_goals first | (refine soft_pass rfl HS ?_) | (refine soft_do rfl (fun K hK => ?_); go_simp; refine (specEqualInterests_c (Rep.raw.below p_1 HS) (Rep.raw.below q_1 HS)).mono ?_; rintro e wS1 ⟨rfl, hbS⟩; replace HS := HS.trans (hbS.mono HS.size); refine hK _ _ HS ?_; clear hK K hbS)
      all_goals try simp only [Act.put, List.setIfInBounds_toArray, List.set_cons_zero, List.set_cons_succ]
      all_goals first | (refine soft_pass rfl HS ?_) | (refine soft_read (v := ?_) rfl (fun W hW => ?_) ?_; rotate_left; (· go_simp; try with_reducible rfl))
      all_goals try simp only [Act.put, List.setIfInBounds_toArray, List.set_cons_zero, List.set_cons_succ]
      all_goals first | (refine soft_pass rfl HS ?_) | (refine soft_read (v := ?_) rfl (fun W hW => ?_) ?_; rotate_left; (· go_simp; try with_reducible rfl))
      all_goals try simp only [Act.put, List.setIfInBounds_toArray, List.set_cons_zero, List.set_cons_succ]
      all_goals first | (refine soft_pass rfl HS ?_; have hg38 := True.intro) | (refine soft_part (v := ?_) (b := ?_) rfl (fun W hW => ?_) ?_ (fun b hg38 => ?_); rotate_left; rotate_left; (· go_simp; try with_reducible rfl); (· with_reducible rfl); cases b; all_goals first | (exact Bool.noConfusion hg38) | (simp only [Bool.not_eq_true', Bool.not_eq_false'] at hg38) | skip)
      all_goals try simp only [Act.put, List.setIfInBounds_toArray, List.set_cons_zero, List.set_cons_succ]
      all_goals first | (refine soft_pass rfl HS ?_) | (refine soft_read (v := ?_) rfl (fun W hW => ?_) ?_; rotate_left; (· go_simp; try with_reducible rfl))
      all_goals try simp only [Act.put, List.setIfInBounds_toArray, List.set_cons_zero, List.set_cons_succ]
      all_goals first | (refine soft_pass rfl HS ?_) | (refine soft_read (v := ?_) rfl (fun W hW => ?_) ?_; rotate_left; (· go_simp; try with_reducible rfl))
      all_goals try simp only [Act.put, List.setIfInBounds_toArray, List.set_cons_zero, List.set_cons_succ]
      all_goals first | (refine soft_pass rfl HS ?_) | (refine soft_read (v := ?_) rfl (fun W hW => ?_) ?_; rotate_left; (· go_simp; try with_reducible rfl))
      all_goals try simp only [Act.put, List.setIfInBounds_toArray, List.set_cons_zero, List.set_cons_succ]
      all_goals first | (refine soft_pass rfl HS ?_) | (refine soft_read (v := ?_) rfl (fun W hW => ?_) ?_; rotate_left; (· go_simp; try with_reducible rfl))
      all_goals try simp only [Act.put, List.setIfInBounds_toArray, List.set_cons_zero, List.set_cons_succ]
      all_goals first | (refine soft_pass rfl HS ?_) | (refine soft_read (v := ?_) rfl (fun W hW => ?_) ?_; rotate_left; (· have A_Ap0 := cell_later hW Ap0; have A_Ap1 := cell_later hW Ap1; have A_Ap2 := cell_later hW Ap2; have A_Ap3 := cell_later hW Ap3; have A_Ap4 := cell_later hW Ap4; have A_Ap5 := cell_later hW Ap5; have A_Ap6 := cell_later hW Ap6; have A_Ap7 := cell_later hW Ap7; have A_Ap8 := cell_later hW Ap8; have A_Ap9 := cell_later hW Ap9; have A_Ap10 := cell_later hW Ap10; have A_Aq0 := cell_later hW Aq0; have A_Aq1 := cell_later hW Aq1; have A_Aq2 := cell_later hW Aq2; have A_Aq3 := cell_later hW Aq3; have A_Aq4 := cell_later hW Aq4; have A_Aq5 := cell_later hW Aq5; have A_Aq6 := cell_later hW Aq6; have A_Aq7 := cell_later hW Aq7; have A_Aq8 := cell_later hW Aq8; have A_Aq9 := cell_later hW Aq9; have A_Aq10 := cell_later hW Aq10; clear hW; go_simp; try with_reducible rfl))
      all_goals try simp only [Act.put, List.setIfInBounds_toArray, List.set_cons_zero, List.set_cons_succ]
      all_goals first | (refine soft_pass rfl HS ?_) | (refine soft_read (v := ?_) rfl (fun W hW => ?_) ?_; rotate_left; (· go_simp; try with_reducible rfl))
      all_goals try simp only [Act.put, List.setIfInBounds_toArray, List.set_cons_zero, List.set_cons_succ]
      all_goals first | (refine soft_pass rfl HS ?_) | (refine soft_read (v := ?_) rfl (fun W hW => ?_) ?_; rotate_left; (· go_simp; try with_reducible rfl))
      all_goals try simp only [Act.put, List.setIfInBounds_toArray, List.set_cons_zero, List.set_cons_succ]
      all_goals first | (refine soft_pass rfl HS ?_) | (refine soft_read (v := ?_) rfl (fun W hW => ?_) ?_; rotate_left; (· go_simp; try with_reducible rfl))
      all_goals try simp only [Act.put, List.setIfInBounds_toArray, List.set_cons_zero, List.set_cons_succ]
      all_goals first | (refine soft_pass rfl HS ?_) | (refine soft_read (v := ?_) rfl (fun W hW => ?_) ?_; rotate_left; (· go_simp; try with_reducible rfl))
      all_goals try simp only [Act.put, List.setIfInBounds_toArray, List.set_cons_zero, List.set_cons_succ]
      all_goals first | (refine soft_pass rfl HS ?_) | (refine soft_read (v := ?_) rfl (fun W hW => ?_) ?_; rotate_left; (· have A_Ap0 := cell_later hW Ap0; have A_Ap1 := cell_later hW Ap1; have A_Ap2 := cell_later hW Ap2; have A_Ap3 := cell_later hW Ap3; have A_Ap4 := cell_later hW Ap4; have A_Ap5 := cell_later hW Ap5; have A_Ap6 := cell_later hW Ap6; have A_Ap7 := cell_later hW Ap7; have A_Ap8 := cell_later hW Ap8; have A_Ap9 := cell_later hW Ap9; have A_Ap10 := cell_later hW Ap10; have A_Aq0 := cell_later hW Aq0; have A_Aq1 := cell_later hW Aq1; have A_Aq2 := cell_later hW Aq2; have A_Aq3 := cell_later hW Aq3; have A_Aq4 := cell_later hW Aq4; have A_Aq5 := cell_later hW Aq5; have A_Aq6 := cell_later hW Aq6; have A_Aq7 := cell_later hW Aq7; have A_Aq8 := cell_later hW Aq8; have A_Aq9 := cell_later hW Aq9; have A_Aq10 := cell_later hW Aq10; clear hW; go_simp; try with_reducible rfl))
      all_goals try simp only [Act.put, List.setIfInBounds_toArray, List.set_cons_zero, List.set_cons_succ]
      all_goals first | (refine soft_pass rfl HS ?_) | (refine soft_do rfl (fun K hK => ?_); go_simp; refine (specEqualData_c (Rep.raw.below p_7 HS) (Rep.raw.below q_7 HS)).mono ?_; rintro e wS1 ⟨rfl, hbS⟩; replace HS := HS.trans (hbS.mono HS.size); refine hK _ _ HS ?_; clear hK K hbS)
      all_goals try simp only [Act.put, List.setIfInBounds_toArray, List.set_cons_zero, List.set_cons_succ]
      all_goals first | (refine soft_pass rfl HS ?_) | (refine soft_read (v := ?_) rfl (fun W hW => ?_) ?_; rotate_left; (· go_simp; try with_reducible rfl))
      all_goals try simp only [Act.put, List.setIfInBounds_toArray, List.set_cons_zero, List.set_cons_succ]
      all_goals first | (refine soft_pass rfl HS ?_; have hg51 := True.intro) | (refine soft_part (v := ?_) (b := ?_) rfl (fun W hW => ?_) ?_ (fun b hg51 => ?_); rotate_left; rotate_left; (· go_simp; try with_reducible rfl); (· with_reducible rfl); cases b; all_goals first | (exact Bool.noConfusion hg51) | (simp only [Bool.not_eq_true', Bool.not_eq_false'] at hg51) | skip)
      all_goals try simp only [Act.put, List.setIfInBounds_toArray, List.set_cons_zero, List.set_cons_succ]
      all_goals refine soft_nil ?_
      all_goals have EG := hbel.trans (HS.mono hbel.size)
      all_goals first
        | (have HV := HV0.out.symm.trans (show _ = false by simp only [vOutS, Bool.not_true, Bool.not_false, Bool.and_true, Bool.true_and, Bool.and_false, Bool.false_and, Bool.or_true, Bool.true_or, Bool.or_false, Bool.false_or, Bool.not_not, hg11, hg24, hg38, hg51]); have HT := Lib.hid (HD.out HV); clear HV HV0 HD HX; go_wp2; go_ret; exact ⟨ret_bool HT.out.symm, EG⟩)
        | (have HV := HV0.out.symm.trans (show _ = true by simp only [vOutS, Bool.not_true, Bool.not_false, Bool.and_true, Bool.true_and, Bool.and_false, Bool.false_and, Bool.or_true, Bool.true_or, Bool.or_false, Bool.false_or, Bool.not_not, hg11, hg24, hg38, hg51]); have HT := Lib.hid (HX.out HV); clear HV HV0 HD HX; go_wp2; go_roundw; (case rel => exact ⟨k + 1, by omega, by go_num, HT, EG⟩); (case measure => simp [intOf]; omega))
    · have HT := Lib.hid (show decide (a = b) = true by simp; exact eq_of_take HN.out hlt HL.out)
      go_wp2
      go_ret
      exact ⟨ret_bool HT.out.symm, hbel⟩
set_option maxRecDepth 100000 in
set_option maxHeartbeats 2000000 in
theorem implEqualOutgoing1_c {w : World} {cx : List Value} {x : LOutgoing} (hx : ROutgoing.raw w cx x) {cy : List Value} {y : LOutgoing} (hy : ROutgoing.raw w cy y) :
    Calls Try.prog 85 #[.agg cx.toArray, .agg cy.toArray] w fun e w' => e = .returned (.bool (vOut x y)) ∧ Below w.heap.size w w' := by
  have Hx := Lib.hid hx
  obtain ⟨fxv2, fxv6, fxv7, fxv8, rfl, fx_0, fx_1, fx_2, fx_3, fx_4, fx_5, fx_6, fx_7, fx_8, fx_9, fx_10, fx_11, fx_12, fx_13, fx_14⟩ := ROutgoing_raw hx
  obtain ⟨fxa2, fxp2, fxh2, fxl2⟩ := Rep.len_raw fx_3; obtain rfl : fxv2 = _ := by simpa using fxh2
  clear fxh2
  obtain ⟨fxa6, fxp6, fxh6, fxl6⟩ := Rep.len_raw fx_9; obtain rfl : fxv6 = _ := by simpa using fxh6
  clear fxh6
  obtain ⟨fxa7, fxp7, fxh7, fxl7⟩ := Rep.len_raw fx_10; obtain rfl : fxv7 = _ := by simpa using fxh7
  clear fxh7
  obtain ⟨fxa8, fxp8, fxh8, fxl8⟩ := Rep.len_raw fx_12; obtain rfl : fxv8 = _ := by simpa using fxh8
  clear fxh8
  have Hy := Lib.hid hy
  obtain ⟨fyv2, fyv6, fyv7, fyv8, rfl, fy_0, fy_1, fy_2, fy_3, fy_4, fy_5, fy_6, fy_7, fy_8, fy_9, fy_10, fy_11, fy_12, fy_13, fy_14⟩ := ROutgoing_raw hy
  obtain ⟨fya2, fyp2, fyh2, fyl2⟩ := Rep.len_raw fy_3; obtain rfl : fyv2 = _ := by simpa using fyh2
  clear fyh2
  obtain ⟨fya6, fyp6, fyh6, fyl6⟩ := Rep.len_raw fy_9; obtain rfl : fyv6 = _ := by simpa using fyh6
  clear fyh6
  obtain ⟨fya7, fyp7, fyh7, fyl7⟩ := Rep.len_raw fy_10; obtain rfl : fyv7 = _ := by simpa using fyh7
  clear fyh7
  obtain ⟨fya8, fyp8, fyh8, fyl8⟩ := Rep.len_raw fy_12; obtain rfl : fyv8 = _ := by simpa using fyh8
  clear fyh8
  go_enter Try.func85, Try.ntmps85
  go_upto_region 1 with fail
  generalize hwB : World.alloc (World.alloc w _) _ = wB
  have EB : Below w.heap.size w wB := by rw [← hwB]; exact (by repeat (first | (with_reducible exact Below.refl _ _) | refine Below.alloc ?_ (by simp; try omega) _ | refine Below.drew ?_ | refine Below.setCell ?_ (by simp; try omega) _))
  have K2_0 : wB.cell? ⟨w.heap.size, 0, none⟩ = some (.int .i64 x.1) := by rw [← hwB]; simp [go_sem]
  have K2_1 : wB.cell? ⟨w.heap.size, 1, none⟩ = some (.bool x.2.1) := by rw [← hwB]; simp [go_sem]
  have K2_2 : wB.cell? ⟨w.heap.size, 2, none⟩ = some (.slice fxa2 (x.2.2.1.1).length fxp2) := by rw [← hwB]; simp [go_sem]
  have K2_3 : wB.cell? ⟨w.heap.size, 3, none⟩ = some (.int .i64 x.2.2.1.2.1) := by rw [← hwB]; simp [go_sem]
  have K2_4 : wB.cell? ⟨w.heap.size, 4, none⟩ = some (.int .i64 x.2.2.1.2.2.1) := by rw [← hwB]; simp [go_sem]
  have K2_5 : wB.cell? ⟨w.heap.size, 5, none⟩ = some (.int .i64 x.2.2.1.2.2.2) := by rw [← hwB]; simp [go_sem]
  have K2_6 : wB.cell? ⟨w.heap.size, 6, none⟩ = some (.slice fxa6 (x.2.2.2.1).length fxp6) := by rw [← hwB]; simp [go_sem]
  have K2_7 : wB.cell? ⟨w.heap.size, 7, none⟩ = some (.slice fxa7 (x.2.2.2.2.1).length fxp7) := by rw [← hwB]; simp [go_sem]
  have K2_8 : wB.cell? ⟨w.heap.size, 8, none⟩ = some (.slice fxa8 (x.2.2.2.2.2.1).length fxp8) := by rw [← hwB]; simp [go_sem]
  have K2_9 : wB.cell? ⟨w.heap.size, 9, none⟩ = some (.int .i64 x.2.2.2.2.2.2.1) := by rw [← hwB]; simp [go_sem]
  have K2_10 : wB.cell? ⟨w.heap.size, 10, none⟩ = some (.int .i64 x.2.2.2.2.2.2.2) := by rw [← hwB]; simp [go_sem]
  have K3_0 : wB.cell? ⟨w.heap.size + 1, 0, none⟩ = some (.int .i64 y.1) := by rw [← hwB]; simp [go_sem]
  have K3_1 : wB.cell? ⟨w.heap.size + 1, 1, none⟩ = some (.bool y.2.1) := by rw [← hwB]; simp [go_sem]
  have K3_2 : wB.cell? ⟨w.heap.size + 1, 2, none⟩ = some (.slice fya2 (y.2.2.1.1).length fyp2) := by rw [← hwB]; simp [go_sem]
  have K3_3 : wB.cell? ⟨w.heap.size + 1, 3, none⟩ = some (.int .i64 y.2.2.1.2.1) := by rw [← hwB]; simp [go_sem]
  have K3_4 : wB.cell? ⟨w.heap.size + 1, 4, none⟩ = some (.int .i64 y.2.2.1.2.2.1) := by rw [← hwB]; simp [go_sem]
  have K3_5 : wB.cell? ⟨w.heap.size + 1, 5, none⟩ = some (.int .i64 y.2.2.1.2.2.2) := by rw [← hwB]; simp [go_sem]
  have K3_6 : wB.cell? ⟨w.heap.size + 1, 6, none⟩ = some (.slice fya6 (y.2.2.2.1).length fyp6) := by rw [← hwB]; simp [go_sem]
  have K3_7 : wB.cell? ⟨w.heap.size + 1, 7, none⟩ = some (.slice fya7 (y.2.2.2.2.1).length fyp7) := by rw [← hwB]; simp [go_sem]
  have K3_8 : wB.cell? ⟨w.heap.size + 1, 8, none⟩ = some (.slice fya8 (y.2.2.2.2.2.1).length fyp8) := by rw [← hwB]; simp [go_sem]
  have K3_9 : wB.cell? ⟨w.heap.size + 1, 9, none⟩ = some (.int .i64 y.2.2.2.2.2.2.1) := by rw [← hwB]; simp [go_sem]
  have K3_10 : wB.cell? ⟨w.heap.size + 1, 10, none⟩ = some (.int .i64 y.2.2.2.2.2.2.2) := by rw [← hwB]; simp [go_sem]
  clear hwB
  refine wp_region_soft_plain (fun W => Below wB.heap.size wB W) [true, true, true, true, true, true, true, true, true, true, true, true, true, true, true, true, true, false, true, true, true, true, true, true, false, true, true] (Below.refl _ _) ?_
  intro wS HS
  all_goals first | (refine soft_pass rfl HS ?_) | (refine soft_read (v := ?_) rfl (fun W hW => ?_) ?_; rotate_left; (· go_simp; try with_reducible rfl))
  all_goals try simp only [Act.put, List.setIfInBounds_toArray, List.set_cons_zero, List.set_cons_succ]
  all_goals first | (refine soft_pass rfl HS ?_) | (refine soft_read (v := ?_) rfl (fun W hW => ?_) ?_; rotate_left; (· have A_K2_0 := cell_later hW K2_0; have A_K2_1 := cell_later hW K2_1; have A_K2_2 := cell_later hW K2_2; have A_K2_3 := cell_later hW K2_3; have A_K2_4 := cell_later hW K2_4; have A_K2_5 := cell_later hW K2_5; have A_K2_6 := cell_later hW K2_6; have A_K2_7 := cell_later hW K2_7; have A_K2_8 := cell_later hW K2_8; have A_K2_9 := cell_later hW K2_9; have A_K2_10 := cell_later hW K2_10; have A_K3_0 := cell_later hW K3_0; have A_K3_1 := cell_later hW K3_1; have A_K3_2 := cell_later hW K3_2; have A_K3_3 := cell_later hW K3_3; have A_K3_4 := cell_later hW K3_4; have A_K3_5 := cell_later hW K3_5; have A_K3_6 := cell_later hW K3_6; have A_K3_7 := cell_later hW K3_7; have A_K3_8 := cell_later hW K3_8; have A_K3_9 := cell_later hW K3_9; have A_K3_10 := cell_later hW K3_10; clear hW; go_simp; try with_reducible rfl))
  all_goals try simp only [Act.put, List.setIfInBounds_toArray, List.set_cons_zero, List.set_cons_succ]
  all_goals first | (refine soft_pass rfl HS ?_) | (refine soft_read (v := ?_) rfl (fun W hW => ?_) ?_; rotate_left; (· go_simp; try with_reducible rfl))
  all_goals try simp only [Act.put, List.setIfInBounds_toArray, List.set_cons_zero, List.set_cons_succ]
  all_goals first | (refine soft_pass rfl HS ?_) | (refine soft_read (v := ?_) rfl (fun W hW => ?_) ?_; rotate_left; (· have A_K2_0 := cell_later hW K2_0; have A_K2_1 := cell_later hW K2_1; have A_K2_2 := cell_later hW K2_2; have A_K2_3 := cell_later hW K2_3; have A_K2_4 := cell_later hW K2_4; have A_K2_5 := cell_later hW K2_5; have A_K2_6 := cell_later hW K2_6; have A_K2_7 := cell_later hW K2_7; have A_K2_8 := cell_later hW K2_8; have A_K2_9 := cell_later hW K2_9; have A_K2_10 := cell_later hW K2_10; have A_K3_0 := cell_later hW K3_0; have A_K3_1 := cell_later hW K3_1; have A_K3_2 := cell_later hW K3_2; have A_K3_3 := cell_later hW K3_3; have A_K3_4 := cell_later hW K3_4; have A_K3_5 := cell_later hW K3_5; have A_K3_6 := cell_later hW K3_6; have A_K3_7 := cell_later hW K3_7; have A_K3_8 := cell_later hW K3_8; have A_K3_9 := cell_later hW K3_9; have A_K3_10 := cell_later hW K3_10; clear hW; go_simp; try with_reducible rfl))
  all_goals try simp only [Act.put, List.setIfInBounds_toArray, List.set_cons_zero, List.set_cons_succ]
  all_goals first | (refine soft_pass rfl HS ?_) | (refine soft_read (v := ?_) rfl (fun W hW => ?_) ?_; rotate_left; (· go_simp; try with_reducible rfl))
  all_goals try simp only [Act.put, List.setIfInBounds_toArray, List.set_cons_zero, List.set_cons_succ]
  all_goals first | (refine soft_pass rfl HS ?_; have hg5 := True.intro) | (refine soft_part (v := ?_) (b := ?_) rfl (fun W hW => ?_) ?_ (fun b hg5 => ?_); rotate_left; rotate_left; (· go_simp; try with_reducible rfl); (· with_reducible rfl); cases b; all_goals first | (exact Bool.noConfusion hg5) | (simp only [Bool.not_eq_true', Bool.not_eq_false'] at hg5) | skip)
  all_goals try simp only [Act.put, List.setIfInBounds_toArray, List.set_cons_zero, List.set_cons_succ]
  all_goals first | (refine soft_pass rfl HS ?_) | (refine soft_read (v := ?_) rfl (fun W hW => ?_) ?_; rotate_left; (· go_simp; try with_reducible rfl))
  all_goals try simp only [Act.put, List.setIfInBounds_toArray, List.set_cons_zero, List.set_cons_succ]
  all_goals first | (refine soft_pass rfl HS ?_) | (refine soft_read (v := ?_) rfl (fun W hW => ?_) ?_; rotate_left; (· have A_K2_0 := cell_later hW K2_0; have A_K2_1 := cell_later hW K2_1; have A_K2_2 := cell_later hW K2_2; have A_K2_3 := cell_later hW K2_3; have A_K2_4 := cell_later hW K2_4; have A_K2_5 := cell_later hW K2_5; have A_K2_6 := cell_later hW K2_6; have A_K2_7 := cell_later hW K2_7; have A_K2_8 := cell_later hW K2_8; have A_K2_9 := cell_later hW K2_9; have A_K2_10 := cell_later hW K2_10; have A_K3_0 := cell_later hW K3_0; have A_K3_1 := cell_later hW K3_1; have A_K3_2 := cell_later hW K3_2; have A_K3_3 := cell_later hW K3_3; have A_K3_4 := cell_later hW K3_4; have A_K3_5 := cell_later hW K3_5; have A_K3_6 := cell_later hW K3_6; have A_K3_7 := cell_later hW K3_7; have A_K3_8 := cell_later hW K3_8; have A_K3_9 := cell_later hW K3_9; have A_K3_10 := cell_later hW K3_10; clear hW; go_simp; try with_reducible rfl))
  all_goals try simp only [Act.put, List.setIfInBounds_toArray, List.set_cons_zero, List.set_cons_succ]
  all_goals first | (refine soft_pass rfl HS ?_) | (refine soft_read (v := ?_) rfl (fun W hW => ?_) ?_; rotate_left; (· go_simp; try with_reducible rfl))
  all_goals try simp only [Act.put, List.setIfInBounds_toArray, List.set_cons_zero, List.set_cons_succ]
  all_goals first | (refine soft_pass rfl HS ?_) | (refine soft_read (v := ?_) rfl (fun W hW => ?_) ?_; rotate_left; (· have A_K2_0 := cell_later hW K2_0; have A_K2_1 := cell_later hW K2_1; have A_K2_2 := cell_later hW K2_2; have A_K2_3 := cell_later hW K2_3; have A_K2_4 := cell_later hW K2_4; have A_K2_5 := cell_later hW K2_5; have A_K2_6 := cell_later hW K2_6; have A_K2_7 := cell_later hW K2_7; have A_K2_8 := cell_later hW K2_8; have A_K2_9 := cell_later hW K2_9; have A_K2_10 := cell_later hW K2_10; have A_K3_0 := cell_later hW K3_0; have A_K3_1 := cell_later hW K3_1; have A_K3_2 := cell_later hW K3_2; have A_K3_3 := cell_later hW K3_3; have A_K3_4 := cell_later hW K3_4; have A_K3_5 := cell_later hW K3_5; have A_K3_6 := cell_later hW K3_6; have A_K3_7 := cell_later hW K3_7; have A_K3_8 := cell_later hW K3_8; have A_K3_9 := cell_later hW K3_9; have A_K3_10 := cell_later hW K3_10; clear hW; go_simp; try with_reducible rfl))
  all_goals try simp only [Act.put, List.setIfInBounds_toArray, List.set_cons_zero, List.set_cons_succ]
  all_goals first | (refine soft_pass rfl HS ?_) | (refine soft_read (v := ?_) rfl (fun W hW => ?_) ?_; rotate_left; (· go_simp; try with_reducible rfl))
  all_goals try simp only [Act.put, List.setIfInBounds_toArray, List.set_cons_zero, List.set_cons_succ]
  all_goals first | (refine soft_pass rfl HS ?_) | (refine soft_read (v := ?_) rfl (fun W hW => ?_) ?_; rotate_left; (· go_simp; try with_reducible rfl))
  all_goals try simp only [Act.put, List.setIfInBounds_toArray, List.set_cons_zero, List.set_cons_succ]
  all_goals first | (refine soft_pass rfl HS ?_; have hg12 := True.intro) | (refine soft_part (v := ?_) (b := ?_) rfl (fun W hW => ?_) ?_ (fun b hg12 => ?_); rotate_left; rotate_left; (· go_simp; try with_reducible rfl); (· with_reducible rfl); cases b; all_goals first | (exact Bool.noConfusion hg12) | (simp only [Bool.not_eq_true', Bool.not_eq_false'] at hg12) | skip)
  all_goals try simp only [Act.put, List.setIfInBounds_toArray, List.set_cons_zero, List.set_cons_succ]
  all_goals first | (refine soft_pass rfl HS ?_) | (refine soft_read (v := ?_) rfl (fun W hW => ?_) ?_; rotate_left; (· go_simp; try with_reducible rfl))
  all_goals try simp only [Act.put, List.setIfInBounds_toArray, List.set_cons_zero, List.set_cons_succ]
  all_goals first | (refine soft_pass rfl HS ?_) | (refine soft_read (v := ?_) rfl (fun W hW => ?_) ?_; rotate_left; (· have A_K2_0 := cell_later hW K2_0; have A_K2_1 := cell_later hW K2_1; have A_K2_2 := cell_later hW K2_2; have A_K2_3 := cell_later hW K2_3; have A_K2_4 := cell_later hW K2_4; have A_K2_5 := cell_later hW K2_5; have A_K2_6 := cell_later hW K2_6; have A_K2_7 := cell_later hW K2_7; have A_K2_8 := cell_later hW K2_8; have A_K2_9 := cell_later hW K2_9; have A_K2_10 := cell_later hW K2_10; have A_K3_0 := cell_later hW K3_0; have A_K3_1 := cell_later hW K3_1; have A_K3_2 := cell_later hW K3_2; have A_K3_3 := cell_later hW K3_3; have A_K3_4 := cell_later hW K3_4; have A_K3_5 := cell_later hW K3_5; have A_K3_6 := cell_later hW K3_6; have A_K3_7 := cell_later hW K3_7; have A_K3_8 := cell_later hW K3_8; have A_K3_9 := cell_later hW K3_9; have A_K3_10 := cell_later hW K3_10; clear hW; go_simp; try with_reducible rfl))
  all_goals try simp only [Act.put, List.setIfInBounds_toArray, List.set_cons_zero, List.set_cons_succ]
  all_goals first | (refine soft_pass rfl HS ?_) | (refine soft_read (v := ?_) rfl (fun W hW => ?_) ?_; rotate_left; (· go_simp; try with_reducible rfl))
  all_goals try simp only [Act.put, List.setIfInBounds_toArray, List.set_cons_zero, List.set_cons_succ]
  all_goals first | (refine soft_pass rfl HS ?_) | (refine soft_read (v := ?_) rfl (fun W hW => ?_) ?_; rotate_left; (· have A_K2_0 := cell_later hW K2_0; have A_K2_1 := cell_later hW K2_1; have A_K2_2 := cell_later hW K2_2; have A_K2_3 := cell_later hW K2_3; have A_K2_4 := cell_later hW K2_4; have A_K2_5 := cell_later hW K2_5; have A_K2_6 := cell_later hW K2_6; have A_K2_7 := cell_later hW K2_7; have A_K2_8 := cell_later hW K2_8; have A_K2_9 := cell_later hW K2_9; have A_K2_10 := cell_later hW K2_10; have A_K3_0 := cell_later hW K3_0; have A_K3_1 := cell_later hW K3_1; have A_K3_2 := cell_later hW K3_2; have A_K3_3 := cell_later hW K3_3; have A_K3_4 := cell_later hW K3_4; have A_K3_5 := cell_later hW K3_5; have A_K3_6 := cell_later hW K3_6; have A_K3_7 := cell_later hW K3_7; have A_K3_8 := cell_later hW K3_8; have A_K3_9 := cell_later hW K3_9; have A_K3_10 := cell_later hW K3_10; clear hW; go_simp; try with_reducible rfl))
  all_goals try simp only [Act.put, List.setIfInBounds_toArray, List.set_cons_zero, List.set_cons_succ]
  all_goals first | (refine soft_pass rfl HS ?_) | (refine soft_do rfl (fun K hK => ?_); go_simp; refine (implEqualInterests_c (Rep.raw.below fx_1 (EB.trans (HS.mono EB.size))) (Rep.raw.below fy_1 (EB.trans (HS.mono EB.size)))).mono ?_; rintro e wS1 ⟨rfl, hbS⟩; replace HS := HS.trans (hbS.mono HS.size); refine hK _ _ HS ?_; clear hK K hbS)
  all_goals try simp only [Act.put, List.setIfInBounds_toArray, List.set_cons_zero, List.set_cons_succ]
  all_goals first | (refine soft_pass rfl HS ?_) | (refine soft_read (v := ?_) rfl (fun W hW => ?_) ?_; rotate_left; (· go_simp; try with_reducible rfl))
  all_goals try simp only [Act.put, List.setIfInBounds_toArray, List.set_cons_zero, List.set_cons_succ]
  all_goals first | (refine soft_pass rfl HS ?_; have hg19 := True.intro) | (refine soft_part (v := ?_) (b := ?_) rfl (fun W hW => ?_) ?_ (fun b hg19 => ?_); rotate_left; rotate_left; (· go_simp; try with_reducible rfl); (· with_reducible rfl); cases b; all_goals first | (exact Bool.noConfusion hg19) | (simp only [Bool.not_eq_true', Bool.not_eq_false'] at hg19) | skip)
  all_goals try simp only [Act.put, List.setIfInBounds_toArray, List.set_cons_zero, List.set_cons_succ]
  all_goals first | (refine soft_pass rfl HS ?_) | (refine soft_read (v := ?_) rfl (fun W hW => ?_) ?_; rotate_left; (· go_simp; try with_reducible rfl))
  all_goals try simp only [Act.put, List.setIfInBounds_toArray, List.set_cons_zero, List.set_cons_succ]
  all_goals first | (refine soft_pass rfl HS ?_) | (refine soft_read (v := ?_) rfl (fun W hW => ?_) ?_; rotate_left; (· have A_K2_0 := cell_later hW K2_0; have A_K2_1 := cell_later hW K2_1; have A_K2_2 := cell_later hW K2_2; have A_K2_3 := cell_later hW K2_3; have A_K2_4 := cell_later hW K2_4; have A_K2_5 := cell_later hW K2_5; have A_K2_6 := cell_later hW K2_6; have A_K2_7 := cell_later hW K2_7; have A_K2_8 := cell_later hW K2_8; have A_K2_9 := cell_later hW K2_9; have A_K2_10 := cell_later hW K2_10; have A_K3_0 := cell_later hW K3_0; have A_K3_1 := cell_later hW K3_1; have A_K3_2 := cell_later hW K3_2; have A_K3_3 := cell_later hW K3_3; have A_K3_4 := cell_later hW K3_4; have A_K3_5 := cell_later hW K3_5; have A_K3_6 := cell_later hW K3_6; have A_K3_7 := cell_later hW K3_7; have A_K3_8 := cell_later hW K3_8; have A_K3_9 := cell_later hW K3_9; have A_K3_10 := cell_later hW K3_10; clear hW; go_simp; try with_reducible rfl))
  all_goals try simp only [Act.put, List.setIfInBounds_toArray, List.set_cons_zero, List.set_cons_succ]
  all_goals first | (refine soft_pass rfl HS ?_) | (refine soft_read (v := ?_) rfl (fun W hW => ?_) ?_; rotate_left; (· go_simp; try with_reducible rfl))
  all_goals try simp only [Act.put, List.setIfInBounds_toArray, List.set_cons_zero, List.set_cons_succ]
  all_goals first | (refine soft_pass rfl HS ?_) | (refine soft_read (v := ?_) rfl (fun W hW => ?_) ?_; rotate_left; (· have A_K2_0 := cell_later hW K2_0; have A_K2_1 := cell_later hW K2_1; have A_K2_2 := cell_later hW K2_2; have A_K2_3 := cell_later hW K2_3; have A_K2_4 := cell_later hW K2_4; have A_K2_5 := cell_later hW K2_5; have A_K2_6 := cell_later hW K2_6; have A_K2_7 := cell_later hW K2_7; have A_K2_8 := cell_later hW K2_8; have A_K2_9 := cell_later hW K2_9; have A_K2_10 := cell_later hW K2_10; have A_K3_0 := cell_later hW K3_0; have A_K3_1 := cell_later hW K3_1; have A_K3_2 := cell_later hW K3_2; have A_K3_3 := cell_later hW K3_3; have A_K3_4 := cell_later hW K3_4; have A_K3_5 := cell_later hW K3_5; have A_K3_6 := cell_later hW K3_6; have A_K3_7 := cell_later hW K3_7; have A_K3_8 := cell_later hW K3_8; have A_K3_9 := cell_later hW K3_9; have A_K3_10 := cell_later hW K3_10; clear hW; go_simp; try with_reducible rfl))
  all_goals try simp only [Act.put, List.setIfInBounds_toArray, List.set_cons_zero, List.set_cons_succ]
  all_goals first | (refine soft_pass rfl HS ?_) | (refine soft_do rfl (fun K hK => ?_); go_simp; refine (implEqualData_c (Rep.raw.below fx_7 (EB.trans (HS.mono EB.size))) (Rep.raw.below fy_7 (EB.trans (HS.mono EB.size)))).mono ?_; rintro e wS1 ⟨rfl, hbS⟩; replace HS := HS.trans (hbS.mono HS.size); refine hK _ _ HS ?_; clear hK K hbS)
  all_goals try simp only [Act.put, List.setIfInBounds_toArray, List.set_cons_zero, List.set_cons_succ]
  all_goals first | (refine soft_pass rfl HS ?_) | (refine soft_read (v := ?_) rfl (fun W hW => ?_) ?_; rotate_left; (· go_simp; try with_reducible rfl))
  all_goals try simp only [Act.put, List.setIfInBounds_toArray, List.set_cons_zero, List.set_cons_succ]
  all_goals first | (refine soft_pass rfl HS ?_; have hg26 := True.intro) | (refine soft_part (v := ?_) (b := ?_) rfl (fun W hW => ?_) ?_ (fun b hg26 => ?_); rotate_left; rotate_left; (· go_simp; try with_reducible rfl); (· with_reducible rfl); cases b; all_goals first | (exact Bool.noConfusion hg26) | (simp only [Bool.not_eq_true', Bool.not_eq_false'] at hg26) | skip)
  all_goals try simp only [Act.put, List.setIfInBounds_toArray, List.set_cons_zero, List.set_cons_succ]
  all_goals refine soft_nil ?_
  all_goals have EG := EB.trans (HS.mono EB.size)
  all_goals first
    | (have HT := Lib.hid (show (vOut x y) = false by simp only [vOut, Bool.not_true, Bool.not_false, Bool.and_true, Bool.true_and, Bool.and_false, Bool.false_and, Bool.or_true, Bool.true_or, Bool.or_false, Bool.false_or, Bool.not_not, hg5, hg12, hg19, hg26]); go_wp2; go_ret; exact ⟨ret_bool HT.out.symm, EG⟩)
    | (have HT := Lib.hid (show (vOut x y) = true by simp only [vOut, Bool.not_true, Bool.not_false, Bool.and_true, Bool.true_and, Bool.and_false, Bool.false_and, Bool.or_true, Bool.true_or, Bool.or_false, Bool.false_or, Bool.not_not, hg5, hg12, hg19, hg26]); go_wp2; go_ret; exact ⟨ret_bool HT.out.symm, EG⟩)
theorem callable_implEqualOutgoing1_c : Callable Try.prog 85 := callable_of Try.func85 (by kernel_rfl) (by kernel_rfl)
set_option maxHeartbeats 400000 in
theorem implEqualOutgoing_w {w : World} {va vb : Value} {a b : List LOutgoing} (a_0 : (Rep.slice 121 ROutgoing).raw w [va] a) (b_0 : (Rep.slice 121 ROutgoing).raw w [vb] b) :
    Calls Try.prog 43 #[va, vb] w fun e w' => e = .returned (.bool (decide (a = b))) ∧ Below w.heap.size w w' := by
  go_enter Try.func43, Try.ntmps43
  go_wp2_with fail
  refine (EqualFunc_Outgoing_c callable_implEqualOutgoing1_c a_0 b_0 ?_).mono ?_
  · intro wr hb cs ds x y hx hy
    have := implEqualOutgoing1_c hx hy
    rw [vOut_eq] at this
    exact this
  rintro e w1 ⟨rfl, hb1⟩
  go_wp2
  go_ret
  exact ⟨rfl, hb1⟩
theorem specEqualOutgoing_c {w : World} {va : Value} {a : (List LOutgoing)} (ha : (Rep.slice 121 ROutgoing).rd w [va] a) {vb : Value} {b : (List LOutgoing)} (hb : (Rep.slice 121 ROutgoing).rd w [vb] b) :
    Calls Try.prog 41 #[va, vb] w fun e w' => e = .returned (.bool (decide (a = b))) ∧ Below w.heap.size w w' := specEqualOutgoing_w ha.1 hb.1
theorem implEqualOutgoing_c {w : World} {va : Value} {a : (List LOutgoing)} (ha : (Rep.slice 121 ROutgoing).rd w [va] a) {vb : Value} {b : (List LOutgoing)} (hb : (Rep.slice 121 ROutgoing).rd w [vb] b) :
    Calls Try.prog 43 #[va, vb] w fun e w' => e = .returned (.bool (decide (a = b))) ∧ Below w.heap.size w w' := implEqualOutgoing_w ha.1 hb.1
end Go.Proofs.Ytclhapbahkjljaa

/-
  Texts, names and numbers compared by the laws.
-/
import Derived.Test.YtikjbdfkdkijkaaName
import Derived.IntWalk
import Derived.Deep.Cut
namespace Go.Proofs.Ytikjbdfkdkijkaa
open Go.RowKit
set_option linter.unusedVariables false
set_option linter.unusedSimpArgs false
set_option linter.unnecessarySimpa false
set_option maxHeartbeats 1000000 in
theorem lawssameTexts_c {w : World} {va vb : Value} {a b : List ByteArray} (a_0 : (Rep.slice 9 Rep.str).raw w [va] a) (b_0 : (Rep.slice 9 Rep.str).raw w [vb] b) :
    Calls Try.prog 118 #[va, vb] w fun e w' => e = .returned (.bool (eqN a b)) ∧ Below w.heap.size w w' := by
  obtain ⟨aa, capa, hva, la⟩ := Rep.len_raw a_0; obtain rfl : va = _ := by simpa using hva
  obtain ⟨ab, capb, hvb, lb⟩ := Rep.len_raw b_0; obtain rfl : vb = _ := by simpa using hvb
  clear hva hvb
  go_enter Try.func118, Try.ntmps118
  by_cases hl : a.length = b.length
  case neg =>
    have HT := Lib.hid (show eqN a b = false by unfold eqN; simp; rintro rfl; exact hl rfl)
    have hz : ((a.length : Int) != b.length) = true := by simp; omega
    have hzn : (a.length != b.length) = true := by simpa using hl
    go_wp2
    go_ret
    exact ⟨ret_bool HT.out.symm, Below.refl _ _⟩
  have hz : ((a.length : Int) != b.length) = false := by simp; omega
  have hzn : (a.length != b.length) = false := by simpa using hl
  have HL := Lib.hid hl; clear hl
  go_wp2
  go_loopw [5] (fun i wr => ∃ k : Nat, k ≤ a.length ∧ i = .int .i64 k ∧ Hid (a.take k = b.take k) ∧ Below w.heap.size w wr) (fun i _ => a.length - (intOf i).toNat)
  case atStart => exact ⟨0, Nat.zero_le _, rfl, Lib.hid rfl, Below.refl _ _⟩
  case round =>
    obtain ⟨k, hk, rfl, HN, hbel⟩ := hrel
    by_cases hlt : k < a.length
    · have hlt2 : k < b.length := by have := HL.out; omega
      obtain ⟨ba, offa, rfl, c0, hr, A0⟩ := Rep.get1 (a_0.below hbel) hlt rfl
      obtain ⟨bb, offb, rfl, d0, hr2, B0⟩ := Rep.get1 (b_0.below hbel) hlt2 rfl
      obtain ⟨he, _⟩ := Rep.str_raw hr
      obtain rfl : c0 = _ := by simpa using he
      obtain ⟨he2, _⟩ := Rep.str_raw hr2
      obtain rfl : d0 = _ := by simpa using he2
      clear he he2 hr hr2
      have hne := fun q => ne_of_get hlt hlt2 q
      have hnx := fun q => take_eq_succ HN.out hlt hlt2 q
      generalize a[k] = x at *
      generalize b[k] = y at *
      have HD := Lib.hid hne
      have HX := Lib.hid hnx
      clear hne hnx
      go_wp2_with fail
      refine wp_region_soft (fun W => Below wr.heap.size wr W) [true, true, true, true, true, true, true, true, true] (by kernel_rfl) (by kernel_rfl) (fun c a d v w h => by cases d <;> exact h) ((Below.refl _ _).drew) ?_
      intro wS HS
      all_goals first | (refine soft_pass rfl HS ?_) | (refine soft_read (v := ?_) rfl (fun W hW => ?_) ?_; rotate_left; (· go_simp; try with_reducible rfl))
      all_goals try simp only [Act.put, List.setIfInBounds_toArray, List.set_cons_zero, List.set_cons_succ]
      all_goals first | (refine soft_pass rfl HS ?_) | (refine soft_read (v := ?_) rfl (fun W hW => ?_) ?_; rotate_left; (· go_simp; try with_reducible rfl))
      all_goals try simp only [Act.put, List.setIfInBounds_toArray, List.set_cons_zero, List.set_cons_succ]
      all_goals first | (refine soft_pass rfl HS ?_) | (refine soft_read (v := ?_) rfl (fun W hW => ?_) ?_; rotate_left; (· go_simp; try with_reducible rfl))
      all_goals try simp only [Act.put, List.setIfInBounds_toArray, List.set_cons_zero, List.set_cons_succ]
      all_goals first | (refine soft_pass rfl HS ?_) | (refine soft_read (v := ?_) rfl (fun W hW => ?_) ?_; rotate_left; (· have A_A0 := cell_later hW A0; have A_B0 := cell_later hW B0; clear hW; go_simp; try with_reducible rfl))
      all_goals try simp only [Act.put, List.setIfInBounds_toArray, List.set_cons_zero, List.set_cons_succ]
      all_goals first | (refine soft_pass rfl HS ?_) | (refine soft_read (v := ?_) rfl (fun W hW => ?_) ?_; rotate_left; (· go_simp; try with_reducible rfl))
      all_goals try simp only [Act.put, List.setIfInBounds_toArray, List.set_cons_zero, List.set_cons_succ]
      all_goals first | (refine soft_pass rfl HS ?_) | (refine soft_read (v := ?_) rfl (fun W hW => ?_) ?_; rotate_left; (· go_simp; try with_reducible rfl))
      all_goals try simp only [Act.put, List.setIfInBounds_toArray, List.set_cons_zero, List.set_cons_succ]
      all_goals first | (refine soft_pass rfl HS ?_) | (refine soft_read (v := ?_) rfl (fun W hW => ?_) ?_; rotate_left; (· go_simp; try with_reducible rfl))
      all_goals try simp only [Act.put, List.setIfInBounds_toArray, List.set_cons_zero, List.set_cons_succ]
      all_goals first | (refine soft_pass rfl HS ?_) | (refine soft_read (v := ?_) rfl (fun W hW => ?_) ?_; rotate_left; (· have A_A0 := cell_later hW A0; have A_B0 := cell_later hW B0; clear hW; go_simp; try with_reducible rfl))
      all_goals try simp only [Act.put, List.setIfInBounds_toArray, List.set_cons_zero, List.set_cons_succ]
      all_goals first | (refine soft_pass rfl HS ?_) | (refine soft_read (v := ?_) rfl (fun W hW => ?_) ?_; rotate_left; (· go_simp; try with_reducible rfl))
      all_goals try simp only [Act.put, List.setIfInBounds_toArray, List.set_cons_zero, List.set_cons_succ]
      all_goals refine soft_nil ?_
      have EG := hbel.trans (HS.mono hbel.size)
      cases hz : (x.toList == y.toList)
      · have HT := Lib.hid (show eqN a b = false by
          rw [ba_beq] at hz; simp at hz; unfold eqN; simp; exact HD.out hz)
        clear HD HX
        go_wp2
        go_ret
        exact ⟨ret_bool HT.out.symm, EG⟩
      · have HT := Lib.hid (HX.out (by rw [ba_beq] at hz; simpa using hz))
        clear HD HX
        go_wp2
        go_roundw
        case rel => exact ⟨k + 1, by omega, by go_num, HT, EG⟩
        case measure => simp [intOf]; omega
    · have HT := Lib.hid (show eqN a b = true by unfold eqN; simp; exact eq_of_take HN.out hlt HL.out)
      go_wp2
      go_ret
      exact ⟨ret_bool HT.out.symm, hbel⟩
set_option maxHeartbeats 1000000 in
theorem lawssameName_c {w : World} {ca : List Value} {a : LName} (ha : RName.raw w ca a) {cb : List Value} {b : LName} (hb : RName.raw w cb b) :
    Calls Try.prog 67 #[.agg ca.toArray, .agg cb.toArray] w fun e w' => e = .returned (.bool (eqN a b)) ∧ Below w.heap.size w w' := by
  obtain ⟨av, rfl, a_0⟩ := RName_raw ha
  obtain ⟨bv, rfl, b_0⟩ := RName_raw hb
  obtain ⟨aa, capa, hva, la⟩ := Rep.len_raw a_0; obtain rfl : av = _ := by simpa using hva
  obtain ⟨ab, capb, hvb, lb⟩ := Rep.len_raw b_0; obtain rfl : bv = _ := by simpa using hvb
  clear hva hvb
  go_enter Try.func67, Try.ntmps67
  go_wp2_with fail
  refine (lawssameTexts_c (a_0.below (by repeat (first | (with_reducible exact Below.refl _ _) | refine Below.alloc ?_ (by simp; try omega) _ | refine Below.drew ?_ | refine Below.setCell ?_ (by simp; try omega) _))) (b_0.below (by repeat (first | (with_reducible exact Below.refl _ _) | refine Below.alloc ?_ (by simp; try omega) _ | refine Below.drew ?_ | refine Below.setCell ?_ (by simp; try omega) _)))).mono ?_
  rintro e w1 ⟨rfl, hb1⟩
  have EF : Below w.heap.size w w1 := Below.trans (by repeat (first | (with_reducible exact Below.refl _ _) | refine Below.alloc ?_ (by simp; try omega) _ | refine Below.drew ?_ | refine Below.setCell ?_ (by simp; try omega) _)) (hb1.mono (by simp; omega))
  clear hb1
  go_wp2
  go_ret
  exact ⟨rfl, EF⟩
end Go.Proofs.Ytikjbdfkdkijkaa

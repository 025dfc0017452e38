/-
  Names: compared.
-/
import Derived.Test.YtlfblpgkegeaeaaGreatNum
import Derived.Test.YtlfblpgkegeaeaaGreatSoft
import Derived.Test.YtlfblpgkegeaeaaGreatInfo
import Derived.Test.YtlfblpgkegeaeaaGreatLib
import Derived.Test.YtlfblpgkegeaeaaGreatTake
import Derived.IntWalk
import Derived.WalkLawsBesides
import Derived.WalkSpells
namespace Go.Proofs.YtlfblpgkegeaeaaGreat
open Go.RowKit
set_option linter.unusedVariables false
set_option linter.unusedSimpArgs false
set_option linter.unnecessarySimpa false
theorem bytesLess_irrefl : ∀ l : List UInt8, Op.bytesLess l l = false
  | [] => rfl
  | a :: l => by simp [Op.bytesLess, bytesLess_irrefl l]
def cmpS (a b : ByteArray) : Int := if Op.bytesLess a.toList b.toList then -1 else if a = b then 0 else 1
theorem cmpS_zero {a b : ByteArray} : cmpS a b = 0 ↔ a = b := by
  unfold cmpS
  constructor
  · intro h
    split at h
    · omega
    · split at h
      · assumption
      · omega
  · rintro rfl
    simp [bytesLess_irrefl]
def cmpN : List ByteArray → List ByteArray → Int
  | [], [] => 0
  | [], _ :: _ => -1
  | _ :: _, [] => 1
  | a :: x, b :: y => if cmpS a b = 0 then cmpN x y else cmpS a b
theorem cmpN_zero : ∀ {x y : List ByteArray}, cmpN x y = 0 ↔ x = y
  | [], [] => by simp [cmpN]
  | [], _ :: _ => by simp [cmpN]
  | _ :: _, [] => by simp [cmpN]
  | a :: x, b :: y => by
    unfold cmpN
    by_cases h : cmpS a b = 0
    · rw [if_pos h, cmpN_zero (x := x) (y := y)]
      have := cmpS_zero.1 h
      subst this
      simp
    · rw [if_neg h]
      constructor
      · intro q; exact absurd q h
      · intro q
        simp only [List.cons.injEq] at q
        exact absurd (cmpS_zero.2 q.1) h
theorem cmpN_diff : ∀ {x y : List ByteArray} {k : Nat} (hx : k < x.length) (hy : k < y.length), x.take k = y.take k → ¬ cmpS x[k] y[k] = 0 → cmpN x y = cmpS x[k] y[k]
  | [], _, _, hx, _, _, _ => by simp at hx
  | _ :: _, [], _, _, hy, _, _ => by simp at hy
  | a :: x, b :: y, 0, _, _, _, h => by
    simp at h
    simp [cmpN, h]
  | a :: x, b :: y, k + 1, hx, hy, ht, h => by
    simp only [List.take_succ_cons, List.cons.injEq] at ht
    simp only [List.getElem_cons_succ] at h ⊢
    have h0 := cmpS_zero.2 ht.1
    simp only [cmpN, h0, if_true]
    exact cmpN_diff (by simpa using hx) (by simpa using hy) ht.2 h
theorem cmpN_end : ∀ {x y : List ByteArray} {k : Nat}, k ≤ x.length → k ≤ y.length → x.take k = y.take k → ¬ (k < x.length ∧ k < y.length) → cmpN x y = if x.length < y.length then -1 else if y.length < x.length then 1 else 0
  | [], [], _, _, _, _, _ => by simp [cmpN]
  | [], b :: y, _, _, _, _, _ => by simp [cmpN]
  | a :: x, [], _, _, _, _, _ => by simp [cmpN]
  | a :: x, b :: y, 0, _, _, _, h => by simp at h
  | a :: x, b :: y, k + 1, hx, hy, ht, h => by
    simp only [List.take_succ_cons, List.cons.injEq] at ht
    have h0 := cmpS_zero.2 ht.1
    simp only [cmpN, h0, if_true, List.length_cons]
    rw [cmpN_end (k := k) (by simpa using hx) (by simpa using hy) ht.2 (by simpa using h)]
    simp
theorem take_next {x y : List ByteArray} {k : Nat} (hx : k < x.length) (hy : k < y.length) (h : x.take k = y.take k) (e : cmpS x[k] y[k] = 0) : x.take (k + 1) = y.take (k + 1) :=
  take_eq_succ h hx hy (cmpS_zero.1 e)
def eqN (a b : LName) : Bool := decide (a = b)
set_option maxHeartbeats 400000 in
theorem specl4Cmp_c {w : World} {a b : ByteArray} : Calls Tryz.prog 221 #[.string a, .string b] w fun e w' => e = .returned (.int .i64 (cmpS a b)) ∧ w' = w := by
  go_enter Tryz.func221, Tryz.ntmps221
  cases h1 : Op.bytesLess a.toList b.toList
  · cases h2 : (a.toList == b.toList)
    · have HT := Lib.hid (show cmpS a b = 1 by
        unfold cmpS
        rw [h1]
        rw [ba_beq] at h2
        simp at h2
        simp [h2])
      go_wp2
      go_ret
      exact ⟨ret_int HT.out.symm, rfl⟩
    · have HT := Lib.hid (show cmpS a b = 0 by
        rw [ba_beq] at h2
        simp at h2
        exact cmpS_zero.2 h2)
      go_wp2
      go_ret
      exact ⟨ret_int HT.out.symm, rfl⟩
  · have HT := Lib.hid (show cmpS a b = -1 by simp [cmpS, h1])
    go_wp2
    go_ret
    exact ⟨ret_int HT.out.symm, rfl⟩
set_option maxHeartbeats 1000000 in
theorem specCompareNames_c {w : World} {ca cb : List Value} {a b : LName} (ha : RName.raw w ca a) (hb : RName.raw w cb b) :
    Calls Tryz.prog 188 #[.agg ca.toArray, .agg cb.toArray] w fun e w' => e = .returned (.int .i64 (cmpN a b)) ∧ Below w.heap.size w w' := by
  obtain ⟨av, rfl, a_0⟩ := RName_raw ha
  obtain ⟨bv, rfl, b_0⟩ := RName_raw hb
  clear ha hb
  obtain ⟨aa, capa, hva, la⟩ := Rep.len_raw a_0; obtain rfl : av = _ := by simpa using hva
  obtain ⟨ab, capb, hvb, lb⟩ := Rep.len_raw b_0; obtain rfl : bv = _ := by simpa using hvb
  clear hva hvb
  go_enter Tryz.func188, Tryz.ntmps188
  go_wp2
  generalize hwB : World.alloc (World.alloc w _) _ = wB
  have EB : Below w.heap.size w wB := by rw [← hwB]; exact (by repeat (first | (with_reducible exact Below.refl _ _) | refine Below.alloc ?_ (by simp; try omega) _ | refine Below.drew ?_ | refine Below.setCell ?_ (by simp; try omega) _))
  have K0 : wB.cell? ⟨w.heap.size, 0, none⟩ = some (.slice aa a.length capa) := by rw [← hwB]; simp [go_sem]
  have K1 : wB.cell? ⟨w.heap.size + 1, 0, none⟩ = some (.slice ab b.length capb) := by rw [← hwB]; simp [go_sem]
  clear hwB
  replace a_0 := a_0.below EB
  replace b_0 := b_0.below EB
  go_loopw [5] (fun i wr => ∃ k : Nat, k ≤ a.length ∧ k ≤ b.length ∧ i = .int .i64 k ∧ Hid (a.take k = b.take k) ∧ Below wB.heap.size wB wr) (fun i _ => a.length - (intOf i).toNat)
  case atStart => exact ⟨0, Nat.zero_le _, Nat.zero_le _, rfl, Lib.hid rfl, Below.refl _ _⟩
  case round =>
    obtain ⟨k, hk, hk2, rfl, HN, hbel⟩ := hrel
    replace K0 := cell_later hbel K0
    replace K1 := cell_later hbel K1
    by_cases hc : k < a.length ∧ k < b.length
    · obtain ⟨hlt, hlt2⟩ := hc
      have hd : decide ((k : Int) < a.length) = true := by simpa using hlt
      have hdn : decide (k < a.length) = true := by simpa using hlt
      obtain ⟨ba, offa, rfl, c0, hr, A0⟩ := Rep.get1 (a_0.below hbel) hlt rfl
      obtain ⟨bb, offb, rfl, d0, hr2, B0⟩ := Rep.get1 (b_0.below hbel) hlt2 rfl
      obtain ⟨he, _⟩ := Rep.str_raw hr
      obtain rfl : c0 = _ := by simpa using he
      obtain ⟨he2, _⟩ := Rep.str_raw hr2
      obtain rfl : d0 = _ := by simpa using he2
      clear he he2 hr hr2
      have hdf := fun q => cmpN_diff hlt hlt2 HN.out q
      have hnx := fun q => take_next hlt hlt2 HN.out q
      generalize a[k] = x at *
      generalize b[k] = y at *
      have HD := Lib.hid hdf
      have HX := Lib.hid hnx
      clear hdf hnx
      go_wp2_with fail
      refine wp_region_soft (fun W => Below wr.heap.size wr W) [true, true, true, true, true, true, true, true, true, true, false, true] (by kernel_rfl) (by kernel_rfl) (fun c a d v w h => by cases d <;> exact h) ((Below.refl _ _).drew) ?_
      intro wS HS
      all_goals first | (refine soft_pass rfl HS ?_) | (refine soft_read (v := ?_) rfl (fun W hW => ?_) ?_; rotate_left; (· go_simp; try with_reducible rfl))
      all_goals try simp only [Act.put, List.setIfInBounds_toArray, List.set_cons_zero, List.set_cons_succ]
      all_goals first | (refine soft_pass rfl HS ?_) | (refine soft_read (v := ?_) rfl (fun W hW => ?_) ?_; rotate_left; (· have A_K0 := cell_later hW K0; have A_K1 := cell_later hW K1; have A_A0 := cell_later hW A0; have A_B0 := cell_later hW B0; clear hW; go_simp; try with_reducible rfl))
      all_goals try simp only [Act.put, List.setIfInBounds_toArray, List.set_cons_zero, List.set_cons_succ]
      all_goals first | (refine soft_pass rfl HS ?_) | (refine soft_read (v := ?_) rfl (fun W hW => ?_) ?_; rotate_left; (· go_simp; try with_reducible rfl))
      all_goals try simp only [Act.put, List.setIfInBounds_toArray, List.set_cons_zero, List.set_cons_succ]
      all_goals first | (refine soft_pass rfl HS ?_) | (refine soft_read (v := ?_) rfl (fun W hW => ?_) ?_; rotate_left; (· go_simp; try with_reducible rfl))
      all_goals try simp only [Act.put, List.setIfInBounds_toArray, List.set_cons_zero, List.set_cons_succ]
      all_goals first | (refine soft_pass rfl HS ?_) | (refine soft_read (v := ?_) rfl (fun W hW => ?_) ?_; rotate_left; (· have A_K0 := cell_later hW K0; have A_K1 := cell_later hW K1; have A_A0 := cell_later hW A0; have A_B0 := cell_later hW B0; clear hW; go_simp; try with_reducible rfl))
      all_goals try simp only [Act.put, List.setIfInBounds_toArray, List.set_cons_zero, List.set_cons_succ]
      all_goals first | (refine soft_pass rfl HS ?_) | (refine soft_read (v := ?_) rfl (fun W hW => ?_) ?_; rotate_left; (· go_simp; try with_reducible rfl))
      all_goals try simp only [Act.put, List.setIfInBounds_toArray, List.set_cons_zero, List.set_cons_succ]
      all_goals first | (refine soft_pass rfl HS ?_) | (refine soft_read (v := ?_) rfl (fun W hW => ?_) ?_; rotate_left; (· have A_K0 := cell_later hW K0; have A_K1 := cell_later hW K1; have A_A0 := cell_later hW A0; have A_B0 := cell_later hW B0; clear hW; go_simp; try with_reducible rfl))
      all_goals try simp only [Act.put, List.setIfInBounds_toArray, List.set_cons_zero, List.set_cons_succ]
      all_goals first | (refine soft_pass rfl HS ?_) | (refine soft_read (v := ?_) rfl (fun W hW => ?_) ?_; rotate_left; (· go_simp; try with_reducible rfl))
      all_goals try simp only [Act.put, List.setIfInBounds_toArray, List.set_cons_zero, List.set_cons_succ]
      all_goals first | (refine soft_pass rfl HS ?_) | (refine soft_read (v := ?_) rfl (fun W hW => ?_) ?_; rotate_left; (· go_simp; try with_reducible rfl))
      all_goals try simp only [Act.put, List.setIfInBounds_toArray, List.set_cons_zero, List.set_cons_succ]
      all_goals first | (refine soft_pass rfl HS ?_) | (refine soft_read (v := ?_) rfl (fun W hW => ?_) ?_; rotate_left; (· have A_K0 := cell_later hW K0; have A_K1 := cell_later hW K1; have A_A0 := cell_later hW A0; have A_B0 := cell_later hW B0; clear hW; go_simp; try with_reducible rfl))
      all_goals try simp only [Act.put, List.setIfInBounds_toArray, List.set_cons_zero, List.set_cons_succ]
      all_goals first | (refine soft_pass rfl HS ?_) | (refine soft_do rfl (fun K hK => ?_); go_simp; refine (specl4Cmp_c).mono ?_; rintro e wS1 ⟨rfl, hwS⟩; obtain rfl := hwS.symm; refine hK _ _ HS ?_; clear hK K)
      all_goals try simp only [Act.put, List.setIfInBounds_toArray, List.set_cons_zero, List.set_cons_succ]
      all_goals first | (refine soft_pass rfl HS ?_) | (refine soft_read (v := ?_) rfl (fun W hW => ?_) ?_; rotate_left; (· go_simp; try with_reducible rfl))
      all_goals try simp only [Act.put, List.setIfInBounds_toArray, List.set_cons_zero, List.set_cons_succ]
      all_goals refine soft_nil ?_
      have EF := EB.trans ((hbel.trans (HS.mono hbel.size)).mono EB.size)
      have EG := hbel.trans (HS.mono hbel.size)
      by_cases hz : cmpS x y = 0
      · have HT := Lib.hid (HX.out hz)
        clear HD HX
        have hz' : (cmpS x y == 0) = true := by simpa using hz
        have hz2 : (cmpS x y != 0) = false := by simpa using hz
        clear hz
        go_wp2
        go_roundw
        case rel => exact ⟨k + 1, by omega, by omega, by go_num, HT, EG⟩
        case measure => simp [intOf]; omega
      · have HT := Lib.hid (HD.out hz)
        clear HD HX
        have hz' : (cmpS x y == 0) = false := by simpa using hz
        have hz2 : (cmpS x y != 0) = true := by simpa using hz
        go_wp2
        go_ret
        exact ⟨ret_int HT.out.symm, EF⟩
    · have HT := Lib.hid (cmpN_end hk hk2 HN.out hc)
      have EF := EB.trans (hbel.mono EB.size)
      by_cases h1 : k < a.length
      · have hd : decide ((k : Int) < a.length) = true := by simpa using h1
        have hdn : decide (k < a.length) = true := by simpa using h1
        have h2 : ¬ k < b.length := fun q => hc ⟨h1, q⟩
        have h3 : ¬ (a.length : Int) < b.length := by omega
        have h4 : (b.length : Int) < a.length := by omega
        have HU := Lib.hid (show cmpN a b = 1 by rw [HT.out, if_neg (by omega), if_pos (by omega)])
        clear hc HT
        go_wp2
        all_goals go_ret
        all_goals exact ⟨ret_int HU.out.symm, EF⟩
      · have hd : decide ((k : Int) < a.length) = false := by simpa using h1
        have hdn : decide (k < a.length) = false := by simpa using h1
        clear hc
        by_cases h3 : a.length < b.length
        · have HU := Lib.hid (show cmpN a b = -1 by rw [HT.out, if_pos h3])
          clear HT
          go_wp2
          go_ret
          exact ⟨ret_int HU.out.symm, EF⟩
        · have h4 : ¬ b.length < a.length := by omega
          have HU := Lib.hid (show cmpN a b = 0 by rw [HT.out, if_neg h3, if_neg h4])
          clear HT
          go_wp2
          go_ret
          exact ⟨ret_int HU.out.symm, EF⟩
set_option maxHeartbeats 400000 in
theorem specEqualNames_c {w : World} {ca cb : List Value} {a b : LName} (ha : RName.raw w ca a) (hb : RName.raw w cb b) :
    Calls Tryz.prog 130 #[.agg ca.toArray, .agg cb.toArray] w fun e w' => e = .returned (.bool (eqN a b)) ∧ Below w.heap.size w w' := by
  have HA := Lib.hid ha
  have HB := Lib.hid hb
  obtain ⟨av, rfl, a_0⟩ := RName_raw ha
  obtain ⟨bv, rfl, b_0⟩ := RName_raw hb
  clear ha hb
  obtain ⟨aa, capa, hva, la⟩ := Rep.len_raw a_0; obtain rfl : av = _ := by simpa using hva
  obtain ⟨ab, capb, hvb, lb⟩ := Rep.len_raw b_0; obtain rfl : bv = _ := by simpa using hvb
  clear hva hvb
  go_enter Tryz.func130, Tryz.ntmps130
  go_wp2_with fail
  refine (specCompareNames_c (HA.out.below (by repeat (first | (with_reducible exact Below.refl _ _) | refine Below.alloc ?_ (by simp; try omega) _ | refine Below.drew ?_ | refine Below.setCell ?_ (by simp; try omega) _))) (HB.out.below (by repeat (first | (with_reducible exact Below.refl _ _) | refine Below.alloc ?_ (by simp; try omega) _ | refine Below.drew ?_ | refine Below.setCell ?_ (by simp; try omega) _)))).mono ?_
  rintro e w1 ⟨rfl, hb1⟩
  have EF : Below w.heap.size w w1 := Below.trans (by repeat (first | (with_reducible exact Below.refl _ _) | refine Below.alloc ?_ (by simp; try omega) _ | refine Below.drew ?_ | refine Below.setCell ?_ (by simp; try omega) _)) (hb1.mono (by simp; try omega))
  clear hb1
  go_wp2
  go_ret
  exact ⟨ret_bool (by unfold eqN; rw [Bool.eq_iff_iff]; simp [cmpN_zero]), EF⟩
set_option maxHeartbeats 1000000 in
theorem Equal_string_c {w : World} {va vb : Value} {a b : List ByteArray} (a_0 : (Rep.slice 9 Rep.str).raw w [va] a) (b_0 : (Rep.slice 9 Rep.str).raw w [vb] b) :
    Calls Tryz.prog 193 #[va, vb] w fun e w' => e = .returned (.bool (eqN a b)) ∧ Below w.heap.size w w' := by
  obtain ⟨aa, capa, hva, la⟩ := Rep.len_raw a_0; obtain rfl : va = _ := by simpa using hva
  obtain ⟨ab, capb, hvb, lb⟩ := Rep.len_raw b_0; obtain rfl : vb = _ := by simpa using hvb
  clear hva hvb
  go_enter Tryz.func193, Tryz.ntmps193
  by_cases hl : a.length = b.length
  case neg =>
    have HT := Lib.hid (show eqN a b = false by unfold eqN; simp; rintro rfl; exact hl rfl)
    have hz : ((a.length : Int) != b.length) = true := by simp; omega
    have hzn : (a.length != b.length) = true := by simpa using hl
    go_wp2
    go_ret
    exact ⟨ret_bool HT.out.symm, Below.refl _ _⟩
  have hz : ((a.length : Int) != b.length) = false := by simp; omega
  have hzn : (a.length != b.length) = false := by simpa using hl
  have HL := Lib.hid hl; clear hl
  go_wp2
  go_loopw [13] (fun i wr => ∃ k : Nat, k ≤ a.length ∧ i = .int .i64 k ∧ Hid (a.take k = b.take k) ∧ Below w.heap.size w wr) (fun i _ => a.length - (intOf i).toNat)
  case atStart => exact ⟨0, Nat.zero_le _, rfl, Lib.hid rfl, Below.refl _ _⟩
  case round =>
    obtain ⟨k, hk, rfl, HN, hbel⟩ := hrel
    by_cases hlt : k < a.length
    · have hlt2 : k < b.length := by have := HL.out; omega
      obtain ⟨ba, offa, rfl, c0, hr, A0⟩ := Rep.get1 (a_0.below hbel) hlt rfl
      obtain ⟨bb, offb, rfl, d0, hr2, B0⟩ := Rep.get1 (b_0.below hbel) hlt2 rfl
      obtain ⟨he, _⟩ := Rep.str_raw hr
      obtain rfl : c0 = _ := by simpa using he
      obtain ⟨he2, _⟩ := Rep.str_raw hr2
      obtain rfl : d0 = _ := by simpa using he2
      clear he he2 hr hr2
      have hne := fun q => ne_of_get hlt hlt2 q
      have hnx := fun q => take_eq_succ HN.out hlt hlt2 q
      generalize a[k] = x at *
      generalize b[k] = y at *
      have HD := Lib.hid hne
      have HX := Lib.hid hnx
      clear hne hnx
      go_wp2_with fail
      refine wp_region_soft (fun W => Below wr.heap.size wr W) [true, true, true, true, true, true, true, true, true] (by kernel_rfl) (by kernel_rfl) (fun c a d v w h => by cases d <;> exact h) ((Below.refl _ _).drew) ?_
      intro wS HS
      all_goals first | (refine soft_pass rfl HS ?_) | (refine soft_read (v := ?_) rfl (fun W hW => ?_) ?_; rotate_left; (· go_simp; try with_reducible rfl))
      all_goals try simp only [Act.put, List.setIfInBounds_toArray, List.set_cons_zero, List.set_cons_succ]
      all_goals first | (refine soft_pass rfl HS ?_) | (refine soft_read (v := ?_) rfl (fun W hW => ?_) ?_; rotate_left; (· go_simp; try with_reducible rfl))
      all_goals try simp only [Act.put, List.setIfInBounds_toArray, List.set_cons_zero, List.set_cons_succ]
      all_goals first | (refine soft_pass rfl HS ?_) | (refine soft_read (v := ?_) rfl (fun W hW => ?_) ?_; rotate_left; (· go_simp; try with_reducible rfl))
      all_goals try simp only [Act.put, List.setIfInBounds_toArray, List.set_cons_zero, List.set_cons_succ]
      all_goals first | (refine soft_pass rfl HS ?_) | (refine soft_read (v := ?_) rfl (fun W hW => ?_) ?_; rotate_left; (· have A_A0 := cell_later hW A0; have A_B0 := cell_later hW B0; clear hW; go_simp; try with_reducible rfl))
      all_goals try simp only [Act.put, List.setIfInBounds_toArray, List.set_cons_zero, List.set_cons_succ]
      all_goals first | (refine soft_pass rfl HS ?_) | (refine soft_read (v := ?_) rfl (fun W hW => ?_) ?_; rotate_left; (· go_simp; try with_reducible rfl))
      all_goals try simp only [Act.put, List.setIfInBounds_toArray, List.set_cons_zero, List.set_cons_succ]
      all_goals first | (refine soft_pass rfl HS ?_) | (refine soft_read (v := ?_) rfl (fun W hW => ?_) ?_; rotate_left; (· go_simp; try with_reducible rfl))
      all_goals try simp only [Act.put, List.setIfInBounds_toArray, List.set_cons_zero, List.set_cons_succ]
      all_goals first | (refine soft_pass rfl HS ?_) | (refine soft_read (v := ?_) rfl (fun W hW => ?_) ?_; rotate_left; (· go_simp; try with_reducible rfl))
      all_goals try simp only [Act.put, List.setIfInBounds_toArray, List.set_cons_zero, List.set_cons_succ]
      all_goals first | (refine soft_pass rfl HS ?_) | (refine soft_read (v := ?_) rfl (fun W hW => ?_) ?_; rotate_left; (· have A_A0 := cell_later hW A0; have A_B0 := cell_later hW B0; clear hW; go_simp; try with_reducible rfl))
      all_goals try simp only [Act.put, List.setIfInBounds_toArray, List.set_cons_zero, List.set_cons_succ]
      all_goals first | (refine soft_pass rfl HS ?_) | (refine soft_read (v := ?_) rfl (fun W hW => ?_) ?_; rotate_left; (· go_simp; try with_reducible rfl))
      all_goals try simp only [Act.put, List.setIfInBounds_toArray, List.set_cons_zero, List.set_cons_succ]
      all_goals refine soft_nil ?_
      have EG := hbel.trans (HS.mono hbel.size)
      cases hz : (x.toList == y.toList)
      · have HT := Lib.hid (show eqN a b = false by
          rw [ba_beq] at hz; simp at hz; unfold eqN; simp; exact HD.out hz)
        clear HD HX
        go_wp2
        go_ret
        exact ⟨ret_bool HT.out.symm, EG⟩
      · have HT := Lib.hid (HX.out (by rw [ba_beq] at hz; simpa using hz))
        clear HD HX
        go_wp2
        go_roundw
        case rel => exact ⟨k + 1, by omega, by go_num, HT, EG⟩
        case measure => simp [intOf]; omega
    · have HT := Lib.hid (show eqN a b = true by unfold eqN; simp; exact eq_of_take HN.out hlt HL.out)
      go_wp2
      go_ret
      exact ⟨ret_bool HT.out.symm, hbel⟩
set_option maxHeartbeats 400000 in
theorem implEqualNames_c {w : World} {ca cb : List Value} {a b : LName} (ha : RName.raw w ca a) (hb : RName.raw w cb b) :
    Calls Tryz.prog 146 #[.agg ca.toArray, .agg cb.toArray] w fun e w' => e = .returned (.bool (eqN a b)) ∧ Below w.heap.size w w' := by
  obtain ⟨av, rfl, a_0⟩ := RName_raw ha
  obtain ⟨bv, rfl, b_0⟩ := RName_raw hb
  clear ha hb
  obtain ⟨aa, capa, hva, la⟩ := Rep.len_raw a_0; obtain rfl : av = _ := by simpa using hva
  obtain ⟨ab, capb, hvb, lb⟩ := Rep.len_raw b_0; obtain rfl : bv = _ := by simpa using hvb
  clear hva hvb
  go_enter Tryz.func146, Tryz.ntmps146
  go_wp2_with fail
  refine (Equal_string_c (a_0.below (by repeat (first | (with_reducible exact Below.refl _ _) | refine Below.alloc ?_ (by simp; try omega) _ | refine Below.drew ?_ | refine Below.setCell ?_ (by simp; try omega) _))) (b_0.below (by repeat (first | (with_reducible exact Below.refl _ _) | refine Below.alloc ?_ (by simp; try omega) _ | refine Below.drew ?_ | refine Below.setCell ?_ (by simp; try omega) _)))).mono ?_
  rintro e w1 ⟨rfl, hb1⟩
  have EF : Below w.heap.size w w1 := Below.trans (by repeat (first | (with_reducible exact Below.refl _ _) | refine Below.alloc ?_ (by simp; try omega) _ | refine Below.drew ?_ | refine Below.setCell ?_ (by simp; try omega) _)) (hb1.mono (by simp; try omega))
  clear hb1
  go_wp2
  go_ret
  exact ⟨rfl, EF⟩
end Go.Proofs.YtlfblpgkegeaeaaGreat

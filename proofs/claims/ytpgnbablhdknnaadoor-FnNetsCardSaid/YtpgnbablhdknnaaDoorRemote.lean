/-
  Remote ends.
-/
import Derived.Test.YtpgnbablhdknnaaDoorFace
import Derived.IntWalk
namespace Go.Proofs.YtpgnbablhdknnaaDoor
open Go.RowKit
set_option linter.unusedVariables false
def remE (x : LTopology) (a s : Int) : Int := if inR s 1 (nbrs x a).length then (nbrs x a).getD (s - 1).toNat 0 else -1
def remF (x : LTopology) (a s : Int) : Int := if inR s 1 (nbrs x a).length then faceTo x ((nbrs x a).getD (s - 1).toNat 0) a else 0
theorem rem_no {x : LTopology} {a s : Int} {y : List Int} (hy : y = nbrs x a) (h : inR s 1 y.length = false) : remE x a s = -1 ∧ remF x a s = 0 := by subst hy; simp [remE, remF, h]
theorem rem_yes {x : LTopology} {a : Int} {k : Nat} {y : List Int} (hy : y = nbrs x a) (h : inR ((k : Int) + 1) 1 y.length = true) (hk : k < y.length) : remE x a ((k : Int) + 1) = y[k] ∧ remF x a ((k : Int) + 1) = faceTo x y[k] a := by
  subst hy
  have e : ((k : Int) + 1 - 1).toNat = k := by omega
  simp only [remE, remF, h, if_true, e]
  rw [getD_get hk]
  exact ⟨rfl, rfl⟩
theorem ret_int2 {k : IntKind} {a b c d : Int} (h : a = b) (h2 : c = d) : Ending.returned (.tuple #[.int k a, .int k c]) = .returned (.tuple #[.int k b, .int k d]) := by rw [h, h2]
theorem wrapn (m : Nat) (h : m ≤ 9223372036854775807) : IntKind.i64.wrap (m : Int) = m := by rw [IntWalk.i64_left]; exact IntWalk.wrap64_in _ (by omega)
set_option maxHeartbeats 1000000 in
theorem specRemoteEnd_c {w : World} {ca : List Value} {x : LTopology} {a s : Int} (ha : RTopology.rd w ca x) (hr : -9223372036854775808 ≤ a ∧ a ≤ 9223372036854775807) (_ : -9223372036854775808 ≤ s ∧ s ≤ 9223372036854775807) :
    Calls Tryd.prog 8 #[.agg ca.toArray, .int .i64 a, .int .i64 s] w fun e w' => e = .returned (.tuple #[.int .i64 (remE x a s), .int .i64 (remF x a s)]) ∧ Below w.heap.size w w' := by
  have HA := Lib.hid ha
  have HR := Lib.hid hr
  obtain ⟨av1, rfl, a_0, a_1⟩ := RTopology_raw ha.1
  clear ha hr a_1 a_0
  obtain ⟨y, hyE⟩ : ∃ y, y = nbrs x a := ⟨_, rfl⟩
  have HY := Lib.hid hyE
  have HG := Lib.hid (show ∀ j (h : j < y.length), -9223372036854775808 ≤ y[j] ∧ y[j] ≤ 9223372036854775807 from fun j h => by subst hyE; exact nbrs_get h)
  have H6 : y.length ≤ 6 := by rw [hyE]; exact nbrs_len x a
  clear hyE
  go_enter Tryd.func8, Tryd.ntmps8
  go_wp2_with fail
  refine (specNeighborsOf_c (HA.out.below (by repeat (first | (with_reducible exact Below.refl _ _) | refine Below.alloc ?_ (by simp; try omega) _ | refine Below.drew ?_ | refine Below.setCell ?_ (by simp; try omega) _))) HR.out).mono ?_
  rintro e w1 ⟨v, rfl, O1, hb1⟩
  have hy := O1.raw
  rw [← HY.out] at hy
  have EF : Below w.heap.size w w1 := Below.trans (by repeat (first | (with_reducible exact Below.refl _ _) | refine Below.alloc ?_ (by simp; try omega) _ | refine Below.drew ?_ | refine Below.setCell ?_ (by simp; try omega) _)) (hb1.mono (by simp))
  have XB : Hid (w1.heap[w.heap.size]? = some (.cells #[.int .i64 x.1, av1] 26 (0, 0))) := Lib.hid ((hb1.block _ (by simp)).trans (heap_new_at rfl))
  have L0 := boxCell XB.out (j := 0) (v := .int .i64 x.1) rfl
  have L1 := boxCell XB.out (j := 1) (v := av1) rfl
  obtain ⟨aa, capa, hva, la⟩ := Rep.len_raw hy; obtain rfl : v = _ := by simpa using hva
  clear hva hb1 O1
  go_wp2_with fail
  refine (specl1In_c).mono ?_
  rintro e w2 ⟨rfl, rfl⟩
  cases hin : inR s 1 y.length
  · have HT := Lib.hid (rem_no HY.out hin)
    go_wp2
    go_ret2
    exact ⟨ret_int2 HT.out.1.symm HT.out.2.symm, EF⟩
  · have hq : 1 ≤ s ∧ s ≤ y.length := by simpa [inR] using hin
    obtain ⟨k, rfl⟩ : ∃ k : Nat, s = (k : Int) + 1 := ⟨(s - 1).toNat, by omega⟩
    have hk : k < y.length := by omega
    have HT := Lib.hid (rem_yes HY.out hin hk)
    clear hin hq
    obtain ⟨ba, offa, rfl, c0, hr, A0⟩ := Rep.get1 hy hk rfl
    obtain ⟨he, hrg⟩ := Rep.int_raw hr
    obtain rfl : c0 = _ := by simpa using he
    clear he hr
    have e2 := wrapn k (by omega)
    have e3 := Int.natCast_nonneg k
    have e4 := Int.ofNat_lt.2 hk
    go_wp2_with fail
    refine wp_region_soft (fun W => Below w2.heap.size w2 W) [true, true, true, true, true, true, true, true, true, true, true, true, false, true, true] (by kernel_rfl) (by kernel_rfl) (fun c a d v w h => by cases d <;> exact h) ((Below.refl _ _).drew) ?_
    intro wS HS
    all_goals first | (refine soft_pass rfl HS ?_) | (refine soft_read (v := ?_) rfl (fun W hW => ?_) ?_; rotate_left; (· go_simp; try with_reducible rfl))
    all_goals try simp only [Act.put, List.setIfInBounds_toArray, List.set_cons_zero, List.set_cons_succ]
    all_goals first | (refine soft_pass rfl HS ?_) | (refine soft_read (v := ?_) rfl (fun W hW => ?_) ?_; rotate_left; (· go_simp; try with_reducible rfl))
    all_goals try simp only [Act.put, List.setIfInBounds_toArray, List.set_cons_zero, List.set_cons_succ]
    all_goals first | (refine soft_pass rfl HS ?_) | (refine soft_read (v := ?_) rfl (fun W hW => ?_) ?_; rotate_left; (· go_simp; try with_reducible rfl))
    all_goals try simp only [Act.put, List.setIfInBounds_toArray, List.set_cons_zero, List.set_cons_succ]
    all_goals first | (refine soft_pass rfl HS ?_) | (refine soft_read (v := ?_) rfl (fun W hW => ?_) ?_; rotate_left; (· go_simp; try with_reducible rfl))
    all_goals try simp only [Act.put, List.setIfInBounds_toArray, List.set_cons_zero, List.set_cons_succ]
    all_goals first | (refine soft_pass rfl HS ?_) | (refine soft_read (v := ?_) rfl (fun W hW => ?_) ?_; rotate_left; (· have A_L0 := cell_later hW L0; have A_L1 := cell_later hW L1; have A_A0 := cell_later hW A0; clear hW; go_simp; try with_reducible rfl))
    all_goals try simp only [Act.put, List.setIfInBounds_toArray, List.set_cons_zero, List.set_cons_succ]
    all_goals first | (refine soft_pass rfl HS ?_) | (refine soft_read (v := ?_) rfl (fun W hW => ?_) ?_; rotate_left; (· have A_L0 := cell_later hW L0; have A_L1 := cell_later hW L1; have A_A0 := cell_later hW A0; clear hW; go_simp; try with_reducible rfl))
    all_goals try simp only [Act.put, List.setIfInBounds_toArray, List.set_cons_zero, List.set_cons_succ]
    all_goals first | (refine soft_pass rfl HS ?_) | (refine soft_read (v := ?_) rfl (fun W hW => ?_) ?_; rotate_left; (· go_simp; try with_reducible rfl))
    all_goals try simp only [Act.put, List.setIfInBounds_toArray, List.set_cons_zero, List.set_cons_succ]
    all_goals first | (refine soft_pass rfl HS ?_) | (refine soft_read (v := ?_) rfl (fun W hW => ?_) ?_; rotate_left; (· go_simp; try with_reducible rfl))
    all_goals try simp only [Act.put, List.setIfInBounds_toArray, List.set_cons_zero, List.set_cons_succ]
    all_goals first | (refine soft_pass rfl HS ?_) | (refine soft_read (v := ?_) rfl (fun W hW => ?_) ?_; rotate_left; (· go_simp; try with_reducible rfl))
    all_goals try simp only [Act.put, List.setIfInBounds_toArray, List.set_cons_zero, List.set_cons_succ]
    all_goals first | (refine soft_pass rfl HS ?_) | (refine soft_read (v := ?_) rfl (fun W hW => ?_) ?_; rotate_left; (· go_simp; try with_reducible rfl))
    all_goals try simp only [Act.put, List.setIfInBounds_toArray, List.set_cons_zero, List.set_cons_succ]
    all_goals first | (refine soft_pass rfl HS ?_) | (refine soft_read (v := ?_) rfl (fun W hW => ?_) ?_; rotate_left; (· have A_L0 := cell_later hW L0; have A_L1 := cell_later hW L1; have A_A0 := cell_later hW A0; clear hW; go_simp; try with_reducible rfl))
    all_goals try simp only [Act.put, List.setIfInBounds_toArray, List.set_cons_zero, List.set_cons_succ]
    all_goals first | (refine soft_pass rfl HS ?_) | (refine soft_read (v := ?_) rfl (fun W hW => ?_) ?_; rotate_left; (· go_simp; try with_reducible rfl))
    all_goals try simp only [Act.put, List.setIfInBounds_toArray, List.set_cons_zero, List.set_cons_succ]
    all_goals first | (refine soft_pass rfl HS ?_) | (refine soft_do rfl (fun K hK => ?_); go_simp; refine (specFaceTo_c (HA.out.below (EF.trans (HS.mono EF.size))) hrg HR.out).mono ?_; rintro e wS1 ⟨rfl, hbS⟩; replace HS := HS.trans (hbS.mono HS.size); refine hK _ _ HS ?_; clear hK K hbS)
    all_goals try simp only [Act.put, List.setIfInBounds_toArray, List.set_cons_zero, List.set_cons_succ]
    all_goals first | (refine soft_pass rfl HS ?_) | (refine soft_read (v := ?_) rfl (fun W hW => ?_) ?_; rotate_left; (· go_simp; try with_reducible rfl))
    all_goals try simp only [Act.put, List.setIfInBounds_toArray, List.set_cons_zero, List.set_cons_succ]
    all_goals first | (refine soft_pass rfl HS ?_) | (refine soft_read (v := ?_) rfl (fun W hW => ?_) ?_; rotate_left; (· go_simp; try with_reducible rfl))
    all_goals try simp only [Act.put, List.setIfInBounds_toArray, List.set_cons_zero, List.set_cons_succ]
    all_goals refine soft_nil ?_
    have EG := EF.trans (HS.mono EF.size)
    go_wp2
    go_ret2
    exact ⟨ret_int2 HT.out.1.symm HT.out.2.symm, EG⟩
set_option maxHeartbeats 1000000 in
theorem implRemoteEnd_c {w : World} {ca : List Value} {x : LTopology} {a s : Int} (ha : RTopology.rd w ca x) (hr : -9223372036854775808 ≤ a ∧ a ≤ 9223372036854775807) (_ : -9223372036854775808 ≤ s ∧ s ≤ 9223372036854775807) :
    Calls Tryd.prog 7 #[.agg ca.toArray, .int .i64 a, .int .i64 s] w fun e w' => e = .returned (.tuple #[.int .i64 (remE x a s), .int .i64 (remF x a s)]) ∧ Below w.heap.size w w' := by
  have HA := Lib.hid ha
  have HR := Lib.hid hr
  obtain ⟨av1, rfl, a_0, a_1⟩ := RTopology_raw ha.1
  clear ha hr a_1 a_0
  obtain ⟨y, hyE⟩ : ∃ y, y = nbrs x a := ⟨_, rfl⟩
  have HY := Lib.hid hyE
  have HG := Lib.hid (show ∀ j (h : j < y.length), -9223372036854775808 ≤ y[j] ∧ y[j] ≤ 9223372036854775807 from fun j h => by subst hyE; exact nbrs_get h)
  have H6 : y.length ≤ 6 := by rw [hyE]; exact nbrs_len x a
  clear hyE
  go_enter Tryd.func7, Tryd.ntmps7
  go_wp2_with fail
  refine (implNeighborsOf_c (HA.out.below (by repeat (first | (with_reducible exact Below.refl _ _) | refine Below.alloc ?_ (by simp; try omega) _ | refine Below.drew ?_ | refine Below.setCell ?_ (by simp; try omega) _))) HR.out).mono ?_
  rintro e w1 ⟨v, rfl, O1, hb1⟩
  have hy := O1.raw
  rw [← HY.out] at hy
  have EF : Below w.heap.size w w1 := Below.trans (by repeat (first | (with_reducible exact Below.refl _ _) | refine Below.alloc ?_ (by simp; try omega) _ | refine Below.drew ?_ | refine Below.setCell ?_ (by simp; try omega) _)) (hb1.mono (by simp))
  have XB : Hid (w1.heap[w.heap.size]? = some (.cells #[.int .i64 x.1, av1] 26 (0, 0))) := Lib.hid ((hb1.block _ (by simp)).trans (heap_new_at rfl))
  have L0 := boxCell XB.out (j := 0) (v := .int .i64 x.1) rfl
  have L1 := boxCell XB.out (j := 1) (v := av1) rfl
  obtain ⟨aa, capa, hva, la⟩ := Rep.len_raw hy; obtain rfl : v = _ := by simpa using hva
  clear hva hb1 O1
  go_wp2_with fail
  refine (implInRange_c).mono ?_
  rintro e w2 ⟨rfl, rfl⟩
  cases hin : inR s 1 y.length
  · have HT := Lib.hid (rem_no HY.out hin)
    go_wp2
    go_ret2
    exact ⟨ret_int2 HT.out.1.symm HT.out.2.symm, EF⟩
  · have hq : 1 ≤ s ∧ s ≤ y.length := by simpa [inR] using hin
    obtain ⟨k, rfl⟩ : ∃ k : Nat, s = (k : Int) + 1 := ⟨(s - 1).toNat, by omega⟩
    have hk : k < y.length := by omega
    have HT := Lib.hid (rem_yes HY.out hin hk)
    clear hin hq
    obtain ⟨ba, offa, rfl, c0, hr, A0⟩ := Rep.get1 hy hk rfl
    obtain ⟨he, hrg⟩ := Rep.int_raw hr
    obtain rfl : c0 = _ := by simpa using he
    clear he hr
    have e2 := wrapn k (by omega)
    have e3 := Int.natCast_nonneg k
    have e4 := Int.ofNat_lt.2 hk
    go_wp2_with fail
    refine (implFaceTo_c (HA.out.below EF) hrg HR.out).mono ?_
    rintro e w3 ⟨rfl, hb3⟩
    have EG := EF.trans (hb3.mono EF.size)
    go_wp2
    go_ret2
    exact ⟨ret_int2 HT.out.1.symm HT.out.2.symm, EG⟩
end Go.Proofs.YtpgnbablhdknnaaDoor

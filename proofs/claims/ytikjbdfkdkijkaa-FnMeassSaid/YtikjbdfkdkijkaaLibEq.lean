/-
  slices.EqualFunc at the program's types. Printed by genlib.py.
-/
import Derived.Test.YtikjbdfkdkijkaaLib
namespace Go.Proofs.Ytikjbdfkdkijkaa
open Go.RowKit
set_option linter.unusedVariables false
set_option maxRecDepth 100000 in
set_option maxHeartbeats 1000000 in
theorem EqualFunc_Measurement_c {w : World} {va vb : Value} {a b : List LMeasurement} {g : FuncId} {cp : Array Value} (hg : Callable Try.prog g) (a_0 : (Rep.slice 76 RMeasurement).raw w [va] a) (b_0 : (Rep.slice 76 RMeasurement).raw w [vb] b)
    (hcl : ∀ wr, Below w.heap.size w wr → ∀ (cs ds : List Value) (x y : LMeasurement), RMeasurement.raw wr cs x → RMeasurement.raw wr ds y → Calls Try.prog g (#[.agg cs.toArray, .agg ds.toArray] ++ cp) wr (fun e w' => e = .returned (.bool (decide (x = y))) ∧ Below wr.heap.size wr w')) :
    Calls Try.prog 73 #[va, vb, .func (.func g) #[] cp] w fun e w' => e = .returned (.bool (decide (a = b))) ∧ Below w.heap.size w w' := by
  obtain ⟨aa, capa, hva, la⟩ := Rep.len_raw a_0; obtain rfl : va = _ := by simpa using hva
  obtain ⟨ab, capb, hvb, lb⟩ := Rep.len_raw b_0; obtain rfl : vb = _ := by simpa using hvb
  clear hva hvb
  have HCL := Lib.hid hcl; clear hcl
  unfold Callable at hg
  go_enter Try.func73, Try.ntmps73
  by_cases hl : a.length = b.length
  case neg =>
    have HT := Lib.hid (show decide (a = b) = false by simp; rintro rfl; exact hl rfl)
    have hz : ((a.length : Int) != b.length) = true := by simp; omega
    have hzn : (a.length != b.length) = true := by simpa using hl
    go_wp2
    go_ret
    exact ⟨ret_bool HT.out.symm, Below.refl _ _⟩
  have hz : ((a.length : Int) != b.length) = false := by simp; omega
  have hzn : (a.length != b.length) = false := by simpa using hl
  have HL := Lib.hid hl; clear hl
  go_wp2
  go_loopw [17] (fun i wr => ∃ k : Nat, k ≤ a.length ∧ i = .int .i64 k ∧ Hid (a.take k = b.take k) ∧ Below w.heap.size w wr) (fun i _ => a.length - (intOf i).toNat)
  case atStart => exact ⟨0, Nat.zero_le _, rfl, Lib.hid rfl, Below.refl _ _⟩
  case round =>
    obtain ⟨k, hk, rfl, HN, hbel⟩ := hrel
    by_cases hlt : k < a.length
    · have hlt2 : k < b.length := by have := HL.out; omega
      obtain ⟨pb, po, rfl, pc0, pc1, pc2, pr, Ap0, Ap1, Ap2⟩ := Rep.get3 (a_0.below hbel) (i := k) (by omega) rfl
      obtain ⟨qb, qo, rfl, qc0, qc1, qc2, qr, Aq0, Aq1, Aq2⟩ := Rep.get3 (b_0.below hbel) (i := k) (by omega) rfl
      have hne := fun q => ne_of_get hlt hlt2 q
      have hnx := fun q => take_eq_succ HN.out hlt hlt2 q
      generalize a[k] = x at *
      generalize b[k] = y at *
      have HD := Lib.hid hne; have HX := Lib.hid hnx; have HR := Lib.hid pr; have HR2 := Lib.hid qr
      clear hne hnx
      obtain ⟨pv0, phe, p_0, p_1, p_2, p_3⟩ := RMeasurement_raw pr
      simp only [List.cons.injEq, and_true] at phe
      obtain ⟨rfl, rfl, rfl⟩ := phe
      obtain ⟨pa0, pp0, ph0, pl0⟩ := Rep.len_raw p_1; obtain rfl : pc0 = _ := by simpa using ph0
      clear ph0
      obtain ⟨qv0, qhe, q_0, q_1, q_2, q_3⟩ := RMeasurement_raw qr
      simp only [List.cons.injEq, and_true] at qhe
      obtain ⟨rfl, rfl, rfl⟩ := qhe
      obtain ⟨qa0, qp0, qh0, ql0⟩ := Rep.len_raw q_1; obtain rfl : qc0 = _ := by simpa using qh0
      clear qh0
      have hlI := Int.ofNat_lt.2 hlt2
      have hbp := World.block_lt_of_cell? _ _ Ap0
      have hbq := World.block_lt_of_cell? _ _ Aq0
      simp only at hbp hbq
      go_wp2_with fail
      refine (HCL.out _ (by repeat (first | (with_reducible exact hbel) | refine Below.alloc ?_ (by have := hbel.size; simp; try omega) _ | refine Below.drew ?_)) _ _ x y (HR.out.below (by repeat (first | (with_reducible exact Below.refl _ _) | refine Below.alloc ?_ (by simp; try omega) _))) (HR2.out.below (by repeat (first | (with_reducible exact Below.refl _ _) | refine Below.alloc ?_ (by simp; try omega) _)))).mono ?_
      rintro e w1 ⟨rfl, hb1⟩
      have EG : Below w.heap.size w w1 := Below.trans (by repeat (first | (with_reducible exact hbel) | refine Below.alloc ?_ (by have := hbel.size; simp; try omega) _ | refine Below.drew ?_)) (hb1.mono (by have := hbel.size; simp; try omega))
      clear hb1
      cases hz : decide (x = y)
      · have HT := Lib.hid (show decide (a = b) = false by simp; exact HD.out (by simpa using hz))
        clear HD HX HR HR2
        go_wp2
        go_ret
        exact ⟨ret_bool HT.out.symm, EG⟩
      · have HT := Lib.hid (HX.out (by simpa using hz))
        clear HD HX HR HR2
        go_wp2
        go_roundw
        case rel => exact ⟨k + 1, by omega, by go_num, HT, EG⟩
        case measure => simp [intOf]; omega
    · have HT := Lib.hid (show decide (a = b) = true by simp; exact eq_of_take HN.out hlt HL.out)
      go_wp2
      go_ret
      exact ⟨ret_bool HT.out.symm, hbel⟩
set_option maxRecDepth 100000 in
set_option maxHeartbeats 1000000 in
theorem EqualFunc_PendingInterest_c {w : World} {va vb : Value} {a b : List LPendingInterest} {g : FuncId} {cp : Array Value} (hg : Callable Try.prog g) (a_0 : (Rep.slice 97 RPendingInterest).raw w [va] a) (b_0 : (Rep.slice 97 RPendingInterest).raw w [vb] b)
    (hcl : ∀ wr, Below w.heap.size w wr → ∀ (cs ds : List Value) (x y : LPendingInterest), RPendingInterest.raw wr cs x → RPendingInterest.raw wr ds y → Calls Try.prog g (#[.agg cs.toArray, .agg ds.toArray] ++ cp) wr (fun e w' => e = .returned (.bool (decide (x = y))) ∧ Below wr.heap.size wr w')) :
    Calls Try.prog 95 #[va, vb, .func (.func g) #[] cp] w fun e w' => e = .returned (.bool (decide (a = b))) ∧ Below w.heap.size w w' := by
  obtain ⟨aa, capa, hva, la⟩ := Rep.len_raw a_0; obtain rfl : va = _ := by simpa using hva
  obtain ⟨ab, capb, hvb, lb⟩ := Rep.len_raw b_0; obtain rfl : vb = _ := by simpa using hvb
  clear hva hvb
  have HCL := Lib.hid hcl; clear hcl
  unfold Callable at hg
  go_enter Try.func95, Try.ntmps95
  by_cases hl : a.length = b.length
  case neg =>
    have HT := Lib.hid (show decide (a = b) = false by simp; rintro rfl; exact hl rfl)
    have hz : ((a.length : Int) != b.length) = true := by simp; omega
    have hzn : (a.length != b.length) = true := by simpa using hl
    go_wp2
    go_ret
    exact ⟨ret_bool HT.out.symm, Below.refl _ _⟩
  have hz : ((a.length : Int) != b.length) = false := by simp; omega
  have hzn : (a.length != b.length) = false := by simpa using hl
  have HL := Lib.hid hl; clear hl
  go_wp2
  go_loopw [17] (fun i wr => ∃ k : Nat, k ≤ a.length ∧ i = .int .i64 k ∧ Hid (a.take k = b.take k) ∧ Below w.heap.size w wr) (fun i _ => a.length - (intOf i).toNat)
  case atStart => exact ⟨0, Nat.zero_le _, rfl, Lib.hid rfl, Below.refl _ _⟩
  case round =>
    obtain ⟨k, hk, rfl, HN, hbel⟩ := hrel
    by_cases hlt : k < a.length
    · have hlt2 : k < b.length := by have := HL.out; omega
      obtain ⟨pb, po, rfl, pc0, pc1, pc2, pr, Ap0, Ap1, Ap2⟩ := Rep.get3 (a_0.below hbel) (i := k) (by omega) rfl
      obtain ⟨qb, qo, rfl, qc0, qc1, qc2, qr, Aq0, Aq1, Aq2⟩ := Rep.get3 (b_0.below hbel) (i := k) (by omega) rfl
      have hne := fun q => ne_of_get hlt hlt2 q
      have hnx := fun q => take_eq_succ HN.out hlt hlt2 q
      generalize a[k] = x at *
      generalize b[k] = y at *
      have HD := Lib.hid hne; have HX := Lib.hid hnx; have HR := Lib.hid pr; have HR2 := Lib.hid qr
      clear hne hnx
      obtain ⟨pv0, pv1, phe, p_0, p_1, p_2, p_3⟩ := RPendingInterest_raw pr
      simp only [List.cons.injEq, and_true] at phe
      obtain ⟨rfl, rfl, rfl⟩ := phe
      obtain ⟨pa0, pp0, ph0, pl0⟩ := Rep.len_raw p_1; obtain rfl : pc0 = _ := by simpa using ph0
      clear ph0
      obtain ⟨pa1, pp1, ph1, pl1⟩ := Rep.len_raw p_2; obtain rfl : pc1 = _ := by simpa using ph1
      clear ph1
      obtain ⟨qv0, qv1, qhe, q_0, q_1, q_2, q_3⟩ := RPendingInterest_raw qr
      simp only [List.cons.injEq, and_true] at qhe
      obtain ⟨rfl, rfl, rfl⟩ := qhe
      obtain ⟨qa0, qp0, qh0, ql0⟩ := Rep.len_raw q_1; obtain rfl : qc0 = _ := by simpa using qh0
      clear qh0
      obtain ⟨qa1, qp1, qh1, ql1⟩ := Rep.len_raw q_2; obtain rfl : qc1 = _ := by simpa using qh1
      clear qh1
      have hlI := Int.ofNat_lt.2 hlt2
      have hbp := World.block_lt_of_cell? _ _ Ap0
      have hbq := World.block_lt_of_cell? _ _ Aq0
      simp only at hbp hbq
      go_wp2_with fail
      refine (HCL.out _ (by repeat (first | (with_reducible exact hbel) | refine Below.alloc ?_ (by have := hbel.size; simp; try omega) _ | refine Below.drew ?_)) _ _ x y (HR.out.below (by repeat (first | (with_reducible exact Below.refl _ _) | refine Below.alloc ?_ (by simp; try omega) _))) (HR2.out.below (by repeat (first | (with_reducible exact Below.refl _ _) | refine Below.alloc ?_ (by simp; try omega) _)))).mono ?_
      rintro e w1 ⟨rfl, hb1⟩
      have EG : Below w.heap.size w w1 := Below.trans (by repeat (first | (with_reducible exact hbel) | refine Below.alloc ?_ (by have := hbel.size; simp; try omega) _ | refine Below.drew ?_)) (hb1.mono (by have := hbel.size; simp; try omega))
      clear hb1
      cases hz : decide (x = y)
      · have HT := Lib.hid (show decide (a = b) = false by simp; exact HD.out (by simpa using hz))
        clear HD HX HR HR2
        go_wp2
        go_ret
        exact ⟨ret_bool HT.out.symm, EG⟩
      · have HT := Lib.hid (HX.out (by simpa using hz))
        clear HD HX HR HR2
        go_wp2
        go_roundw
        case rel => exact ⟨k + 1, by omega, by go_num, HT, EG⟩
        case measure => simp [intOf]; omega
    · have HT := Lib.hid (show decide (a = b) = true by simp; exact eq_of_take HN.out hlt HL.out)
      go_wp2
      go_ret
      exact ⟨ret_bool HT.out.symm, hbel⟩
end Go.Proofs.Ytikjbdfkdkijkaa

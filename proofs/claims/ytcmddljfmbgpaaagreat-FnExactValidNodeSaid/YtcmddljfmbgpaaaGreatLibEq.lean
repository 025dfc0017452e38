/-
  slices.EqualFunc at the program's types. Printed by genlib.py.
-/
import Derived.Test.YtcmddljfmbgpaaaGreatLib
namespace Go.Proofs.YtcmddljfmbgpaaaGreat
open Go.RowKit
set_option linter.unusedVariables false
set_option maxRecDepth 100000 in
set_option maxHeartbeats 1000000 in
theorem EqualFunc_Measurement_c {w : World} {va vb : Value} {a b : List LMeasurement} {g : FuncId} {cp : Array Value} (hg : Callable Tryz.prog g) (a_0 : (Rep.slice 145 RMeasurement).raw w [va] a) (b_0 : (Rep.slice 145 RMeasurement).raw w [vb] b)
    (hcl : ∀ wr, Below w.heap.size w wr → ∀ (cs ds : List Value) (x y : LMeasurement), RMeasurement.raw wr cs x → RMeasurement.raw wr ds y → Calls Tryz.prog g (#[.agg cs.toArray, .agg ds.toArray] ++ cp) wr (fun e w' => e = .returned (.bool (decide (x = y))) ∧ Below wr.heap.size wr w')) :
    Calls Tryz.prog 188 #[va, vb, .func (.func g) #[] cp] w fun e w' => e = .returned (.bool (decide (a = b))) ∧ Below w.heap.size w w' := by
  obtain ⟨aa, capa, hva, la⟩ := Rep.len_raw a_0; obtain rfl : va = _ := by simpa using hva
  obtain ⟨ab, capb, hvb, lb⟩ := Rep.len_raw b_0; obtain rfl : vb = _ := by simpa using hvb
  clear hva hvb
  have HCL := Lib.hid hcl; clear hcl
  unfold Callable at hg
  go_enter Tryz.func188, Tryz.ntmps188
  by_cases hl : a.length = b.length
  case neg =>
    have HT := Lib.hid (show decide (a = b) = false by simp; rintro rfl; exact hl rfl)
    have hz : ((a.length : Int) != b.length) = true := by simp; omega
    have hzn : (a.length != b.length) = true := by simpa using hl
    go_wp2
    go_ret
    exact ⟨ret_bool HT.out.symm, Below.refl _ _⟩
  have hz : ((a.length : Int) != b.length) = false := by simp; omega
  have hzn : (a.length != b.length) = false := by simpa using hl
  have HL := Lib.hid hl; clear hl
  go_wp2
  go_loopw [17] (fun i wr => ∃ k : Nat, k ≤ a.length ∧ i = .int .i64 k ∧ Hid (a.take k = b.take k) ∧ Below w.heap.size w wr) (fun i _ => a.length - (intOf i).toNat)
  case atStart => exact ⟨0, Nat.zero_le _, rfl, Lib.hid rfl, Below.refl _ _⟩
  case round =>
    obtain ⟨k, hk, rfl, HN, hbel⟩ := hrel
    by_cases hlt : k < a.length
    · have hlt2 : k < b.length := by have := HL.out; omega
      obtain ⟨pb, po, rfl, pc0, pc1, pc2, pr, Ap0, Ap1, Ap2⟩ := Rep.get3 (a_0.below hbel) (i := k) (by omega) rfl
      obtain ⟨qb, qo, rfl, qc0, qc1, qc2, qr, Aq0, Aq1, Aq2⟩ := Rep.get3 (b_0.below hbel) (i := k) (by omega) rfl
      have hne := fun q => ne_of_get hlt hlt2 q
      have hnx := fun q => take_eq_succ HN.out hlt hlt2 q
      generalize a[k] = x at *
      generalize b[k] = y at *
      have HD := Lib.hid hne; have HX := Lib.hid hnx; have HR := Lib.hid pr; have HR2 := Lib.hid qr
      clear hne hnx
      obtain ⟨pv0, phe, p_0, p_1, p_2, p_3⟩ := RMeasurement_raw pr
      simp only [List.cons.injEq, and_true] at phe
      obtain ⟨rfl, rfl, rfl⟩ := phe
      obtain ⟨pa0, pp0, ph0, pl0⟩ := Rep.len_raw p_1; obtain rfl : pc0 = _ := by simpa using ph0
      clear ph0
      obtain ⟨qv0, qhe, q_0, q_1, q_2, q_3⟩ := RMeasurement_raw qr
      simp only [List.cons.injEq, and_true] at qhe
      obtain ⟨rfl, rfl, rfl⟩ := qhe
      obtain ⟨qa0, qp0, qh0, ql0⟩ := Rep.len_raw q_1; obtain rfl : qc0 = _ := by simpa using qh0
      clear qh0
      have hlI := Int.ofNat_lt.2 hlt2
      have hbp := World.block_lt_of_cell? _ _ Ap0
      have hbq := World.block_lt_of_cell? _ _ Aq0
      simp only at hbp hbq
      go_wp2_with fail
      refine (HCL.out _ (by repeat (first | (with_reducible exact hbel) | refine Below.alloc ?_ (by have := hbel.size; simp; try omega) _ | refine Below.drew ?_)) _ _ x y (HR.out.below (by repeat (first | (with_reducible exact Below.refl _ _) | refine Below.alloc ?_ (by simp; try omega) _))) (HR2.out.below (by repeat (first | (with_reducible exact Below.refl _ _) | refine Below.alloc ?_ (by simp; try omega) _)))).mono ?_
      rintro e w1 ⟨rfl, hb1⟩
      have EG : Below w.heap.size w w1 := Below.trans (by repeat (first | (with_reducible exact hbel) | refine Below.alloc ?_ (by have := hbel.size; simp; try omega) _ | refine Below.drew ?_)) (hb1.mono (by have := hbel.size; simp; try omega))
      clear hb1
      cases hz : decide (x = y)
      · have HT := Lib.hid (show decide (a = b) = false by simp; exact HD.out (by simpa using hz))
        clear HD HX HR HR2
        go_wp2
        go_ret
        exact ⟨ret_bool HT.out.symm, EG⟩
      · have HT := Lib.hid (HX.out (by simpa using hz))
        clear HD HX HR HR2
        go_wp2
        go_roundw
        case rel => exact ⟨k + 1, by omega, by go_num, HT, EG⟩
        case measure => simp [intOf]; omega
    · have HT := Lib.hid (show decide (a = b) = true by simp; exact eq_of_take HN.out hlt HL.out)
      go_wp2
      go_ret
      exact ⟨ret_bool HT.out.symm, hbel⟩
set_option maxRecDepth 100000 in
set_option maxHeartbeats 1000000 in
theorem EqualFunc_Route_c {w : World} {va vb : Value} {a b : List LRoute} {g : FuncId} {cp : Array Value} (hg : Callable Tryz.prog g) (a_0 : (Rep.slice 142 RRoute).raw w [va] a) (b_0 : (Rep.slice 142 RRoute).raw w [vb] b)
    (hcl : ∀ wr, Below w.heap.size w wr → ∀ (cs ds : List Value) (x y : LRoute), RRoute.raw wr cs x → RRoute.raw wr ds y → Calls Tryz.prog g (#[.agg cs.toArray, .agg ds.toArray] ++ cp) wr (fun e w' => e = .returned (.bool (decide (x = y))) ∧ Below wr.heap.size wr w')) :
    Calls Tryz.prog 186 #[va, vb, .func (.func g) #[] cp] w fun e w' => e = .returned (.bool (decide (a = b))) ∧ Below w.heap.size w w' := by
  obtain ⟨aa, capa, hva, la⟩ := Rep.len_raw a_0; obtain rfl : va = _ := by simpa using hva
  obtain ⟨ab, capb, hvb, lb⟩ := Rep.len_raw b_0; obtain rfl : vb = _ := by simpa using hvb
  clear hva hvb
  have HCL := Lib.hid hcl; clear hcl
  unfold Callable at hg
  go_enter Tryz.func186, Tryz.ntmps186
  by_cases hl : a.length = b.length
  case neg =>
    have HT := Lib.hid (show decide (a = b) = false by simp; rintro rfl; exact hl rfl)
    have hz : ((a.length : Int) != b.length) = true := by simp; omega
    have hzn : (a.length != b.length) = true := by simpa using hl
    go_wp2
    go_ret
    exact ⟨ret_bool HT.out.symm, Below.refl _ _⟩
  have hz : ((a.length : Int) != b.length) = false := by simp; omega
  have hzn : (a.length != b.length) = false := by simpa using hl
  have HL := Lib.hid hl; clear hl
  go_wp2
  go_loopw [17] (fun i wr => ∃ k : Nat, k ≤ a.length ∧ i = .int .i64 k ∧ Hid (a.take k = b.take k) ∧ Below w.heap.size w wr) (fun i _ => a.length - (intOf i).toNat)
  case atStart => exact ⟨0, Nat.zero_le _, rfl, Lib.hid rfl, Below.refl _ _⟩
  case round =>
    obtain ⟨k, hk, rfl, HN, hbel⟩ := hrel
    by_cases hlt : k < a.length
    · have hlt2 : k < b.length := by have := HL.out; omega
      obtain ⟨pb, po, rfl, pc0, pc1, pc2, pr, Ap0, Ap1, Ap2⟩ := Rep.get3 (a_0.below hbel) (i := k) (by omega) rfl
      obtain ⟨qb, qo, rfl, qc0, qc1, qc2, qr, Aq0, Aq1, Aq2⟩ := Rep.get3 (b_0.below hbel) (i := k) (by omega) rfl
      have hne := fun q => ne_of_get hlt hlt2 q
      have hnx := fun q => take_eq_succ HN.out hlt hlt2 q
      generalize a[k] = x at *
      generalize b[k] = y at *
      have HD := Lib.hid hne; have HX := Lib.hid hnx; have HR := Lib.hid pr; have HR2 := Lib.hid qr
      clear hne hnx
      obtain ⟨pv0, phe, p_0, p_1, p_2, p_3⟩ := RRoute_raw pr
      simp only [List.cons.injEq, and_true] at phe
      obtain ⟨rfl, rfl, rfl⟩ := phe
      obtain ⟨pa0, pp0, ph0, pl0⟩ := Rep.len_raw p_1; obtain rfl : pc0 = _ := by simpa using ph0
      clear ph0
      obtain ⟨qv0, qhe, q_0, q_1, q_2, q_3⟩ := RRoute_raw qr
      simp only [List.cons.injEq, and_true] at qhe
      obtain ⟨rfl, rfl, rfl⟩ := qhe
      obtain ⟨qa0, qp0, qh0, ql0⟩ := Rep.len_raw q_1; obtain rfl : qc0 = _ := by simpa using qh0
      clear qh0
      have hlI := Int.ofNat_lt.2 hlt2
      have hbp := World.block_lt_of_cell? _ _ Ap0
      have hbq := World.block_lt_of_cell? _ _ Aq0
      simp only at hbp hbq
      go_wp2_with fail
      refine (HCL.out _ (by repeat (first | (with_reducible exact hbel) | refine Below.alloc ?_ (by have := hbel.size; simp; try omega) _ | refine Below.drew ?_)) _ _ x y (HR.out.below (by repeat (first | (with_reducible exact Below.refl _ _) | refine Below.alloc ?_ (by simp; try omega) _))) (HR2.out.below (by repeat (first | (with_reducible exact Below.refl _ _) | refine Below.alloc ?_ (by simp; try omega) _)))).mono ?_
      rintro e w1 ⟨rfl, hb1⟩
      have EG : Below w.heap.size w w1 := Below.trans (by repeat (first | (with_reducible exact hbel) | refine Below.alloc ?_ (by have := hbel.size; simp; try omega) _ | refine Below.drew ?_)) (hb1.mono (by have := hbel.size; simp; try omega))
      clear hb1
      cases hz : decide (x = y)
      · have HT := Lib.hid (show decide (a = b) = false by simp; exact HD.out (by simpa using hz))
        clear HD HX HR HR2
        go_wp2
        go_ret
        exact ⟨ret_bool HT.out.symm, EG⟩
      · have HT := Lib.hid (HX.out (by simpa using hz))
        clear HD HX HR HR2
        go_wp2
        go_roundw
        case rel => exact ⟨k + 1, by omega, by go_num, HT, EG⟩
        case measure => simp [intOf]; omega
    · have HT := Lib.hid (show decide (a = b) = true by simp; exact eq_of_take HN.out hlt HL.out)
      go_wp2
      go_ret
      exact ⟨ret_bool HT.out.symm, hbel⟩
set_option maxRecDepth 100000 in
set_option maxHeartbeats 1000000 in
theorem EqualFunc_PendingInterest_c {w : World} {va vb : Value} {a b : List LPendingInterest} {g : FuncId} {cp : Array Value} (hg : Callable Tryz.prog g) (a_0 : (Rep.slice 138 RPendingInterest).raw w [va] a) (b_0 : (Rep.slice 138 RPendingInterest).raw w [vb] b)
    (hcl : ∀ wr, Below w.heap.size w wr → ∀ (cs ds : List Value) (x y : LPendingInterest), RPendingInterest.raw wr cs x → RPendingInterest.raw wr ds y → Calls Tryz.prog g (#[.agg cs.toArray, .agg ds.toArray] ++ cp) wr (fun e w' => e = .returned (.bool (decide (x = y))) ∧ Below wr.heap.size wr w')) :
    Calls Tryz.prog 183 #[va, vb, .func (.func g) #[] cp] w fun e w' => e = .returned (.bool (decide (a = b))) ∧ Below w.heap.size w w' := by
  obtain ⟨aa, capa, hva, la⟩ := Rep.len_raw a_0; obtain rfl : va = _ := by simpa using hva
  obtain ⟨ab, capb, hvb, lb⟩ := Rep.len_raw b_0; obtain rfl : vb = _ := by simpa using hvb
  clear hva hvb
  have HCL := Lib.hid hcl; clear hcl
  unfold Callable at hg
  go_enter Tryz.func183, Tryz.ntmps183
  by_cases hl : a.length = b.length
  case neg =>
    have HT := Lib.hid (show decide (a = b) = false by simp; rintro rfl; exact hl rfl)
    have hz : ((a.length : Int) != b.length) = true := by simp; omega
    have hzn : (a.length != b.length) = true := by simpa using hl
    go_wp2
    go_ret
    exact ⟨ret_bool HT.out.symm, Below.refl _ _⟩
  have hz : ((a.length : Int) != b.length) = false := by simp; omega
  have hzn : (a.length != b.length) = false := by simpa using hl
  have HL := Lib.hid hl; clear hl
  go_wp2
  go_loopw [17] (fun i wr => ∃ k : Nat, k ≤ a.length ∧ i = .int .i64 k ∧ Hid (a.take k = b.take k) ∧ Below w.heap.size w wr) (fun i _ => a.length - (intOf i).toNat)
  case atStart => exact ⟨0, Nat.zero_le _, rfl, Lib.hid rfl, Below.refl _ _⟩
  case round =>
    obtain ⟨k, hk, rfl, HN, hbel⟩ := hrel
    by_cases hlt : k < a.length
    · have hlt2 : k < b.length := by have := HL.out; omega
      obtain ⟨pb, po, rfl, pc0, pc1, pc2, pr, Ap0, Ap1, Ap2⟩ := Rep.get3 (a_0.below hbel) (i := k) (by omega) rfl
      obtain ⟨qb, qo, rfl, qc0, qc1, qc2, qr, Aq0, Aq1, Aq2⟩ := Rep.get3 (b_0.below hbel) (i := k) (by omega) rfl
      have hne := fun q => ne_of_get hlt hlt2 q
      have hnx := fun q => take_eq_succ HN.out hlt hlt2 q
      generalize a[k] = x at *
      generalize b[k] = y at *
      have HD := Lib.hid hne; have HX := Lib.hid hnx; have HR := Lib.hid pr; have HR2 := Lib.hid qr
      clear hne hnx
      obtain ⟨pv0, pv1, phe, p_0, p_1, p_2, p_3⟩ := RPendingInterest_raw pr
      simp only [List.cons.injEq, and_true] at phe
      obtain ⟨rfl, rfl, rfl⟩ := phe
      obtain ⟨pa0, pp0, ph0, pl0⟩ := Rep.len_raw p_1; obtain rfl : pc0 = _ := by simpa using ph0
      clear ph0
      obtain ⟨pa1, pp1, ph1, pl1⟩ := Rep.len_raw p_2; obtain rfl : pc1 = _ := by simpa using ph1
      clear ph1
      obtain ⟨qv0, qv1, qhe, q_0, q_1, q_2, q_3⟩ := RPendingInterest_raw qr
      simp only [List.cons.injEq, and_true] at qhe
      obtain ⟨rfl, rfl, rfl⟩ := qhe
      obtain ⟨qa0, qp0, qh0, ql0⟩ := Rep.len_raw q_1; obtain rfl : qc0 = _ := by simpa using qh0
      clear qh0
      obtain ⟨qa1, qp1, qh1, ql1⟩ := Rep.len_raw q_2; obtain rfl : qc1 = _ := by simpa using qh1
      clear qh1
      have hlI := Int.ofNat_lt.2 hlt2
      have hbp := World.block_lt_of_cell? _ _ Ap0
      have hbq := World.block_lt_of_cell? _ _ Aq0
      simp only at hbp hbq
      go_wp2_with fail
      refine (HCL.out _ (by repeat (first | (with_reducible exact hbel) | refine Below.alloc ?_ (by have := hbel.size; simp; try omega) _ | refine Below.drew ?_)) _ _ x y (HR.out.below (by repeat (first | (with_reducible exact Below.refl _ _) | refine Below.alloc ?_ (by simp; try omega) _))) (HR2.out.below (by repeat (first | (with_reducible exact Below.refl _ _) | refine Below.alloc ?_ (by simp; try omega) _)))).mono ?_
      rintro e w1 ⟨rfl, hb1⟩
      have EG : Below w.heap.size w w1 := Below.trans (by repeat (first | (with_reducible exact hbel) | refine Below.alloc ?_ (by have := hbel.size; simp; try omega) _ | refine Below.drew ?_)) (hb1.mono (by have := hbel.size; simp; try omega))
      clear hb1
      cases hz : decide (x = y)
      · have HT := Lib.hid (show decide (a = b) = false by simp; exact HD.out (by simpa using hz))
        clear HD HX HR HR2
        go_wp2
        go_ret
        exact ⟨ret_bool HT.out.symm, EG⟩
      · have HT := Lib.hid (HX.out (by simpa using hz))
        clear HD HX HR HR2
        go_wp2
        go_roundw
        case rel => exact ⟨k + 1, by omega, by go_num, HT, EG⟩
        case measure => simp [intOf]; omega
    · have HT := Lib.hid (show decide (a = b) = true by simp; exact eq_of_take HN.out hlt HL.out)
      go_wp2
      go_ret
      exact ⟨ret_bool HT.out.symm, hbel⟩
set_option maxRecDepth 100000 in
set_option maxHeartbeats 1000000 in
theorem EqualFunc_SeenNonce_c {w : World} {va vb : Value} {a b : List LSeenNonce} {g : FuncId} {cp : Array Value} (hg : Callable Tryz.prog g) (a_0 : (Rep.slice 150 RSeenNonce).raw w [va] a) (b_0 : (Rep.slice 150 RSeenNonce).raw w [vb] b)
    (hcl : ∀ wr, Below w.heap.size w wr → ∀ (cs ds : List Value) (x y : LSeenNonce), RSeenNonce.raw wr cs x → RSeenNonce.raw wr ds y → Calls Tryz.prog g (#[.agg cs.toArray, .agg ds.toArray] ++ cp) wr (fun e w' => e = .returned (.bool (decide (x = y))) ∧ Below wr.heap.size wr w')) :
    Calls Tryz.prog 128 #[va, vb, .func (.func g) #[] cp] w fun e w' => e = .returned (.bool (decide (a = b))) ∧ Below w.heap.size w w' := by
  obtain ⟨aa, capa, hva, la⟩ := Rep.len_raw a_0; obtain rfl : va = _ := by simpa using hva
  obtain ⟨ab, capb, hvb, lb⟩ := Rep.len_raw b_0; obtain rfl : vb = _ := by simpa using hvb
  clear hva hvb
  have HCL := Lib.hid hcl; clear hcl
  unfold Callable at hg
  go_enter Tryz.func128, Tryz.ntmps128
  by_cases hl : a.length = b.length
  case neg =>
    have HT := Lib.hid (show decide (a = b) = false by simp; rintro rfl; exact hl rfl)
    have hz : ((a.length : Int) != b.length) = true := by simp; omega
    have hzn : (a.length != b.length) = true := by simpa using hl
    go_wp2
    go_ret
    exact ⟨ret_bool HT.out.symm, Below.refl _ _⟩
  have hz : ((a.length : Int) != b.length) = false := by simp; omega
  have hzn : (a.length != b.length) = false := by simpa using hl
  have HL := Lib.hid hl; clear hl
  go_wp2
  go_loopw [17] (fun i wr => ∃ k : Nat, k ≤ a.length ∧ i = .int .i64 k ∧ Hid (a.take k = b.take k) ∧ Below w.heap.size w wr) (fun i _ => a.length - (intOf i).toNat)
  case atStart => exact ⟨0, Nat.zero_le _, rfl, Lib.hid rfl, Below.refl _ _⟩
  case round =>
    obtain ⟨k, hk, rfl, HN, hbel⟩ := hrel
    by_cases hlt : k < a.length
    · have hlt2 : k < b.length := by have := HL.out; omega
      obtain ⟨pb, po, rfl, pc0, pc1, pr, Ap0, Ap1⟩ := Rep.get2 (a_0.below hbel) (i := k) (by omega) rfl
      obtain ⟨qb, qo, rfl, qc0, qc1, qr, Aq0, Aq1⟩ := Rep.get2 (b_0.below hbel) (i := k) (by omega) rfl
      have hne := fun q => ne_of_get hlt hlt2 q
      have hnx := fun q => take_eq_succ HN.out hlt hlt2 q
      generalize a[k] = x at *
      generalize b[k] = y at *
      have HD := Lib.hid hne; have HX := Lib.hid hnx; have HR := Lib.hid pr; have HR2 := Lib.hid qr
      clear hne hnx
      obtain ⟨pv0, phe, p_0, p_1, p_2⟩ := RSeenNonce_raw pr
      simp only [List.cons.injEq, and_true] at phe
      obtain ⟨rfl, rfl⟩ := phe
      obtain ⟨pa0, pp0, ph0, pl0⟩ := Rep.len_raw p_1; obtain rfl : pc0 = _ := by simpa using ph0
      clear ph0
      obtain ⟨qv0, qhe, q_0, q_1, q_2⟩ := RSeenNonce_raw qr
      simp only [List.cons.injEq, and_true] at qhe
      obtain ⟨rfl, rfl⟩ := qhe
      obtain ⟨qa0, qp0, qh0, ql0⟩ := Rep.len_raw q_1; obtain rfl : qc0 = _ := by simpa using qh0
      clear qh0
      have hlI := Int.ofNat_lt.2 hlt2
      have hbp := World.block_lt_of_cell? _ _ Ap0
      have hbq := World.block_lt_of_cell? _ _ Aq0
      simp only at hbp hbq
      go_wp2_with fail
      refine (HCL.out _ (by repeat (first | (with_reducible exact hbel) | refine Below.alloc ?_ (by have := hbel.size; simp; try omega) _ | refine Below.drew ?_)) _ _ x y (HR.out.below (by repeat (first | (with_reducible exact Below.refl _ _) | refine Below.alloc ?_ (by simp; try omega) _))) (HR2.out.below (by repeat (first | (with_reducible exact Below.refl _ _) | refine Below.alloc ?_ (by simp; try omega) _)))).mono ?_
      rintro e w1 ⟨rfl, hb1⟩
      have EG : Below w.heap.size w w1 := Below.trans (by repeat (first | (with_reducible exact hbel) | refine Below.alloc ?_ (by have := hbel.size; simp; try omega) _ | refine Below.drew ?_)) (hb1.mono (by have := hbel.size; simp; try omega))
      clear hb1
      cases hz : decide (x = y)
      · have HT := Lib.hid (show decide (a = b) = false by simp; exact HD.out (by simpa using hz))
        clear HD HX HR HR2
        go_wp2
        go_ret
        exact ⟨ret_bool HT.out.symm, EG⟩
      · have HT := Lib.hid (HX.out (by simpa using hz))
        clear HD HX HR HR2
        go_wp2
        go_roundw
        case rel => exact ⟨k + 1, by omega, by go_num, HT, EG⟩
        case measure => simp [intOf]; omega
    · have HT := Lib.hid (show decide (a = b) = true by simp; exact eq_of_take HN.out hlt HL.out)
      go_wp2
      go_ret
      exact ⟨ret_bool HT.out.symm, hbel⟩
set_option maxRecDepth 100000 in
set_option maxHeartbeats 1000000 in
theorem EqualFunc_Data_c {w : World} {va vb : Value} {a b : List LData} {g : FuncId} {cp : Array Value} (hg : Callable Tryz.prog g) (a_0 : (Rep.slice 69 RData).raw w [va] a) (b_0 : (Rep.slice 69 RData).raw w [vb] b)
    (hcl : ∀ wr, Below w.heap.size w wr → ∀ (cs ds : List Value) (x y : LData), RData.raw wr cs x → RData.raw wr ds y → Calls Tryz.prog g (#[.agg cs.toArray, .agg ds.toArray] ++ cp) wr (fun e w' => e = .returned (.bool (decide (x = y))) ∧ Below wr.heap.size wr w')) :
    Calls Tryz.prog 124 #[va, vb, .func (.func g) #[] cp] w fun e w' => e = .returned (.bool (decide (a = b))) ∧ Below w.heap.size w w' := by
  obtain ⟨aa, capa, hva, la⟩ := Rep.len_raw a_0; obtain rfl : va = _ := by simpa using hva
  obtain ⟨ab, capb, hvb, lb⟩ := Rep.len_raw b_0; obtain rfl : vb = _ := by simpa using hvb
  clear hva hvb
  have HCL := Lib.hid hcl; clear hcl
  unfold Callable at hg
  go_enter Tryz.func124, Tryz.ntmps124
  by_cases hl : a.length = b.length
  case neg =>
    have HT := Lib.hid (show decide (a = b) = false by simp; rintro rfl; exact hl rfl)
    have hz : ((a.length : Int) != b.length) = true := by simp; omega
    have hzn : (a.length != b.length) = true := by simpa using hl
    go_wp2
    go_ret
    exact ⟨ret_bool HT.out.symm, Below.refl _ _⟩
  have hz : ((a.length : Int) != b.length) = false := by simp; omega
  have hzn : (a.length != b.length) = false := by simpa using hl
  have HL := Lib.hid hl; clear hl
  go_wp2
  go_loopw [17] (fun i wr => ∃ k : Nat, k ≤ a.length ∧ i = .int .i64 k ∧ Hid (a.take k = b.take k) ∧ Below w.heap.size w wr) (fun i _ => a.length - (intOf i).toNat)
  case atStart => exact ⟨0, Nat.zero_le _, rfl, Lib.hid rfl, Below.refl _ _⟩
  case round =>
    obtain ⟨k, hk, rfl, HN, hbel⟩ := hrel
    by_cases hlt : k < a.length
    · have hlt2 : k < b.length := by have := HL.out; omega
      obtain ⟨pb, po, rfl, pc0, pc1, pc2, pc3, pc4, pr, Ap0, Ap1, Ap2, Ap3, Ap4⟩ := Rep.get5 (a_0.below hbel) (i := k) (by omega) rfl
      obtain ⟨qb, qo, rfl, qc0, qc1, qc2, qc3, qc4, qr, Aq0, Aq1, Aq2, Aq3, Aq4⟩ := Rep.get5 (b_0.below hbel) (i := k) (by omega) rfl
      have hne := fun q => ne_of_get hlt hlt2 q
      have hnx := fun q => take_eq_succ HN.out hlt hlt2 q
      generalize a[k] = x at *
      generalize b[k] = y at *
      have HD := Lib.hid hne; have HX := Lib.hid hnx; have HR := Lib.hid pr; have HR2 := Lib.hid qr
      clear hne hnx
      obtain ⟨pv0, pv1, pv2, phe, p_0, p_1, p_2, p_3, p_4, p_5, p_6⟩ := RData_raw pr
      simp only [List.cons.injEq, and_true] at phe
      obtain ⟨rfl, rfl, rfl, rfl, rfl⟩ := phe
      obtain ⟨pa0, pp0, ph0, pl0⟩ := Rep.len_raw p_1; obtain rfl : pc0 = _ := by simpa using ph0
      clear ph0
      obtain ⟨pa1, pp1, ph1, pl1⟩ := Rep.len_raw p_2; obtain rfl : pc1 = _ := by simpa using ph1
      clear ph1
      obtain ⟨pa2, pp2, ph2, pl2⟩ := Rep.len_raw p_4; obtain rfl : pc2 = _ := by simpa using ph2
      clear ph2
      obtain ⟨qv0, qv1, qv2, qhe, q_0, q_1, q_2, q_3, q_4, q_5, q_6⟩ := RData_raw qr
      simp only [List.cons.injEq, and_true] at qhe
      obtain ⟨rfl, rfl, rfl, rfl, rfl⟩ := qhe
      obtain ⟨qa0, qp0, qh0, ql0⟩ := Rep.len_raw q_1; obtain rfl : qc0 = _ := by simpa using qh0
      clear qh0
      obtain ⟨qa1, qp1, qh1, ql1⟩ := Rep.len_raw q_2; obtain rfl : qc1 = _ := by simpa using qh1
      clear qh1
      obtain ⟨qa2, qp2, qh2, ql2⟩ := Rep.len_raw q_4; obtain rfl : qc2 = _ := by simpa using qh2
      clear qh2
      have hlI := Int.ofNat_lt.2 hlt2
      have hbp := World.block_lt_of_cell? _ _ Ap0
      have hbq := World.block_lt_of_cell? _ _ Aq0
      simp only at hbp hbq
      go_wp2_with fail
      refine (HCL.out _ (by repeat (first | (with_reducible exact hbel) | refine Below.alloc ?_ (by have := hbel.size; simp; try omega) _ | refine Below.drew ?_)) _ _ x y (HR.out.below (by repeat (first | (with_reducible exact Below.refl _ _) | refine Below.alloc ?_ (by simp; try omega) _))) (HR2.out.below (by repeat (first | (with_reducible exact Below.refl _ _) | refine Below.alloc ?_ (by simp; try omega) _)))).mono ?_
      rintro e w1 ⟨rfl, hb1⟩
      have EG : Below w.heap.size w w1 := Below.trans (by repeat (first | (with_reducible exact hbel) | refine Below.alloc ?_ (by have := hbel.size; simp; try omega) _ | refine Below.drew ?_)) (hb1.mono (by have := hbel.size; simp; try omega))
      clear hb1
      cases hz : decide (x = y)
      · have HT := Lib.hid (show decide (a = b) = false by simp; exact HD.out (by simpa using hz))
        clear HD HX HR HR2
        go_wp2
        go_ret
        exact ⟨ret_bool HT.out.symm, EG⟩
      · have HT := Lib.hid (HX.out (by simpa using hz))
        clear HD HX HR HR2
        go_wp2
        go_roundw
        case rel => exact ⟨k + 1, by omega, by go_num, HT, EG⟩
        case measure => simp [intOf]; omega
    · have HT := Lib.hid (show decide (a = b) = true by simp; exact eq_of_take HN.out hlt HL.out)
      go_wp2
      go_ret
      exact ⟨ret_bool HT.out.symm, hbel⟩
set_option maxRecDepth 100000 in
set_option maxHeartbeats 1000000 in
theorem EqualFunc_CacheEntry_c {w : World} {va vb : Value} {a b : List LCacheEntry} {g : FuncId} {cp : Array Value} (hg : Callable Tryz.prog g) (a_0 : (Rep.slice 134 RCacheEntry).raw w [va] a) (b_0 : (Rep.slice 134 RCacheEntry).raw w [vb] b)
    (hcl : ∀ wr, Below w.heap.size w wr → ∀ (cs ds : List Value) (x y : LCacheEntry), RCacheEntry.raw wr cs x → RCacheEntry.raw wr ds y → Calls Tryz.prog g (#[.agg cs.toArray, .agg ds.toArray] ++ cp) wr (fun e w' => e = .returned (.bool (decide (x = y))) ∧ Below wr.heap.size wr w')) :
    Calls Tryz.prog 181 #[va, vb, .func (.func g) #[] cp] w fun e w' => e = .returned (.bool (decide (a = b))) ∧ Below w.heap.size w w' := by
  obtain ⟨aa, capa, hva, la⟩ := Rep.len_raw a_0; obtain rfl : va = _ := by simpa using hva
  obtain ⟨ab, capb, hvb, lb⟩ := Rep.len_raw b_0; obtain rfl : vb = _ := by simpa using hvb
  clear hva hvb
  have HCL := Lib.hid hcl; clear hcl
  unfold Callable at hg
  go_enter Tryz.func181, Tryz.ntmps181
  by_cases hl : a.length = b.length
  case neg =>
    have HT := Lib.hid (show decide (a = b) = false by simp; rintro rfl; exact hl rfl)
    have hz : ((a.length : Int) != b.length) = true := by simp; omega
    have hzn : (a.length != b.length) = true := by simpa using hl
    go_wp2
    go_ret
    exact ⟨ret_bool HT.out.symm, Below.refl _ _⟩
  have hz : ((a.length : Int) != b.length) = false := by simp; omega
  have hzn : (a.length != b.length) = false := by simpa using hl
  have HL := Lib.hid hl; clear hl
  go_wp2
  go_loopw [17] (fun i wr => ∃ k : Nat, k ≤ a.length ∧ i = .int .i64 k ∧ Hid (a.take k = b.take k) ∧ Below w.heap.size w wr) (fun i _ => a.length - (intOf i).toNat)
  case atStart => exact ⟨0, Nat.zero_le _, rfl, Lib.hid rfl, Below.refl _ _⟩
  case round =>
    obtain ⟨k, hk, rfl, HN, hbel⟩ := hrel
    by_cases hlt : k < a.length
    · have hlt2 : k < b.length := by have := HL.out; omega
      obtain ⟨pb, po, rfl, pc0, pc1, pc2, pc3, pc4, pc5, pr, Ap0, Ap1, Ap2, Ap3, Ap4, Ap5⟩ := Rep.get6 (a_0.below hbel) (i := k) (by omega) rfl
      obtain ⟨qb, qo, rfl, qc0, qc1, qc2, qc3, qc4, qc5, qr, Aq0, Aq1, Aq2, Aq3, Aq4, Aq5⟩ := Rep.get6 (b_0.below hbel) (i := k) (by omega) rfl
      have hne := fun q => ne_of_get hlt hlt2 q
      have hnx := fun q => take_eq_succ HN.out hlt hlt2 q
      generalize a[k] = x at *
      generalize b[k] = y at *
      have HD := Lib.hid hne; have HX := Lib.hid hnx; have HR := Lib.hid pr; have HR2 := Lib.hid qr
      clear hne hnx
      obtain ⟨pv0, pv1, pv2, phe, p_0, p_1, p_2, p_3, p_4, p_5, p_6, p_7, p_8⟩ := RCacheEntry_raw pr
      simp only [List.cons.injEq, and_true] at phe
      obtain ⟨rfl, rfl, rfl, rfl, rfl, rfl⟩ := phe
      obtain ⟨pa0, pp0, ph0, pl0⟩ := Rep.len_raw p_2; obtain rfl : pc0 = _ := by simpa using ph0
      clear ph0
      obtain ⟨pa1, pp1, ph1, pl1⟩ := Rep.len_raw p_3; obtain rfl : pc1 = _ := by simpa using ph1
      clear ph1
      obtain ⟨pa2, pp2, ph2, pl2⟩ := Rep.len_raw p_5; obtain rfl : pc2 = _ := by simpa using ph2
      clear ph2
      obtain ⟨qv0, qv1, qv2, qhe, q_0, q_1, q_2, q_3, q_4, q_5, q_6, q_7, q_8⟩ := RCacheEntry_raw qr
      simp only [List.cons.injEq, and_true] at qhe
      obtain ⟨rfl, rfl, rfl, rfl, rfl, rfl⟩ := qhe
      obtain ⟨qa0, qp0, qh0, ql0⟩ := Rep.len_raw q_2; obtain rfl : qc0 = _ := by simpa using qh0
      clear qh0
      obtain ⟨qa1, qp1, qh1, ql1⟩ := Rep.len_raw q_3; obtain rfl : qc1 = _ := by simpa using qh1
      clear qh1
      obtain ⟨qa2, qp2, qh2, ql2⟩ := Rep.len_raw q_5; obtain rfl : qc2 = _ := by simpa using qh2
      clear qh2
      have hlI := Int.ofNat_lt.2 hlt2
      have hbp := World.block_lt_of_cell? _ _ Ap0
      have hbq := World.block_lt_of_cell? _ _ Aq0
      simp only at hbp hbq
      go_wp2_with fail
      refine (HCL.out _ (by repeat (first | (with_reducible exact hbel) | refine Below.alloc ?_ (by have := hbel.size; simp; try omega) _ | refine Below.drew ?_)) _ _ x y (HR.out.below (by repeat (first | (with_reducible exact Below.refl _ _) | refine Below.alloc ?_ (by simp; try omega) _))) (HR2.out.below (by repeat (first | (with_reducible exact Below.refl _ _) | refine Below.alloc ?_ (by simp; try omega) _)))).mono ?_
      rintro e w1 ⟨rfl, hb1⟩
      have EG : Below w.heap.size w w1 := Below.trans (by repeat (first | (with_reducible exact hbel) | refine Below.alloc ?_ (by have := hbel.size; simp; try omega) _ | refine Below.drew ?_)) (hb1.mono (by have := hbel.size; simp; try omega))
      clear hb1
      cases hz : decide (x = y)
      · have HT := Lib.hid (show decide (a = b) = false by simp; exact HD.out (by simpa using hz))
        clear HD HX HR HR2
        go_wp2
        go_ret
        exact ⟨ret_bool HT.out.symm, EG⟩
      · have HT := Lib.hid (HX.out (by simpa using hz))
        clear HD HX HR HR2
        go_wp2
        go_roundw
        case rel => exact ⟨k + 1, by omega, by go_num, HT, EG⟩
        case measure => simp [intOf]; omega
    · have HT := Lib.hid (show decide (a = b) = true by simp; exact eq_of_take HN.out hlt HL.out)
      go_wp2
      go_ret
      exact ⟨ret_bool HT.out.symm, hbel⟩
end Go.Proofs.YtcmddljfmbgpaaaGreat

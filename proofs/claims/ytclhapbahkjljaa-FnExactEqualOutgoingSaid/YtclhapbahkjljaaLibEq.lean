/-
  slices.EqualFunc at the program's types. Printed by genlib.py.
-/
import Derived.Test.YtclhapbahkjljaaLib
namespace Go.Proofs.Ytclhapbahkjljaa
open Go.RowKit
set_option linter.unusedVariables false
set_option maxRecDepth 100000 in
set_option maxHeartbeats 1000000 in
theorem EqualFunc_Outgoing_c {w : World} {va vb : Value} {a b : List LOutgoing} {g : FuncId} {cp : Array Value} (hg : Callable Try.prog g) (a_0 : (Rep.slice 121 ROutgoing).raw w [va] a) (b_0 : (Rep.slice 121 ROutgoing).raw w [vb] b)
    (hcl : ∀ wr, Below w.heap.size w wr → ∀ (cs ds : List Value) (x y : LOutgoing), ROutgoing.raw wr cs x → ROutgoing.raw wr ds y → Calls Try.prog g (#[.agg cs.toArray, .agg ds.toArray] ++ cp) wr (fun e w' => e = .returned (.bool (decide (x = y))) ∧ Below wr.heap.size wr w')) :
    Calls Try.prog 84 #[va, vb, .func (.func g) #[] cp] w fun e w' => e = .returned (.bool (decide (a = b))) ∧ Below w.heap.size w w' := by
  obtain ⟨aa, capa, hva, la⟩ := Rep.len_raw a_0; obtain rfl : va = _ := by simpa using hva
  obtain ⟨ab, capb, hvb, lb⟩ := Rep.len_raw b_0; obtain rfl : vb = _ := by simpa using hvb
  clear hva hvb
  have HCL := Lib.hid hcl; clear hcl
  unfold Callable at hg
  go_enter Try.func84, Try.ntmps84
  by_cases hl : a.length = b.length
  case neg =>
    have HT := Lib.hid (show decide (a = b) = false by simp; rintro rfl; exact hl rfl)
    have hz : ((a.length : Int) != b.length) = true := by simp; omega
    have hzn : (a.length != b.length) = true := by simpa using hl
    go_wp2
    go_ret
    exact ⟨ret_bool HT.out.symm, Below.refl _ _⟩
  have hz : ((a.length : Int) != b.length) = false := by simp; omega
  have hzn : (a.length != b.length) = false := by simpa using hl
  have HL := Lib.hid hl; clear hl
  go_wp2
  go_loopw [17] (fun i wr => ∃ k : Nat, k ≤ a.length ∧ i = .int .i64 k ∧ Hid (a.take k = b.take k) ∧ Below w.heap.size w wr) (fun i _ => a.length - (intOf i).toNat)
  case atStart => exact ⟨0, Nat.zero_le _, rfl, Lib.hid rfl, Below.refl _ _⟩
  case round =>
    obtain ⟨k, hk, rfl, HN, hbel⟩ := hrel
    by_cases hlt : k < a.length
    · have hlt2 : k < b.length := by have := HL.out; omega
      obtain ⟨pb, po, rfl, pc0, pc1, pc2, pc3, pc4, pc5, pc6, pc7, pc8, pc9, pc10, pr, Ap0, Ap1, Ap2, Ap3, Ap4, Ap5, Ap6, Ap7, Ap8, Ap9, Ap10⟩ := Rep.get11 (a_0.below hbel) (i := k) (by omega) rfl
      obtain ⟨qb, qo, rfl, qc0, qc1, qc2, qc3, qc4, qc5, qc6, qc7, qc8, qc9, qc10, qr, Aq0, Aq1, Aq2, Aq3, Aq4, Aq5, Aq6, Aq7, Aq8, Aq9, Aq10⟩ := Rep.get11 (b_0.below hbel) (i := k) (by omega) rfl
      have hne := fun q => ne_of_get hlt hlt2 q
      have hnx := fun q => take_eq_succ HN.out hlt hlt2 q
      generalize a[k] = x at *
      generalize b[k] = y at *
      have HD := Lib.hid hne; have HX := Lib.hid hnx; have HR := Lib.hid pr; have HR2 := Lib.hid qr
      clear hne hnx
      obtain ⟨pv2, pv6, pv7, pv8, phe, p_0, p_1, p_2, p_3, p_4, p_5, p_6, p_7, p_8, p_9, p_10, p_11, p_12, p_13, p_14⟩ := ROutgoing_raw pr
      simp only [List.cons.injEq, and_true] at phe
      obtain ⟨rfl, rfl, rfl, rfl, rfl, rfl, rfl, rfl, rfl, rfl, rfl⟩ := phe
      obtain ⟨pa2, pp2, ph2, pl2⟩ := Rep.len_raw p_3; obtain rfl : pc2 = _ := by simpa using ph2
      clear ph2
      obtain ⟨pa6, pp6, ph6, pl6⟩ := Rep.len_raw p_9; obtain rfl : pc6 = _ := by simpa using ph6
      clear ph6
      obtain ⟨pa7, pp7, ph7, pl7⟩ := Rep.len_raw p_10; obtain rfl : pc7 = _ := by simpa using ph7
      clear ph7
      obtain ⟨pa8, pp8, ph8, pl8⟩ := Rep.len_raw p_12; obtain rfl : pc8 = _ := by simpa using ph8
      clear ph8
      obtain ⟨qv2, qv6, qv7, qv8, qhe, q_0, q_1, q_2, q_3, q_4, q_5, q_6, q_7, q_8, q_9, q_10, q_11, q_12, q_13, q_14⟩ := ROutgoing_raw qr
      simp only [List.cons.injEq, and_true] at qhe
      obtain ⟨rfl, rfl, rfl, rfl, rfl, rfl, rfl, rfl, rfl, rfl, rfl⟩ := qhe
      obtain ⟨qa2, qp2, qh2, ql2⟩ := Rep.len_raw q_3; obtain rfl : qc2 = _ := by simpa using qh2
      clear qh2
      obtain ⟨qa6, qp6, qh6, ql6⟩ := Rep.len_raw q_9; obtain rfl : qc6 = _ := by simpa using qh6
      clear qh6
      obtain ⟨qa7, qp7, qh7, ql7⟩ := Rep.len_raw q_10; obtain rfl : qc7 = _ := by simpa using qh7
      clear qh7
      obtain ⟨qa8, qp8, qh8, ql8⟩ := Rep.len_raw q_12; obtain rfl : qc8 = _ := by simpa using qh8
      clear qh8
      have hlI := Int.ofNat_lt.2 hlt2
      have hbp := World.block_lt_of_cell? _ _ Ap0
      have hbq := World.block_lt_of_cell? _ _ Aq0
      simp only at hbp hbq
      go_wp2_with fail
      refine (HCL.out _ (by repeat (first | (with_reducible exact hbel) | refine Below.alloc ?_ (by have := hbel.size; simp; try omega) _ | refine Below.drew ?_)) _ _ x y (HR.out.below (by repeat (first | (with_reducible exact Below.refl _ _) | refine Below.alloc ?_ (by simp; try omega) _))) (HR2.out.below (by repeat (first | (with_reducible exact Below.refl _ _) | refine Below.alloc ?_ (by simp; try omega) _)))).mono ?_
      rintro e w1 ⟨rfl, hb1⟩
      have EG : Below w.heap.size w w1 := Below.trans (by repeat (first | (with_reducible exact hbel) | refine Below.alloc ?_ (by have := hbel.size; simp; try omega) _ | refine Below.drew ?_)) (hb1.mono (by have := hbel.size; simp; try omega))
      clear hb1
      cases hz : decide (x = y)
      · have HT := Lib.hid (show decide (a = b) = false by simp; exact HD.out (by simpa using hz))
        clear HD HX HR HR2
        go_wp2
        go_ret
        exact ⟨ret_bool HT.out.symm, EG⟩
      · have HT := Lib.hid (HX.out (by simpa using hz))
        clear HD HX HR HR2
        go_wp2
        go_roundw
        case rel => exact ⟨k + 1, by omega, by go_num, HT, EG⟩
        case measure => simp [intOf]; omega
    · have HT := Lib.hid (show decide (a = b) = true by simp; exact eq_of_take HN.out hlt HL.out)
      go_wp2
      go_ret
      exact ⟨ret_bool HT.out.symm, hbel⟩
end Go.Proofs.Ytclhapbahkjljaa

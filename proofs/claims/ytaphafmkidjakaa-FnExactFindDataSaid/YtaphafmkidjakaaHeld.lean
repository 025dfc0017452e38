/-
  The laws' readings of marks: they find the marks that are there. Printed by genheld.py.
-/
import Derived.Test.YtaphafmkidjakaaMark
import Derived.Test.YtaphafmkidjakaaSoft
namespace Go.Proofs.Ytaphafmkidjakaa
open Go.RowKit
set_option linter.unusedVariables false
set_option linter.unusedSimpArgs false
set_option linter.unnecessarySimpa false

theorem i64_ne_false {a : Int} : (a != a) = false := by simp
theorem bool_b3 {x : Bool} {k k' : Int} (h : Rep.bool.held true x k = some k') : (x == (k % 3 == 0)) = true := by
  obtain ⟨rfl, _⟩ := Rep.bool_held h
  rw [beq_iff_eq, Bool.eq_iff_iff]; simp

set_option maxRecDepth 100000 in
set_option maxHeartbeats 1000000 in
theorem heldStringS_c {w : World} {va : Value} {x : List ByteArray} {k k' : Int} (ha : (Rep.slice 9 Rep.str).raw w [va] x) (hh : (Rep.slice 9 Rep.str).held true x k = some k') (hk0 : 0 ≤ k) (hk1 : k' ≤ 4611686018427387904) :
    Calls Try.prog 83 #[va, .int .i64 k] w fun e w' => e = .returned (.int .i64 k') ∧ Below w.heap.size w w' := by
  obtain ⟨aa, capa, hva, la⟩ := Rep.len_raw ha; obtain rfl : va = _ := by simpa using hva
  clear hva
  have HH := Lib.hid hh; clear hh
  go_enter Try.func83, Try.ntmps83
  go_wp2
  go_loopw [1, 5] (fun l i wr => ∃ (j : Nat) (q : Int), j ≤ x.length ∧ i = .int .i64 j ∧ l = .int .i64 q ∧ 0 ≤ q ∧ q ≤ k' ∧ Rep.hdL Rep.str (x.drop j) q = some k' ∧ Below w.heap.size w wr) (fun _ i _ => x.length - (intOf i).toNat)
  case atStart => exact ⟨0, k, Nat.zero_le _, rfl, rfl, hk0, (Rep.slice 9 Rep.str).held_ge (e := true) HH.out, HH.out, Below.refl _ _⟩
  case round =>
    obtain ⟨j, q, hj, rfl, rfl, hq0, hq1, hl, hbel⟩ := hrel
    by_cases hlt : j < x.length
    · obtain ⟨b, off, rfl, c0_0, hr, C0_0⟩ := Rep.get1 (ha.below hbel) hlt rfl
      obtain ⟨qe, hle, hln, hq2, hq3⟩ := Rep.held_step hlt hl
      have HN := Lib.hid hln; clear hln hl
      generalize x[j] = y at *
      obtain ⟨y0, rfl⟩ : ∃ y0, y0 = y := ⟨_, rfl⟩
      obtain ⟨hce, _⟩ := Rep.str_raw hr
      obtain rfl : c0_0 = _ := by simpa using hce
      clear hce hr
      obtain ⟨rfl, rfl⟩ := Rep.str_held hle
      go_wp2_with fail
      refine wp_region_soft (fun W => Below wr.heap.size wr W) [true, true, true, true, true, false, true] (by kernel_rfl) (by kernel_rfl) (fun c a d v w h => by cases d <;> exact h) ((Below.refl _ _).drew) ?_
      intro wS HS
      all_goals first | (refine soft_pass rfl HS ?_) | (refine soft_read (v := ?_) rfl (fun W hW => ?_) ?_; rotate_left; (· go_simp; try with_reducible rfl))
      all_goals try simp only [Act.put, List.setIfInBounds_toArray, List.set_cons_zero, List.set_cons_succ]
      all_goals first | (refine soft_pass rfl HS ?_) | (refine soft_read (v := ?_) rfl (fun W hW => ?_) ?_; rotate_left; (· go_simp; try with_reducible rfl))
      all_goals try simp only [Act.put, List.setIfInBounds_toArray, List.set_cons_zero, List.set_cons_succ]
      all_goals first | (refine soft_pass rfl HS ?_) | (refine soft_read (v := ?_) rfl (fun W hW => ?_) ?_; rotate_left; (· go_simp; try with_reducible rfl))
      all_goals try simp only [Act.put, List.setIfInBounds_toArray, List.set_cons_zero, List.set_cons_succ]
      all_goals first | (refine soft_pass rfl HS ?_) | (refine soft_read (v := ?_) rfl (fun W hW => ?_) ?_; rotate_left; (· have A_C0_0 := cell_later hW C0_0; clear hW; go_simp; try with_reducible rfl))
      all_goals try simp only [Act.put, List.setIfInBounds_toArray, List.set_cons_zero, List.set_cons_succ]
      all_goals first | (refine soft_pass rfl HS ?_) | (refine soft_read (v := ?_) rfl (fun W hW => ?_) ?_; rotate_left; (· go_simp; try with_reducible rfl))
      all_goals try simp only [Act.put, List.setIfInBounds_toArray, List.set_cons_zero, List.set_cons_succ]
      all_goals first | (refine soft_pass rfl HS ?_) | (refine soft_do rfl (fun K hK => ?_); go_simp; refine (markText_c (by omega) (by omega)).mono ?_; rintro e wS1 ⟨rfl, hbS⟩; replace HS := HS.trans (hbS.mono HS.size); refine hK _ _ HS ?_; clear hK K hbS)
      all_goals try simp only [Act.put, List.setIfInBounds_toArray, List.set_cons_zero, List.set_cons_succ]
      all_goals first | (refine soft_pass rfl HS ?_) | (refine soft_read (v := ?_) rfl (fun W hW => ?_) ?_; rotate_left; (· go_simp; try with_reducible rfl))
      all_goals try simp only [Act.put, List.setIfInBounds_toArray, List.set_cons_zero, List.set_cons_succ]
      all_goals refine soft_nil ?_
      have E1 := hbel.trans (HS.mono hbel.size)
      go_wp2
      go_roundw
      case rel => exact ⟨j + 1, _, by omega, by go_num, rfl, by omega, by omega, HN.out, E1⟩
      case measure => simp [intOf]; omega
    · have HD := Lib.hid (Rep.held_done hlt hl); clear hl
      go_wp2
      go_ret
      exact ⟨ret_int HD.out, hbel⟩
set_option maxRecDepth 100000 in
set_option maxHeartbeats 1000000 in
theorem heldByteS_c {w : World} {va : Value} {x : List UInt8} {k k' : Int} (ha : (Rep.slice 5 Rep.byte).raw w [va] x) (hh : (Rep.slice 5 Rep.byte).held true x k = some k') (hk0 : 0 ≤ k) (hk1 : k' ≤ 4611686018427387904) :
    Calls Try.prog 62 #[va, .int .i64 k] w fun e w' => e = .returned (.int .i64 k') ∧ Below w.heap.size w w' := by
  obtain ⟨aa, capa, hva, la⟩ := Rep.len_raw ha; obtain rfl : va = _ := by simpa using hva
  clear hva
  have HH := Lib.hid hh; clear hh
  go_enter Try.func62, Try.ntmps62
  go_wp2
  go_loopw [1, 5] (fun l i wr => ∃ (j : Nat) (q : Int), j ≤ x.length ∧ i = .int .i64 j ∧ l = .int .i64 q ∧ 0 ≤ q ∧ q ≤ k' ∧ Rep.hdL Rep.byte (x.drop j) q = some k' ∧ Below w.heap.size w wr) (fun _ i _ => x.length - (intOf i).toNat)
  case atStart => exact ⟨0, k, Nat.zero_le _, rfl, rfl, hk0, (Rep.slice 5 Rep.byte).held_ge (e := true) HH.out, HH.out, Below.refl _ _⟩
  case round =>
    obtain ⟨j, q, hj, rfl, rfl, hq0, hq1, hl, hbel⟩ := hrel
    by_cases hlt : j < x.length
    · obtain ⟨b, off, rfl, c0_0, hr, C0_0⟩ := Rep.get1 (ha.below hbel) hlt rfl
      obtain ⟨qe, hle, hln, hq2, hq3⟩ := Rep.held_step hlt hl
      have HN := Lib.hid hln; clear hln hl
      generalize x[j] = y at *
      obtain ⟨y0, rfl⟩ : ∃ y0, y0 = y := ⟨_, rfl⟩
      obtain hce := Rep.byte_raw hr
      obtain rfl : c0_0 = _ := by simpa using hce
      clear hce hr
      obtain ⟨rfl, rfl⟩ := Rep.byte_held hle
      go_wp2
      go_roundw
      case rel => exact ⟨j + 1, _, by omega, by go_num, rfl, by omega, by omega, HN.out, hbel⟩
      case measure => simp [intOf]; omega
    · have HD := Lib.hid (Rep.held_done hlt hl); clear hl
      go_wp2
      go_ret
      exact ⟨ret_int HD.out, hbel⟩
set_option maxRecDepth 100000 in
set_option maxHeartbeats 1000000 in
theorem heldName_c {w : World} {ca : List Value} {x : LName} {k k' : Int} (ha : RName.raw w ca x) (hh : RName.held false x k = some k') (hk0 : 0 ≤ k) (hk1 : k' ≤ 4611686018427387904) :
    Calls Try.prog 61 #[.agg ca.toArray, .int .i64 k] w fun e w' => e = .returned (.int .i64 k') ∧ Below w.heap.size w w' := by
  obtain ⟨av0, rfl, a_0⟩ := RName_raw ha
  obtain ⟨x0, rfl⟩ : ∃ x0, x0 = x := ⟨_, rfl⟩
  clear ha
  have HC0 := Lib.hid hh; clear hh
  have z0 := (Rep.slice 9 Rep.str).held_ge (e := true) HC0.out
  go_enter Try.func61, Try.ntmps61
  go_wp2_with fail
  refine (heldStringS_c (a_0.alloc _) HC0.out (by omega) (by omega)).mono ?_
  rintro e w1 ⟨rfl, hb1⟩
  have D1 := hb1
  have E1 : Below w.heap.size w w1 := ((Below.refl _ _).alloc (Nat.le_refl _) _).trans (hb1.mono (by simp))
  obtain ⟨hc1, hf1⟩ := bcell D1; clear hb1
  go_wp2
  go_ret
  exact ⟨rfl, E1⟩
set_option maxRecDepth 100000 in
set_option maxHeartbeats 1000000 in
theorem heldRequesterS_c {w : World} {va : Value} {x : List LRequester} {k k' : Int} (ha : (Rep.slice 114 RRequester).raw w [va] x) (hh : (Rep.slice 114 RRequester).held true x k = some k') (hk0 : 0 ≤ k) (hk1 : k' ≤ 4611686018427387904) :
    Calls Try.prog 84 #[va, .int .i64 k] w fun e w' => e = .returned (.int .i64 k') ∧ Below w.heap.size w w' := by
  obtain ⟨aa, capa, hva, la⟩ := Rep.len_raw ha; obtain rfl : va = _ := by simpa using hva
  clear hva
  have HH := Lib.hid hh; clear hh
  go_enter Try.func84, Try.ntmps84
  go_wp2
  go_loopw [1, 5] (fun l i wr => ∃ (j : Nat) (q : Int), j ≤ x.length ∧ i = .int .i64 j ∧ l = .int .i64 q ∧ 0 ≤ q ∧ q ≤ k' ∧ Rep.hdL RRequester (x.drop j) q = some k' ∧ Below w.heap.size w wr) (fun _ i _ => x.length - (intOf i).toNat)
  case atStart => exact ⟨0, k, Nat.zero_le _, rfl, rfl, hk0, (Rep.slice 114 RRequester).held_ge (e := true) HH.out, HH.out, Below.refl _ _⟩
  case round =>
    obtain ⟨j, q, hj, rfl, rfl, hq0, hq1, hl, hbel⟩ := hrel
    by_cases hlt : j < x.length
    · obtain ⟨b, off, rfl, c0_0, c0_1, c0_2, hr, C0_0, C0_1, C0_2⟩ := Rep.get3 (ha.below hbel) hlt rfl
      obtain ⟨qe, hle, hln, hq2, hq3⟩ := Rep.held_step hlt hl
      have HN := Lib.hid hln; clear hln hl
      generalize x[j] = y at *
      obtain ⟨y0, y1, y2⟩ := y
      obtain ⟨hce, s_0, s_1, s_2⟩ := RRequester_raw hr
      simp only [List.cons.injEq, and_true] at hce
      obtain ⟨rfl, rfl, rfl⟩ := hce
      clear hr s_0 s_1 s_2
      obtain ⟨k1, h1, r1, b1, d1⟩ := Rep.pair_held hle
      obtain ⟨rfl, rfl⟩ := Rep.int_held h1
      obtain ⟨k2, h2, r2, b2, d2⟩ := Rep.pair_held r1
      obtain ⟨rfl, rfl⟩ := Rep.int_held h2
      obtain ⟨rfl, rfl⟩ := Rep.int_held r2
      go_wp2
      go_roundw
      case rel => exact ⟨j + 1, _, by omega, by go_num, rfl, by omega, by omega, HN.out, hbel⟩
      case measure => simp [intOf]; omega
    · have HD := Lib.hid (Rep.held_done hlt hl); clear hl
      go_wp2
      go_ret
      exact ⟨ret_int HD.out, hbel⟩
set_option maxRecDepth 100000 in
set_option maxHeartbeats 1000000 in
theorem heldPendingInterestS_c {w : World} {va : Value} {x : List LPendingInterest} {k k' : Int} (ha : (Rep.slice 118 RPendingInterest).raw w [va] x) (hh : (Rep.slice 118 RPendingInterest).held true x k = some k') (hk0 : 0 ≤ k) (hk1 : k' ≤ 4611686018427387904) :
    Calls Try.prog 28 #[va, .int .i64 k] w fun e w' => e = .returned (.int .i64 k') ∧ Below w.heap.size w w' := by
  obtain ⟨aa, capa, hva, la⟩ := Rep.len_raw ha; obtain rfl : va = _ := by simpa using hva
  clear hva
  have HH := Lib.hid hh; clear hh
  go_enter Try.func28, Try.ntmps28
  go_wp2
  go_loopw [1, 5] (fun l i wr => ∃ (j : Nat) (q : Int), j ≤ x.length ∧ i = .int .i64 j ∧ l = .int .i64 q ∧ 0 ≤ q ∧ q ≤ k' ∧ Rep.hdL RPendingInterest (x.drop j) q = some k' ∧ Below w.heap.size w wr) (fun _ i _ => x.length - (intOf i).toNat)
  case atStart => exact ⟨0, k, Nat.zero_le _, rfl, rfl, hk0, (Rep.slice 118 RPendingInterest).held_ge (e := true) HH.out, HH.out, Below.refl _ _⟩
  case round =>
    obtain ⟨j, q, hj, rfl, rfl, hq0, hq1, hl, hbel⟩ := hrel
    by_cases hlt : j < x.length
    · obtain ⟨b, off, rfl, c0_0, c0_1, c0_2, hr, C0_0, C0_1, C0_2⟩ := Rep.get3 (ha.below hbel) hlt rfl
      obtain ⟨qe, hle, hln, hq2, hq3⟩ := Rep.held_step hlt hl
      have HN := Lib.hid hln; clear hln hl
      generalize x[j] = y at *
      obtain ⟨y0, y1, y2⟩ := y
      obtain ⟨sv0, sv1, hce, s_0, s_1, s_2, s_3⟩ := RPendingInterest_raw hr
      simp only [List.cons.injEq, and_true] at hce
      obtain ⟨rfl, rfl, rfl⟩ := hce
      clear hr s_0 s_3
      obtain ⟨k1, h1, r1, b1, d1⟩ := Rep.pair_held hle
      have HC0 := Lib.hid h1; clear h1
      obtain ⟨k2, h2, r2, b2, d2⟩ := Rep.pair_held r1
      have HC1 := Lib.hid h2; clear h2
      obtain ⟨rfl, rfl⟩ := Rep.int_held r2
      go_wp2_with fail
      refine (heldStringS_c s_1 HC0.out (by omega) (by omega)).mono ?_
      rintro e w1 ⟨rfl, hb1⟩
      have E1 := hbel.trans (hb1.mono hbel.size)
      have B1 := hb1
      have C1_0 := cell_later hb1 C0_0
      have C1_1 := cell_later hb1 C0_1
      have C1_2 := cell_later hb1 C0_2
      clear hb1 C0_0 C0_1 C0_2
      go_wp2_with fail
      refine (heldRequesterS_c (s_2.below B1) HC1.out (by omega) (by omega)).mono ?_
      rintro e w2 ⟨rfl, hb2⟩
      have E2 := E1.trans (hb2.mono E1.size)
      have B2 := B1.trans (hb2.mono B1.size)
      have C2_0 := cell_later hb2 C1_0
      have C2_1 := cell_later hb2 C1_1
      have C2_2 := cell_later hb2 C1_2
      clear hb2 C1_0 C1_1 C1_2
      go_wp2
      go_roundw
      case rel => exact ⟨j + 1, _, by omega, by go_num, rfl, by omega, by omega, HN.out, E2⟩
      case measure => simp [intOf]; omega
    · have HD := Lib.hid (Rep.held_done hlt hl); clear hl
      go_wp2
      go_ret
      exact ⟨ret_int HD.out, hbel⟩
set_option maxRecDepth 100000 in
set_option maxHeartbeats 1000000 in
theorem heldData_c {w : World} {ca : List Value} {x : LData} {k k' : Int} (ha : RData.raw w ca x) (hh : RData.held false x k = some k') (hk0 : 0 ≤ k) (hk1 : k' ≤ 4611686018427387904) :
    Calls Try.prog 17 #[.agg ca.toArray, .int .i64 k] w fun e w' => e = .returned (.int .i64 k') ∧ Below w.heap.size w w' := by
  obtain ⟨av0, av1, av2, rfl, a_0, a_1, a_2, a_3, a_4, a_5, a_6⟩ := RData_raw ha
  obtain ⟨x0, x1, x2, x3, x4⟩ := x
  clear ha a_1 a_4 a_5 a_6
  obtain ⟨k0, h0, r0, b0, d0⟩ := Rep.pair_held hh
  have HC0 := Lib.hid h0; clear h0
  obtain ⟨k1, h1, r1, b1, d1⟩ := Rep.pair_held r0
  have HC1 := Lib.hid h1; clear h1
  obtain ⟨k2, h2, r2, b2, d2⟩ := Rep.pair_held r1
  have HC2 := Lib.hid h2; clear h2
  obtain ⟨k3, h3, r3, b3, d3⟩ := Rep.pair_held r2
  obtain rfl := Rep.int_held0 h3
  obtain rfl := Rep.int_held0 r3
  have z0 := RName.held_ge (e := false) HC0.out
  have z1 := (Rep.slice 5 Rep.byte).held_ge (e := true) HC1.out
  have z2 := RName.held_ge (e := false) HC2.out
  go_enter Try.func17, Try.ntmps17
  go_wp2_with fail
  refine (heldName_c (a_0.alloc _) HC0.out (by omega) (by omega)).mono ?_
  rintro e w1 ⟨rfl, hb1⟩
  have D1 := hb1
  have E1 : Below w.heap.size w w1 := ((Below.refl _ _).alloc (Nat.le_refl _) _).trans (hb1.mono (by simp))
  obtain ⟨hc1, hf1⟩ := bcell D1; clear hb1
  go_wp2_with fail
  refine (heldByteS_c (a_2.below E1) HC1.out (by omega) (by omega)).mono ?_
  rintro e w2 ⟨rfl, hb2⟩
  have D2 := D1.trans (hb2.mono D1.size)
  have E2 := E1.trans (hb2.mono E1.size)
  clear hc1 hf1 hb2
  obtain ⟨hc2, hf2⟩ := bcell D2
  go_wp2_with fail
  refine (heldName_c (a_3.below E2) HC2.out (by omega) (by omega)).mono ?_
  rintro e w3 ⟨rfl, hb3⟩
  have D3 := D2.trans (hb3.mono D2.size)
  have E3 := E2.trans (hb3.mono E2.size)
  clear hc2 hf2 hb3
  obtain ⟨hc3, hf3⟩ := bcell D3
  go_wp2
  go_ret
  exact ⟨rfl, E3⟩
end Go.Proofs.Ytaphafmkidjakaa

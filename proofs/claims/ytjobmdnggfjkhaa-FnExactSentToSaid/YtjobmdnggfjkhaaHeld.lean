/-
  The laws' readings of marks: they find the marks that are there. Printed by genheld.py.
-/
import Derived.Test.YtjobmdnggfjkhaaMark
import Derived.Test.YtjobmdnggfjkhaaSoft
namespace Go.Proofs.Ytjobmdnggfjkhaa
open Go.RowKit
set_option linter.unusedVariables false
set_option linter.unusedSimpArgs false
set_option linter.unnecessarySimpa false

theorem i64_ne_false {a : Int} : (a != a) = false := by simp
theorem bool_b3 {x : Bool} {k k' : Int} (h : Rep.bool.held true x k = some k') : (x == (k % 3 == 0)) = true := by
  obtain ⟨rfl, _⟩ := Rep.bool_held h
  rw [beq_iff_eq, Bool.eq_iff_iff]; simp

set_option maxRecDepth 100000 in
set_option maxHeartbeats 1000000 in
theorem heldStringS_c {w : World} {va : Value} {x : List ByteArray} {k k' : Int} (ha : (Rep.slice 9 Rep.str).raw w [va] x) (hh : (Rep.slice 9 Rep.str).held true x k = some k') (hk0 : 0 ≤ k) (hk1 : k' ≤ 4611686018427387904) :
    Calls Try.prog 73 #[va, .int .i64 k] w fun e w' => e = .returned (.int .i64 k') ∧ Below w.heap.size w w' := by
  obtain ⟨aa, capa, hva, la⟩ := Rep.len_raw ha; obtain rfl : va = _ := by simpa using hva
  clear hva
  have HH := Lib.hid hh; clear hh
  go_enter Try.func73, Try.ntmps73
  go_wp2
  go_loopw [1, 5] (fun l i wr => ∃ (j : Nat) (q : Int), j ≤ x.length ∧ i = .int .i64 j ∧ l = .int .i64 q ∧ 0 ≤ q ∧ q ≤ k' ∧ Rep.hdL Rep.str (x.drop j) q = some k' ∧ Below w.heap.size w wr) (fun _ i _ => x.length - (intOf i).toNat)
  case atStart => exact ⟨0, k, Nat.zero_le _, rfl, rfl, hk0, (Rep.slice 9 Rep.str).held_ge (e := true) HH.out, HH.out, Below.refl _ _⟩
  case round =>
    obtain ⟨j, q, hj, rfl, rfl, hq0, hq1, hl, hbel⟩ := hrel
    by_cases hlt : j < x.length
    · obtain ⟨b, off, rfl, c0_0, hr, C0_0⟩ := Rep.get1 (ha.below hbel) hlt rfl
      obtain ⟨qe, hle, hln, hq2, hq3⟩ := Rep.held_step hlt hl
      have HN := Lib.hid hln; clear hln hl
      generalize x[j] = y at *
      obtain ⟨y0, rfl⟩ : ∃ y0, y0 = y := ⟨_, rfl⟩
      obtain ⟨hce, _⟩ := Rep.str_raw hr
      obtain rfl : c0_0 = _ := by simpa using hce
      clear hce hr
      obtain ⟨rfl, rfl⟩ := Rep.str_held hle
      go_wp2_with fail
      refine wp_region_soft (fun W => Below wr.heap.size wr W) [true, true, true, true, true, false, true] (by kernel_rfl) (by kernel_rfl) (fun c a d v w h => by cases d <;> exact h) ((Below.refl _ _).drew) ?_
      intro wS HS
      all_goals first | (refine soft_pass rfl HS ?_) | (refine soft_read (v := ?_) rfl (fun W hW => ?_) ?_; rotate_left; (· go_simp; try with_reducible rfl))
      all_goals try simp only [Act.put, List.setIfInBounds_toArray, List.set_cons_zero, List.set_cons_succ]
      all_goals first | (refine soft_pass rfl HS ?_) | (refine soft_read (v := ?_) rfl (fun W hW => ?_) ?_; rotate_left; (· go_simp; try with_reducible rfl))
      all_goals try simp only [Act.put, List.setIfInBounds_toArray, List.set_cons_zero, List.set_cons_succ]
      all_goals first | (refine soft_pass rfl HS ?_) | (refine soft_read (v := ?_) rfl (fun W hW => ?_) ?_; rotate_left; (· go_simp; try with_reducible rfl))
      all_goals try simp only [Act.put, List.setIfInBounds_toArray, List.set_cons_zero, List.set_cons_succ]
      all_goals first | (refine soft_pass rfl HS ?_) | (refine soft_read (v := ?_) rfl (fun W hW => ?_) ?_; rotate_left; (· have A_C0_0 := cell_later hW C0_0; clear hW; go_simp; try with_reducible rfl))
      all_goals try simp only [Act.put, List.setIfInBounds_toArray, List.set_cons_zero, List.set_cons_succ]
      all_goals first | (refine soft_pass rfl HS ?_) | (refine soft_read (v := ?_) rfl (fun W hW => ?_) ?_; rotate_left; (· go_simp; try with_reducible rfl))
      all_goals try simp only [Act.put, List.setIfInBounds_toArray, List.set_cons_zero, List.set_cons_succ]
      all_goals first | (refine soft_pass rfl HS ?_) | (refine soft_do rfl (fun K hK => ?_); go_simp; refine (markText_c (by omega) (by omega)).mono ?_; rintro e wS1 ⟨rfl, hbS⟩; replace HS := HS.trans (hbS.mono HS.size); refine hK _ _ HS ?_; clear hK K hbS)
      all_goals try simp only [Act.put, List.setIfInBounds_toArray, List.set_cons_zero, List.set_cons_succ]
      all_goals first | (refine soft_pass rfl HS ?_) | (refine soft_read (v := ?_) rfl (fun W hW => ?_) ?_; rotate_left; (· go_simp; try with_reducible rfl))
      all_goals try simp only [Act.put, List.setIfInBounds_toArray, List.set_cons_zero, List.set_cons_succ]
      all_goals refine soft_nil ?_
      have E1 := hbel.trans (HS.mono hbel.size)
      go_wp2
      go_roundw
      case rel => exact ⟨j + 1, _, by omega, by go_num, rfl, by omega, by omega, HN.out, E1⟩
      case measure => simp [intOf]; omega
    · have HD := Lib.hid (Rep.held_done hlt hl); clear hl
      go_wp2
      go_ret
      exact ⟨ret_int HD.out, hbel⟩
set_option maxRecDepth 100000 in
set_option maxHeartbeats 1000000 in
theorem heldByteS_c {w : World} {va : Value} {x : List UInt8} {k k' : Int} (ha : (Rep.slice 5 Rep.byte).raw w [va] x) (hh : (Rep.slice 5 Rep.byte).held true x k = some k') (hk0 : 0 ≤ k) (hk1 : k' ≤ 4611686018427387904) :
    Calls Try.prog 96 #[va, .int .i64 k] w fun e w' => e = .returned (.int .i64 k') ∧ Below w.heap.size w w' := by
  obtain ⟨aa, capa, hva, la⟩ := Rep.len_raw ha; obtain rfl : va = _ := by simpa using hva
  clear hva
  have HH := Lib.hid hh; clear hh
  go_enter Try.func96, Try.ntmps96
  go_wp2
  go_loopw [1, 5] (fun l i wr => ∃ (j : Nat) (q : Int), j ≤ x.length ∧ i = .int .i64 j ∧ l = .int .i64 q ∧ 0 ≤ q ∧ q ≤ k' ∧ Rep.hdL Rep.byte (x.drop j) q = some k' ∧ Below w.heap.size w wr) (fun _ i _ => x.length - (intOf i).toNat)
  case atStart => exact ⟨0, k, Nat.zero_le _, rfl, rfl, hk0, (Rep.slice 5 Rep.byte).held_ge (e := true) HH.out, HH.out, Below.refl _ _⟩
  case round =>
    obtain ⟨j, q, hj, rfl, rfl, hq0, hq1, hl, hbel⟩ := hrel
    by_cases hlt : j < x.length
    · obtain ⟨b, off, rfl, c0_0, hr, C0_0⟩ := Rep.get1 (ha.below hbel) hlt rfl
      obtain ⟨qe, hle, hln, hq2, hq3⟩ := Rep.held_step hlt hl
      have HN := Lib.hid hln; clear hln hl
      generalize x[j] = y at *
      obtain ⟨y0, rfl⟩ : ∃ y0, y0 = y := ⟨_, rfl⟩
      obtain hce := Rep.byte_raw hr
      obtain rfl : c0_0 = _ := by simpa using hce
      clear hce hr
      obtain ⟨rfl, rfl⟩ := Rep.byte_held hle
      go_wp2
      go_roundw
      case rel => exact ⟨j + 1, _, by omega, by go_num, rfl, by omega, by omega, HN.out, hbel⟩
      case measure => simp [intOf]; omega
    · have HD := Lib.hid (Rep.held_done hlt hl); clear hl
      go_wp2
      go_ret
      exact ⟨ret_int HD.out, hbel⟩
set_option maxRecDepth 100000 in
set_option maxHeartbeats 1000000 in
theorem heldMeasurementS_c {w : World} {va : Value} {x : List LMeasurement} {k k' : Int} (ha : (Rep.slice 92 RMeasurement).raw w [va] x) (hh : (Rep.slice 92 RMeasurement).held true x k = some k') (hk0 : 0 ≤ k) (hk1 : k' ≤ 4611686018427387904) :
    Calls Try.prog 19 #[va, .int .i64 k] w fun e w' => e = .returned (.int .i64 k') ∧ Below w.heap.size w w' := by
  obtain ⟨aa, capa, hva, la⟩ := Rep.len_raw ha; obtain rfl : va = _ := by simpa using hva
  clear hva
  have HH := Lib.hid hh; clear hh
  go_enter Try.func19, Try.ntmps19
  go_wp2
  go_loopw [1, 5] (fun l i wr => ∃ (j : Nat) (q : Int), j ≤ x.length ∧ i = .int .i64 j ∧ l = .int .i64 q ∧ 0 ≤ q ∧ q ≤ k' ∧ Rep.hdL RMeasurement (x.drop j) q = some k' ∧ Below w.heap.size w wr) (fun _ i _ => x.length - (intOf i).toNat)
  case atStart => exact ⟨0, k, Nat.zero_le _, rfl, rfl, hk0, (Rep.slice 92 RMeasurement).held_ge (e := true) HH.out, HH.out, Below.refl _ _⟩
  case round =>
    obtain ⟨j, q, hj, rfl, rfl, hq0, hq1, hl, hbel⟩ := hrel
    by_cases hlt : j < x.length
    · obtain ⟨b, off, rfl, c0_0, c0_1, c0_2, hr, C0_0, C0_1, C0_2⟩ := Rep.get3 (ha.below hbel) hlt rfl
      obtain ⟨qe, hle, hln, hq2, hq3⟩ := Rep.held_step hlt hl
      have HN := Lib.hid hln; clear hln hl
      generalize x[j] = y at *
      obtain ⟨y0, y1, y2⟩ := y
      obtain ⟨sv0, hce, s_0, s_1, s_2, s_3⟩ := RMeasurement_raw hr
      simp only [List.cons.injEq, and_true] at hce
      obtain ⟨rfl, rfl, rfl⟩ := hce
      clear hr s_0 s_2 s_3
      obtain ⟨k1, h1, r1, b1, d1⟩ := Rep.pair_held hle
      have HC0 := Lib.hid h1; clear h1
      obtain ⟨k2, h2, r2, b2, d2⟩ := Rep.pair_held r1
      obtain ⟨rfl, rfl⟩ := Rep.int_held h2
      obtain ⟨rfl, rfl⟩ := Rep.int_held r2
      go_wp2_with fail
      refine (heldStringS_c s_1 HC0.out (by omega) (by omega)).mono ?_
      rintro e w1 ⟨rfl, hb1⟩
      have E1 := hbel.trans (hb1.mono hbel.size)
      have B1 := hb1
      have C1_0 := cell_later hb1 C0_0
      have C1_1 := cell_later hb1 C0_1
      have C1_2 := cell_later hb1 C0_2
      clear hb1 C0_0 C0_1 C0_2
      go_wp2
      go_roundw
      case rel => exact ⟨j + 1, _, by omega, by go_num, rfl, by omega, by omega, HN.out, E1⟩
      case measure => simp [intOf]; omega
    · have HD := Lib.hid (Rep.held_done hlt hl); clear hl
      go_wp2
      go_ret
      exact ⟨ret_int HD.out, hbel⟩
set_option maxRecDepth 100000 in
set_option maxHeartbeats 1000000 in
theorem heldRouteS_c {w : World} {va : Value} {x : List LRoute} {k k' : Int} (ha : (Rep.slice 48 RRoute).raw w [va] x) (hh : (Rep.slice 48 RRoute).held true x k = some k') (hk0 : 0 ≤ k) (hk1 : k' ≤ 4611686018427387904) :
    Calls Try.prog 30 #[va, .int .i64 k] w fun e w' => e = .returned (.int .i64 k') ∧ Below w.heap.size w w' := by
  obtain ⟨aa, capa, hva, la⟩ := Rep.len_raw ha; obtain rfl : va = _ := by simpa using hva
  clear hva
  have HH := Lib.hid hh; clear hh
  go_enter Try.func30, Try.ntmps30
  go_wp2
  go_loopw [1, 5] (fun l i wr => ∃ (j : Nat) (q : Int), j ≤ x.length ∧ i = .int .i64 j ∧ l = .int .i64 q ∧ 0 ≤ q ∧ q ≤ k' ∧ Rep.hdL RRoute (x.drop j) q = some k' ∧ Below w.heap.size w wr) (fun _ i _ => x.length - (intOf i).toNat)
  case atStart => exact ⟨0, k, Nat.zero_le _, rfl, rfl, hk0, (Rep.slice 48 RRoute).held_ge (e := true) HH.out, HH.out, Below.refl _ _⟩
  case round =>
    obtain ⟨j, q, hj, rfl, rfl, hq0, hq1, hl, hbel⟩ := hrel
    by_cases hlt : j < x.length
    · obtain ⟨b, off, rfl, c0_0, c0_1, c0_2, hr, C0_0, C0_1, C0_2⟩ := Rep.get3 (ha.below hbel) hlt rfl
      obtain ⟨qe, hle, hln, hq2, hq3⟩ := Rep.held_step hlt hl
      have HN := Lib.hid hln; clear hln hl
      generalize x[j] = y at *
      obtain ⟨y0, y1, y2⟩ := y
      obtain ⟨sv0, hce, s_0, s_1, s_2, s_3⟩ := RRoute_raw hr
      simp only [List.cons.injEq, and_true] at hce
      obtain ⟨rfl, rfl, rfl⟩ := hce
      clear hr s_0 s_2 s_3
      obtain ⟨k1, h1, r1, b1, d1⟩ := Rep.pair_held hle
      have HC0 := Lib.hid h1; clear h1
      obtain ⟨k2, h2, r2, b2, d2⟩ := Rep.pair_held r1
      obtain ⟨rfl, rfl⟩ := Rep.int_held h2
      obtain ⟨rfl, rfl⟩ := Rep.int_held r2
      go_wp2_with fail
      refine (heldStringS_c s_1 HC0.out (by omega) (by omega)).mono ?_
      rintro e w1 ⟨rfl, hb1⟩
      have E1 := hbel.trans (hb1.mono hbel.size)
      have B1 := hb1
      have C1_0 := cell_later hb1 C0_0
      have C1_1 := cell_later hb1 C0_1
      have C1_2 := cell_later hb1 C0_2
      clear hb1 C0_0 C0_1 C0_2
      go_wp2
      go_roundw
      case rel => exact ⟨j + 1, _, by omega, by go_num, rfl, by omega, by omega, HN.out, E1⟩
      case measure => simp [intOf]; omega
    · have HD := Lib.hid (Rep.held_done hlt hl); clear hl
      go_wp2
      go_ret
      exact ⟨ret_int HD.out, hbel⟩
set_option maxRecDepth 100000 in
set_option maxHeartbeats 1000000 in
theorem heldRequesterS_c {w : World} {va : Value} {x : List LRequester} {k k' : Int} (ha : (Rep.slice 114 RRequester).raw w [va] x) (hh : (Rep.slice 114 RRequester).held true x k = some k') (hk0 : 0 ≤ k) (hk1 : k' ≤ 4611686018427387904) :
    Calls Try.prog 42 #[va, .int .i64 k] w fun e w' => e = .returned (.int .i64 k') ∧ Below w.heap.size w w' := by
  obtain ⟨aa, capa, hva, la⟩ := Rep.len_raw ha; obtain rfl : va = _ := by simpa using hva
  clear hva
  have HH := Lib.hid hh; clear hh
  go_enter Try.func42, Try.ntmps42
  go_wp2
  go_loopw [1, 5] (fun l i wr => ∃ (j : Nat) (q : Int), j ≤ x.length ∧ i = .int .i64 j ∧ l = .int .i64 q ∧ 0 ≤ q ∧ q ≤ k' ∧ Rep.hdL RRequester (x.drop j) q = some k' ∧ Below w.heap.size w wr) (fun _ i _ => x.length - (intOf i).toNat)
  case atStart => exact ⟨0, k, Nat.zero_le _, rfl, rfl, hk0, (Rep.slice 114 RRequester).held_ge (e := true) HH.out, HH.out, Below.refl _ _⟩
  case round =>
    obtain ⟨j, q, hj, rfl, rfl, hq0, hq1, hl, hbel⟩ := hrel
    by_cases hlt : j < x.length
    · obtain ⟨b, off, rfl, c0_0, c0_1, c0_2, hr, C0_0, C0_1, C0_2⟩ := Rep.get3 (ha.below hbel) hlt rfl
      obtain ⟨qe, hle, hln, hq2, hq3⟩ := Rep.held_step hlt hl
      have HN := Lib.hid hln; clear hln hl
      generalize x[j] = y at *
      obtain ⟨y0, y1, y2⟩ := y
      obtain ⟨hce, s_0, s_1, s_2⟩ := RRequester_raw hr
      simp only [List.cons.injEq, and_true] at hce
      obtain ⟨rfl, rfl, rfl⟩ := hce
      clear hr s_0 s_1 s_2
      obtain ⟨k1, h1, r1, b1, d1⟩ := Rep.pair_held hle
      obtain ⟨rfl, rfl⟩ := Rep.int_held h1
      obtain ⟨k2, h2, r2, b2, d2⟩ := Rep.pair_held r1
      obtain ⟨rfl, rfl⟩ := Rep.int_held h2
      obtain ⟨rfl, rfl⟩ := Rep.int_held r2
      go_wp2
      go_roundw
      case rel => exact ⟨j + 1, _, by omega, by go_num, rfl, by omega, by omega, HN.out, hbel⟩
      case measure => simp [intOf]; omega
    · have HD := Lib.hid (Rep.held_done hlt hl); clear hl
      go_wp2
      go_ret
      exact ⟨ret_int HD.out, hbel⟩
set_option maxRecDepth 100000 in
set_option maxHeartbeats 1000000 in
theorem heldPendingInterestS_c {w : World} {va : Value} {x : List LPendingInterest} {k k' : Int} (ha : (Rep.slice 108 RPendingInterest).raw w [va] x) (hh : (Rep.slice 108 RPendingInterest).held true x k = some k') (hk0 : 0 ≤ k) (hk1 : k' ≤ 4611686018427387904) :
    Calls Try.prog 37 #[va, .int .i64 k] w fun e w' => e = .returned (.int .i64 k') ∧ Below w.heap.size w w' := by
  obtain ⟨aa, capa, hva, la⟩ := Rep.len_raw ha; obtain rfl : va = _ := by simpa using hva
  clear hva
  have HH := Lib.hid hh; clear hh
  go_enter Try.func37, Try.ntmps37
  go_wp2
  go_loopw [1, 5] (fun l i wr => ∃ (j : Nat) (q : Int), j ≤ x.length ∧ i = .int .i64 j ∧ l = .int .i64 q ∧ 0 ≤ q ∧ q ≤ k' ∧ Rep.hdL RPendingInterest (x.drop j) q = some k' ∧ Below w.heap.size w wr) (fun _ i _ => x.length - (intOf i).toNat)
  case atStart => exact ⟨0, k, Nat.zero_le _, rfl, rfl, hk0, (Rep.slice 108 RPendingInterest).held_ge (e := true) HH.out, HH.out, Below.refl _ _⟩
  case round =>
    obtain ⟨j, q, hj, rfl, rfl, hq0, hq1, hl, hbel⟩ := hrel
    by_cases hlt : j < x.length
    · obtain ⟨b, off, rfl, c0_0, c0_1, c0_2, hr, C0_0, C0_1, C0_2⟩ := Rep.get3 (ha.below hbel) hlt rfl
      obtain ⟨qe, hle, hln, hq2, hq3⟩ := Rep.held_step hlt hl
      have HN := Lib.hid hln; clear hln hl
      generalize x[j] = y at *
      obtain ⟨y0, y1, y2⟩ := y
      obtain ⟨sv0, sv1, hce, s_0, s_1, s_2, s_3⟩ := RPendingInterest_raw hr
      simp only [List.cons.injEq, and_true] at hce
      obtain ⟨rfl, rfl, rfl⟩ := hce
      clear hr s_0 s_3
      obtain ⟨k1, h1, r1, b1, d1⟩ := Rep.pair_held hle
      have HC0 := Lib.hid h1; clear h1
      obtain ⟨k2, h2, r2, b2, d2⟩ := Rep.pair_held r1
      have HC1 := Lib.hid h2; clear h2
      obtain ⟨rfl, rfl⟩ := Rep.int_held r2
      go_wp2_with fail
      refine (heldStringS_c s_1 HC0.out (by omega) (by omega)).mono ?_
      rintro e w1 ⟨rfl, hb1⟩
      have E1 := hbel.trans (hb1.mono hbel.size)
      have B1 := hb1
      have C1_0 := cell_later hb1 C0_0
      have C1_1 := cell_later hb1 C0_1
      have C1_2 := cell_later hb1 C0_2
      clear hb1 C0_0 C0_1 C0_2
      go_wp2_with fail
      refine (heldRequesterS_c (s_2.below B1) HC1.out (by omega) (by omega)).mono ?_
      rintro e w2 ⟨rfl, hb2⟩
      have E2 := E1.trans (hb2.mono E1.size)
      have B2 := B1.trans (hb2.mono B1.size)
      have C2_0 := cell_later hb2 C1_0
      have C2_1 := cell_later hb2 C1_1
      have C2_2 := cell_later hb2 C1_2
      clear hb2 C1_0 C1_1 C1_2
      go_wp2
      go_roundw
      case rel => exact ⟨j + 1, _, by omega, by go_num, rfl, by omega, by omega, HN.out, E2⟩
      case measure => simp [intOf]; omega
    · have HD := Lib.hid (Rep.held_done hlt hl); clear hl
      go_wp2
      go_ret
      exact ⟨ret_int HD.out, hbel⟩
set_option maxRecDepth 100000 in
set_option maxHeartbeats 1000000 in
theorem heldDataS_c {w : World} {va : Value} {x : List LData} {k k' : Int} (ha : (Rep.slice 126 RData).raw w [va] x) (hh : (Rep.slice 126 RData).held true x k = some k') (hk0 : 0 ≤ k) (hk1 : k' ≤ 4611686018427387904) :
    Calls Try.prog 51 #[va, .int .i64 k] w fun e w' => e = .returned (.int .i64 k') ∧ Below w.heap.size w w' := by
  obtain ⟨aa, capa, hva, la⟩ := Rep.len_raw ha; obtain rfl : va = _ := by simpa using hva
  clear hva
  have HH := Lib.hid hh; clear hh
  go_enter Try.func51, Try.ntmps51
  go_wp2
  go_loopw [1, 5] (fun l i wr => ∃ (j : Nat) (q : Int), j ≤ x.length ∧ i = .int .i64 j ∧ l = .int .i64 q ∧ 0 ≤ q ∧ q ≤ k' ∧ Rep.hdL RData (x.drop j) q = some k' ∧ Below w.heap.size w wr) (fun _ i _ => x.length - (intOf i).toNat)
  case atStart => exact ⟨0, k, Nat.zero_le _, rfl, rfl, hk0, (Rep.slice 126 RData).held_ge (e := true) HH.out, HH.out, Below.refl _ _⟩
  case round =>
    obtain ⟨j, q, hj, rfl, rfl, hq0, hq1, hl, hbel⟩ := hrel
    by_cases hlt : j < x.length
    · obtain ⟨b, off, rfl, c0_0, c0_1, c0_2, c0_3, c0_4, hr, C0_0, C0_1, C0_2, C0_3, C0_4⟩ := Rep.get5 (ha.below hbel) hlt rfl
      obtain ⟨qe, hle, hln, hq2, hq3⟩ := Rep.held_step hlt hl
      have HN := Lib.hid hln; clear hln hl
      generalize x[j] = y at *
      obtain ⟨y0, y1, y2, y3, y4⟩ := y
      obtain ⟨sv0, sv1, sv2, hce, s_0, s_1, s_2, s_3, s_4, s_5, s_6⟩ := RData_raw hr
      simp only [List.cons.injEq, and_true] at hce
      obtain ⟨rfl, rfl, rfl, rfl, rfl⟩ := hce
      clear hr s_0 s_3 s_5 s_6
      obtain ⟨k1, h1, r1, b1, d1⟩ := Rep.pair_held hle
      have HC0 := Lib.hid h1; clear h1
      obtain ⟨k2, h2, r2, b2, d2⟩ := Rep.pair_held r1
      have HC1 := Lib.hid h2; clear h2
      obtain ⟨k3, h3, r3, b3, d3⟩ := Rep.pair_held r2
      have HC2 := Lib.hid h3; clear h3
      obtain ⟨k4, h4, r4, b4, d4⟩ := Rep.pair_held r3
      obtain ⟨rfl, rfl⟩ := Rep.int_held h4
      obtain ⟨rfl, rfl⟩ := Rep.int_held r4
      go_wp2_with fail
      refine (heldStringS_c s_1 HC0.out (by omega) (by omega)).mono ?_
      rintro e w1 ⟨rfl, hb1⟩
      have E1 := hbel.trans (hb1.mono hbel.size)
      have B1 := hb1
      have C1_0 := cell_later hb1 C0_0
      have C1_1 := cell_later hb1 C0_1
      have C1_2 := cell_later hb1 C0_2
      have C1_3 := cell_later hb1 C0_3
      have C1_4 := cell_later hb1 C0_4
      clear hb1 C0_0 C0_1 C0_2 C0_3 C0_4
      go_wp2_with fail
      refine (heldByteS_c (s_2.below B1) HC1.out (by omega) (by omega)).mono ?_
      rintro e w2 ⟨rfl, hb2⟩
      have E2 := E1.trans (hb2.mono E1.size)
      have B2 := B1.trans (hb2.mono B1.size)
      have C2_0 := cell_later hb2 C1_0
      have C2_1 := cell_later hb2 C1_1
      have C2_2 := cell_later hb2 C1_2
      have C2_3 := cell_later hb2 C1_3
      have C2_4 := cell_later hb2 C1_4
      clear hb2 C1_0 C1_1 C1_2 C1_3 C1_4
      go_wp2_with fail
      refine (heldStringS_c (s_4.below B2) HC2.out (by omega) (by omega)).mono ?_
      rintro e w3 ⟨rfl, hb3⟩
      have E3 := E2.trans (hb3.mono E2.size)
      have B3 := B2.trans (hb3.mono B2.size)
      have C3_0 := cell_later hb3 C2_0
      have C3_1 := cell_later hb3 C2_1
      have C3_2 := cell_later hb3 C2_2
      have C3_3 := cell_later hb3 C2_3
      have C3_4 := cell_later hb3 C2_4
      clear hb3 C2_0 C2_1 C2_2 C2_3 C2_4
      go_wp2
      go_roundw
      case rel => exact ⟨j + 1, _, by omega, by go_num, rfl, by omega, by omega, HN.out, E3⟩
      case measure => simp [intOf]; omega
    · have HD := Lib.hid (Rep.held_done hlt hl); clear hl
      go_wp2
      go_ret
      exact ⟨ret_int HD.out, hbel⟩
set_option maxRecDepth 100000 in
set_option maxHeartbeats 1000000 in
theorem heldOutgoingS_c {w : World} {va : Value} {x : List LOutgoing} {k k' : Int} (ha : (Rep.slice 128 ROutgoing).raw w [va] x) (hh : (Rep.slice 128 ROutgoing).held true x k = some k') (hk0 : 0 ≤ k) (hk1 : k' ≤ 4611686018427387904) :
    Calls Try.prog 54 #[va, .int .i64 k] w fun e w' => e = .returned (.int .i64 k') ∧ Below w.heap.size w w' := by
  obtain ⟨aa, capa, hva, la⟩ := Rep.len_raw ha; obtain rfl : va = _ := by simpa using hva
  clear hva
  have HH := Lib.hid hh; clear hh
  go_enter Try.func54, Try.ntmps54
  go_wp2
  go_loopw [1, 5] (fun l i wr => ∃ (j : Nat) (q : Int), j ≤ x.length ∧ i = .int .i64 j ∧ l = .int .i64 q ∧ 0 ≤ q ∧ q ≤ k' ∧ Rep.hdL ROutgoing (x.drop j) q = some k' ∧ Below w.heap.size w wr) (fun _ i _ => x.length - (intOf i).toNat)
  case atStart => exact ⟨0, k, Nat.zero_le _, rfl, rfl, hk0, (Rep.slice 128 ROutgoing).held_ge (e := true) HH.out, HH.out, Below.refl _ _⟩
  case round =>
    obtain ⟨j, q, hj, rfl, rfl, hq0, hq1, hl, hbel⟩ := hrel
    by_cases hlt : j < x.length
    · obtain ⟨b, off, rfl, c0_0, c0_1, c0_2, c0_3, c0_4, c0_5, c0_6, c0_7, c0_8, c0_9, c0_10, hr, C0_0, C0_1, C0_2, C0_3, C0_4, C0_5, C0_6, C0_7, C0_8, C0_9, C0_10⟩ := Rep.get11 (ha.below hbel) hlt rfl
      obtain ⟨qe, hle, hln, hq2, hq3⟩ := Rep.held_step hlt hl
      have HN := Lib.hid hln; clear hln hl
      generalize x[j] = y at *
      obtain ⟨y0, y1, ⟨y2, y3, y4, y5⟩, ⟨y6, y7, y8, y9, y10⟩⟩ := y
      obtain ⟨sv2, sv6, sv7, sv8, hce, s_0, s_1, s_2, s_3, s_4, s_5, s_6, s_7, s_8, s_9, s_10, s_11, s_12, s_13, s_14⟩ := ROutgoing_raw hr
      simp only [List.cons.injEq, and_true] at hce
      obtain ⟨rfl, rfl, rfl, rfl, rfl, rfl, rfl, rfl, rfl, rfl, rfl⟩ := hce
      clear hr s_0 s_1 s_2 s_4 s_5 s_6 s_7 s_8 s_11 s_13 s_14
      obtain ⟨k1, h1, r1, b1, d1⟩ := Rep.pair_held hle
      obtain ⟨rfl, rfl⟩ := Rep.int_held h1
      obtain ⟨k2, h2, r2, b2, d2⟩ := Rep.pair_held r1
      have BB1 := bool_b3 h2
      obtain ⟨rfl, rfl⟩ := Rep.bool_held h2
      obtain ⟨k3, h3, r3, b3, d3⟩ := Rep.pair_held r2
      obtain ⟨k4, h4, r4, b4, d4⟩ := Rep.pair_held h3
      have HC2 := Lib.hid h4; clear h4
      obtain ⟨k5, h5, r5, b5, d5⟩ := Rep.pair_held r4
      obtain ⟨rfl, rfl⟩ := Rep.int_held h5
      obtain ⟨k6, h6, r6, b6, d6⟩ := Rep.pair_held r5
      obtain ⟨rfl, rfl⟩ := Rep.int_held h6
      obtain ⟨rfl, rfl⟩ := Rep.int_held r6
      obtain ⟨k7, h7, r7, b7, d7⟩ := Rep.pair_held r3
      have HC6 := Lib.hid h7; clear h7
      obtain ⟨k8, h8, r8, b8, d8⟩ := Rep.pair_held r7
      have HC7 := Lib.hid h8; clear h8
      obtain ⟨k9, h9, r9, b9, d9⟩ := Rep.pair_held r8
      have HC8 := Lib.hid h9; clear h9
      obtain ⟨k10, h10, r10, b10, d10⟩ := Rep.pair_held r9
      obtain ⟨rfl, rfl⟩ := Rep.int_held h10
      obtain ⟨rfl, rfl⟩ := Rep.int_held r10
      go_wp2_with fail
      refine (heldStringS_c s_3 HC2.out (by omega) (by omega)).mono ?_
      rintro e w1 ⟨rfl, hb1⟩
      have E1 := hbel.trans (hb1.mono hbel.size)
      have B1 := hb1
      have C1_0 := cell_later hb1 C0_0
      have C1_1 := cell_later hb1 C0_1
      have C1_2 := cell_later hb1 C0_2
      have C1_3 := cell_later hb1 C0_3
      have C1_4 := cell_later hb1 C0_4
      have C1_5 := cell_later hb1 C0_5
      have C1_6 := cell_later hb1 C0_6
      have C1_7 := cell_later hb1 C0_7
      have C1_8 := cell_later hb1 C0_8
      have C1_9 := cell_later hb1 C0_9
      have C1_10 := cell_later hb1 C0_10
      clear hb1 C0_0 C0_1 C0_2 C0_3 C0_4 C0_5 C0_6 C0_7 C0_8 C0_9 C0_10
      go_wp2_with fail
      refine (heldStringS_c (s_9.below B1) HC6.out (by omega) (by omega)).mono ?_
      rintro e w2 ⟨rfl, hb2⟩
      have E2 := E1.trans (hb2.mono E1.size)
      have B2 := B1.trans (hb2.mono B1.size)
      have C2_0 := cell_later hb2 C1_0
      have C2_1 := cell_later hb2 C1_1
      have C2_2 := cell_later hb2 C1_2
      have C2_3 := cell_later hb2 C1_3
      have C2_4 := cell_later hb2 C1_4
      have C2_5 := cell_later hb2 C1_5
      have C2_6 := cell_later hb2 C1_6
      have C2_7 := cell_later hb2 C1_7
      have C2_8 := cell_later hb2 C1_8
      have C2_9 := cell_later hb2 C1_9
      have C2_10 := cell_later hb2 C1_10
      clear hb2 C1_0 C1_1 C1_2 C1_3 C1_4 C1_5 C1_6 C1_7 C1_8 C1_9 C1_10
      go_wp2_with fail
      refine (heldByteS_c (s_10.below B2) HC7.out (by omega) (by omega)).mono ?_
      rintro e w3 ⟨rfl, hb3⟩
      have E3 := E2.trans (hb3.mono E2.size)
      have B3 := B2.trans (hb3.mono B2.size)
      have C3_0 := cell_later hb3 C2_0
      have C3_1 := cell_later hb3 C2_1
      have C3_2 := cell_later hb3 C2_2
      have C3_3 := cell_later hb3 C2_3
      have C3_4 := cell_later hb3 C2_4
      have C3_5 := cell_later hb3 C2_5
      have C3_6 := cell_later hb3 C2_6
      have C3_7 := cell_later hb3 C2_7
      have C3_8 := cell_later hb3 C2_8
      have C3_9 := cell_later hb3 C2_9
      have C3_10 := cell_later hb3 C2_10
      clear hb3 C2_0 C2_1 C2_2 C2_3 C2_4 C2_5 C2_6 C2_7 C2_8 C2_9 C2_10
      go_wp2_with fail
      refine (heldStringS_c (s_12.below B3) HC8.out (by omega) (by omega)).mono ?_
      rintro e w4 ⟨rfl, hb4⟩
      have E4 := E3.trans (hb4.mono E3.size)
      have B4 := B3.trans (hb4.mono B3.size)
      have C4_0 := cell_later hb4 C3_0
      have C4_1 := cell_later hb4 C3_1
      have C4_2 := cell_later hb4 C3_2
      have C4_3 := cell_later hb4 C3_3
      have C4_4 := cell_later hb4 C3_4
      have C4_5 := cell_later hb4 C3_5
      have C4_6 := cell_later hb4 C3_6
      have C4_7 := cell_later hb4 C3_7
      have C4_8 := cell_later hb4 C3_8
      have C4_9 := cell_later hb4 C3_9
      have C4_10 := cell_later hb4 C3_10
      clear hb4 C3_0 C3_1 C3_2 C3_3 C3_4 C3_5 C3_6 C3_7 C3_8 C3_9 C3_10
      go_wp2
      go_roundw
      case rel => exact ⟨j + 1, _, by omega, by go_num, rfl, by omega, by omega, HN.out, E4⟩
      case measure => simp [intOf]; omega
    · have HD := Lib.hid (Rep.held_done hlt hl); clear hl
      go_wp2
      go_ret
      exact ⟨ret_int HD.out, hbel⟩
end Go.Proofs.Ytjobmdnggfjkhaa

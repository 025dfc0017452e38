/-
  The laws' readings of marks: they find the marks that are there. Printed by genheld.py.
-/
import Derived.Test.YtcnhfggfgknooaaGreatMark
import Derived.Test.YtcnhfggfgknooaaGreatSoft
namespace Go.Proofs.YtcnhfggfgknooaaGreat
open Go.RowKit
set_option linter.unusedVariables false
set_option linter.unusedSimpArgs false
set_option linter.unnecessarySimpa false
set_option maxRecDepth 100000 in
set_option maxHeartbeats 1000000 in
theorem heldStringS_c {w : World} {va : Value} {x : List ByteArray} {k k' : Int} (ha : (Rep.slice 9 Rep.str).raw w [va] x) (hh : (Rep.slice 9 Rep.str).held true x k = some k') (hk0 : 0 ≤ k) (hk1 : k' ≤ 4611686018427387904) :
    Calls Tryz.prog 107 #[va, .int .i64 k] w fun e w' => e = .returned (.int .i64 k') ∧ Below w.heap.size w w' := by
  obtain ⟨aa, capa, hva, la⟩ := Rep.len_raw ha; obtain rfl : va = _ := by simpa using hva
  clear hva
  have HH := Lib.hid hh; clear hh
  go_enter Tryz.func107, Tryz.ntmps107
  go_wp2
  go_loopw [1, 5] (fun l i wr => ∃ (j : Nat) (q : Int), j ≤ x.length ∧ i = .int .i64 j ∧ l = .int .i64 q ∧ 0 ≤ q ∧ q ≤ k' ∧ Rep.hdL Rep.str (x.drop j) q = some k' ∧ Below w.heap.size w wr) (fun _ i _ => x.length - (intOf i).toNat)
  case atStart => exact ⟨0, k, Nat.zero_le _, rfl, rfl, hk0, (Rep.slice 9 Rep.str).held_ge (e := true) HH.out, HH.out, Below.refl _ _⟩
  case round =>
    obtain ⟨j, q, hj, rfl, rfl, hq0, hq1, hl, hbel⟩ := hrel
    by_cases hlt : j < x.length
    · obtain ⟨b, off, rfl, c0_0, hr, C0_0⟩ := Rep.get1 (ha.below hbel) hlt rfl
      obtain ⟨qe, hle, hln, hq2, hq3⟩ := Rep.held_step hlt hl
      have HN := Lib.hid hln; clear hln hl
      generalize x[j] = y at *
      obtain ⟨y0, rfl⟩ : ∃ y0, y0 = y := ⟨_, rfl⟩
      obtain ⟨hce, _⟩ := Rep.str_raw hr
      obtain rfl : c0_0 = _ := by simpa using hce
      clear hce hr
      obtain ⟨rfl, rfl⟩ := Rep.str_held hle
      go_wp2_with fail
      refine wp_region_soft (fun W => Below wr.heap.size wr W) [true, true, true, true, true, false, true] (by kernel_rfl) (by kernel_rfl) (fun c a d v w h => by cases d <;> exact h) ((Below.refl _ _).drew) ?_
      intro wS HS
      iterate 3
       all_goals first | (refine soft_pass rfl HS ?_) | (refine soft_read (v := ?_) rfl (fun W hW => ?_) ?_; rotate_left; (· go_simp; try with_reducible rfl))
       all_goals try simp only [Act.put, List.setIfInBounds_toArray, List.set_cons_zero, List.set_cons_succ]
      all_goals first | (refine soft_pass rfl HS ?_) | (refine soft_read (v := ?_) rfl (fun W hW => ?_) ?_; rotate_left; (· have A_C0_0 := cell_later hW C0_0; clear hW; go_simp; try with_reducible rfl))
      all_goals try simp only [Act.put, List.setIfInBounds_toArray, List.set_cons_zero, List.set_cons_succ]
      all_goals first | (refine soft_pass rfl HS ?_) | (refine soft_read (v := ?_) rfl (fun W hW => ?_) ?_; rotate_left; (· go_simp; try with_reducible rfl))
      all_goals try simp only [Act.put, List.setIfInBounds_toArray, List.set_cons_zero, List.set_cons_succ]
      all_goals first | (refine soft_pass rfl HS ?_) | (refine soft_do rfl (fun K hK => ?_); go_simp; refine (markText_c (by omega) (by omega)).mono ?_; rintro e wS1 ⟨rfl, hbS⟩; replace HS := HS.trans (hbS.mono HS.size); refine hK _ _ HS ?_; clear hK K hbS)
      all_goals try simp only [Act.put, List.setIfInBounds_toArray, List.set_cons_zero, List.set_cons_succ]
      all_goals first | (refine soft_pass rfl HS ?_) | (refine soft_read (v := ?_) rfl (fun W hW => ?_) ?_; rotate_left; (· go_simp; try with_reducible rfl))
      all_goals try simp only [Act.put, List.setIfInBounds_toArray, List.set_cons_zero, List.set_cons_succ]
      all_goals refine soft_nil ?_
      have E1 := hbel.trans (HS.mono hbel.size)
      go_wp2
      go_roundw
      case rel => exact ⟨j + 1, _, by omega, by go_num, rfl, by omega, by omega, HN.out, E1⟩
      case measure => simp [intOf]; omega
    · have HD := Lib.hid (Rep.held_done hlt hl); clear hl
      go_wp2
      go_ret
      exact ⟨ret_int HD.out, hbel⟩
set_option maxRecDepth 100000 in
set_option maxHeartbeats 1000000 in
theorem heldByteS_c {w : World} {va : Value} {x : List UInt8} {k k' : Int} (ha : (Rep.slice 5 Rep.byte).raw w [va] x) (hh : (Rep.slice 5 Rep.byte).held true x k = some k') (hk0 : 0 ≤ k) (hk1 : k' ≤ 4611686018427387904) :
    Calls Tryz.prog 108 #[va, .int .i64 k] w fun e w' => e = .returned (.int .i64 k') ∧ Below w.heap.size w w' := by
  obtain ⟨aa, capa, hva, la⟩ := Rep.len_raw ha; obtain rfl : va = _ := by simpa using hva
  clear hva
  have HH := Lib.hid hh; clear hh
  go_enter Tryz.func108, Tryz.ntmps108
  go_wp2
  go_loopw [1, 5] (fun l i wr => ∃ (j : Nat) (q : Int), j ≤ x.length ∧ i = .int .i64 j ∧ l = .int .i64 q ∧ 0 ≤ q ∧ q ≤ k' ∧ Rep.hdL Rep.byte (x.drop j) q = some k' ∧ Below w.heap.size w wr) (fun _ i _ => x.length - (intOf i).toNat)
  case atStart => exact ⟨0, k, Nat.zero_le _, rfl, rfl, hk0, (Rep.slice 5 Rep.byte).held_ge (e := true) HH.out, HH.out, Below.refl _ _⟩
  case round =>
    obtain ⟨j, q, hj, rfl, rfl, hq0, hq1, hl, hbel⟩ := hrel
    by_cases hlt : j < x.length
    · obtain ⟨b, off, rfl, c0_0, hr, C0_0⟩ := Rep.get1 (ha.below hbel) hlt rfl
      obtain ⟨qe, hle, hln, hq2, hq3⟩ := Rep.held_step hlt hl
      have HN := Lib.hid hln; clear hln hl
      generalize x[j] = y at *
      obtain ⟨y0, rfl⟩ : ∃ y0, y0 = y := ⟨_, rfl⟩
      obtain hce := Rep.byte_raw hr
      obtain rfl : c0_0 = _ := by simpa using hce
      clear hce hr
      obtain ⟨rfl, rfl⟩ := Rep.byte_held hle
      go_wp2
      go_roundw
      case rel => exact ⟨j + 1, _, by omega, by go_num, rfl, by omega, by omega, HN.out, hbel⟩
      case measure => simp [intOf]; omega
    · have HD := Lib.hid (Rep.held_done hlt hl); clear hl
      go_wp2
      go_ret
      exact ⟨ret_int HD.out, hbel⟩
set_option maxRecDepth 100000 in
set_option maxHeartbeats 1000000 in
theorem heldMeasurementS_c {w : World} {va : Value} {x : List LMeasurement} {k k' : Int} (ha : (Rep.slice 136 RMeasurement).raw w [va] x) (hh : (Rep.slice 136 RMeasurement).held true x k = some k') (hk0 : 0 ≤ k) (hk1 : k' ≤ 4611686018427387904) :
    Calls Tryz.prog 58 #[va, .int .i64 k] w fun e w' => e = .returned (.int .i64 k') ∧ Below w.heap.size w w' := by
  obtain ⟨aa, capa, hva, la⟩ := Rep.len_raw ha; obtain rfl : va = _ := by simpa using hva
  clear hva
  have HH := Lib.hid hh; clear hh
  go_enter Tryz.func58, Tryz.ntmps58
  go_wp2
  go_loopw [1, 5] (fun l i wr => ∃ (j : Nat) (q : Int), j ≤ x.length ∧ i = .int .i64 j ∧ l = .int .i64 q ∧ 0 ≤ q ∧ q ≤ k' ∧ Rep.hdL RMeasurement (x.drop j) q = some k' ∧ Below w.heap.size w wr) (fun _ i _ => x.length - (intOf i).toNat)
  case atStart => exact ⟨0, k, Nat.zero_le _, rfl, rfl, hk0, (Rep.slice 136 RMeasurement).held_ge (e := true) HH.out, HH.out, Below.refl _ _⟩
  case round =>
    obtain ⟨j, q, hj, rfl, rfl, hq0, hq1, hl, hbel⟩ := hrel
    by_cases hlt : j < x.length
    · obtain ⟨b, off, rfl, c0_0, c0_1, c0_2, hr, C0_0, C0_1, C0_2⟩ := Rep.get3 (ha.below hbel) hlt rfl
      obtain ⟨qe, hle, hln, hq2, hq3⟩ := Rep.held_step hlt hl
      have HN := Lib.hid hln; clear hln hl
      generalize x[j] = y at *
      obtain ⟨y0, y1, y2⟩ := y
      obtain ⟨sv0, hce, s_0, s_1, s_2, s_3⟩ := RMeasurement_raw hr
      simp only [List.cons.injEq, and_true] at hce
      obtain ⟨rfl, rfl, rfl⟩ := hce
      clear hr s_0 s_2 s_3
      obtain ⟨k1, h1, r1, b1, d1⟩ := Rep.pair_held hle
      have HC0 := Lib.hid h1; clear h1
      obtain ⟨k2, h2, r2, b2, d2⟩ := Rep.pair_held r1
      obtain ⟨rfl, rfl⟩ := Rep.int_held h2
      obtain ⟨rfl, rfl⟩ := Rep.int_held r2
      go_wp2_with fail
      refine (heldStringS_c s_1 HC0.out (by omega) (by omega)).mono ?_
      rintro e w1 ⟨rfl, hb1⟩
      have E1 := hbel.trans (hb1.mono hbel.size)
      have B1 := hb1
      have C1_0 := cell_later hb1 C0_0
      have C1_1 := cell_later hb1 C0_1
      have C1_2 := cell_later hb1 C0_2
      clear hb1 C0_0 C0_1 C0_2
      go_wp2
      go_roundw
      case rel => exact ⟨j + 1, _, by omega, by go_num, rfl, by omega, by omega, HN.out, E1⟩
      case measure => simp [intOf]; omega
    · have HD := Lib.hid (Rep.held_done hlt hl); clear hl
      go_wp2
      go_ret
      exact ⟨ret_int HD.out, hbel⟩
set_option maxRecDepth 100000 in
set_option maxHeartbeats 1000000 in
theorem heldRouteS_c {w : World} {va : Value} {x : List LRoute} {k k' : Int} (ha : (Rep.slice 133 RRoute).raw w [va] x) (hh : (Rep.slice 133 RRoute).held true x k = some k') (hk0 : 0 ≤ k) (hk1 : k' ≤ 4611686018427387904) :
    Calls Tryz.prog 57 #[va, .int .i64 k] w fun e w' => e = .returned (.int .i64 k') ∧ Below w.heap.size w w' := by
  obtain ⟨aa, capa, hva, la⟩ := Rep.len_raw ha; obtain rfl : va = _ := by simpa using hva
  clear hva
  have HH := Lib.hid hh; clear hh
  go_enter Tryz.func57, Tryz.ntmps57
  go_wp2
  go_loopw [1, 5] (fun l i wr => ∃ (j : Nat) (q : Int), j ≤ x.length ∧ i = .int .i64 j ∧ l = .int .i64 q ∧ 0 ≤ q ∧ q ≤ k' ∧ Rep.hdL RRoute (x.drop j) q = some k' ∧ Below w.heap.size w wr) (fun _ i _ => x.length - (intOf i).toNat)
  case atStart => exact ⟨0, k, Nat.zero_le _, rfl, rfl, hk0, (Rep.slice 133 RRoute).held_ge (e := true) HH.out, HH.out, Below.refl _ _⟩
  case round =>
    obtain ⟨j, q, hj, rfl, rfl, hq0, hq1, hl, hbel⟩ := hrel
    by_cases hlt : j < x.length
    · obtain ⟨b, off, rfl, c0_0, c0_1, c0_2, hr, C0_0, C0_1, C0_2⟩ := Rep.get3 (ha.below hbel) hlt rfl
      obtain ⟨qe, hle, hln, hq2, hq3⟩ := Rep.held_step hlt hl
      have HN := Lib.hid hln; clear hln hl
      generalize x[j] = y at *
      obtain ⟨y0, y1, y2⟩ := y
      obtain ⟨sv0, hce, s_0, s_1, s_2, s_3⟩ := RRoute_raw hr
      simp only [List.cons.injEq, and_true] at hce
      obtain ⟨rfl, rfl, rfl⟩ := hce
      clear hr s_0 s_2 s_3
      obtain ⟨k1, h1, r1, b1, d1⟩ := Rep.pair_held hle
      have HC0 := Lib.hid h1; clear h1
      obtain ⟨k2, h2, r2, b2, d2⟩ := Rep.pair_held r1
      obtain ⟨rfl, rfl⟩ := Rep.int_held h2
      obtain ⟨rfl, rfl⟩ := Rep.int_held r2
      go_wp2_with fail
      refine (heldStringS_c s_1 HC0.out (by omega) (by omega)).mono ?_
      rintro e w1 ⟨rfl, hb1⟩
      have E1 := hbel.trans (hb1.mono hbel.size)
      have B1 := hb1
      have C1_0 := cell_later hb1 C0_0
      have C1_1 := cell_later hb1 C0_1
      have C1_2 := cell_later hb1 C0_2
      clear hb1 C0_0 C0_1 C0_2
      go_wp2
      go_roundw
      case rel => exact ⟨j + 1, _, by omega, by go_num, rfl, by omega, by omega, HN.out, E1⟩
      case measure => simp [intOf]; omega
    · have HD := Lib.hid (Rep.held_done hlt hl); clear hl
      go_wp2
      go_ret
      exact ⟨ret_int HD.out, hbel⟩
set_option maxRecDepth 100000 in
set_option maxHeartbeats 1000000 in
theorem heldRequesterS_c {w : World} {va : Value} {x : List LRequester} {k k' : Int} (ha : (Rep.slice 166 RRequester).raw w [va] x) (hh : (Rep.slice 166 RRequester).held true x k = some k') (hk0 : 0 ≤ k) (hk1 : k' ≤ 4611686018427387904) :
    Calls Tryz.prog 110 #[va, .int .i64 k] w fun e w' => e = .returned (.int .i64 k') ∧ Below w.heap.size w w' := by
  obtain ⟨aa, capa, hva, la⟩ := Rep.len_raw ha; obtain rfl : va = _ := by simpa using hva
  clear hva
  have HH := Lib.hid hh; clear hh
  go_enter Tryz.func110, Tryz.ntmps110
  go_wp2
  go_loopw [1, 5] (fun l i wr => ∃ (j : Nat) (q : Int), j ≤ x.length ∧ i = .int .i64 j ∧ l = .int .i64 q ∧ 0 ≤ q ∧ q ≤ k' ∧ Rep.hdL RRequester (x.drop j) q = some k' ∧ Below w.heap.size w wr) (fun _ i _ => x.length - (intOf i).toNat)
  case atStart => exact ⟨0, k, Nat.zero_le _, rfl, rfl, hk0, (Rep.slice 166 RRequester).held_ge (e := true) HH.out, HH.out, Below.refl _ _⟩
  case round =>
    obtain ⟨j, q, hj, rfl, rfl, hq0, hq1, hl, hbel⟩ := hrel
    by_cases hlt : j < x.length
    · obtain ⟨b, off, rfl, c0_0, c0_1, c0_2, hr, C0_0, C0_1, C0_2⟩ := Rep.get3 (ha.below hbel) hlt rfl
      obtain ⟨qe, hle, hln, hq2, hq3⟩ := Rep.held_step hlt hl
      have HN := Lib.hid hln; clear hln hl
      generalize x[j] = y at *
      obtain ⟨y0, y1, y2⟩ := y
      obtain ⟨hce, s_0, s_1, s_2⟩ := RRequester_raw hr
      simp only [List.cons.injEq, and_true] at hce
      obtain ⟨rfl, rfl, rfl⟩ := hce
      clear hr s_0 s_1 s_2
      obtain ⟨k1, h1, r1, b1, d1⟩ := Rep.pair_held hle
      obtain ⟨rfl, rfl⟩ := Rep.int_held h1
      obtain ⟨k2, h2, r2, b2, d2⟩ := Rep.pair_held r1
      obtain ⟨rfl, rfl⟩ := Rep.int_held h2
      obtain ⟨rfl, rfl⟩ := Rep.int_held r2
      go_wp2
      go_roundw
      case rel => exact ⟨j + 1, _, by omega, by go_num, rfl, by omega, by omega, HN.out, hbel⟩
      case measure => simp [intOf]; omega
    · have HD := Lib.hid (Rep.held_done hlt hl); clear hl
      go_wp2
      go_ret
      exact ⟨ret_int HD.out, hbel⟩
set_option maxRecDepth 100000 in
set_option maxHeartbeats 1000000 in
theorem heldPendingInterestS_c {w : World} {va : Value} {x : List LPendingInterest} {k k' : Int} (ha : (Rep.slice 127 RPendingInterest).raw w [va] x) (hh : (Rep.slice 127 RPendingInterest).held true x k = some k') (hk0 : 0 ≤ k) (hk1 : k' ≤ 4611686018427387904) :
    Calls Tryz.prog 55 #[va, .int .i64 k] w fun e w' => e = .returned (.int .i64 k') ∧ Below w.heap.size w w' := by
  obtain ⟨aa, capa, hva, la⟩ := Rep.len_raw ha; obtain rfl : va = _ := by simpa using hva
  clear hva
  have HH := Lib.hid hh; clear hh
  go_enter Tryz.func55, Tryz.ntmps55
  go_wp2
  go_loopw [1, 5] (fun l i wr => ∃ (j : Nat) (q : Int), j ≤ x.length ∧ i = .int .i64 j ∧ l = .int .i64 q ∧ 0 ≤ q ∧ q ≤ k' ∧ Rep.hdL RPendingInterest (x.drop j) q = some k' ∧ Below w.heap.size w wr) (fun _ i _ => x.length - (intOf i).toNat)
  case atStart => exact ⟨0, k, Nat.zero_le _, rfl, rfl, hk0, (Rep.slice 127 RPendingInterest).held_ge (e := true) HH.out, HH.out, Below.refl _ _⟩
  case round =>
    obtain ⟨j, q, hj, rfl, rfl, hq0, hq1, hl, hbel⟩ := hrel
    by_cases hlt : j < x.length
    · obtain ⟨b, off, rfl, c0_0, c0_1, c0_2, hr, C0_0, C0_1, C0_2⟩ := Rep.get3 (ha.below hbel) hlt rfl
      obtain ⟨qe, hle, hln, hq2, hq3⟩ := Rep.held_step hlt hl
      have HN := Lib.hid hln; clear hln hl
      generalize x[j] = y at *
      obtain ⟨y0, y1, y2⟩ := y
      obtain ⟨sv0, sv1, hce, s_0, s_1, s_2, s_3⟩ := RPendingInterest_raw hr
      simp only [List.cons.injEq, and_true] at hce
      obtain ⟨rfl, rfl, rfl⟩ := hce
      clear hr s_0 s_3
      obtain ⟨k1, h1, r1, b1, d1⟩ := Rep.pair_held hle
      have HC0 := Lib.hid h1; clear h1
      obtain ⟨k2, h2, r2, b2, d2⟩ := Rep.pair_held r1
      have HC1 := Lib.hid h2; clear h2
      obtain ⟨rfl, rfl⟩ := Rep.int_held r2
      go_wp2_with fail
      refine (heldStringS_c s_1 HC0.out (by omega) (by omega)).mono ?_
      rintro e w1 ⟨rfl, hb1⟩
      have E1 := hbel.trans (hb1.mono hbel.size)
      have B1 := hb1
      have C1_0 := cell_later hb1 C0_0
      have C1_1 := cell_later hb1 C0_1
      have C1_2 := cell_later hb1 C0_2
      clear hb1 C0_0 C0_1 C0_2
      go_wp2_with fail
      refine (heldRequesterS_c (s_2.below B1) HC1.out (by omega) (by omega)).mono ?_
      rintro e w2 ⟨rfl, hb2⟩
      have E2 := E1.trans (hb2.mono E1.size)
      have B2 := B1.trans (hb2.mono B1.size)
      have C2_0 := cell_later hb2 C1_0
      have C2_1 := cell_later hb2 C1_1
      have C2_2 := cell_later hb2 C1_2
      clear hb2 C1_0 C1_1 C1_2
      go_wp2
      go_roundw
      case rel => exact ⟨j + 1, _, by omega, by go_num, rfl, by omega, by omega, HN.out, E2⟩
      case measure => simp [intOf]; omega
    · have HD := Lib.hid (Rep.held_done hlt hl); clear hl
      go_wp2
      go_ret
      exact ⟨ret_int HD.out, hbel⟩
set_option maxRecDepth 100000 in
set_option maxHeartbeats 1000000 in
theorem heldSeenNonceS_c {w : World} {va : Value} {x : List LSeenNonce} {k k' : Int} (ha : (Rep.slice 130 RSeenNonce).raw w [va] x) (hh : (Rep.slice 130 RSeenNonce).held true x k = some k') (hk0 : 0 ≤ k) (hk1 : k' ≤ 4611686018427387904) :
    Calls Tryz.prog 56 #[va, .int .i64 k] w fun e w' => e = .returned (.int .i64 k') ∧ Below w.heap.size w w' := by
  obtain ⟨aa, capa, hva, la⟩ := Rep.len_raw ha; obtain rfl : va = _ := by simpa using hva
  clear hva
  have HH := Lib.hid hh; clear hh
  go_enter Tryz.func56, Tryz.ntmps56
  go_wp2
  go_loopw [1, 5] (fun l i wr => ∃ (j : Nat) (q : Int), j ≤ x.length ∧ i = .int .i64 j ∧ l = .int .i64 q ∧ 0 ≤ q ∧ q ≤ k' ∧ Rep.hdL RSeenNonce (x.drop j) q = some k' ∧ Below w.heap.size w wr) (fun _ i _ => x.length - (intOf i).toNat)
  case atStart => exact ⟨0, k, Nat.zero_le _, rfl, rfl, hk0, (Rep.slice 130 RSeenNonce).held_ge (e := true) HH.out, HH.out, Below.refl _ _⟩
  case round =>
    obtain ⟨j, q, hj, rfl, rfl, hq0, hq1, hl, hbel⟩ := hrel
    by_cases hlt : j < x.length
    · obtain ⟨b, off, rfl, c0_0, c0_1, hr, C0_0, C0_1⟩ := Rep.get2 (ha.below hbel) hlt rfl
      obtain ⟨qe, hle, hln, hq2, hq3⟩ := Rep.held_step hlt hl
      have HN := Lib.hid hln; clear hln hl
      generalize x[j] = y at *
      obtain ⟨y0, y1⟩ := y
      obtain ⟨sv0, hce, s_0, s_1, s_2⟩ := RSeenNonce_raw hr
      simp only [List.cons.injEq, and_true] at hce
      obtain ⟨rfl, rfl⟩ := hce
      clear hr s_0 s_2
      obtain ⟨k1, h1, r1, b1, d1⟩ := Rep.pair_held hle
      have HC0 := Lib.hid h1; clear h1
      obtain ⟨rfl, rfl⟩ := Rep.int_held r1
      go_wp2_with fail
      refine (heldStringS_c s_1 HC0.out (by omega) (by omega)).mono ?_
      rintro e w1 ⟨rfl, hb1⟩
      have E1 := hbel.trans (hb1.mono hbel.size)
      have B1 := hb1
      have C1_0 := cell_later hb1 C0_0
      have C1_1 := cell_later hb1 C0_1
      clear hb1 C0_0 C0_1
      go_wp2
      go_roundw
      case rel => exact ⟨j + 1, _, by omega, by go_num, rfl, by omega, by omega, HN.out, E1⟩
      case measure => simp [intOf]; omega
    · have HD := Lib.hid (Rep.held_done hlt hl); clear hl
      go_wp2
      go_ret
      exact ⟨ret_int HD.out, hbel⟩
set_option maxRecDepth 100000 in
set_option maxHeartbeats 1000000 in
theorem heldDataS_c {w : World} {va : Value} {x : List LData} {k k' : Int} (ha : (Rep.slice 55 RData).raw w [va] x) (hh : (Rep.slice 55 RData).held true x k = some k') (hk0 : 0 ≤ k) (hk1 : k' ≤ 4611686018427387904) :
    Calls Tryz.prog 53 #[va, .int .i64 k] w fun e w' => e = .returned (.int .i64 k') ∧ Below w.heap.size w w' := by
  obtain ⟨aa, capa, hva, la⟩ := Rep.len_raw ha; obtain rfl : va = _ := by simpa using hva
  clear hva
  have HH := Lib.hid hh; clear hh
  go_enter Tryz.func53, Tryz.ntmps53
  go_wp2
  go_loopw [1, 5] (fun l i wr => ∃ (j : Nat) (q : Int), j ≤ x.length ∧ i = .int .i64 j ∧ l = .int .i64 q ∧ 0 ≤ q ∧ q ≤ k' ∧ Rep.hdL RData (x.drop j) q = some k' ∧ Below w.heap.size w wr) (fun _ i _ => x.length - (intOf i).toNat)
  case atStart => exact ⟨0, k, Nat.zero_le _, rfl, rfl, hk0, (Rep.slice 55 RData).held_ge (e := true) HH.out, HH.out, Below.refl _ _⟩
  case round =>
    obtain ⟨j, q, hj, rfl, rfl, hq0, hq1, hl, hbel⟩ := hrel
    by_cases hlt : j < x.length
    · obtain ⟨b, off, rfl, c0_0, c0_1, c0_2, c0_3, c0_4, hr, C0_0, C0_1, C0_2, C0_3, C0_4⟩ := Rep.get5 (ha.below hbel) hlt rfl
      obtain ⟨qe, hle, hln, hq2, hq3⟩ := Rep.held_step hlt hl
      have HN := Lib.hid hln; clear hln hl
      generalize x[j] = y at *
      obtain ⟨y0, y1, y2, y3, y4⟩ := y
      obtain ⟨sv0, sv1, sv2, hce, s_0, s_1, s_2, s_3, s_4, s_5, s_6⟩ := RData_raw hr
      simp only [List.cons.injEq, and_true] at hce
      obtain ⟨rfl, rfl, rfl, rfl, rfl⟩ := hce
      clear hr s_0 s_3 s_5 s_6
      obtain ⟨k1, h1, r1, b1, d1⟩ := Rep.pair_held hle
      have HC0 := Lib.hid h1; clear h1
      obtain ⟨k2, h2, r2, b2, d2⟩ := Rep.pair_held r1
      have HC1 := Lib.hid h2; clear h2
      obtain ⟨k3, h3, r3, b3, d3⟩ := Rep.pair_held r2
      have HC2 := Lib.hid h3; clear h3
      obtain ⟨k4, h4, r4, b4, d4⟩ := Rep.pair_held r3
      obtain ⟨rfl, rfl⟩ := Rep.int_held h4
      obtain ⟨rfl, rfl⟩ := Rep.int_held r4
      go_wp2_with fail
      refine (heldStringS_c s_1 HC0.out (by omega) (by omega)).mono ?_
      rintro e w1 ⟨rfl, hb1⟩
      have E1 := hbel.trans (hb1.mono hbel.size)
      have B1 := hb1
      have C1_0 := cell_later hb1 C0_0
      have C1_1 := cell_later hb1 C0_1
      have C1_2 := cell_later hb1 C0_2
      have C1_3 := cell_later hb1 C0_3
      have C1_4 := cell_later hb1 C0_4
      clear hb1 C0_0 C0_1 C0_2 C0_3 C0_4
      go_wp2_with fail
      refine (heldByteS_c (s_2.below B1) HC1.out (by omega) (by omega)).mono ?_
      rintro e w2 ⟨rfl, hb2⟩
      have E2 := E1.trans (hb2.mono E1.size)
      have B2 := B1.trans (hb2.mono B1.size)
      have C2_0 := cell_later hb2 C1_0
      have C2_1 := cell_later hb2 C1_1
      have C2_2 := cell_later hb2 C1_2
      have C2_3 := cell_later hb2 C1_3
      have C2_4 := cell_later hb2 C1_4
      clear hb2 C1_0 C1_1 C1_2 C1_3 C1_4
      go_wp2_with fail
      refine (heldStringS_c (s_4.below B2) HC2.out (by omega) (by omega)).mono ?_
      rintro e w3 ⟨rfl, hb3⟩
      have E3 := E2.trans (hb3.mono E2.size)
      have B3 := B2.trans (hb3.mono B2.size)
      have C3_0 := cell_later hb3 C2_0
      have C3_1 := cell_later hb3 C2_1
      have C3_2 := cell_later hb3 C2_2
      have C3_3 := cell_later hb3 C2_3
      have C3_4 := cell_later hb3 C2_4
      clear hb3 C2_0 C2_1 C2_2 C2_3 C2_4
      go_wp2
      go_roundw
      case rel => exact ⟨j + 1, _, by omega, by go_num, rfl, by omega, by omega, HN.out, E3⟩
      case measure => simp [intOf]; omega
    · have HD := Lib.hid (Rep.held_done hlt hl); clear hl
      go_wp2
      go_ret
      exact ⟨ret_int HD.out, hbel⟩
set_option maxRecDepth 100000 in
set_option maxHeartbeats 1000000 in
theorem heldCacheEntryS_c {w : World} {va : Value} {x : List LCacheEntry} {k k' : Int} (ha : (Rep.slice 152 RCacheEntry).raw w [va] x) (hh : (Rep.slice 152 RCacheEntry).held true x k = some k') (hk0 : 0 ≤ k) (hk1 : k' ≤ 4611686018427387904) :
    Calls Tryz.prog 109 #[va, .int .i64 k] w fun e w' => e = .returned (.int .i64 k') ∧ Below w.heap.size w w' := by
  obtain ⟨aa, capa, hva, la⟩ := Rep.len_raw ha; obtain rfl : va = _ := by simpa using hva
  clear hva
  have HH := Lib.hid hh; clear hh
  go_enter Tryz.func109, Tryz.ntmps109
  go_wp2
  go_loopw [1, 5] (fun l i wr => ∃ (j : Nat) (q : Int), j ≤ x.length ∧ i = .int .i64 j ∧ l = .int .i64 q ∧ 0 ≤ q ∧ q ≤ k' ∧ Rep.hdL RCacheEntry (x.drop j) q = some k' ∧ Below w.heap.size w wr) (fun _ i _ => x.length - (intOf i).toNat)
  case atStart => exact ⟨0, k, Nat.zero_le _, rfl, rfl, hk0, (Rep.slice 152 RCacheEntry).held_ge (e := true) HH.out, HH.out, Below.refl _ _⟩
  case round =>
    obtain ⟨j, q, hj, rfl, rfl, hq0, hq1, hl, hbel⟩ := hrel
    by_cases hlt : j < x.length
    · obtain ⟨b, off, rfl, c0_0, c0_1, c0_2, c0_3, c0_4, c0_5, hr, C0_0, C0_1, C0_2, C0_3, C0_4, C0_5⟩ := Rep.get6 (ha.below hbel) hlt rfl
      obtain ⟨qe, hle, hln, hq2, hq3⟩ := Rep.held_step hlt hl
      have HN := Lib.hid hln; clear hln hl
      generalize x[j] = y at *
      obtain ⟨⟨y0, y1, y2, y3, y4⟩, y5⟩ := y
      obtain ⟨sv0, sv1, sv2, hce, s_0, s_1, s_2, s_3, s_4, s_5, s_6, s_7, s_8⟩ := RCacheEntry_raw hr
      simp only [List.cons.injEq, and_true] at hce
      obtain ⟨rfl, rfl, rfl, rfl, rfl, rfl⟩ := hce
      clear hr s_0 s_1 s_4 s_6 s_7 s_8
      obtain ⟨k1, h1, r1, b1, d1⟩ := Rep.pair_held hle
      obtain ⟨k2, h2, r2, b2, d2⟩ := Rep.pair_held h1
      have HC0 := Lib.hid h2; clear h2
      obtain ⟨k3, h3, r3, b3, d3⟩ := Rep.pair_held r2
      have HC1 := Lib.hid h3; clear h3
      obtain ⟨k4, h4, r4, b4, d4⟩ := Rep.pair_held r3
      have HC2 := Lib.hid h4; clear h4
      obtain ⟨k5, h5, r5, b5, d5⟩ := Rep.pair_held r4
      obtain ⟨rfl, rfl⟩ := Rep.int_held h5
      obtain ⟨rfl, rfl⟩ := Rep.int_held r5
      obtain ⟨rfl, rfl⟩ := Rep.int_held r1
      go_wp2_with fail
      refine (heldStringS_c s_2 HC0.out (by omega) (by omega)).mono ?_
      rintro e w1 ⟨rfl, hb1⟩
      have E1 := hbel.trans (hb1.mono hbel.size)
      have B1 := hb1
      have C1_0 := cell_later hb1 C0_0
      have C1_1 := cell_later hb1 C0_1
      have C1_2 := cell_later hb1 C0_2
      have C1_3 := cell_later hb1 C0_3
      have C1_4 := cell_later hb1 C0_4
      have C1_5 := cell_later hb1 C0_5
      clear hb1 C0_0 C0_1 C0_2 C0_3 C0_4 C0_5
      go_wp2_with fail
      refine (heldByteS_c (s_3.below B1) HC1.out (by omega) (by omega)).mono ?_
      rintro e w2 ⟨rfl, hb2⟩
      have E2 := E1.trans (hb2.mono E1.size)
      have B2 := B1.trans (hb2.mono B1.size)
      have C2_0 := cell_later hb2 C1_0
      have C2_1 := cell_later hb2 C1_1
      have C2_2 := cell_later hb2 C1_2
      have C2_3 := cell_later hb2 C1_3
      have C2_4 := cell_later hb2 C1_4
      have C2_5 := cell_later hb2 C1_5
      clear hb2 C1_0 C1_1 C1_2 C1_3 C1_4 C1_5
      go_wp2_with fail
      refine (heldStringS_c (s_5.below B2) HC2.out (by omega) (by omega)).mono ?_
      rintro e w3 ⟨rfl, hb3⟩
      have E3 := E2.trans (hb3.mono E2.size)
      have B3 := B2.trans (hb3.mono B2.size)
      have C3_0 := cell_later hb3 C2_0
      have C3_1 := cell_later hb3 C2_1
      have C3_2 := cell_later hb3 C2_2
      have C3_3 := cell_later hb3 C2_3
      have C3_4 := cell_later hb3 C2_4
      have C3_5 := cell_later hb3 C2_5
      clear hb3 C2_0 C2_1 C2_2 C2_3 C2_4 C2_5
      go_wp2
      go_roundw
      case rel => exact ⟨j + 1, _, by omega, by go_num, rfl, by omega, by omega, HN.out, E3⟩
      case measure => simp [intOf]; omega
    · have HD := Lib.hid (Rep.held_done hlt hl); clear hl
      go_wp2
      go_ret
      exact ⟨ret_int HD.out, hbel⟩
set_option maxRecDepth 100000 in
set_option maxHeartbeats 1000000 in
theorem heldContentStore_c {w : World} {ca : List Value} {x : LContentStore} {k k' : Int} (ha : RContentStore.raw w ca x) (hh : RContentStore.held false x k = some k') (hk0 : 0 ≤ k) (hk1 : k' ≤ 4611686018427387904) :
    Calls Tryz.prog 54 #[.agg ca.toArray, .int .i64 k] w fun e w' => e = .returned (.int .i64 k') ∧ Below w.heap.size w w' := by
  obtain ⟨av1, rfl, a_0, a_1⟩ := RContentStore_raw ha
  obtain ⟨x0, x1⟩ := x
  clear ha a_0
  obtain ⟨k0, h0, r0, b0, d0⟩ := Rep.pair_held hh
  obtain rfl := Rep.int_held0 h0
  have HC1 := Lib.hid r0; clear r0
  have z1 := (Rep.slice 152 RCacheEntry).held_ge (e := true) HC1.out
  go_enter Tryz.func54, Tryz.ntmps54
  go_wp2_with fail
  refine (heldCacheEntryS_c (a_1.alloc _) HC1.out (by omega) (by omega)).mono ?_
  rintro e w1 ⟨rfl, hb1⟩
  have D1 := hb1
  have E1 : Below w.heap.size w w1 := ((Below.refl _ _).alloc (Nat.le_refl _) _).trans (hb1.mono (by simp))
  obtain ⟨hc1, hf1⟩ := bcell D1; clear hb1
  go_wp2
  go_ret
  exact ⟨rfl, E1⟩
set_option maxRecDepth 100000 in
set_option maxHeartbeats 1000000 in
theorem heldNode_c {w : World} {ca : List Value} {x : LNode} {k k' : Int} (ha : RNode.raw w ca x) (hh : RNode.held false x k = some k') (hk0 : 0 ≤ k) (hk1 : k' ≤ 4611686018427387904) :
    Calls Tryz.prog 14 #[.agg ca.toArray, .int .i64 k] w fun e w' => e = .returned (.int .i64 k') ∧ Below w.heap.size w w' := by
  obtain ⟨av0, av2, av3, av4, av5, av6, rfl, a_0, a_1, a_2, a_3, a_4, a_5, a_6, a_7, a_8⟩ := RNode_raw ha
  obtain ⟨x0, x1, x2, x3, x4, x5, x6⟩ := x
  clear ha a_2 a_3 a_8
  obtain ⟨k0, h0, r0, b0, d0⟩ := Rep.pair_held hh
  have HC0 := Lib.hid h0; clear h0
  obtain ⟨k1, h1, r1, b1, d1⟩ := Rep.pair_held r0
  have HC1 := Lib.hid h1; clear h1
  obtain ⟨k2, h2, r2, b2, d2⟩ := Rep.pair_held r1
  have HC2 := Lib.hid h2; clear h2
  obtain ⟨k3, h3, r3, b3, d3⟩ := Rep.pair_held r2
  have HC3 := Lib.hid h3; clear h3
  obtain ⟨k4, h4, r4, b4, d4⟩ := Rep.pair_held r3
  have HC4 := Lib.hid h4; clear h4
  obtain ⟨k5, h5, r5, b5, d5⟩ := Rep.pair_held r4
  have HC5 := Lib.hid h5; clear h5
  obtain rfl := Rep.int_held0 r5
  have z0 := (Rep.slice 55 RData).held_ge (e := true) HC0.out
  have z1 := RContentStore.held_ge (e := false) HC1.out
  have z2 := (Rep.slice 127 RPendingInterest).held_ge (e := true) HC2.out
  have z3 := (Rep.slice 130 RSeenNonce).held_ge (e := true) HC3.out
  have z4 := (Rep.slice 133 RRoute).held_ge (e := true) HC4.out
  have z5 := (Rep.slice 136 RMeasurement).held_ge (e := true) HC5.out
  go_enter Tryz.func14, Tryz.ntmps14
  go_wp2_with fail
  refine (heldDataS_c (a_0.alloc _) HC0.out (by omega) (by omega)).mono ?_
  rintro e w1 ⟨rfl, hb1⟩
  have D1 := hb1
  have E1 : Below w.heap.size w w1 := ((Below.refl _ _).alloc (Nat.le_refl _) _).trans (hb1.mono (by simp))
  obtain ⟨hc1, hf1⟩ := bcell D1; clear hb1
  go_wp2_with fail
  refine (heldContentStore_c (a_1.below E1) HC1.out (by omega) (by omega)).mono ?_
  rintro e w2 ⟨rfl, hb2⟩
  have D2 := D1.trans (hb2.mono D1.size)
  have E2 := E1.trans (hb2.mono E1.size)
  clear hc1 hf1 hb2
  obtain ⟨hc2, hf2⟩ := bcell D2
  go_wp2_with fail
  refine (heldPendingInterestS_c (a_4.below E2) HC2.out (by omega) (by omega)).mono ?_
  rintro e w3 ⟨rfl, hb3⟩
  have D3 := D2.trans (hb3.mono D2.size)
  have E3 := E2.trans (hb3.mono E2.size)
  clear hc2 hf2 hb3
  obtain ⟨hc3, hf3⟩ := bcell D3
  go_wp2_with fail
  refine (heldSeenNonceS_c (a_5.below E3) HC3.out (by omega) (by omega)).mono ?_
  rintro e w4 ⟨rfl, hb4⟩
  have D4 := D3.trans (hb4.mono D3.size)
  have E4 := E3.trans (hb4.mono E3.size)
  clear hc3 hf3 hb4
  obtain ⟨hc4, hf4⟩ := bcell D4
  go_wp2_with fail
  refine (heldRouteS_c (a_6.below E4) HC4.out (by omega) (by omega)).mono ?_
  rintro e w5 ⟨rfl, hb5⟩
  have D5 := D4.trans (hb5.mono D4.size)
  have E5 := E4.trans (hb5.mono E4.size)
  clear hc4 hf4 hb5
  obtain ⟨hc5, hf5⟩ := bcell D5
  go_wp2_with fail
  refine (heldMeasurementS_c (a_7.below E5) HC5.out (by omega) (by omega)).mono ?_
  rintro e w6 ⟨rfl, hb6⟩
  have D6 := D5.trans (hb6.mono D5.size)
  have E6 := E5.trans (hb6.mono E5.size)
  clear hc5 hf5 hb6
  obtain ⟨hc6, hf6⟩ := bcell D6
  go_wp2
  go_ret
  exact ⟨rfl, E6⟩
end Go.Proofs.YtcnhfggfgknooaaGreat

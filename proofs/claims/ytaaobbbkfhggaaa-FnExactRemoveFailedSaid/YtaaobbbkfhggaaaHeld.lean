/-
  The laws' readings of marks: they find the marks that are there. Printed by genheld.py.
-/
import Derived.Test.YtaaobbbkfhggaaaMark
namespace Go.Proofs.Ytaaobbbkfhggaaa
open Go.RowKit
set_option linter.unusedVariables false

theorem i64_ne_false {a : Int} : (a != a) = false := by simp

set_option maxHeartbeats 1000000 in
theorem heldIntS_c {w : World} {va : Value} {x : List Int} {k k' : Int} (ha : (Rep.slice 3 Rep.int).raw w [va] x) (hh : (Rep.slice 3 Rep.int).held true x k = some k') (hk0 : 0 ≤ k) (hk1 : k' ≤ 4611686018427387904) :
    Calls Try.prog 31 #[va, .int .i64 k] w fun e w' => e = .returned (.int .i64 k') ∧ Below w.heap.size w w' := by
  obtain ⟨aa, capa, hva, la⟩ := Rep.len_raw ha; obtain rfl : va = _ := by simpa using hva
  clear hva
  have HH := Lib.hid hh; clear hh
  go_enter Try.func31, Try.ntmps31
  go_wp2
  go_loopw [1, 5] (fun l i wr => ∃ (j : Nat) (q : Int), j ≤ x.length ∧ i = .int .i64 j ∧ l = .int .i64 q ∧ 0 ≤ q ∧ q ≤ k' ∧ Rep.hdL Rep.int (x.drop j) q = some k' ∧ Below w.heap.size w wr) (fun _ i _ => x.length - (intOf i).toNat)
  case atStart => exact ⟨0, k, Nat.zero_le _, rfl, rfl, hk0, (Rep.slice 3 Rep.int).held_ge (e := true) HH.out, HH.out, Below.refl _ _⟩
  case round =>
    obtain ⟨j, q, hj, rfl, rfl, hq0, hq1, hl, hbel⟩ := hrel
    by_cases hlt : j < x.length
    · obtain ⟨b, off, rfl, c0_0, hr, C0_0⟩ := Rep.get1 (ha.below hbel) hlt rfl
      obtain ⟨qe, hle, hln, hq2, hq3⟩ := Rep.held_step hlt hl
      have HN := Lib.hid hln; clear hln hl
      generalize x[j] = y at *
      obtain ⟨y0, rfl⟩ : ∃ y0, y0 = y := ⟨_, rfl⟩
      obtain ⟨hce, _⟩ := Rep.int_raw hr
      obtain rfl : c0_0 = _ := by simpa using hce
      clear hce hr
      obtain ⟨rfl, rfl⟩ := Rep.int_held hle
      go_wp2
      go_roundw
      case rel => exact ⟨j + 1, _, by omega, by go_num, rfl, by omega, by omega, HN.out, hbel⟩
      case measure => simp [intOf]; omega
    · have HD := Lib.hid (Rep.held_done hlt hl); clear hl
      go_wp2
      go_ret
      exact ⟨ret_int HD.out, hbel⟩
set_option maxHeartbeats 1000000 in
theorem heldLinkS_c {w : World} {va : Value} {x : List LLink} {k k' : Int} (ha : (Rep.slice 55 RLink).raw w [va] x) (hh : (Rep.slice 55 RLink).held true x k = some k') (hk0 : 0 ≤ k) (hk1 : k' ≤ 4611686018427387904) :
    Calls Try.prog 55 #[va, .int .i64 k] w fun e w' => e = .returned (.int .i64 k') ∧ Below w.heap.size w w' := by
  obtain ⟨aa, capa, hva, la⟩ := Rep.len_raw ha; obtain rfl : va = _ := by simpa using hva
  clear hva
  have HH := Lib.hid hh; clear hh
  go_enter Try.func55, Try.ntmps55
  go_wp2
  go_loopw [1, 5] (fun l i wr => ∃ (j : Nat) (q : Int), j ≤ x.length ∧ i = .int .i64 j ∧ l = .int .i64 q ∧ 0 ≤ q ∧ q ≤ k' ∧ Rep.hdL RLink (x.drop j) q = some k' ∧ Below w.heap.size w wr) (fun _ i _ => x.length - (intOf i).toNat)
  case atStart => exact ⟨0, k, Nat.zero_le _, rfl, rfl, hk0, (Rep.slice 55 RLink).held_ge (e := true) HH.out, HH.out, Below.refl _ _⟩
  case round =>
    obtain ⟨j, q, hj, rfl, rfl, hq0, hq1, hl, hbel⟩ := hrel
    by_cases hlt : j < x.length
    · obtain ⟨b, off, rfl, c0_0, c0_1, hr, C0_0, C0_1⟩ := Rep.get2 (ha.below hbel) hlt rfl
      obtain ⟨qe, hle, hln, hq2, hq3⟩ := Rep.held_step hlt hl
      have HN := Lib.hid hln; clear hln hl
      generalize x[j] = y at *
      obtain ⟨y0, y1⟩ := y
      obtain ⟨hce, s_0, s_1⟩ := RLink_raw hr
      simp only [List.cons.injEq, and_true] at hce
      obtain ⟨rfl, rfl⟩ := hce
      clear hr s_0 s_1
      obtain ⟨k1, h1, r1, b1, d1⟩ := Rep.pair_held hle
      obtain ⟨rfl, rfl⟩ := Rep.int_held h1
      obtain ⟨rfl, rfl⟩ := Rep.int_held r1
      go_wp2
      go_roundw
      case rel => exact ⟨j + 1, _, by omega, by go_num, rfl, by omega, by omega, HN.out, hbel⟩
      case measure => simp [intOf]; omega
    · have HD := Lib.hid (Rep.held_done hlt hl); clear hl
      go_wp2
      go_ret
      exact ⟨ret_int HD.out, hbel⟩
set_option maxHeartbeats 1000000 in
theorem heldTopology_c {w : World} {ca : List Value} {x : LTopology} {k k' : Int} (ha : RTopology.raw w ca x) (hh : RTopology.held false x k = some k') (hk0 : 0 ≤ k) (hk1 : k' ≤ 4611686018427387904) :
    Calls Try.prog 35 #[.agg ca.toArray, .int .i64 k] w fun e w' => e = .returned (.int .i64 k') ∧ Below w.heap.size w w' := by
  obtain ⟨av1, rfl, a_0, a_1⟩ := RTopology_raw ha
  obtain ⟨x0, x1⟩ := x
  clear ha a_0
  obtain ⟨k0, h0, r0, b0, d0⟩ := Rep.pair_held hh
  obtain rfl := Rep.int_held0 h0
  have HC1 := Lib.hid r0; clear r0
  have z1 := (Rep.slice 55 RLink).held_ge (e := true) HC1.out
  go_enter Try.func35, Try.ntmps35
  go_wp2_with fail
  refine (heldLinkS_c (a_1.alloc _) HC1.out (by omega) (by omega)).mono ?_
  rintro e w1 ⟨rfl, hb1⟩
  have D1 := hb1
  have E1 : Below w.heap.size w w1 := ((Below.refl _ _).alloc (Nat.le_refl _) _).trans (hb1.mono (by simp))
  obtain ⟨hc1, hf1⟩ := bcell D1; clear hb1
  go_wp2
  go_ret
  exact ⟨rfl, E1⟩
end Go.Proofs.Ytaaobbbkfhggaaa

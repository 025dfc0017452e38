/-
  The laws' readings of marks: they find the marks that are there. Printed by genheld.py.
-/
import Derived.Test.YtadneiijklnccaaMark
import Derived.Test.YtadneiijklnccaaSoft
namespace Go.Proofs.Ytadneiijklnccaa
open Go.RowKit
set_option linter.unusedVariables false
set_option linter.unusedSimpArgs false
set_option linter.unnecessarySimpa false
set_option maxRecDepth 100000 in
set_option maxHeartbeats 1000000 in
theorem heldByteS_c {w : World} {va : Value} {x : List UInt8} {k k' : Int} (ha : (Rep.slice 5 Rep.byte).raw w [va] x) (hh : (Rep.slice 5 Rep.byte).held true x k = some k') (hk0 : 0 ≤ k) (hk1 : k' ≤ 4611686018427387904) :
    Calls Try.prog 12 #[va, .int .i64 k] w fun e w' => e = .returned (.int .i64 k') ∧ Below w.heap.size w w' := by
  obtain ⟨aa, capa, hva, la⟩ := Rep.len_raw ha; obtain rfl : va = _ := by simpa using hva
  clear hva
  have HH := Lib.hid hh; clear hh
  go_enter Try.func12, Try.ntmps12
  go_wp2
  go_loopw [1, 5] (fun l i wr => ∃ (j : Nat) (q : Int), j ≤ x.length ∧ i = .int .i64 j ∧ l = .int .i64 q ∧ 0 ≤ q ∧ q ≤ k' ∧ Rep.hdL Rep.byte (x.drop j) q = some k' ∧ Below w.heap.size w wr) (fun _ i _ => x.length - (intOf i).toNat)
  case atStart => exact ⟨0, k, Nat.zero_le _, rfl, rfl, hk0, (Rep.slice 5 Rep.byte).held_ge (e := true) HH.out, HH.out, Below.refl _ _⟩
  case round =>
    obtain ⟨j, q, hj, rfl, rfl, hq0, hq1, hl, hbel⟩ := hrel
    by_cases hlt : j < x.length
    · obtain ⟨b, off, rfl, c0_0, hr, C0_0⟩ := Rep.get1 (ha.below hbel) hlt rfl
      obtain ⟨qe, hle, hln, hq2, hq3⟩ := Rep.held_step hlt hl
      have HN := Lib.hid hln; clear hln hl
      generalize x[j] = y at *
      obtain ⟨y0, rfl⟩ : ∃ y0, y0 = y := ⟨_, rfl⟩
      obtain hce := Rep.byte_raw hr
      obtain rfl : c0_0 = _ := by simpa using hce
      clear hce hr
      obtain ⟨rfl, rfl⟩ := Rep.byte_held hle
      go_wp2
      go_roundw
      case rel => exact ⟨j + 1, _, by omega, by go_num, rfl, by omega, by omega, HN.out, hbel⟩
      case measure => simp [intOf]; omega
    · have HD := Lib.hid (Rep.held_done hlt hl); clear hl
      go_wp2
      go_ret
      exact ⟨ret_int HD.out, hbel⟩
end Go.Proofs.Ytadneiijklnccaa

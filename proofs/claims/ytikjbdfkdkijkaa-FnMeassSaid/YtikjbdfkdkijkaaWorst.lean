/-
  The worst count of failures: a maximum over a list.
-/
import Derived.Test.YtikjbdfkdkijkaaLib
import Derived.Test.YtikjbdfkdkijkaaTypes
namespace Go.Proofs.Ytikjbdfkdkijkaa
open Go.RowKit
set_option linter.unusedVariables false
def worst (l : List LMeasurement) : Int := l.foldl (fun n m => max n m.2.2) 0
theorem worst_succ {x : List LMeasurement} {k : Nat} (h : k < x.length) : worst (x.take (k + 1)) = max (worst (x.take k)) x[k].2.2 := by
  unfold worst
  rw [List.take_succ_eq_append_getElem h, List.foldl_append]
  rfl
theorem worst_full {x : List LMeasurement} {k : Nat} (h : ¬ k < x.length) : worst (x.take k) = worst x := by rw [List.take_of_length_le (by omega)]
set_option maxHeartbeats 400000 in
theorem specMaxW_c {w : World} {a b : Int} : Calls Try.prog 76 #[.int .i64 a, .int .i64 b] w fun e w' => e = .returned (.int .i64 (max a b)) ∧ Below w.heap.size w w' := by
  go_enter Try.func76, Try.ntmps76
  by_cases h : b > a
  · go_wp2
    go_ret
    exact ⟨ret_int (by omega), Below.refl _ _⟩
  · go_wp2
    go_ret
    exact ⟨ret_int (by omega), Below.refl _ _⟩
set_option maxHeartbeats 400000 in
theorem specWorstFailures_c {w : World} {va : Value} {x : List LMeasurement} (ha : (Rep.slice 76 RMeasurement).rd w [va] x) :
    Calls Try.prog 22 #[va] w fun e w' => e = .returned (.int .i64 (worst x)) ∧ Below w.heap.size w w' := by
  replace ha := ha.1
  obtain ⟨aa, capa, hva, la⟩ := Rep.len_raw ha; obtain rfl : va = _ := by simpa using hva
  clear hva
  go_enter Try.func22, Try.ntmps22
  go_wp2
  go_loopw [3, 4] (fun l i wr => ∃ (k : Nat) (r : Int), k ≤ x.length ∧ i = .int .i64 k ∧ l = .int .i64 r ∧ Hid (worst (x.take k) = r) ∧ Below w.heap.size w wr) (fun _ i _ => x.length - (intOf i).toNat)
  case atStart => exact ⟨0, _, Nat.zero_le _, rfl, rfl, Lib.hid rfl, Below.refl _ _⟩
  case round =>
    obtain ⟨k, r, hk, rfl, rfl, hr0, hbel⟩ := hrel
    by_cases hlt : k < x.length
    · obtain ⟨ba, offa, rfl, c0, c1, c2, hr, A0, A1, A2⟩ := Rep.get3 (ha.below hbel) hlt rfl
      obtain ⟨v0, he, _⟩ := RMeasurement_raw hr
      simp only [List.cons.injEq, and_true] at he
      obtain ⟨rfl, rfl, rfl⟩ := he
      clear hr
      go_wp2_with fail
      refine specMaxW_c.mono ?_
      rintro e w' ⟨rfl, hb3⟩
      have hbel2 := hbel.trans (hb3.mono hbel.size)
      have HT := Lib.hid ((worst_succ hlt).trans (congrArg (fun z => max z _) hr0.out))
      go_wp2
      go_roundw
      case rel => exact ⟨k + 1, _, by omega, by go_num, rfl, HT, hbel2⟩
      case measure => simp [intOf]; omega
    · go_wp2
      go_ret
      exact ⟨ret_int ((worst_full hlt).symm.trans hr0.out).symm, hbel⟩
set_option maxHeartbeats 400000 in
theorem implWorstFailures_c {w : World} {va : Value} {x : List LMeasurement} (ha : (Rep.slice 76 RMeasurement).rd w [va] x) :
    Calls Try.prog 21 #[va] w fun e w' => e = .returned (.int .i64 (worst x)) ∧ Below w.heap.size w w' := by
  replace ha := ha.1
  obtain ⟨aa, capa, hva, la⟩ := Rep.len_raw ha; obtain rfl : va = _ := by simpa using hva
  clear hva
  go_enter Try.func21, Try.ntmps21
  go_wp2
  go_loopw [3, 8] (fun l i wr => ∃ (k : Nat) (r : Int), k ≤ x.length ∧ i = .int .i64 k ∧ l = .int .i64 r ∧ Hid (worst (x.take k) = r) ∧ Below w.heap.size w wr) (fun _ i _ => x.length - (intOf i).toNat)
  case atStart => exact ⟨0, _, Nat.zero_le _, rfl, rfl, Lib.hid rfl, Below.refl _ _⟩
  case round =>
    obtain ⟨k, r, hk, rfl, rfl, hr0, hbel⟩ := hrel
    by_cases hlt : k < x.length
    · obtain ⟨ba, offa, rfl, c0, c1, c2, hr, A0, A1, A2⟩ := Rep.get3 (ha.below hbel) hlt rfl
      obtain ⟨v0, he, _, hs, _⟩ := RMeasurement_raw hr
      simp only [List.cons.injEq, and_true] at he
      obtain ⟨rfl, rfl, rfl⟩ := he
      obtain ⟨sa, sp, sh, _⟩ := Rep.len_raw hs; obtain rfl : c0 = _ := by simpa using sh
      clear hr hs sh
      have HT := Lib.hid ((worst_succ hlt).trans (congrArg (fun z => max z _) hr0.out))
      go_wp2
      go_roundw
      case rel => exact ⟨k + 1, _, by omega, by go_num, rfl, Lib.hid (HT.out.trans (by split <;> omega)), hbel.alloc hbel.size _⟩
      case measure => simp [intOf]; omega
    · go_wp2
      go_ret
      exact ⟨ret_int ((worst_full hlt).symm.trans hr0.out).symm, hbel⟩
end Go.Proofs.Ytikjbdfkdkijkaa

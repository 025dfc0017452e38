/-
  Small functions on numbers: ranges, comparisons; the library's cmp.Compare and cmp.Or.
-/
import Derived.Test.YtadneiijklnccaaLib
import Derived.Test.YtadneiijklnccaaTypes
import Derived.Test.YtadneiijklnccaaOwn2
import Derived.StillTailTactics
namespace Go.Proofs.Ytadneiijklnccaa
open Go.RowKit
set_option linter.unusedVariables false
def inR (n a b : Int) : Bool := decide (a ≤ n) && decide (n ≤ b)
set_option maxHeartbeats 400000 in
theorem specl1In_c {w : World} {n a b : Int} : Calls Try.prog 29 #[.int .i64 n, .int .i64 a, .int .i64 b] w fun e w' => e = .returned (.bool (inR n a b)) ∧ w' = w := by
  go_enter Try.func29, Try.ntmps29
  by_cases h : n ≥ a
  · have hd : decide (n ≥ a) = true := by simpa using h
    go_wp2
    go_ret
    exact ⟨ret_bool (by simp [inR, h]), rfl⟩
  · have hd : decide (n ≥ a) = false := by simpa using h
    go_wp2
    go_ret
    exact ⟨ret_bool (by simp [inR]; omega), rfl⟩
set_option maxHeartbeats 400000 in
theorem implInRange_c {w : World} {n a b : Int} : Calls Try.prog 33 #[.int .i64 n, .int .i64 a, .int .i64 b] w fun e w' => e = .returned (.bool (inR n a b)) ∧ w' = w := by
  go_enter Try.func33, Try.ntmps33
  by_cases h : a ≤ n
  · have hd : decide (a ≤ n) = true := by simpa using h
    go_wp2
    go_ret
    exact ⟨ret_bool (by simp [inR, h]), rfl⟩
  · have hd : decide (a ≤ n) = false := by simpa using h
    go_wp2
    go_ret
    exact ⟨ret_bool (by simp [inR]; omega), rfl⟩
end Go.Proofs.Ytadneiijklnccaa

/-
  Small functions on numbers: ranges, comparisons; the library's cmp.Compare and cmp.Or.
-/
import Derived.Test.YtcnhfggfgknooaaGreatLib
import Derived.Test.YtcnhfggfgknooaaGreatTypes
import Derived.Test.YtcnhfggfgknooaaGreatOwn2
import Derived.StillTailTactics
namespace Go.Proofs.YtcnhfggfgknooaaGreat
open Go.RowKit
set_option linter.unusedVariables false
def inR (n a b : Int) : Bool := decide (a ≤ n) && decide (n ≤ b)
set_option maxHeartbeats 400000 in
theorem specl1In_c {w : World} {n a b : Int} : Calls Tryz.prog 114 #[.int .i64 n, .int .i64 a, .int .i64 b] w fun e w' => e = .returned (.bool (inR n a b)) ∧ w' = w := by
  go_enter Tryz.func114, Tryz.ntmps114
  by_cases h : n ≥ a
  · have hd : decide (n ≥ a) = true := by simpa using h
    go_wp2
    go_ret
    exact ⟨ret_bool (by simp [inR, h]), rfl⟩
  · have hd : decide (n ≥ a) = false := by simpa using h
    go_wp2
    go_ret
    exact ⟨ret_bool (by simp [inR]; omega), rfl⟩
set_option maxHeartbeats 400000 in
theorem implInRange_c {w : World} {n a b : Int} : Calls Tryz.prog 128 #[.int .i64 n, .int .i64 a, .int .i64 b] w fun e w' => e = .returned (.bool (inR n a b)) ∧ w' = w := by
  go_enter Tryz.func128, Tryz.ntmps128
  by_cases h : a ≤ n
  · have hd : decide (a ≤ n) = true := by simpa using h
    go_wp2
    go_ret
    exact ⟨ret_bool (by simp [inR, h]), rfl⟩
  · have hd : decide (a ≤ n) = false := by simpa using h
    go_wp2
    go_ret
    exact ⟨ret_bool (by simp [inR]; omega), rfl⟩
end Go.Proofs.YtcnhfggfgknooaaGreat

/-
  The lesser and the greater of two numbers.
-/
import Derived.Test.YtjehdoedfikcdaaGreatNum
import Derived.IntWalk
namespace Go.Proofs.YtjehdoedfikcdaaGreat
open Go.RowKit
set_option linter.unusedVariables false
set_option linter.unusedSimpArgs false
set_option linter.unnecessarySimpa false
theorem specMin_c {w : World} {a b : Int} : Calls Tryz.prog 115 #[.int .i64 a, .int .i64 b] w fun e w' => e = .returned (.int .i64 (min a b)) ∧ w' = w := by
  go_enter Tryz.func115, Tryz.ntmps115
  by_cases h : b < a
  · have hd : decide (b < a) = true := by simpa using h
    have HT := Lib.hid (show min a b = b by omega)
    go_wp2
    go_ret
    exact ⟨ret_int HT.out.symm, rfl⟩
  · have hd : decide (b < a) = false := by simpa using h
    have HT := Lib.hid (show min a b = a by omega)
    go_wp2
    go_ret
    exact ⟨ret_int HT.out.symm, rfl⟩
theorem specMax_c {w : World} {a b : Int} : Calls Tryz.prog 114 #[.int .i64 a, .int .i64 b] w fun e w' => e = .returned (.int .i64 (max a b)) ∧ w' = w := by
  go_enter Tryz.func114, Tryz.ntmps114
  by_cases h : b > a
  · have hd : decide (b > a) = true := by simpa using h
    have HT := Lib.hid (show max a b = b by omega)
    go_wp2
    go_ret
    exact ⟨ret_int HT.out.symm, rfl⟩
  · have hd : decide (b > a) = false := by simpa using h
    have HT := Lib.hid (show max a b = a by omega)
    go_wp2
    go_ret
    exact ⟨ret_int HT.out.symm, rfl⟩
end Go.Proofs.YtjehdoedfikcdaaGreat

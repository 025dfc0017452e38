/-
  The lesser and the greater of two numbers.
-/
import Derived.Test.YtikjbdfkdkijkaaNum
import Derived.IntWalk
namespace Go.Proofs.Ytikjbdfkdkijkaa
open Go.RowKit
set_option linter.unusedVariables false
set_option linter.unusedSimpArgs false
set_option linter.unnecessarySimpa false
theorem specMin_c {w : World} {a b : Int} : Calls Try.prog 71 #[.int .i64 a, .int .i64 b] w fun e w' => e = .returned (.int .i64 (min a b)) ∧ w' = w := by
  go_enter Try.func71, Try.ntmps71
  by_cases h : b < a
  · have hd : decide (b < a) = true := by simpa using h
    have HT := Lib.hid (show min a b = b by omega)
    go_wp2
    go_ret
    exact ⟨ret_int HT.out.symm, rfl⟩
  · have hd : decide (b < a) = false := by simpa using h
    have HT := Lib.hid (show min a b = a by omega)
    go_wp2
    go_ret
    exact ⟨ret_int HT.out.symm, rfl⟩
theorem specMax_c {w : World} {a b : Int} : Calls Try.prog 76 #[.int .i64 a, .int .i64 b] w fun e w' => e = .returned (.int .i64 (max a b)) ∧ w' = w := by
  go_enter Try.func76, Try.ntmps76
  by_cases h : b > a
  · have hd : decide (b > a) = true := by simpa using h
    have HT := Lib.hid (show max a b = b by omega)
    go_wp2
    go_ret
    exact ⟨ret_int HT.out.symm, rfl⟩
  · have hd : decide (b > a) = false := by simpa using h
    have HT := Lib.hid (show max a b = a by omega)
    go_wp2
    go_ret
    exact ⟨ret_int HT.out.symm, rfl⟩
end Go.Proofs.Ytikjbdfkdkijkaa

/-
  Lists of integers, equal.
-/
import Derived.Test.YtpgnbablhdknnaaDoorLib
import Derived.Test.YtpgnbablhdknnaaDoorSoft
import Derived.IntWalk
import Derived.Deep.Cut
namespace Go.Proofs.YtpgnbablhdknnaaDoor
open Go.RowKit
set_option linter.unusedVariables false
set_option linter.unusedSimpArgs false
set_option linter.unnecessarySimpa false
def vInt (x y : Int) : Bool := !(x != y)
theorem vInt_eq (x y : Int) : vInt x y = decide (x = y) := by rw [Bool.eq_iff_iff]; simp [vInt]
end Go.Proofs.YtpgnbablhdknnaaDoor

/-
  The laws' bound on the code.
-/
import Derived.Test.YtpgnbablhdknnaaDoorBridge
import Derived.IntWalk
namespace Go.Proofs.YtpgnbablhdknnaaDoor
open Go.RowKit
set_option linter.unusedVariables false
set_option linter.unusedSimpArgs false
set_option linter.unnecessarySimpa false
theorem lawsbig_c {w : World} {v : Value} {code : List UInt8} (hcode : (Rep.slice 5 Rep.byte).raw w [v] code) :
    Calls Tryd.prog 4 #[v] w fun e w' => e = .returned (.bool (decide ((code.length : Int) > 1048576))) ∧ Below w.heap.size w w' := by
  obtain ⟨ca, cc, hcv, _⟩ := Rep.len_raw hcode; obtain rfl : v = _ := by simpa using hcv
  clear hcv
  go_enter Tryd.func4, Tryd.ntmps4
  go_wp2
  go_ret
  exact ⟨by simp, Below.refl _ _⟩
end Go.Proofs.YtpgnbablhdknnaaDoor

/-
  The laws' measures of size: what they let pass is bounded. Printed by gensz.py.
-/
import Derived.Test.YtadneiijklnccaaDoorProg
import Derived.Test.YtadneiijklnccaaDoorTypes
import Derived.WalkKit
import Derived.WalkSpells
import Derived.WalkLawsBesides
import Derived.BigQuiet
import Derived.Deep.QuietTactic
import Derived.StillTailTactics
namespace Go.Proofs.YtadneiijklnccaaDoor
open Go.RowKit
set_option linter.unusedVariables false
def SzPost (bd : Prop) (left : Int) (w : World) (e : Ending) (w' : World) : Prop := ∃ r : Int, e = .returned (.int .i64 r) ∧ -1 ≤ r ∧ r ≤ left ∧ (0 ≤ r → bd) ∧ Below w.heap.size w w'
theorem all_take_succ {α : Type} {P : α → Prop} {x : List α} {k : Nat} (h : ∀ y ∈ x.take k, P y) (hk : k < x.length) (hy : P x[k]) : ∀ y ∈ x.take (k + 1), P y := by
  rw [List.take_succ_eq_append_getElem hk]
  intro y hm
  rcases List.mem_append.1 hm with hm | hm
  · exact h y hm
  · rw [List.mem_singleton.1 hm]; exact hy
end Go.Proofs.YtadneiijklnccaaDoor

/-
  What a copying call hands back: a new slice at the head of its own block. No program in sight.
-/
import Derived.Test.YtadneiijklnccaaDoorGap
import Derived.Test.YtadneiijklnccaaDoorPush
import Derived.Test.YtadneiijklnccaaDoorOwn2
import Derived.Lib.Hide
namespace Go.Proofs.YtadneiijklnccaaDoor
open Go.RowKit
set_option linter.unusedVariables false
variable {α : Type} {r : Rep α} {e : TypeId} {w w' : World} {v : Value} {xs ys : List α} {S : Nat → Prop}
def Made0 (e : TypeId) (r : Rep α) (x : List α) (w : World) (E : Ending) (w' : World) : Prop := ∃ v, E = .returned v ∧ Rep.own0 e r w' v x (Btw w.heap.size w'.heap.size) ∧ Below w.heap.size w w'
theorem Rep.own0.cast (h : Rep.own0 e r w v xs S) (k : xs = ys) : Rep.own0 e r w v ys S := k ▸ h
theorem Rep.own0.parts (h : Rep.own0 e r w v xs S) : ∃ a n cap, v = .slice a n cap ∧ Hid (n = xs.length) := by
  obtain ⟨a, cap, h⟩ := h.none_iff
  exact ⟨a, _, cap, h, Lib.hid rfl⟩
theorem Made0.post {E : Ending} (h : Made0 e r xs w E w') (hl : xs.length ≤ Big) : MadePost (Rep.slice e r) xs w E w' := by
  obtain ⟨v, rfl, h1, h2⟩ := h
  exact ⟨v, rfl, h1.own hl, h2⟩
end Go.Proofs.YtadneiijklnccaaDoor

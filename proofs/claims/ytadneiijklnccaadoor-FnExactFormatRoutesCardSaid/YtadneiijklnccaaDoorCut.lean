/-
  Owned slices at their block's head: a store into an element; two parts appended to a new slice. No program in sight.
-/
import Derived.Test.YtadneiijklnccaaDoorMade
namespace Go.Proofs.YtadneiijklnccaaDoor
open Go.RowKit
set_option linter.unusedVariables false
set_option linter.unusedSimpArgs false
set_option linter.unnecessarySimpa false
namespace Rep
section
variable {α : Type} {r : Rep α} {e : TypeId} {w w' u : World} {v : Value} {b cap len n : Nat} {kept rest xs : List α} {j i : Nat} {x : α} {S T : Nat → Prop}
theorem own0.raw0 (h : own0 e r w v xs S) : (slice e r).raw w [v] xs := by
  obtain ⟨hb, h⟩ := h
  have k : (slice e r).is true w [v] xs S := by
    rcases h with ⟨⟨a, rfl⟩, rfl⟩ | ⟨b, cap, cur, cs, tl, rfl, h1, h2, h3, h4, h5, h6, h7⟩
    · exact ⟨a, 0, 0, rfl, rfl, Nat.le_refl _, Nat.zero_le _, .inl ⟨rfl, fun _ => rfl⟩⟩
    · exact ⟨_, _, cap, rfl, rfl, h1, h2, .inr ⟨b, 0, rfl, cur, e, (0, 0), [], cs, tl, h3, by simpa using h4, rfl, by omega, fun _ => ⟨rfl, rfl⟩, h6, row_wide h7 (fun k hk => ⟨hk.1, fun _ => hk.2⟩)⟩⟩
  exact (slice e r).wide ((slice e r).weak k) (fun _ _ => trivial)
end
end Rep
end Go.Proofs.YtadneiijklnccaaDoor

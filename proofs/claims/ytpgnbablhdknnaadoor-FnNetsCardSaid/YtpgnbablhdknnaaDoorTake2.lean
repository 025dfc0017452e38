/-
  The capacity of a slice. No program in sight.
-/
import Derived.Test.YtpgnbablhdknnaaDoorTake
namespace Go.Proofs.YtpgnbablhdknnaaDoor
open Go.RowKit
namespace Rep
variable {α : Type} {r : Rep α} {e : TypeId} {w : World} {a : Option Addr} {len cap : Nat} {xs : List α}
theorem cap_raw (h : (slice e r).raw w [.slice a len cap] xs) : xs.length ≤ cap ∧ cap ≤ 9223372036854775807 := by
  obtain ⟨a', len', cap', h0, h1, h2, h3, h4⟩ := h
  simp only [List.cons.injEq, Value.slice.injEq, and_true] at h0
  obtain ⟨rfl, rfl, rfl⟩ := h0
  unfold maxLen at h3
  exact ⟨by omega, by omega⟩
end Rep
end Go.Proofs.YtpgnbablhdknnaaDoor

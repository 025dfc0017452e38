/-
  What a copying call hands back: a new slice at the head of its own block. No program in sight.
-/
import Derived.Test.YtpgnbablhdknnaaDoorGap
import Derived.Test.YtpgnbablhdknnaaDoorFlat
import Derived.Lib.Hide
namespace Go.Proofs.YtpgnbablhdknnaaDoor
open Go.RowKit
set_option linter.unusedVariables false
variable {α : Type} {r : Rep α} {e : TypeId} {w w' : World} {v : Value} {xs ys : List α} {S : Nat → Prop}
def Made0 (e : TypeId) (r : Rep α) (x : List α) (w : World) (E : Ending) (w' : World) : Prop := ∃ v, E = .returned v ∧ Rep.own0 e r w' v x (Btw w.heap.size w'.heap.size) ∧ Below w.heap.size w w'
theorem Rep.own0.cast (h : Rep.own0 e r w v xs S) (k : xs = ys) : Rep.own0 e r w v ys S := k ▸ h
theorem Rep.own0.parts (h : Rep.own0 e r w v xs S) : ∃ a n cap, v = .slice a n cap ∧ Hid (n = xs.length) := by
  obtain ⟨a, cap, h⟩ := h.none_iff
  exact ⟨a, _, cap, h, Lib.hid rfl⟩
theorem Made0.post {E : Ending} (h : Made0 e r xs w E w') (hl : xs.length ≤ Big) : MadePost (Rep.slice e r) xs w E w' := by
  obtain ⟨v, rfl, h1, h2⟩ := h
  exact ⟨v, rfl, h1.own hl, h2⟩
theorem filter_yes {α : Type} {p : α → Bool} {l : List α} {k : Nat} (h : k < l.length) (q : p l[k] = true) : (l.take (k + 1)).filter p = (l.take k).filter p ++ [l[k]] := by
  rw [List.take_succ_eq_append_getElem h, List.filter_append]
  simp [q]
theorem filter_no {α : Type} {p : α → Bool} {l : List α} {k : Nat} (h : k < l.length) (q : p l[k] = false) : (l.take (k + 1)).filter p = (l.take k).filter p := by
  rw [List.take_succ_eq_append_getElem h, List.filter_append]
  simp [q]
theorem filter_take_le {α : Type} {p : α → Bool} {l : List α} {k : Nat} (h : k ≤ l.length) : ((l.take k).filter p).length ≤ k := by
  have h1 := List.length_filter_le p (l.take k)
  rw [List.length_take_of_le h] at h1
  exact h1
theorem fm_yes {α β : Type} {p : α → Bool} {g : α → β} {l : List α} {k : Nat} (h : k < l.length) (q : p l[k] = true) : ((l.take (k + 1)).filter p).map g = ((l.take k).filter p).map g ++ [g l[k]] := by rw [filter_yes h q, List.map_append]; rfl
theorem fm_no {α β : Type} {p : α → Bool} {g : α → β} {l : List α} {k : Nat} (h : k < l.length) (q : p l[k] = false) : ((l.take (k + 1)).filter p).map g = ((l.take k).filter p).map g := by rw [filter_no h q]
theorem fm_le {α β : Type} {p : α → Bool} {g : α → β} {l : List α} {k : Nat} (h : k ≤ l.length) : (((l.take k).filter p).map g).length ≤ k := by rw [List.length_map]; exact filter_take_le h
end Go.Proofs.YtpgnbablhdknnaaDoor

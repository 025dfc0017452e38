/-
  The condition on the world while a draw's last region runs: the cursor may have moved, the result's cells may be filled.
-/
import Derived.Test.YtpgnbablhdknnaaDoorCur
import Derived.Test.YtpgnbablhdknnaaDoorDrawB
namespace Go.Proofs.YtpgnbablhdknnaaDoor
open Go.RowKit
set_option linter.unusedVariables false
structure SR (cw w : World) (p R : Nat) (t : TypeId) (n : Nat) (W : World) : Prop where
  touch : Touch (fun k => k = p ∨ k = R) w W
  cur : Cur cw W p
  row : ∃ l : List Value, l.length = n ∧ W.heap[R]? = some (.cells l.toArray t (0, 0))
section
variable {cw w W W' : World} {p R n : Nat} {t : TypeId}
theorem SR.start {cs : Array Value} (hc : Cur cw w p) (hr : w.heap[R]? = some (.cells cs t (0, 0))) (hn : cs.toList.length = n) : SR cw w p R t n { w with drawn := w.drawn + 1 } :=
  ⟨Touch.of_below (Below.refl _ _).drew, hc.below (Below.refl _ _).drew, cs.toList, hn, by simpa using hr⟩
theorem SR.go (h : SR cw w p R t n W) (ht : Touch (fun k => k = p) W W') (hc : Cur cw W' p) (hne : ¬ R = p) : SR cw w p R t n W' := by
  obtain ⟨l, hl, hr⟩ := h.row
  exact ⟨h.touch.trans (ht.wide (fun k q => .inl q)), hc, l, hl, ht.keepBox hr hne⟩
theorem SR.below (h : SR cw w p R t n W) (b : Below W.heap.size W W') : SR cw w p R t n W' := by
  obtain ⟨l, hl, hr⟩ := h.row
  exact ⟨h.touch.trans (Touch.of_below b), h.cur.below b, l, hl, keepBox hr b⟩
theorem SR.set (h : SR cw w p R t n W) (hne : ¬ R = p) (h0 : cw.heap.size ≤ R) (j : Nat) (v : Value) : SR cw w p R t n (W.setCell ⟨R, j, none⟩ v) := by
  obtain ⟨l, hl, hr⟩ := h.row
  refine ⟨h.touch.trans ((setCell_touch W R j v).wide (fun k q => .inr q)), h.cur.touch (setCell_touch W R j v) (fun q => hne q.symm) (fun k q => q ▸ h0), (l.toArray.setIfInBounds j v).toList, by simpa using hl, ?_⟩
  have := setCell_row (v := v) hr j
  simpa using this
end
theorem list1 {α : Type} {l : List α} (h : l.length = 1) : ∃ a, l = [a] := by match l, h with | [a], _ => exact ⟨a, rfl⟩
theorem list2 {α : Type} {l : List α} (h : l.length = 2) : ∃ a b, l = [a, b] := by match l, h with | [a, b], _ => exact ⟨a, b, rfl⟩
theorem list3 {α : Type} {l : List α} (h : l.length = 3) : ∃ a b c, l = [a, b, c] := by match l, h with | [a, b, c], _ => exact ⟨a, b, c, rfl⟩
theorem list4 {α : Type} {l : List α} (h : l.length = 4) : ∃ a b c d, l = [a, b, c, d] := by match l, h with | [a, b, c, d], _ => exact ⟨a, b, c, d, rfl⟩
theorem list5 {α : Type} {l : List α} (h : l.length = 5) : ∃ a b c d e, l = [a, b, c, d, e] := by match l, h with | [a, b, c, d, e], _ => exact ⟨a, b, c, d, e, rfl⟩
theorem list8 {α : Type} {l : List α} (h : l.length = 8) : ∃ a b c d e f g i, l = [a, b, c, d, e, f, g, i] := by match l, h with | [a, b, c, d, e, f, g, i], _ => exact ⟨a, b, c, d, e, f, g, i, rfl⟩
end Go.Proofs.YtpgnbablhdknnaaDoor

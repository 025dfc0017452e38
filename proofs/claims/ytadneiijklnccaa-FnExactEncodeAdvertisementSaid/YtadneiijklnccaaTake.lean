/-
  Slices of slices, read. No program in sight.
-/
import Derived.Test.YtadneiijklnccaaOwn2
namespace Go.Proofs.Ytadneiijklnccaa
open Go.RowKit
set_option linter.unusedVariables false
namespace Rep
section
variable {α : Type} {r : Rep α} {e : TypeId} {w : World} {a : Option Addr} {len cap : Nat} {xs : List α} {o : Bool} {S : Nat → Prop}
theorem raw_src (h : (slice e r).raw w [.slice a len cap] xs) : ∃ cells, Src w (.slice a len cap) xs.length cells ∧ row r false w cells xs (fun _ => True) := by
  obtain ⟨a', len', cap', h0, h1, h2, h3, h4⟩ := h
  simp only [List.cons.injEq, Value.slice.injEq, and_true] at h0
  obtain ⟨rfl, rfl, rfl⟩ := h0
  rcases h4 with ⟨rfl, _⟩ | ⟨b, off, ha, cur, e', fr, p, c, q, hb, hc, hp, hl, hf, hS, hx⟩
  · subst h1
    exact ⟨[], .inl ⟨rfl, _, _, rfl⟩, rfl⟩
  · subst ha h1
    refine ⟨c, .inr ⟨_, _, rfl, ?_⟩, row_wide hx (fun _ _ => trivial)⟩
    intro j u hj
    have hadd : (⟨b, off, none⟩ : Addr).add j = ⟨b, off + j, none⟩ := by unfold Addr.add; split <;> simp_all
    have hjl := (List.getElem?_eq_some_iff.1 hj).1
    rw [hadd]
    simp only [World.cell?, hb, Option.isSome_none, Bool.false_eq_true, if_false]
    rw [← Array.getElem?_toList, hc, List.getElem?_append_right (by omega), List.getElem?_append_left (by omega)]
    rw [← hj]; congr 1; omega
end
end Rep
end Go.Proofs.Ytadneiijklnccaa

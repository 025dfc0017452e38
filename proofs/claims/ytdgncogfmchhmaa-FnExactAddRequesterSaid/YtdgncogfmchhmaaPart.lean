/-
  An owned slice, one of whose elements gets a part that is owned elsewhere. No program in sight.
-/
import Derived.Test.YtdgncogfmchhmaaCut
namespace Go.Proofs.Ytdgncogfmchhmaa
open Go.RowKit
set_option linter.unusedVariables false
set_option linter.unusedSimpArgs false
set_option linter.unnecessarySimpa false
namespace Rep
section
variable {α : Type} {r : Rep α} {e : TypeId} {w : World} {b cap len i j p : Nat} {xs : List α} {y : α} {u : Value} {S T : Nat → Prop}
/-- Cell j of element i is set; the new element may lean on T, too. -/
theorem own0_setPart (h : own0 e r w (.slice (some ⟨b, 0, none⟩) len cap) xs S) (hi : i < xs.length) (hj : j < r.n)
    (hy : ∀ {cs : List Value} {B : Nat → Prop}, r.is true w cs xs[i] B → (∀ k, B k → S k) → r.is true w (cs.set j u) y (fun k => B k ∨ T k)) (hby : r.bdd Big y) (hST : ∀ k, S k → T k → False) (hp : p = i * r.n + j) :
    own0 e r (w.setCell ⟨b, p, none⟩ u) (.slice (some ⟨b, 0, none⟩) len cap) (xs.set i y) (fun k => S k ∨ T k) ∧ Touch (fun k => k = b) w (w.setCell ⟨b, p, none⟩ u) := by
  subst hp
  refine ⟨?_, touch_setCells [u] w b _⟩
  obtain ⟨hb, h⟩ := h
  rcases h with ⟨⟨a, h0⟩, rfl⟩ | ⟨b', cap', cur, cs, tl, h0, h1, h2, h3, h4, h5, h6, h7⟩
  · simp at hi
  simp only [Value.slice.injEq, Option.some.injEq, Addr.mk.injEq, and_true] at h0
  obtain ⟨rfl, rfl, rfl⟩ := h0
  obtain ⟨c1, c, c2, A, B, C, rfl, hl, r1, r2, r3, hA, hB, hC, hd⟩ := row_at h7 hi
  have hc := r.len r2
  have hbT : ∀ k, T k → k ≠ b := fun k hk q => hST k (q ▸ h6) hk
  have n2 := hy r2 (fun k hk => (hB k hk).1)
  have hcur : cur = ((c1 ++ (c ++ c2)) ++ tl).toArray := by rw [← h4]
  subst hcur
  have hset := heap_setCell_same w b (i * r.n + j) _ e u h3
  refine ⟨?_, .inr ⟨b, cap, _, c1 ++ (c.set j u ++ c2), tl, by rw [List.length_set], by rw [List.length_set]; exact h1, h2, hset, ?_, ?_, .inl h6, ?_⟩⟩
  · intro z hz
    rcases List.mem_or_eq_of_mem_set hz with q | q
    · exact hb z q
    · rw [q]; exact hby
  · simp only [Array.toList_setIfInBounds, List.toList_toArray]
    rw [List.append_assoc, List.append_assoc, List.set_append_right _ _ (by omega), hl, show i * r.n + j - i * r.n = j by omega, List.set_append_left _ _ (by omega)]
    simp
  · simpa using h5
  · have oth : ∀ k, k ≠ b → (w.setCell ⟨b, i * r.n + j, none⟩ u).heap[k]? = w.heap[k]? := fun k hk => heap_setCell_other w ⟨b, i * r.n + j, none⟩ k u hk
    have mono : ∀ {cs : List Value} {ys : List α} {D : Nat → Prop}, row r true w cs ys D → (∀ k, D k → k ≠ b) → row r true (w.setCell ⟨b, i * r.n + j, none⟩ u) cs ys D := fun hr hk => row_mono hr (fun k hd => oth k (hk k hd))
    refine row_put (A := A) (B := fun k => B k ∨ T k) (C := C) hi (mono r1 (fun k hk => (hA k hk).2)) (r.mono n2 (fun k hk => oth k (hk.elim (fun q => (hB k q).2) (hbT k)))) (mono r3 (fun k hk => (hC k hk).2)) ?_ ?_ ?_ ?_
    · exact fun k hk => ⟨.inl (hA k hk).1, (hA k hk).2⟩
    · exact fun k hk => hk.elim (fun q => ⟨.inl (hB k q).1, (hB k q).2⟩) (fun q => ⟨.inr q, hbT k q⟩)
    · exact fun k hk => ⟨.inl (hC k hk).1, (hC k hk).2⟩
    · exact fun _ k => ⟨fun a q => q.elim ((hd rfl k).1 a) (fun t => hST k (hA k a).1 t), (hd rfl k).2.1, fun q c => q.elim (fun b => (hd rfl k).2.2 b c) (fun t => hST k (hC k c).1 t)⟩
end
end Rep
end Go.Proofs.Ytdgncogfmchhmaa

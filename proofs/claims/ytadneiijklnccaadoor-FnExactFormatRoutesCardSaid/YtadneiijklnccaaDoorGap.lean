/-
  Thinning an owned slice in place: what is kept, what is stale, what is still to be read. No program in sight.
-/
import Derived.Test.YtadneiijklnccaaDoorPush
import Derived.Test.YtadneiijklnccaaDoorOwn2
import Derived.Laws.IdiomCopy
namespace Go.Proofs.YtadneiijklnccaaDoor
open Go.RowKit
set_option linter.unusedVariables false
set_option linter.unusedSimpArgs false
set_option linter.unnecessarySimpa false
namespace Rep
section
variable {α : Type} {r : Rep α} {e : TypeId} {w w' : World} {v : Value} {b cap n : Nat} {kept rest xs : List α} {j : Nat} {x : α} {S T : Nat → Prop}
def gap (e : TypeId) (r : Rep α) (w : World) (b cap n : Nat) (kept : List α) (j : Nat) (rest : List α) (S : Nat → Prop) : Prop :=
  (∀ x ∈ kept, r.bdd Big x) ∧ (∀ x ∈ rest, r.bdd Big x) ∧ kept.length + j + rest.length = n ∧ n ≤ cap ∧ cap ≤ maxLen ∧ S b ∧
  ∃ (c jk d tl : List Value) (A B : Nat → Prop), w.heap[b]? = some (.cells (c ++ (jk ++ (d ++ tl))).toArray e (0, 0)) ∧ (c ++ (jk ++ (d ++ tl))).length = cap * r.n ∧ jk.length = j * r.n ∧
    row r true w c kept A ∧ row r true w d rest B ∧ (∀ k, A k → S k ∧ k ≠ b) ∧ (∀ k, B k → S k ∧ k ≠ b) ∧ (∀ k, A k → B k → False)
theorem gap.lt (h : gap e r w b cap n kept j rest S) : b < w.heap.size := by
  obtain ⟨_, _, _, _, _, _, c, jk, d, tl, A, B, h1, _⟩ := h
  exact (Array.getElem?_eq_some_iff.1 h1).1
theorem gap.len (h : gap e r w b cap n kept j rest S) : kept.length + j + rest.length = n ∧ n ≤ cap ∧ cap ≤ maxLen := ⟨h.2.2.1, h.2.2.2.1, h.2.2.2.2.1⟩
theorem gap.keep (h : gap e r w b cap n kept j rest S) (k : ∀ k, S k → k < w.heap.size → w'.heap[k]? = w.heap[k]?) : gap e r w' b cap n kept j rest S := by
  obtain ⟨a1, a2, a3, a4, a5, a6, c, jk, d, tl, A, B, h1, h2, h3, h4, h5, h6, h7, h8⟩ := h
  refine ⟨a1, a2, a3, a4, a5, a6, c, jk, d, tl, (fun k => A k ∧ k < w.heap.size), (fun k => B k ∧ k < w.heap.size), (k b a6 (Array.getElem?_eq_some_iff.1 h1).1).trans h1, h2, h3, row_mono (row_live h4) (fun i hi => k i (h6 i hi.1).1 hi.2), row_mono (row_live h5) (fun i hi => k i (h7 i hi.1).1 hi.2), fun i hi => h6 i hi.1, fun i hi => h7 i hi.1, fun i h h' => h8 i h.1 h'.1⟩
theorem gap.below (h : gap e r w b cap n kept j rest S) (k : Below w.heap.size w w') : gap e r w' b cap n kept j rest S := h.keep (fun i _ hi => k.block i hi)
theorem gap.frozen (h : gap e r w b cap n kept j rest S) (i : Nat) : w.frozen? ⟨b, i, none⟩ = false := by
  obtain ⟨_, _, _, _, _, _, c, jk, d, tl, A, B, h1, _⟩ := h
  exact frozen_of_row w b i _ _ h1
theorem gap.cells (h : gap e r w b cap n kept j rest S) {i : Nat} (hi : i < cap * r.n) : (w.cell? ⟨b, i, none⟩).isSome = true := by
  obtain ⟨_, _, _, _, _, _, c, jk, d, tl, A, B, h1, h2, _⟩ := h
  rw [cell_of_row w b _ _ e (0, 0) h1]
  simp only [List.getElem?_toArray]
  rw [List.getElem?_eq_getElem (by rw [h2]; exact hi)]
  rfl
theorem gap.wipe (h : gap e r w b cap n kept j [] S) {zs : List Value} (hz : zs.length = j * r.n) {p : Nat} (hp : p = kept.length * r.n) :
    own0 e r (setCells w b p zs) (.slice (some ⟨b, 0, none⟩) kept.length cap) kept S ∧ Touch (fun k => k = b) w (setCells w b p zs) := by
  obtain ⟨a1, a2, a3, a4, a5, a6, c, jk, d, tl, A, B, h1, h2, h3, h4, h5, h6, h7, h8⟩ := h
  obtain rfl : d = [] := h5
  have hcl := row_len h4
  refine ⟨⟨a1, .inr ⟨b, cap, _, c, zs ++ tl, rfl, by simp at a3; omega, a5, ?_, rfl, ?_, a6, ?_⟩⟩, touch_setCells _ _ _ _⟩
  · exact setCells_heap zs jk c tl w b p (by simpa using h1) (by rw [hcl, hp]) (by rw [h3, hz])
  · rw [← h2]; simp; omega
  · exact row_wide (row_mono (row_live h4) (fun k hk => setCells_other zs w b p k (h6 k hk.1).2)) (fun k hk => h6 k hk.1)
theorem gap.done (h : gap e r w b cap n kept 0 [] S) : own0 e r w (.slice (some ⟨b, 0, none⟩) kept.length cap) kept S := by
  have := (h.wipe (zs := []) (by simp) rfl).1
  exact this
end
end Rep
end Go.Proofs.YtadneiijklnccaaDoor

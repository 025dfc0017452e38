/-
  Slices that are owned: at their block's head; append, make, a store into an element, a cell, a slice of a slice. No program in sight.
-/
import Derived.Test.YtadneiijklnccaaDoorBase
namespace Go.Proofs.YtadneiijklnccaaDoor
open Go.RowKit
set_option linter.unusedVariables false
namespace Rep
def own0 {α : Type} (e : TypeId) (r : Rep α) (w : World) (v : Value) (xs : List α) (S : Nat → Prop) : Prop :=
  (∀ x ∈ xs, r.bdd Big x) ∧ (((∃ a, v = .slice a 0 0) ∧ xs = []) ∨
    ∃ (b cap : Nat) (cur : Array Value) (cs tl : List Value), v = .slice (some ⟨b, 0, none⟩) xs.length cap ∧ xs.length ≤ cap ∧ cap ≤ maxLen ∧ w.heap[b]? = some (.cells cur e (0, 0)) ∧ cur.toList = cs ++ tl ∧ cur.size = cap * r.n ∧ S b ∧
      row r true w cs xs (fun k => S k ∧ k ≠ b))
section
variable {α : Type} {r : Rep α} {e : TypeId} {w w' : World} {v : Value} {xs ys : List α} {S T : Nat → Prop}
theorem own0.own (h : own0 e r w v xs S) (hl : xs.length ≤ Big) : (slice e r).own w [v] xs S := by
  obtain ⟨hb, h⟩ := h
  refine ⟨?_, hl, hb⟩
  rcases h with ⟨⟨a, rfl⟩, rfl⟩ | ⟨b, cap, cur, cs, tl, rfl, h1, h2, h3, h4, h5, h6, h7⟩
  · exact ⟨a, 0, 0, rfl, rfl, Nat.le_refl _, Nat.zero_le _, .inl ⟨rfl, fun _ => rfl⟩⟩
  · exact ⟨_, _, cap, rfl, rfl, h1, h2, .inr ⟨b, 0, rfl, cur, e, (0, 0), [], cs, tl, h3, by simpa using h4, rfl, by omega, fun _ => ⟨rfl, rfl⟩, h6, row_wide h7 (fun k hk => ⟨hk.1, fun _ => hk.2⟩)⟩⟩
theorem own0.keep (h : own0 e r w v xs S) (k : ∀ k, S k → k < w.heap.size → w'.heap[k]? = w.heap[k]?) : own0 e r w' v xs S := by
  obtain ⟨hb, h⟩ := h
  refine ⟨hb, ?_⟩
  rcases h with h | ⟨b, cap, cur, cs, tl, hv, h1, h2, h3, h4, h5, h6, h7⟩
  · exact .inl h
  · exact .inr ⟨b, cap, cur, cs, tl, hv, h1, h2, (k b h6 (Array.getElem?_eq_some_iff.1 h3).1).trans h3, h4, h5, h6, row_wide (row_mono (row_live h7) (fun j hj => k j hj.1.1 hj.2)) (fun j hj => hj.1)⟩
theorem own0.wide (h : own0 e r w v xs S) (k : ∀ k, S k → T k) : own0 e r w v xs T := by
  obtain ⟨hb, h⟩ := h
  refine ⟨hb, ?_⟩
  rcases h with h | ⟨b, cap, cur, cs, tl, hv, h1, h2, h3, h4, h5, h6, h7⟩
  · exact .inl h
  · exact .inr ⟨b, cap, cur, cs, tl, hv, h1, h2, h3, h4, h5, k b h6, row_wide h7 (fun j hj => ⟨k j hj.1, hj.2⟩)⟩
theorem own0.below (h : own0 e r w v xs S) (b : Below w.heap.size w w') : own0 e r w' v xs S := h.keep (fun k _ hk => b.block k hk)
theorem own0.touch (h : own0 e r w v xs S) (b : Touch T w w') (hd : ∀ k, S k → ¬ T k) : own0 e r w' v xs S := h.keep (fun k hk hl => b.block k hl (hd k hk))
theorem own0.live (h : own0 e r w v xs S) : own0 e r w v xs (fun k => S k ∧ k < w.heap.size) := by
  obtain ⟨hb, h⟩ := h
  refine ⟨hb, ?_⟩
  rcases h with h | ⟨b, cap, cur, cs, tl, hv, h1, h2, h3, h4, h5, h6, h7⟩
  · exact .inl h
  · exact .inr ⟨b, cap, cur, cs, tl, hv, h1, h2, h3, h4, h5, ⟨h6, (Array.getElem?_eq_some_iff.1 h3).1⟩, row_wide (row_live h7) (fun j hj => ⟨⟨hj.1.1, hj.2⟩, hj.1.2⟩)⟩
theorem own0.nil : own0 e r w (.slice none 0 0) [] S := ⟨by simp, .inl ⟨⟨_, rfl⟩, rfl⟩⟩
theorem own0_lit {cs : List Value} (hb : ∀ x ∈ xs, r.bdd Big x) (hl : xs.length ≤ maxLen) (h : row r true w cs xs T) (hT : ∀ k, T k → S k) (hS : S w.heap.size) :
    own0 e r (w.alloc (.cells cs.toArray e)) (.slice (some ⟨w.heap.size, 0, none⟩) xs.length xs.length) xs S := by
  refine ⟨hb, .inr ⟨w.heap.size, xs.length, cs.toArray, cs, [], rfl, Nat.le_refl _, hl, heap_alloc_new w _, by simp, by simpa using row_len h, hS, ?_⟩⟩
  exact row_wide (row_mono (row_live h) (fun k hk => heap_alloc_old w _ hk.2)) (fun k hk => ⟨hT k hk.1, by omega⟩)
theorem row_zeros : ∀ (n : Nat), row r true w (List.replicate n r.zc).flatten (List.replicate n r.zero) S
  | 0 => by simp [row]
  | n + 1 => by
    simp only [List.replicate_succ, List.flatten_cons]
    exact ⟨r.zc, _, fun _ => False, S, rfl, r.is_zero, row_zeros n, fun _ h => h.elim, fun _ h => h, fun _ _ h => h.elim⟩
theorem madeCells_eq (zc : List Value) (hz : 0 < zc.length) : ∀ n, (madeCells zc.toArray (n * zc.length)).toList = (List.replicate n zc).flatten := by
  intro n
  apply List.ext_getElem?
  intro j
  simp only [madeCells, Array.toList_map, Array.toList_range, List.getElem?_map]
  have key : ∀ (n j : Nat), (List.replicate n zc).flatten[j]? = if j < n * zc.length then zc[j % zc.length]? else none := by
    intro n
    induction n with
    | zero => intro j; simp
    | succ n ih =>
      intro j
      simp only [List.replicate_succ, List.flatten_cons]
      by_cases h : j < zc.length
      · rw [List.getElem?_append_left h, Nat.mod_eq_of_lt h, if_pos (by rw [Nat.add_mul]; omega)]
      · rw [List.getElem?_append_right (by omega), ih, Nat.add_mul, Nat.one_mul]
        have e1 : (j - zc.length < n * zc.length) ↔ (j < n * zc.length + zc.length) := by omega
        simp only [e1]
        split
        · congr 1
          conv => rhs; rw [show j = (j - zc.length) + zc.length by omega]
          rw [Nat.add_mod_right]
        · rfl
  rw [key]
  by_cases h : j < n * zc.length
  · rw [if_pos h, List.getElem?_range h]
    have hm := Nat.mod_lt j hz
    simp [hm]
  · rw [if_neg h, List.getElem?_eq_none (by simpa using h)]
    rfl
theorem own0_make {zs : Array Value} {n : Nat} (hz : zs = r.zc.toArray) (hl : r.zc.length = r.n) (hn : 0 < r.n) (hm : n ≤ maxLen) (hS : S w.heap.size) :
    own0 e r (w.alloc (.cells (madeCells zs (n * r.n)) e)) (.slice (some ⟨w.heap.size, 0, none⟩) n n) (List.replicate n r.zero) S := by
  subst hz
  have h := own0_lit (e := e) (w := w) (S := S) (T := fun _ => False) (cs := (List.replicate n r.zc).flatten) (xs := List.replicate n r.zero) (r := r) (fun x hx => by rw [(List.mem_replicate.1 hx).2]; exact r.bdd_zero) (by simpa using hm) (row_zeros n) (fun _ h => h.elim) hS
  rw [← hl, show madeCells r.zc.toArray (n * r.zc.length) = (List.replicate n r.zc).flatten.toArray from by rw [← madeCells_eq _ (by omega)], ]
  simpa using h
end
end Rep
end Go.Proofs.YtadneiijklnccaaDoor

/-
  Plain facts on tests of all elements and on the first that is hit.
-/
import Derived.Test.YtpgnbablhdknnaaDoorLib
import Derived.Test.YtpgnbablhdknnaaDoorSoft
namespace Go.Proofs.YtpgnbablhdknnaaDoor
set_option linter.unusedVariables false
set_option linter.unusedSimpArgs false
set_option linter.unnecessarySimpa false
theorem allB_iff {f : Nat → Bool} : ∀ {n : Nat}, allB f n = true ↔ ∀ j, j < n → f j = true
  | 0 => by simp [allB]
  | n + 1 => by
    rw [allB, Bool.and_eq_true, allB_iff]
    constructor
    · rintro ⟨h, k⟩ j hj
      by_cases e : j = n
      · rw [e]; exact k
      · exact h j (by omega)
    · intro h; exact ⟨fun j hj => h j (by omega), h n (by omega)⟩
theorem idxOf_neg {α : Type} {p : α → Bool} {x : List α} : idxOf p x < 0 ↔ ∀ y ∈ x, p y = false := by
  unfold idxOf
  cases h : x.findIdx? p with
  | none => simp [List.findIdx?_eq_none_iff.1 h]; exact List.findIdx?_eq_none_iff.1 h
  | some i =>
    obtain ⟨hi, hp, _⟩ := List.findIdx?_eq_some_iff_getElem.1 h
    constructor
    · intro q; simp at q; omega
    · intro q; rw [q _ (List.getElem_mem hi)] at hp; cases hp
theorem idxOf_first {α : Type} {p : α → Bool} {x : List α} {k : Nat} (h : idxOf p x = k) : ∃ hk : k < x.length, p x[k] = true ∧ ∀ j (hj : j < k), p (x[j]'(Nat.lt_trans hj hk)) = false := by
  unfold idxOf at h
  cases e : x.findIdx? p with
  | none => rw [e] at h; simp at h
  | some i =>
    rw [e] at h
    obtain rfl : i = k := by simp only at h; omega
    obtain ⟨hi, hp, hq⟩ := List.findIdx?_eq_some_iff_getElem.1 e
    exact ⟨hi, hp, fun j hj => by have := hq j hj; simpa using this⟩
theorem pairwise_next {α : Type} {R : α → α → Prop} (tr : ∀ a b c, R a b → R b c → R a c) : ∀ {l : List α}, (∀ k (h : k + 1 < l.length), R (l[k]'(Nat.lt_of_succ_lt h)) l[k + 1]) → l.Pairwise R
  | [], _ => .nil
  | [a], _ => by simp
  | a :: b :: l, h => by
    have ih := pairwise_next tr (l := b :: l) (fun k hk => h (k + 1) (by simp only [List.length_cons] at hk ⊢; omega))
    have hab := h 0 (by simp)
    refine List.pairwise_cons.2 ⟨?_, ih⟩
    intro x hx
    rcases List.mem_cons.1 hx with rfl | hx
    · exact hab
    · exact tr _ _ _ hab ((List.pairwise_cons.1 ih).1 x hx)
end Go.Proofs.YtpgnbablhdknnaaDoor

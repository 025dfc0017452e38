/-
  What a loop has gathered: place by place. No program in sight.
-/
namespace Go.Proofs.YtpgnbablhdknnaaDoor
set_option linter.unusedVariables false
/-- The lists that f gives at 0, 1, .. n - 1, one behind the other. -/
def accK {β : Type} (f : Nat → List β) : Nat → List β
  | 0 => []
  | n + 1 => accK f n ++ f n
theorem accK_one {β : Type} {f : Nat → List β} {n : Nat} {y : β} (h : f n = [y]) : accK f (n + 1) = accK f n ++ [y] := by rw [accK, h]
theorem accK_none {β : Type} {f : Nat → List β} {n : Nat} (h : f n = []) : accK f (n + 1) = accK f n := by rw [accK, h, List.append_nil]
theorem accK_len {β : Type} {f : Nat → List β} (h : ∀ k, (f k).length ≤ 1) : ∀ n, (accK f n).length ≤ n
  | 0 => Nat.le_refl _
  | n + 1 => by have := accK_len h n; have := h n; simp [accK]; omega
theorem accK_congr {β : Type} {f g : Nat → List β} : ∀ {n : Nat}, (∀ k, k < n → f k = g k) → accK f n = accK g n
  | 0, _ => rfl
  | n + 1, h => by rw [accK, accK, accK_congr (fun k hk => h k (by omega)), h n (by omega)]
theorem accK_mem {β : Type} {f : Nat → List β} {y : β} : ∀ {n : Nat}, y ∈ accK f n → ∃ k, k < n ∧ y ∈ f k
  | 0, h => by simp [accK] at h
  | n + 1, h => by
    rcases List.mem_append.1 h with h | h
    · obtain ⟨k, hk, h⟩ := accK_mem h; exact ⟨k, by omega, h⟩
    · exact ⟨n, by omega, h⟩
/-- A list's elements that answer, turned by t. -/
def pickL {α β : Type} (p : α → Bool) (t : α → β) (l : List α) : List β := (l.filter p).map t
theorem accK_pick {α β : Type} (p : α → Bool) (t : α → β) (d : α) (l : List α) : ∀ n, n ≤ l.length → accK (fun k => if p (l.getD k d) then [t (l.getD k d)] else []) n = pickL p t (l.take n)
  | 0, _ => by simp [accK, pickL]
  | n + 1, h => by
    have hn : n < l.length := by omega
    have e : l.getD n d = l[n] := by simp [List.getD, hn]
    rw [accK, accK_pick p t d l n (by omega), e]
    unfold pickL
    rw [List.take_succ_eq_append_getElem hn, List.filter_append, List.map_append]
    congr 1
    cases h : p l[n] <;> simp [h]
end Go.Proofs.YtpgnbablhdknnaaDoor

/-
  Slices of slices, read. No program in sight.
-/
import Derived.Test.YtpgnbablhdknnaaDoorOwn2
namespace Go.Proofs.YtpgnbablhdknnaaDoor
open Go.RowKit
set_option linter.unusedVariables false
namespace Rep
section
variable {α : Type} {r : Rep α} {e : TypeId} {w : World} {a : Option Addr} {len cap : Nat} {xs : List α} {o : Bool} {S : Nat → Prop}
theorem row_cut {cells : List Value} {ys : List α} (h : row r o w cells ys S) {k : Nat} (hk : k ≤ ys.length) : ∃ c d, cells = c ++ d ∧ c.length = k * r.n ∧ row r o w c (ys.take k) S ∧ row r o w d (ys.drop k) S := by
  by_cases h1 : k < ys.length
  · obtain ⟨p, c, q, A, B, C, rfl, hp, ra, rb, rc, hA, hB, hC, hdis⟩ := row_at h h1
    refine ⟨p, c ++ q, rfl, hp, row_wide ra hA, ?_⟩
    rw [List.drop_eq_getElem_cons h1]
    exact ⟨c, q, B, C, rfl, rb, rc, hB, hC, fun ho k => (hdis ho k).2.2⟩
  · obtain rfl : k = ys.length := by omega
    have := row_len h
    exact ⟨cells, [], by simp, this, by simpa using h, by simp [row]⟩
theorem take_raw (h : (slice e r).raw w [.slice a len cap] xs) {k : Nat} (hk : k ≤ xs.length) : (slice e r).raw w [.slice a k cap] (xs.take k) := by
  obtain ⟨a', len', cap', h0, h1, h2, h3, h4⟩ := h
  simp only [List.cons.injEq, Value.slice.injEq, and_true] at h0
  obtain ⟨rfl, rfl, rfl⟩ := h0
  refine ⟨a, k, cap, rfl, by simp; omega, by omega, h3, ?_⟩
  rcases h4 with ⟨rfl, _⟩ | ⟨b, off, ha, cur, e', fr, p, c, q, hb, hc, hp, hl, hf, hS, hx⟩
  · exact .inl ⟨by simp, by simp⟩
  · obtain ⟨c1, c2, rfl, hcl, r1, r2⟩ := row_cut hx hk
    exact .inr ⟨b, off, ha, cur, e', fr, p, c1, c2 ++ q, hb, by rw [hc]; simp, hp, hl, by simp, hS, r1⟩
theorem take_rd (h : (slice e r).rd w [.slice a len cap] xs) {k : Nat} (hk : k ≤ xs.length) : (slice e r).rd w [.slice a k cap] (xs.take k) :=
  ⟨take_raw h.1 hk, by have := h.2.1; simp; omega, fun x hx => h.2.2 x (List.mem_of_mem_take hx)⟩
theorem drop_raw {b off : Nat} (h : (slice e r).raw w [.slice (some ⟨b, off, none⟩) len cap] xs) {k : Nat} (hk : k ≤ xs.length) : (slice e r).raw w [.slice (some ⟨b, off + k * r.n, none⟩) (len - k) (cap - k)] (xs.drop k) := by
  obtain ⟨a', len', cap', h0, h1, h2, h3, h4⟩ := h
  simp only [List.cons.injEq, Value.slice.injEq, and_true] at h0
  obtain ⟨rfl, rfl, rfl⟩ := h0
  refine ⟨_, _, _, rfl, by simp; omega, by omega, by omega, ?_⟩
  rcases h4 with ⟨rfl, _⟩ | ⟨b', off', ha, cur, e', fr, p, c, q, hb, hc, hp, hl, hf, hS, hx⟩
  · exact .inl ⟨by simp, by simp⟩
  · simp only [Option.some.injEq, Addr.mk.injEq, and_true] at ha
    obtain ⟨rfl, rfl⟩ := ha
    obtain ⟨c1, c2, rfl, hcl, r1, r2⟩ := row_cut hx hk
    refine .inr ⟨b, off + k * r.n, rfl, cur, e', fr, p ++ c1, c2, q, hb, by rw [hc]; simp, by simp [hp, hcl], ?_, by simp, hS, r2⟩
    have : k * r.n ≤ cap * r.n := Nat.mul_le_mul_right _ (by omega)
    rw [Nat.sub_mul]; omega
/-- An empty slice, wherever it points. -/
theorem void_raw {c : Nat} (hc : c ≤ maxLen) : (slice e r).raw w [.slice a 0 c] [] := ⟨_, _, _, rfl, rfl, Nat.zero_le _, hc, .inl ⟨rfl, by simp⟩⟩
theorem void_own : (slice e r).own w [.slice a 0 0] [] S := ⟨⟨_, _, _, rfl, rfl, Nat.le_refl _, Nat.zero_le _, .inl ⟨rfl, fun _ => rfl⟩⟩, by simp [slice]⟩
/-- What a slice gives to an append. -/
theorem raw_src (h : (slice e r).raw w [.slice a len cap] xs) : ∃ cells, Src w (.slice a len cap) xs.length cells ∧ row r false w cells xs (fun _ => True) := by
  obtain ⟨a', len', cap', h0, h1, h2, h3, h4⟩ := h
  simp only [List.cons.injEq, Value.slice.injEq, and_true] at h0
  obtain ⟨rfl, rfl, rfl⟩ := h0
  rcases h4 with ⟨rfl, _⟩ | ⟨b, off, ha, cur, e', fr, p, c, q, hb, hc, hp, hl, hf, hS, hx⟩
  · subst h1
    exact ⟨[], .inl ⟨rfl, _, _, rfl⟩, rfl⟩
  · subst ha h1
    refine ⟨c, .inr ⟨_, _, rfl, ?_⟩, row_wide hx (fun _ _ => trivial)⟩
    intro j u hj
    have hadd : (⟨b, off, none⟩ : Addr).add j = ⟨b, off + j, none⟩ := by unfold Addr.add; split <;> simp_all
    have hjl := (List.getElem?_eq_some_iff.1 hj).1
    rw [hadd]
    simp only [World.cell?, hb, Option.isSome_none, Bool.false_eq_true, if_false]
    rw [← Array.getElem?_toList, hc, List.getElem?_append_right (by omega), List.getElem?_append_left (by omega)]
    rw [← hj]; congr 1; omega
end
end Rep
end Go.Proofs.YtpgnbablhdknnaaDoor

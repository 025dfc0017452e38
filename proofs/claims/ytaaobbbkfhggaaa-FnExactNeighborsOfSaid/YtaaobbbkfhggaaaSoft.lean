/-
  A region that draws its order, walked in the order of its text: operations that only read are taken first; at each other operation it alone may come up. No program in sight.
-/
import Derived.OrdersHeld
import Derived.WalkKit
namespace Go.Proofs.Ytaaobbbkfhggaaa
open Go
set_option linter.unusedVariables false

/-- The text's order serves: a reading operation (true) may be taken first; another one (false) is the only one that may come up. -/
def softB (md : Region.Mode) (ops : Array Oper) : Nat → List Bool → Array Bool → Bool
  | _, [], listed => (Region.ready md ops listed).isEmpty
  | k, true :: p, listed => (Region.ready md ops listed).contains k && Region.free md ops listed k && softB md ops (k + 1) p (listed.setIfInBounds k true)
  | k, false :: p, listed => (Region.ready md ops listed == [k]) && softB md ops (k + 1) p (listed.setIfInBounds k true)
def softOk (md : Region.Mode) (ops : Array Oper) (p : List Bool) : Bool := Region.noSelect ops && (p.length == ops.size && softB md ops 0 p (Array.replicate ops.size false))

section
variable {P : Program} {ops : Array Oper} {S : World → Prop} {Q : Exit → Act → World → Prop}

/-- The walk along the text. -/
def softR (P : Program) (ops : Array Oper) (S : World → Prop) (Q : Exit → Act → World → Prop) : Nat → List Oper → List Bool → Act → World → Prop
  | k, o :: l, true :: p, a, w => ∃ v, YieldsIf P ops S o v a ∧ softR P ops S Q (k + 1) l p (a.put o.dst v) w
  | k, o :: l, false :: p, a, w => if Region.wanted o (yielded ops a.tmps) then o.wp P a w (fun a' w' => S w' ∧ softR P ops S Q (k + 1) l p a' w') Q ∨ (o.asks P a w ∧ LetsOut Q) else S w ∧ softR P ops S Q (k + 1) l p (a.put o.dst undef) w
  | _, _, _, a, w => Q .normal a w
@[irreducible] def soft (P : Program) (ops : Array Oper) (S : World → Prop) (Q : Exit → Act → World → Prop) (k : Nat) (l : List Oper) (p : List Bool) (a : Act) (w : World) : Prop := softR P ops S Q k l p a w

theorem wpAnyH_soft (hs : Region.noSelect ops = true) (hQ : ∀ c a d v w, Q (.panic c) (Act.put a d v) w → Q (.panic c) a w) : ∀ (p : List Bool) (l : List Oper) (k : Nat) (fuel : Nat) (listed : Array Bool) (a : Act) (w : World),
    l.length = p.length → (∀ j, l[j]? = ops[k + j]?) → p.length ≤ fuel → softB .any ops k p listed = true → S w → softR P ops S Q k l p a w → wpAnyH P .any ops Q S fuel listed a w
  | [], [], k, fuel, listed, a, w, _, _, _, hB, _, h => wpAnyH_done (by simpa [softB] using hB) (by simpa [softR] using h) fuel
  | [], o :: l, k, fuel, listed, a, w, hl, _, _, hB, _, h => by simp at hl
  | b :: p, [], k, fuel, listed, a, w, hl, _, _, hB, _, h => by simp at hl
  | b :: p, o :: l, k, 0, listed, a, w, hl, _, hf, hB, _, h => by simp at hf
  | true :: p, o :: l, k, fuel + 1, listed, a, w, hl, ho, hf, hB, hS, h => by
    obtain ⟨v, hy, h⟩ := h
    simp only [softB, Bool.and_eq_true] at hB
    have h0 : ops[k]? = some o := by simpa using (ho 0).symm
    exact wpAnyH_take h0 hs hB.1.2 hB.1.1 (fun c a w => hQ c a _ _ w) hy hS (wpAnyH_soft hs hQ p l (k + 1) fuel _ _ _ (by simpa using hl) (fun j => by have := ho (j + 1); simpa [Nat.add_assoc, Nat.add_comm 1 j] using this) (by simpa using hf) hB.2 hS h)
  | false :: p, o :: l, k, fuel + 1, listed, a, w, hl, ho, hf, hB, hS, h => by
    simp only [softB, Bool.and_eq_true, beq_iff_eq] at hB
    have h0 : ops[k]? = some o := by simpa using (ho 0).symm
    refine wpAnyH_all hB.1 (by simp) ?_
    intro j hj
    obtain rfl : j = k := by simpa using hj
    have go : ∀ a' w', S w' ∧ softR P ops S Q (j + 1) l p a' w' → S w' ∧ wpAnyH P .any ops Q S fuel (listed.setIfInBounds j true) a' w' := fun a' w' h' =>
      ⟨h'.1, wpAnyH_soft hs hQ p l (j + 1) fuel _ _ _ (by simpa using hl) (fun i => by have := ho (i + 1); simpa [Nat.add_assoc, Nat.add_comm 1 i] using this) (by simpa using hf) hB.2 h'.1 h'.2⟩
    refine wpOp_mono go ?_
    unfold wpOp
    simp only [h0]
    exact h

/-- The beginning: S is laid for the world behind the draw. -/
theorem wp_region_soft {id : Nat} {a : Act} {w : World} {l : List Oper} (S : World → Prop) (p : List Bool) (hm : P.follows .mixedOrders = true) (hB : softOk .any l.toArray p = true)
    (hQ : ∀ c a d v w, Q (.panic c) (Act.put a d v) w → Q (.panic c) a w) (hS : S { w with drawn := w.drawn + 1 })
    (h : ∀ w', S w' → soft P l.toArray S Q 0 l p a w') : (Code.region id l.toArray true).wp P Q a w := by
  simp only [softOk, Bool.and_eq_true, beq_iff_eq] at hB
  have h := h _ hS
  unfold soft at h
  exact wp_region_held (S := S) hm (wpAnyH_soft hB.1 hQ p l 0 _ _ a _ (by simpa using hB.2.1.symm) (fun j => by simp) (by rw [hB.2.1]; exact Nat.le_refl _) hB.2.2 hS h)

theorem soft_nil {k : Nat} {a : Act} {w : World} (h : Q .normal a w) : soft P ops S Q k [] [] a w := by unfold soft; exact h
variable {k : Nat} {l : List Oper} {p : List Bool} {a : Act} {w : World} {o : Oper}
/-- A reading operation that is wanted. -/
theorem soft_read {v : Value} (hg : Region.wanted o (yielded ops a.tmps) = true)
    (hv : ∀ w, S w → (execOp a.eval o).run P w = .ok (.value v) w) (h : soft P ops S Q (k + 1) l p (a.put o.dst v) w) : soft P ops S Q k (o :: l) (true :: p) a w := by
  unfold soft at h ⊢
  exact ⟨v, .inl ⟨hg, hv⟩, h⟩
/-- The same, where what it yields is a Bool on which a guard leans: both ways. -/
theorem soft_part {v : Value} {b : Bool} (hg : Region.wanted o (yielded ops a.tmps) = true)
    (hv : ∀ w, S w → (execOp a.eval o).run P w = .ok (.value v) w) (hb : v = .bool b) (h : ∀ c : Bool, b = c → soft P ops S Q (k + 1) l p (a.put o.dst (.bool c)) w) : soft P ops S Q k (o :: l) (true :: p) a w :=
  soft_read hg hv (hb ▸ h b rfl)
/-- An operation that is passed over. -/
theorem soft_pass {b : Bool} (hg : Region.wanted o (yielded ops a.tmps) = false)
    (hS : S w) (h : soft P ops S Q (k + 1) l p (a.put o.dst undef) w) : soft P ops S Q k (o :: l) (b :: p) a w := by
  unfold soft at h ⊢
  cases b
  · show if _ then _ else _
    rw [if_neg (by rw [hg]; exact Bool.false_ne_true)]
    exact ⟨hS, h⟩
  · exact ⟨undef, .inr ⟨hg, rfl⟩, h⟩
/-- Another operation: run where it stands. -/
theorem soft_do (hg : Region.wanted o (yielded ops a.tmps) = true)
    (h : ∀ K : Act → World → Prop, (∀ a' w', S w' → soft P ops S Q (k + 1) l p a' w' → K a' w') → o.wp P a w K Q) : soft P ops S Q k (o :: l) (false :: p) a w := by
  unfold soft
  show if _ then _ else _
  rw [if_pos hg]
  exact .inl (h _ (fun a' w' h1 h2 => by unfold soft at h2; exact ⟨h1, h2⟩))
end
theorem getD_get {α : Type} {x : List α} {k : Nat} {d : α} (h : k < x.length) : x.getD k d = x[k] := by simp [List.getD, h]
/-- Every place below n answers. -/
def allB (f : Nat → Bool) : Nat → Bool
  | 0 => true
  | n + 1 => allB f n && f n
theorem allB_succ {f : Nat → Bool} {n : Nat} (h : allB f n = true) (q : f n = true) : allB f (n + 1) = true := by simp [allB, h, q]
theorem allB_bad {f : Nat → Bool} {n j : Nat} (h : j < n) (q : f j = false) : allB f n = false := by
  induction n with
  | zero => omega
  | succ n ih =>
    by_cases e : j = n
    · subst e; simp [allB, q]
    · simp [allB, ih (by omega)]
theorem allB_congr {f g : Nat → Bool} {n : Nat} (h : ∀ j, j < n → f j = g j) : allB f n = allB g n := by
  induction n with
  | zero => rfl
  | succ n ih => simp [allB, ih (fun j hj => h j (by omega)), h n (by omega)]
end Go.Proofs.Ytaaobbbkfhggaaa

/-
  A region that draws its order, walked in the order of its text: operations that only read are taken first; at each other operation it alone may come up. No program in sight.
-/
import Derived.OrdersHeld
import Derived.StillTail
import Derived.WalkKit
namespace Go.Proofs.YtadneiijklnccaaDoor
open Go
set_option linter.unusedVariables false
section
variable {P : Program} {ops : Array Oper} {S : World → Prop} {Q : Exit → Act → World → Prop}
def softR (P : Program) (ops : Array Oper) (S : World → Prop) (Q : Exit → Act → World → Prop) : Nat → List Oper → List Bool → Act → World → Prop
  | k, o :: l, true :: p, a, w => ∃ v, YieldsIf P ops S o v a ∧ softR P ops S Q (k + 1) l p (a.put o.dst v) w
  | k, o :: l, false :: p, a, w => if Region.wanted o (yielded ops a.tmps) then o.wp P a w (fun a' w' => S w' ∧ softR P ops S Q (k + 1) l p a' w') Q ∨ (o.asks P a w ∧ LetsOut Q) else S w ∧ softR P ops S Q (k + 1) l p (a.put o.dst undef) w
  | _, l, _, a, w => wpList P ops Q l a w
@[irreducible] def soft (P : Program) (ops : Array Oper) (S : World → Prop) (Q : Exit → Act → World → Prop) (k : Nat) (l : List Oper) (p : List Bool) (a : Act) (w : World) : Prop := softR P ops S Q k l p a w
def wpAnyLS (P : Program) (md : Region.Mode) (ops : Array Oper) (Q : Exit → Act → World → Prop) (S : World → Prop) (n : Nat) (L : Array Bool → Act → World → Prop) : Nat → Array Bool → Act → World → Prop
  | 0, listed, a, w => L listed a w
  | f + 1, listed, a, w =>
    Region.ready md ops listed ≠ [] ∧ ∀ i ∈ Region.ready md ops listed, i < n ∧ wpOp P ops Q i (fun a' w' => S w' ∧ wpAnyLS P md ops Q S n L f (listed.setIfInBounds i true) a' w') a w
theorem wpAny_of_headS {md : Region.Mode} {n g : Nat} {L : Array Bool → Act → World → Prop} (hL : ∀ listed a w, L listed a w → wpAny P md ops Q g listed a w) :
    ∀ (f : Nat) (listed : Array Bool) (a : Act) (w : World), wpAnyLS P md ops Q S n L f listed a w → wpAny P md ops Q (f + g) listed a w
  | 0, listed, a, w, h => by rw [Nat.zero_add]; exact hL _ _ _ h
  | f + 1, listed, a, w, h => by
    rw [show f + 1 + g = (f + g) + 1 by omega]
    exact ⟨fun h0 => absurd h0 h.1, fun i hi => wpOp_mono (fun a' w' h' => wpAny_of_headS hL f _ a' w' h'.2) (h.2 i hi).2⟩
theorem wpAnyLS_first {md : Region.Mode} {n i : Nat} {oi : Oper} {v : Value} {L : Array Bool → Act → World → Prop} (hi : ops[i]? = some oi) (hsel : ∀ (j : Nat) (o : Oper) cs b, ops[j]? = some o → o.op ≠ .select cs b)
    (hQ : ∀ c a w, Q (.panic c) (a.put oi.dst v) w → Q (.panic c) a w)
    (hs : Region.sinkB md ops n = true) (hc : Region.chainB md ops n = true) (hn : n < ops.size) (hin : i < n)
    (hdone : ∀ listed a w, L listed a w → ∀ j ∈ Region.ready md ops listed, n ≤ j) :
    ∀ (f : Nat) (listed : Array Bool) (a : Act) (w : World), HeadInv md ops n listed →
      (∀ j oj, ops[j]? = some oj → j ≠ i → listed.getD j true = false → (∀ e ∈ oj.after, Region.binds md e = true → e.on ≠ i) → oi.apart ops oj = true) →
      i ∈ Region.ready md ops listed → YieldsIf P ops S oi v a → S w →
      wpAnyLS P md ops Q S n L f (listed.setIfInBounds i true) (a.put oi.dst v) w → wpAnyLS P md ops Q S n L (f + 1) listed a w := by
  intro f
  induction f with
  | zero =>
    intro listed a w inv _ hr hy hS H
    have hun := (mem_ready.1 hr).1
    refine ⟨fun h => (by rw [h] at hr; cases hr), fun j hj => ?_⟩
    have hjn : j < n := by
      rcases Nat.lt_or_ge j n with h | h
      · exact h
      · exact absurd hj (tail_waits hs hc hn inv _ i rfl hin hun j h)
    refine ⟨hjn, ?_⟩
    by_cases hji : j = i
    · subst hji; exact hy.wpOp hi hS ⟨hS, H⟩
    · have := hdone _ _ _ H j (ready_mono hj hji)
      omega
  | succ f ih =>
    intro listed a w inv hfree hr hy hS H
    have hun := (mem_ready.1 hr).1
    refine ⟨fun h => (by rw [h] at hr; cases hr), fun j hj => ?_⟩
    have hjn : j < n := by
      rcases Nat.lt_or_ge j n with h | h
      · exact h
      · exact absurd hj (tail_waits hs hc hn inv _ i rfl hin hun j h)
    refine ⟨hjn, ?_⟩
    by_cases hji : j = i
    · subst hji; exact hy.wpOp hi hS ⟨hS, H⟩
    · have h1 := (H.2 j (ready_mono hj hji)).2
      obtain ⟨hjun, oj, hoj, hall⟩ := mem_ready.1 hj
      have hnot : ∀ e ∈ oj.after, Region.binds md e = true → e.on ≠ i := fun e he hb heq => by
        have h1 := hall e he hb
        rw [heq, getD_both hun] at h1
        cases h1
      have h2 := wpOp_putIf hoj (hfree j oj hoj hji hjun hnot) (fun cs b => hsel i oi cs b hi) (fun cs b => hsel j oj cs b hoj) hQ hy h1
      have hfree' : ∀ k ok, ops[k]? = some ok → k ≠ i → (listed.setIfInBounds j true).getD k true = false →
          (∀ e ∈ ok.after, Region.binds md e = true → e.on ≠ i) → oi.apart ops ok = true := fun k ok hk hki hun hno => by
        refine hfree k ok hk hki ?_ hno
        by_cases hjk : j = k
        · subst hjk; exact hjun
        · rw [getD_set_ne true hjk] at hun; exact hun
      refine wpOp_mono (fun a' w' h3 => ⟨h3.2.1, ih (listed.setIfInBounds j true) a' w' (inv.set hj hjn) hfree' (ready_mono hr (Ne.symm hji)) h3.1 h3.2.1 ?_⟩) h2
      rw [Array.setIfInBounds_comm _ _ hji]
      exact h3.2.2
def softBP (md : Region.Mode) (ops : Array Oper) : List (Nat × Bool) → Array Bool → Bool
  | [], listed => (Region.ready md ops listed).isEmpty
  | (k, true) :: p, listed => (Region.ready md ops listed).contains k && Region.free md ops listed k && softBP md ops p (listed.setIfInBounds k true)
  | (k, false) :: p, listed => (Region.ready md ops listed == [k]) && softBP md ops p (listed.setIfInBounds k true)
def pickOps (l : List Oper) : List (Nat × Bool) → List Oper
  | [] => []
  | (k, _) :: q => match l[k]? with
    | some o => o :: pickOps l q
    | none => []
def softPOk (md : Region.Mode) (ops : Array Oper) (q : List (Nat × Bool)) : Bool := Region.noSelect ops && (decide (q.length ≤ ops.size) && (q.all (fun x => decide (x.1 < ops.size)) && softBP md ops q (Array.replicate ops.size false)))
theorem wpAnyH_softP {l : List Oper} (hs : Region.noSelect l.toArray = true) (hQ : ∀ c a d v w, Q (.panic c) (Act.put a d v) w → Q (.panic c) a w) : ∀ (q : List (Nat × Bool)) (k : Nat) (fuel : Nat) (listed : Array Bool) (a : Act) (w : World),
    q.all (fun x => decide (x.1 < l.toArray.size)) = true → q.length ≤ fuel → softBP .any l.toArray q listed = true → S w → softR P l.toArray S Q k (pickOps l q) (q.map (·.2)) a w → wpAnyH P .any l.toArray Q S fuel listed a w
  | [], k, fuel, listed, a, w, _, _, hB, _, h => wpAnyH_done (by simpa [softBP] using hB) (by simpa [softR, wpList, pickOps] using h) fuel
  | (i, b) :: q, k, 0, listed, a, w, _, hf, hB, _, h => by simp at hf
  | (i, true) :: q, k, fuel + 1, listed, a, w, hi, hf, hB, hS, h => by
    simp only [List.all_cons, Bool.and_eq_true, decide_eq_true_eq] at hi
    have h0 : l.toArray[i]? = some l.toArray[i] := Array.getElem?_eq_getElem hi.1
    have hp : pickOps l ((i, true) :: q) = l.toArray[i] :: pickOps l q := by
      have : l[i]? = some l.toArray[i] := by simp
      simp only [pickOps, this]
    rw [hp] at h
    obtain ⟨v, hy, h⟩ := h
    simp only [softBP, Bool.and_eq_true] at hB
    exact wpAnyH_take h0 hs hB.1.2 hB.1.1 (fun c a w => hQ c a _ _ w) hy hS (wpAnyH_softP hs hQ q (k + 1) fuel _ _ _ hi.2 (by simpa using hf) hB.2 hS h)
  | (i, false) :: q, k, fuel + 1, listed, a, w, hi, hf, hB, hS, h => by
    simp only [List.all_cons, Bool.and_eq_true, decide_eq_true_eq] at hi
    have h0 : l.toArray[i]? = some l.toArray[i] := Array.getElem?_eq_getElem hi.1
    have hp : pickOps l ((i, false) :: q) = l.toArray[i] :: pickOps l q := by
      have : l[i]? = some l.toArray[i] := by simp
      simp only [pickOps, this]
    rw [hp] at h
    simp only [softBP, Bool.and_eq_true, beq_iff_eq] at hB
    refine wpAnyH_all hB.1 (by simp) ?_
    intro j hj
    obtain rfl : j = i := by simpa using hj
    have go : ∀ a' w', S w' ∧ softR P l.toArray S Q (k + 1) (pickOps l q) (q.map (·.2)) a' w' → S w' ∧ wpAnyH P .any l.toArray Q S fuel (listed.setIfInBounds j true) a' w' := fun a' w' h' =>
      ⟨h'.1, wpAnyH_softP hs hQ q (k + 1) fuel _ _ _ hi.2 (by simpa using hf) hB.2 h'.1 h'.2⟩
    refine wpOp_mono go ?_
    unfold wpOp
    simp only [h0]
    exact h
theorem wp_region_softP {id : Nat} {a : Act} {w : World} {l : List Oper} (S : World → Prop) (q : List (Nat × Bool)) (hm : P.follows .mixedOrders = true) (hB : softPOk .any l.toArray q = true)
    (hQ : ∀ c a d v w, Q (.panic c) (Act.put a d v) w → Q (.panic c) a w) (hS : S { w with drawn := w.drawn + 1 })
    (h : ∀ w', S w' → soft P l.toArray S Q 0 (pickOps l q) (q.map (·.2)) a w') : (Code.region id l.toArray true).wp P Q a w := by
  simp only [softPOk, Bool.and_eq_true, decide_eq_true_eq] at hB
  have h := h _ hS
  unfold soft at h
  exact wp_region_held (S := S) hm (wpAnyH_softP hB.1 hQ q 0 _ _ a _ hB.2.2.1 hB.2.1 hB.2.2.2 hS h)
theorem soft_nil {k : Nat} {a : Act} {w : World} (h : Q .normal a w) : soft P ops S Q k [] [] a w := by unfold soft; exact h
theorem soft_rest {k : Nat} {o : Oper} {l : List Oper} {a : Act} {w : World} (h : wpList P ops Q (o :: l) a w) : soft P ops S Q k (o :: l) [] a w := by unfold soft; exact h
variable {k : Nat} {l : List Oper} {p : List Bool} {a : Act} {w : World} {o : Oper}
theorem soft_read {v : Value} (hg : Region.wanted o (yielded ops a.tmps) = true)
    (hv : ∀ w, S w → (execOp a.eval o).run P w = .ok (.value v) w) (h : soft P ops S Q (k + 1) l p (a.put o.dst v) w) : soft P ops S Q k (o :: l) (true :: p) a w := by
  unfold soft at h ⊢
  exact ⟨v, .inl ⟨hg, hv⟩, h⟩
theorem soft_pass {b : Bool} (hg : Region.wanted o (yielded ops a.tmps) = false)
    (hS : S w) (h : soft P ops S Q (k + 1) l p (a.put o.dst undef) w) : soft P ops S Q k (o :: l) (b :: p) a w := by
  unfold soft at h ⊢
  cases b
  · show if _ then _ else _
    rw [if_neg (by rw [hg]; exact Bool.false_ne_true)]
    exact ⟨hS, h⟩
  · exact ⟨undef, .inr ⟨hg, rfl⟩, h⟩
theorem soft_do (hg : Region.wanted o (yielded ops a.tmps) = true)
    (h : ∀ K : Act → World → Prop, (∀ a' w', S w' → soft P ops S Q (k + 1) l p a' w' → K a' w') → o.wp P a w K Q) : soft P ops S Q k (o :: l) (false :: p) a w := by
  unfold soft
  show if _ then _ else _
  rw [if_pos hg]
  exact .inl (h _ (fun a' w' h1 h2 => by unfold soft at h2; exact ⟨h1, h2⟩))
end
end Go.Proofs.YtadneiijklnccaaDoor

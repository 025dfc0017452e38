/-
  A region that draws its order, where two operations may come up at one time: both ways are walked. No program in sight.
-/
import Derived.Test.YtlfblpgkegeaeaaGreatSoft2
namespace Go.Proofs.YtlfblpgkegeaeaaGreat
open Go
set_option linter.unusedVariables false
section
variable {P : Program} {l : List Oper} {S : World → Prop} {Q : Exit → Act → World → Prop} {fuel : Nat} {listed : List Bool} {a : Act} {w : World}
@[irreducible] def tree (P : Program) (l : List Oper) (S : World → Prop) (Q : Exit → Act → World → Prop) (fuel : Nat) (listed : List Bool) (a : Act) (w : World) : Prop := wpAnyH P .any l.toArray Q S fuel listed.toArray a w
theorem listed_set (k : Nat) : listed.toArray.setIfInBounds k true = (listed.set k true).toArray := by simp
theorem wp_region_tree {id : Nat} (S : World → Prop) (hm : P.follows .mixedOrders = true) (hS : S { w with drawn := w.drawn + 1 })
    (h : ∀ w', S w' → tree P l S Q l.length (List.replicate l.length false) a w') : (Code.region id l.toArray true).wp P Q a w := by
  have h := h _ hS
  unfold tree at h
  refine wp_region_held (S := S) hm ?_
  have e : (Array.replicate l.toArray.size false) = (List.replicate l.length false).toArray := by simp
  rw [e, show l.toArray.size = l.length by simp]
  exact h
theorem wp_region_tree0 {id : Nat} (S : World → Prop) (hm : P.follows .mixedOrders = true) (hS : S { w with drawn := w.drawn + 1 })
    (h : ∀ w', w' = w.drew → S w' → tree P l S Q l.length (List.replicate l.length false) a w') : (Code.region id l.toArray true).wp P Q a w := by
  have h := h _ rfl hS
  unfold tree at h
  refine wp_region_held (S := S) hm ?_
  have e : (Array.replicate l.toArray.size false) = (List.replicate l.length false).toArray := by simp
  rw [e, show l.toArray.size = l.length by simp]
  exact h
/-- A reading operation is taken first. -/
theorem tree_read {k : Nat} {o : Oper} {v : Value} (h0 : l[k]? = some o) (hc : (Region.noSelect l.toArray && (Region.free .any l.toArray listed.toArray k && (Region.ready .any l.toArray listed.toArray).contains k)) = true)
    (hQ : ∀ c a d v w, Q (.panic c) (Act.put a d v) w → Q (.panic c) a w) (hg : Region.wanted o (yielded l.toArray a.tmps) = true) (hS : S w)
    (hv : ∀ w, S w → (execOp a.eval o).run P w = .ok (.value v) w) (h : tree P l S Q fuel (listed.set k true) (a.put o.dst v) w) : tree P l S Q (fuel + 1) listed a w := by
  unfold tree at h ⊢
  simp only [Bool.and_eq_true] at hc
  rw [← listed_set] at h
  exact wpAnyH_take (by simpa using h0) hc.1 hc.2.1 hc.2.2 (fun c a w => hQ c a _ _ w) (.inl ⟨hg, hv⟩) hS h
theorem tree_op {k : Nat} {o : Oper} (h0 : l[k]? = some o) (hg : Region.wanted o (yielded l.toArray a.tmps) = true)
    (h : ∀ K : Act → World → Prop, (∀ a' w', S w' → tree P l S Q fuel (listed.set k true) a' w' → K a' w') → o.wp P a w K Q) :
    wpOp P l.toArray Q k (fun a' w' => S w' ∧ wpAnyH P .any l.toArray Q S fuel (listed.toArray.setIfInBounds k true) a' w') a w := by
  unfold wpOp
  rw [show l.toArray[k]? = some o by simpa using h0]
  simp only [hg, if_true]
  refine .inl (h _ (fun a' w' h1 h2 => ⟨h1, ?_⟩))
  unfold tree at h2
  rw [listed_set]
  exact h2
/-- One operation alone may come up. -/
theorem tree_one {k : Nat} {o : Oper} (h0 : l[k]? = some o) (hr : (Region.ready .any l.toArray listed.toArray == [k]) = true) (hg : Region.wanted o (yielded l.toArray a.tmps) = true)
    (h : ∀ K : Act → World → Prop, (∀ a' w', S w' → tree P l S Q fuel (listed.set k true) a' w' → K a' w') → o.wp P a w K Q) : tree P l S Q (fuel + 1) listed a w := by
  unfold tree
  refine wpAnyH_all (by simpa using hr) (by simp) ?_
  intro j hj
  obtain rfl : j = k := by simpa using hj
  exact tree_op h0 hg h
/-- Two may come up. -/
theorem tree_two {i j : Nat} {oi oj : Oper} (hi : l[i]? = some oi) (hj : l[j]? = some oj) (hr : (Region.ready .any l.toArray listed.toArray == [i, j]) = true) (hgi : Region.wanted oi (yielded l.toArray a.tmps) = true) (hgj : Region.wanted oj (yielded l.toArray a.tmps) = true)
    (h1 : ∀ K : Act → World → Prop, (∀ a' w', S w' → tree P l S Q fuel (listed.set i true) a' w' → K a' w') → oi.wp P a w K Q)
    (h2 : ∀ K : Act → World → Prop, (∀ a' w', S w' → tree P l S Q fuel (listed.set j true) a' w' → K a' w') → oj.wp P a w K Q) : tree P l S Q (fuel + 1) listed a w := by
  unfold tree
  refine wpAnyH_all (by simpa using hr) (by simp) ?_
  intro k hk
  rcases List.mem_cons.1 hk with rfl | hk
  · exact tree_op hi hgi h1
  · obtain rfl : k = j := by simpa using hk
    exact tree_op hj hgj h2
theorem tree_end (hr : (Region.ready .any l.toArray listed.toArray == []) = true) (h : Q .normal a w) : tree P l S Q fuel listed a w := by
  unfold tree
  exact wpAnyH_done (by simpa using hr) h fuel
/-- One ending for all ways. -/
theorem share {G : Prop} {R : Nat → Value → Value → Value → Value → World → Prop} (F : Nat → World → Prop) (walk : (∀ b v1 v2 v3 v4 W, F b W → R b v1 v2 v3 v4 W) → G) (cont : ∀ b v1 v2 v3 v4 W, F b W → R b v1 v2 v3 v4 W) : G := walk cont
end
end Go.Proofs.YtlfblpgkegeaeaaGreat

/-
  Appending one new element to an owned slice, as a walk meets it. No program in sight.
-/
import Derived.Test.YtpgnbablhdknnaaDoorOwn2
import Derived.OwnWalk
namespace Go.Proofs.YtpgnbablhdknnaaDoor
open Go.RowKit
set_option linter.unusedVariables false
namespace Rep
section
variable {α : Type} {r : Rep α} {e : TypeId} {w w' : World} {v : Value} {xs ys : List α} {S T : Nat → Prop}
/-- 'append(s, y)': y lies in a block of its own, just made. -/
theorem wpList_push1 {P : Program} {ops : Array Oper} {rest : List Oper} {o : Oper} {a : Act} {Q : Exit → Act → World → Prop} (hgd : o.guard = none) (s x : Operand) (t : TypeId)
    (ho : o.op = .call { callee := .builtin .append, args := #[s, x], argTypes := #[t, t] })
    {z : Value} {bytes : Nat} (ht : P.underlying t = some (.slice e)) (hinf : (P.info? e).map (fun i => (i.zero, i.size, i.bytes)) = some (some z, r.n, bytes)) (hzs : z.cells.size = r.n) (hn : 0 < r.n) (hby : bytes ≤ 1000)
    (hown : own0 e r w v xs S) (hs : a.eval s = v) {b : Nat} (hx : a.eval x = .slice (some ⟨b, 0, none⟩) 1 1) (hb : b = w.heap.size) {cs : List Value} {y : α} (hy : r.own w cs y T)
    {u : World} (hu : u = w.alloc (.cells cs.toArray e)) (hST : ∀ k, S k → T k → False) (hlen : xs.length + 1 ≤ 1000000000)
    (h : ∀ v' w', own0 e r w' v' (xs ++ [y]) (fun k => S k ∨ T k ∨ (w.heap.size + 1 ≤ k ∧ k < w'.heap.size)) → Touch (fun k => some k = v.ownBlock ∧ S k) u w' → wpList P ops Q rest (a.put o.dst v') w') : wpList P ops Q (o :: rest) a u := by
  subst hu hb
  obtain ⟨i, hi, hz, hsize, hbytes⟩ := info_parts hinf
  have hl := r.len hy.1
  have hown' : own0 e r (w.alloc (.cells cs.toArray e)) v xs (fun k => S k ∧ k < w.heap.size) := (own0.alloc hown.live _)
  have hy' := hy.live.alloc (.cells cs.toArray e)
  refine wpList_push hgd s x t ho (r := r) (e := e) ht hi hz hsize hzs hn (by omega) hown' hs hx (m := 1) (cells := cs) (ys := [y]) (T := fun k => T k ∧ k < w.heap.size) (.inr ⟨_, 1, rfl, ?_⟩)
    ⟨cs, [], _, fun _ => False, by simp, hy'.1, rfl, fun _ h => h, fun _ h => h.elim, fun _ _ _ h => h.elim⟩ rfl (fun k h1 h2 => hST k h1.1 h2.1) (by simpa using hy.2) (by simpa using hlen) ?_
  · intro j c hj
    have hadd : (⟨w.heap.size, 0, none⟩ : Addr).add j = ⟨w.heap.size, j, none⟩ := by unfold Addr.add; split <;> simp_all
    rw [hadd]
    exact boxCell (heap_alloc_new w _) (by simpa using hj)
  · intro v' w' h1 h2
    refine h v' w' (h1.wide ?_) ⟨h2.os, h2.tape, h2.output, h2.size, fun k hk q => h2.block k hk (fun a => q ⟨a.1, a.2.1⟩)⟩
    intro k hk
    rcases hk with hk | hk | hk
    · exact .inl hk.1
    · exact .inr (.inl hk.1)
    · exact .inr (.inr ⟨by simpa using hk.1, hk.2⟩)
/-- The same, where all that is owned was made since the world had B blocks. -/
theorem wpList_pushB {P : Program} {ops : Array Oper} {rest : List Oper} {o : Oper} {a : Act} {Q : Exit → Act → World → Prop} (hgd : o.guard = none) (s x : Operand) (t : TypeId)
    (ho : o.op = .call { callee := .builtin .append, args := #[s, x], argTypes := #[t, t] })
    {z : Value} {bytes : Nat} (ht : P.underlying t = some (.slice e)) (hinf : (P.info? e).map (fun i => (i.zero, i.size, i.bytes)) = some (some z, r.n, bytes)) (hzs : z.cells.size = r.n) (hn : 0 < r.n) (hby : bytes ≤ 1000)
    {B : Nat} (hown : own0 e r w v xs S) (hs : a.eval s = v) {b : Nat} (hx : a.eval x = .slice (some ⟨b, 0, none⟩) 1 1) (hb : b = w.heap.size) {cs : List Value} {y : α} (hy : r.own w cs y T)
    {u : World} (hu : u = w.alloc (.cells cs.toArray e)) (hST : ∀ k, S k → T k → False) (hSB : ∀ k, S k → B ≤ k ∧ k < w.heap.size) (hTB : ∀ k, T k → B ≤ k ∧ k < w.heap.size) (hB : B ≤ w.heap.size) (hlen : xs.length + 1 ≤ 1000000000)
    (h : ∀ v' w', own0 e r w' v' (xs ++ [y]) (Btw B w'.heap.size) → Below B w w' → w.heap.size < w'.heap.size → wpList P ops Q rest (a.put o.dst v') w') : wpList P ops Q (o :: rest) a u := by
  refine wpList_push1 hgd s x t ho ht hinf hzs hn hby hown hs hx hb hy hu hST hlen ?_
  intro v' w' h1 h2
  subst hu
  have hsz := h2.size
  simp at hsz
  refine h v' w' (h1.wide ?_) ?_ (by omega)
  · intro k hk
    rcases hk with hk | hk | hk
    · have := hSB k hk; exact ⟨this.1, by omega⟩
    · have := hTB k hk; exact ⟨this.1, by omega⟩
    · exact ⟨by omega, hk.2⟩
  · refine ((Below.refl B w).alloc hB _).trans (h2.below ?_ ?_)
    · simp; omega
    · intro k hk; have := hSB k hk.2; omega
end
end Rep
end Go.Proofs.YtpgnbablhdknnaaDoor

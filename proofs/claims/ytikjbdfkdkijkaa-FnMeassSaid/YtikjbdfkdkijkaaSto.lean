/-
  A store of a value of any number of cells into a row; what a comparing function must answer. No program in sight.
-/
import Derived.Test.YtikjbdfkdkijkaaSwap
import Derived.Test.YtikjbdfkdkijkaaCut
import Derived.Deep.MidRow
namespace Go.Proofs.Ytikjbdfkdkijkaa
open Go.RowKit
set_option linter.unusedVariables false
set_option linter.unusedSimpArgs false
set_option linter.unnecessarySimpa false
theorem run_storeVar_any {P : Program} (w : World) (b o : Nat) (ty : TypeId) (v : Value) (cs : List Value) (hcs : v.cells = cs.toArray) (ht : w.there b o cs.length) (hi : (P.info? ty).map (·.size) = some cs.length) (h1 : ∀ c ∈ cs, c.oneCell' = true) :
    (storeVar ty ⟨b, o, none⟩ v).run P w = .ok () (Rep.setCells w b o cs) := by
  have := run_storeCells_cells (P := P) b o cs 0 w (fun j hj => by simpa using (ht j (by simpa using hj)).1) (fun j hj => by simpa using (ht j (by simpa using hj)).2) h1
  cases hq : P.info? ty with
  | none => simp [hq] at hi
  | some i =>
    have hs : cs.length = i.size := by simp [hq] at hi; omega
    simp only [Nat.add_zero] at this
    rw [← Rep.setCells_lib]
    simp [storeVar, sizeOf, typeInfo, hq, hcs, hs, this]
theorem wp_storeV {P : Program} {op : Oper} {a : Act} {w : World} {K : Act → World → Prop} {Q : Exit → Act → World → Prop} (ty : TypeId) (x y : Operand) (ho : op.op = .store ty x y)
    (b o : Nat) (v : Value) (cs : List Value) (hcs : v.cells = cs.toArray) (hx : a.eval x = .pointer (some ⟨b, o, none⟩)) (hy : a.eval y = v)
    (ht : w.there b o cs.length) (hi : (P.info? ty).map (·.size) = some cs.length) (h1 : ∀ c ∈ cs, c.oneCell' = true)
    (h : ∀ w', w' = Rep.setCells w b o cs → K (a.put op.dst undef) w') : op.wp P a w K Q := by
  unfold Oper.wp execOp
  simp only [ho, hx, hy, Instr.storeAt, Instr.sureAddr, Sem.run_bind, Sem.run_pure, Result.andThen_ok, run_storeVar_any w b o ty v cs hcs ht hi h1]
  exact h _ rfl
/-- A store, at the list of a region's operations. -/
theorem wpList_storeV {P : Program} {ops : Array Oper} {rest : List Oper} {op : Oper} {a : Act} {w : World} {Q : Exit → Act → World → Prop} (hgd : op.guard = none) (ty : TypeId) (x y : Operand) (ho : op.op = .store ty x y)
    (b o : Nat) (v : Value) (cs : List Value) (hcs : v.cells = cs.toArray) (hx : a.eval x = .pointer (some ⟨b, o, none⟩)) (hy : a.eval y = v)
    (ht : w.there b o cs.length) (hi : (P.info? ty).map (·.size) = some cs.length) (h1 : ∀ c ∈ cs, c.oneCell' = true)
    (h : ∀ w', w' = Rep.setCells w b o cs → wpList P ops Q rest (a.put op.dst undef) w') : wpList P ops Q (op :: rest) a w :=
  wpList_plain hgd fun _ hK => wp_storeV ty x y ho b o v cs hcs hx hy ht hi h1 (fun w' hw => hK _ _ (h w' hw))
namespace Rep
section
variable {α : Type} {r : Rep α} {e : TypeId} {w w' u : World} {v : Value} {b cap len n i j : Nat} {xs : List α} {x y : α} {S T : Nat → Prop}
theorem there_set {m o p : Nat} {cs : List Value} (h : w.there b o m) : (setCells w b p cs).there b o m := by
  rw [← setCells_lib]; exact World.there_setCells h b p cs
theorem own0_there (h : own0 e r w (.slice (some ⟨b, 0, none⟩) len cap) xs S) (hi : i < xs.length) : w.there b (i * r.n) r.n := by
  obtain ⟨hb, h⟩ := h
  rcases h with ⟨⟨a, h0⟩, rfl⟩ | ⟨b', cap', cur, cs, tl, h0, h1, h2, h3, h4, h5, h6, h7⟩
  · simp at hi
  simp only [Value.slice.injEq, Option.some.injEq, Addr.mk.injEq, and_true] at h0
  obtain ⟨rfl, rfl, rfl⟩ := h0
  intro j hj
  have hlt : i * r.n + j < cur.size := by
    rw [h5]
    have : (i + 1) * r.n ≤ cap * r.n := Nat.mul_le_mul_right _ (by omega)
    rw [Nat.add_mul] at this; omega
  refine ⟨?_, frozen_of_row w b _ _ _ h3⟩
  rw [cell_of_row w b _ _ e (0, 0) h3, Array.getElem?_eq_getElem hlt]
  rfl
theorem own0_block (h : own0 e r w (.slice (some ⟨b, 0, none⟩) len cap) xs S) (hi : i < xs.length) : S b ∧ b < w.heap.size := by
  obtain ⟨b', cap', h0, h1, h2, _⟩ := own0_addr h hi
  simp only [Value.slice.injEq, Option.some.injEq, Addr.mk.injEq, and_true] at h0
  obtain ⟨rfl, _, _⟩ := h0
  exact ⟨h1, h2⟩
end
end Rep
theorem touch_one {S : Nat → Prop} {b : Nat} {w w' : World} (h : Touch (fun k => k = b) w w') (hb : S b) : Touch S w w' := h.wide (fun k hk => hk ▸ hb)
/-- What is left of a row's place, where it is counted. -/
theorem kAt_at {α : Type} {key : α → Int} {xs : List α} {i : Nat} (h : i < xs.length) : Srt.kAt key xs i = key xs[i] := Srt.kAt_get h
end Go.Proofs.Ytikjbdfkdkijkaa

/-
  Data without memory of its own; appending a whole slice of such data. No program in sight.
-/
import Derived.Test.YtpgnbablhdknnaaDoorPush
import Derived.Test.YtpgnbablhdknnaaDoorTake
namespace Go.Proofs.YtpgnbablhdknnaaDoor
open Go.RowKit
set_option linter.unusedVariables false
namespace Rep
/-- The cells alone say what the data is. -/
def IsFlat {α : Type} (r : Rep α) : Prop := ∀ {o : Bool} {w w' : World} {cs : List Value} {x : α} {S : Nat → Prop}, r.is o w cs x S → r.is true w' cs x (fun _ => False)
theorem isFlat_int : int.IsFlat := fun h => h
theorem isFlat_byte : byte.IsFlat := fun h => h
theorem isFlat_bool : bool.IsFlat := fun h => h
theorem isFlat_str : str.IsFlat := fun h => h
theorem isFlat_pair {α β : Type} {r : Rep α} {s : Rep β} (h : r.IsFlat) (k : s.IsFlat) : (pair r s).IsFlat := by
  intro o w w' cs x S q
  obtain ⟨c, d, A, B, rfl, h1, h2, _⟩ := q
  exact ⟨c, d, _, _, rfl, h h1, k h2, fun _ h => h, fun _ h => h, fun _ _ h _ => h⟩
section
variable {α : Type} {r : Rep α} {e : TypeId} {w w' : World} {v : Value} {xs ys : List α} {S T : Nat → Prop}
theorem row_flat (hr : r.IsFlat) {o : Bool} : ∀ {cells : List Value} {ys : List α} {S : Nat → Prop}, row r o w cells ys S → row r true w' cells ys (fun _ => False)
  | _, [], _, h => h
  | _, y :: ys, _, ⟨c, d, A, B, h, h1, h2, _⟩ => ⟨c, d, _, _, h, hr h1, row_flat hr h2, fun _ h => h, fun _ h => h, fun _ _ h _ => h⟩
/-- 'append(s, t...)', t's elements without memory of their own. -/
theorem run_pushN {P : Program} {t ty : TypeId} {z : Value} {bytes : Nat} (ht : P.underlying t = some (.slice e)) (hinf : (P.info? e).map (fun i => (i.zero, i.size, i.bytes)) = some (some z, r.n, bytes)) (hzs : z.cells.size = r.n) (hn : 0 < r.n) (hby : bytes ≤ 1000) (hf : r.IsFlat)
    {B : Nat} (hown : own0 e r w v xs S) {av : Option Addr} {len cap : Nat} (hy : (slice e r).rd w [.slice av len cap] ys) (hSB : ∀ k, S k → B ≤ k ∧ k < w.heap.size) (hB : B ≤ w.heap.size) (hlen : xs.length + ys.length ≤ 1000000000) :
    ∃ v' w', (Builtin.append_ #[t, t] ty #[v, .slice av len cap]).run P w = .ok v' w' ∧ own0 e r w' v' (xs ++ ys) (Btw B w'.heap.size) ∧ Below B w w' ∧ w.heap.size ≤ w'.heap.size := by
  obtain ⟨i, hi, hz, hsize, hbytes⟩ := info_parts hinf
  obtain ⟨cells, hsrc, hrow⟩ := raw_src hy.1
  have hrow' : row r true w cells ys (fun _ => False) := row_flat hf hrow
  obtain ⟨v', w', hr, h2, h3⟩ := run_push (P := P) (ty := ty) ht hi hz hsize hzs hn (by omega) hown hsrc (row_len hrow) (row_one hrow) hlen
  refine ⟨v', w', hr, (h3 hrow' (fun _ _ h => h) hy.2.2).wide ?_, h2.below hB ?_, h2.size⟩
  · intro k hk
    have hs := h2.size
    rcases hk with hk | hk | hk
    · have := hSB k hk; exact ⟨this.1, by omega⟩
    · exact hk.elim
    · exact ⟨by omega, hk.2⟩
  · intro k hk; exact (hSB k hk.2).1
theorem wp_append {P : Program} {o : Oper} {a : Act} {K : Act → World → Prop} {Q : Exit → Act → World → Prop} (s x : Operand) (t : TypeId)
    (ho : o.op = .call { callee := .builtin .append, args := #[s, x], argTypes := #[t, t] }) {v sv v' : Value} (hs : a.eval s = v) (hx : a.eval x = sv) {w w' : World}
    (hr : (Builtin.append_ #[t, t] o.type #[v, sv]).run P w = .ok v' w') (h : K (a.put o.dst v') w') : o.wp P a w K Q := by
  unfold Oper.wp execOp
  simp only [ho, resolve, invoke, builtin, Sem.run_bind, Sem.run_pure, Result.andThen_ok, List.map_toArray, List.map_cons, List.map_nil, hs, hx, hr]
  exact h
theorem wpList_pushN {P : Program} {ops : Array Oper} {rest : List Oper} {o : Oper} {a : Act} {Q : Exit → Act → World → Prop} (hgd : o.guard = none) (s x : Operand) (t : TypeId)
    (ho : o.op = .call { callee := .builtin .append, args := #[s, x], argTypes := #[t, t] })
    {z : Value} {bytes : Nat} (ht : P.underlying t = some (.slice e)) (hinf : (P.info? e).map (fun i => (i.zero, i.size, i.bytes)) = some (some z, r.n, bytes)) (hzs : z.cells.size = r.n) (hn : 0 < r.n) (hby : bytes ≤ 1000) (hf : r.IsFlat)
    {B : Nat} (hown : own0 e r w v xs S) (hs : a.eval s = v) {av : Option Addr} {len cap : Nat} (hx : a.eval x = .slice av len cap) (hy : (slice e r).rd w [.slice av len cap] ys) (hSB : ∀ k, S k → B ≤ k ∧ k < w.heap.size) (hB : B ≤ w.heap.size) (hlen : xs.length + ys.length ≤ 1000000000)
    (h : ∀ v' w', own0 e r w' v' (xs ++ ys) (Btw B w'.heap.size) → Below B w w' → w.heap.size ≤ w'.heap.size → wpList P ops Q rest (a.put o.dst v') w') : wpList P ops Q (o :: rest) a w := by
  refine wpList_plain hgd fun _ hK => ?_
  obtain ⟨v', w', hr, h1, h2, h3⟩ := run_pushN (ty := o.type) ht hinf hzs hn hby hf hown hy hSB hB hlen
  exact wp_append s x t ho hs hx hr (hK _ _ (h v' w' h1 h2 h3))
end
end Rep
end Go.Proofs.YtpgnbablhdknnaaDoor

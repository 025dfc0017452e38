/-
  Appending flat elements that are only read, perhaps the list itself, to an owned list.
-/
import Derived.Test.YtpgnbablhdknnaaDoorDrawB
namespace Go.Proofs.YtpgnbablhdknnaaDoor
open Go.RowKit
set_option linter.unusedVariables false
namespace Rep
section
variable {α : Type} {r : Rep α} {e : TypeId} {w : World} {xs ys : List α} {S : Nat → Prop}
theorem run_pushGF {P : Program} {t ty : TypeId} {z : Value} {bytes : Nat} (ht : P.underlying t = some (.slice e)) (hinf : (P.info? e).map (fun i => (i.zero, i.size, i.bytes)) = some (some z, r.n, bytes)) (hzs : z.cells.size = r.n) (hn : 0 < r.n) (hby : bytes ≤ 1000) (hf : r.IsFlat)
    {a : Option Addr} {len cap : Nat} (hown : (slice e r).own w [.slice a len cap] xs S) {av : Option Addr} {len2 cap2 : Nat} (hy : (slice e r).rd w [.slice av len2 cap2] ys) (hlen : xs.length + ys.length ≤ 16777216) :
    ∃ v' w', (Builtin.append_ #[t, t] ty #[.slice a len cap, .slice av len2 cap2]).run P w = .ok v' w' ∧ (slice e r).own w' [v'] (xs ++ ys) (fun k => S k ∨ (w.heap.size ≤ k ∧ k < w'.heap.size)) ∧ Touch S w w' := by
  obtain ⟨cells, hsrc, hrow⟩ := raw_src hy.1
  have hrow' : row r true w cells ys (fun _ => False) := row_flat hf hrow
  obtain ⟨v', w', hr, h2, h3⟩ := run_pushG (ty := ty) ht hinf hzs hn hby hown hsrc hrow' rfl hy.2.2 (fun _ _ h => h) hlen
  refine ⟨v', w', hr, h2.wide ?_, h3⟩
  rintro k (hk | hk | hk)
  · exact .inl hk
  · exact hk.elim
  · exact .inr hk
theorem wpList_pushGF {P : Program} {ops : Array Oper} {rest : List Oper} {o : Oper} {ac : Act} {Q : Exit → Act → World → Prop} (hgd : o.guard = none) (s x : Operand) (t : TypeId)
    (ho : o.op = .call { callee := .builtin .append, args := #[s, x], argTypes := #[t, t] })
    {z : Value} {bytes : Nat} (ht : P.underlying t = some (.slice e)) (hinf : (P.info? e).map (fun i => (i.zero, i.size, i.bytes)) = some (some z, r.n, bytes)) (hzs : z.cells.size = r.n) (hn : 0 < r.n) (hby : bytes ≤ 1000) (hf : r.IsFlat)
    {a : Option Addr} {len cap : Nat} (hown : (slice e r).own w [.slice a len cap] xs S) {av : Option Addr} {len2 cap2 : Nat} (hy : (slice e r).rd w [.slice av len2 cap2] ys) (hs : ac.eval s = .slice a len cap) (hx : ac.eval x = .slice av len2 cap2) (hlen : xs.length + ys.length ≤ 16777216)
    (h : ∀ v' w', (slice e r).own w' [v'] (xs ++ ys) (fun k => S k ∨ (w.heap.size ≤ k ∧ k < w'.heap.size)) → Touch S w w' → wpList P ops Q rest (ac.put o.dst v') w') : wpList P ops Q (o :: rest) ac w := by
  refine wpList_plain hgd fun _ hK => ?_
  obtain ⟨v', w', hr, h1, h2⟩ := run_pushGF (ty := o.type) ht hinf hzs hn hby hf hown hy hlen
  exact wp_append s x t ho hs hx hr (hK _ _ (h v' w' h1 h2))
end
end Rep
end Go.Proofs.YtpgnbablhdknnaaDoor

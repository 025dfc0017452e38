/-
  append(s, t...) over flat data, with what stays of the other memory; slices of one or more numbers just laid. No program in sight.
-/
import Derived.Test.YtlfblpgkegeaeaaGreatFlat
import Derived.Test.YtlfblpgkegeaeaaGreatMade
import Derived.Test.YtlfblpgkegeaeaaGreatSoftT
namespace Go.Proofs.YtlfblpgkegeaeaaGreat
open Go.RowKit
set_option linter.unusedVariables false
theorem Rep.run_pushU {α : Type} {r : Rep α} {e : TypeId} {w : World} {v : Value} {xs ys : List α} {S : Nat → Prop} {P : Program} {t ty : TypeId} {z : Value} {bytes : Nat} (ht : P.underlying t = some (.slice e)) (hinf : (P.info? e).map (fun i => (i.zero, i.size, i.bytes)) = some (some z, r.n, bytes)) (hzs : z.cells.size = r.n) (hn : 0 < r.n) (hby : bytes ≤ 1000) (hf : r.IsFlat)
    {B : Nat} (hown : own0 e r w v xs S) {av : Option Addr} {len cap : Nat} (hy : (slice e r).rd w [.slice av len cap] ys) (hSB : ∀ k, S k → B ≤ k ∧ k < w.heap.size) (hB : B ≤ w.heap.size) (hlen : xs.length + ys.length ≤ 1000000000) :
    ∃ v' w', (Builtin.append_ #[t, t] ty #[v, .slice av len cap]).run P w = .ok v' w' ∧ own0 e r w' v' (xs ++ ys) (Btw B w'.heap.size) ∧ Below B w w' ∧ w.heap.size ≤ w'.heap.size ∧ ∀ k, k < w.heap.size → ¬ S k → w'.heap[k]? = w.heap[k]? := by
  obtain ⟨i, hi, hz, hsize, hbytes⟩ := info_parts hinf
  obtain ⟨cells, hsrc, hrow⟩ := raw_src hy.1
  have hrow' : row r true w cells ys (fun _ => False) := row_flat hf hrow
  obtain ⟨v', w', hr, h2, h3⟩ := run_push (P := P) (ty := ty) ht hi hz hsize hzs hn (by omega) hown hsrc (row_len hrow) (row_one hrow) hlen
  refine ⟨v', w', hr, (h3 hrow' (fun _ _ h => h) hy.2.2).wide ?_, h2.below hB ?_, h2.size, fun k hk hs => h2.block k hk (fun q => hs q.2)⟩
  · intro k hk
    have hs := h2.size
    rcases hk with hk | hk | hk
    · have := hSB k hk; exact ⟨this.1, by omega⟩
    · exact hk.elim
    · exact ⟨by omega, hk.2⟩
  · intro k hk; exact (hSB k hk.2).1
def I64q (x : Int) : Prop := -9223372036854775808 ≤ x ∧ x ≤ 9223372036854775807
theorem row_intq {w : World} {o : Bool} : ∀ (l : List Int) (S : Nat → Prop), (∀ x ∈ l, I64q x) → Rep.row Rep.int o w (l.map (Value.int .i64)) l S
  | [], _, _ => rfl
  | x :: l, S, h => ⟨[.int .i64 x], l.map (Value.int .i64), fun _ => False, fun _ => False, rfl, ⟨rfl, h x (by simp)⟩, row_intq l _ (fun y hy => h y (by simp [hy])), fun _ h => h.elim, fun _ h => h.elim, fun _ _ h => h.elim⟩
theorem litq {w : World} {x : Int} {e : TypeId} (hx : I64q x) : Rep.own0 e Rep.int (w.alloc (.cells #[.int .i64 x] e)) (.slice (some ⟨w.heap.size, 0, none⟩) 1 1) [x] (fun k => k = w.heap.size) :=
  Rep.own0_lit (cs := [.int .i64 x]) (xs := [x]) (T := fun _ => False) (fun _ _ => trivial) (by show 1 ≤ _; unfold maxLen; omega) (row_intq [x] _ (by intro q hq; simp only [List.mem_cons, List.not_mem_nil, or_false] at hq; subst hq; assumption)) (fun _ h => h.elim) rfl
/-- Three slices laid side by side are a slice of slices. -/
theorem row_three {α : Type} {r : Rep α} {w : World} {v0 v1 v2 : Value} {x0 x1 x2 : α} (h0 : r.raw w [v0] x0) (h1 : r.raw w [v1] x1) (h2 : r.raw w [v2] x2) : Rep.row r false w [v0, v1, v2] [x0, x1, x2] (fun _ => True) :=
  ⟨[v0], [v1, v2], _, _, rfl, h0, ⟨[v1], [v2], _, _, rfl, h1, ⟨[v2], [], _, _, rfl, h2, rfl, fun _ h => h, fun _ h => h, fun h => by cases h⟩, fun _ h => h, fun _ h => h, fun h => by cases h⟩, fun _ h => h, fun _ h => h, fun h => by cases h⟩
theorem raw_three {α : Type} {r : Rep α} {w : World} {v0 v1 v2 : Value} {x0 x1 x2 : α} {b : Nat} {e : TypeId} (hn : r.n = 1) (hb : w.heap[b]? = some (.cells #[v0, v1, v2] e (0, 0))) (h0 : r.raw w [v0] x0) (h1 : r.raw w [v1] x1) (h2 : r.raw w [v2] x2) :
    (Rep.slice e r).raw w [.slice (some ⟨b, 0, none⟩) 3 3] [x0, x1, x2] :=
  ⟨_, _, _, rfl, rfl, by decide, by unfold maxLen; decide, .inr ⟨b, 0, rfl, #[v0, v1, v2], e, (0, 0), [], [v0, v1, v2], [], hb, rfl, rfl, by rw [hn]; show 0 + 3 * 1 ≤ 3; omega, (fun h => Bool.noConfusion h), trivial, Rep.row_wide (row_three h0 h1 h2) (fun _ _ => ⟨trivial, fun h => by cases h⟩)⟩⟩
end Go.Proofs.YtlfblpgkegeaeaaGreat

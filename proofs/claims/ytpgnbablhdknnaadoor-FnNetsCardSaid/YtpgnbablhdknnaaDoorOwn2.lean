/-
  Slices that are owned: an element's cells, a store into a cell, a store of a whole element, a change behind an element. No program in sight.
-/
import Derived.Test.YtpgnbablhdknnaaDoorOwn
namespace Go.Proofs.YtpgnbablhdknnaaDoor
open Go.RowKit
set_option linter.unusedVariables false
theorem bcell {W w1 : World} (hb : Below W.heap.size W w1) : (∀ b o, b < W.heap.size → w1.cell? ⟨b, o, none⟩ = W.cell? ⟨b, o, none⟩) ∧ (∀ b o, b < W.heap.size → w1.frozen? ⟨b, o, none⟩ = W.frozen? ⟨b, o, none⟩) :=
  ⟨fun b o h => hb.cell (p := ⟨b, o, none⟩) h, fun b o h => hb.frozen (p := ⟨b, o, none⟩) h⟩
theorem heap_new_at {w : World} {o : Obj} {b : Nat} (h : b = w.heap.size) : (w.alloc o).heap[b]? = some o := h ▸ heap_alloc_new w o
theorem heap_keep {w : World} {o A : Obj} {b : Nat} (h : w.heap[b]? = some o) : (w.alloc A).heap[b]? = some o := (heap_alloc_old w A (Array.getElem?_eq_some_iff.1 h).1).trans h
theorem keepBox {W W' : World} {b : Nat} {o : Obj} (h : W.heap[b]? = some o) (d : Below W.heap.size W W') : W'.heap[b]? = some o := (d.block b (Array.getElem?_eq_some_iff.1 h).1).trans h
theorem Touch.keepBox {S : Nat → Prop} {W W' : World} (d : Touch S W W') {b : Nat} {o : Obj} (h : W.heap[b]? = some o) (hb : ¬ S b) : W'.heap[b]? = some o := (d.block b (Array.getElem?_eq_some_iff.1 h).1 hb).trans h
theorem boxCell {W : World} {b : Nat} {cs : Array Value} {t : TypeId} {fr : Nat × Nat} (h : W.heap[b]? = some (.cells cs t fr)) {j : Nat} {v : Value} (hv : cs[j]? = some v) : W.cell? ⟨b, j, none⟩ = some v := (cell_of_row W b j cs t fr h).trans hv
namespace Rep

/-- The stores of the cells of one value, as the walk makes them. -/
def setCells (w : World) (b p : Nat) : List Value → World
  | [] => w
  | c :: cs => setCells (w.setCell ⟨b, p, none⟩ c) b (p + 1) cs

theorem setCells_other : ∀ (cs : List Value) (w : World) (b p k : Nat), k ≠ b → (setCells w b p cs).heap[k]? = w.heap[k]?
  | [], _, _, _, _, _ => rfl
  | c :: cs, w, b, p, k, h => by
    rw [setCells, setCells_other cs _ b (p + 1) k h]
    exact heap_setCell_other w ⟨b, p, none⟩ k c h
theorem setCells_size : ∀ (cs : List Value) (w : World) (b p : Nat), (setCells w b p cs).heap.size = w.heap.size
  | [], _, _, _ => rfl
  | c :: cs, w, b, p => by rw [setCells, setCells_size cs]; simp [World.setCell]
theorem setCells_rest : ∀ (cs : List Value) (w : World) (b p : Nat), (setCells w b p cs).os = w.os ∧ (setCells w b p cs).tape = w.tape ∧ (setCells w b p cs).output = w.output
  | [], _, _, _ => ⟨rfl, rfl, rfl⟩
  | c :: cs, w, b, p => by rw [setCells]; exact setCells_rest cs _ b (p + 1)
theorem touch_setCells (cs : List Value) (w : World) (b p : Nat) : Touch (fun k => k = b) w (setCells w b p cs) :=
  ⟨(setCells_rest cs w b p).1, (setCells_rest cs w b p).2.1, (setCells_rest cs w b p).2.2, by rw [setCells_size]; exact Nat.le_refl _, fun k _ hk => setCells_other cs w b p k hk⟩
theorem setCells_heap {e : TypeId} : ∀ (cs c hd tl : List Value) (w : World) (b p : Nat), w.heap[b]? = some (.cells (hd ++ (c ++ tl)).toArray e (0, 0)) → hd.length = p → c.length = cs.length →
    (setCells w b p cs).heap[b]? = some (.cells (hd ++ (cs ++ tl)).toArray e (0, 0))
  | [], c, hd, tl, w, b, p, h, hp, hc => by
    have : c = [] := List.eq_nil_of_length_eq_zero (by simpa using hc)
    subst this
    exact h
  | v :: cs, [], hd, tl, w, b, p, h, hp, hc => by simp at hc
  | v :: cs, u :: c, hd, tl, w, b, p, h, hp, hc => by
    rw [setCells]
    have h1 := heap_setCell_same w b p _ e v h
    have h2 : ((hd ++ (u :: c ++ tl)).toArray.setIfInBounds p v) = ((hd ++ [v]) ++ (c ++ tl)).toArray := by
      subst hp
      simp
    rw [h2] at h1
    have := setCells_heap cs c (hd ++ [v]) tl _ b (p + 1) h1 (by simp [hp]) (by simpa using hc)
    simpa using this

section
variable {α : Type} {r : Rep α} {e : TypeId} {w w' : World} {b off len cap : Nat} {xs : List α} {S T : Nat → Prop}

theorem own_open (h : (slice e r).own w [.slice (some ⟨b, off, none⟩) len cap] xs S) (hne : 0 < xs.length) :
    len = xs.length ∧ len ≤ cap ∧ cap ≤ maxLen ∧ xs.length ≤ Big ∧ (∀ x ∈ xs, r.bdd Big x) ∧ ∃ (hd cs tl : List Value), w.heap[b]? = some (.cells (hd ++ (cs ++ tl)).toArray e (0, 0)) ∧ hd.length = off ∧ off + cap * r.n ≤ (hd ++ (cs ++ tl)).length ∧ S b ∧
      row r true w cs xs (fun k => S k ∧ k ≠ b) := by
  obtain ⟨⟨a', len', cap', h0, h1, h2, h3, h4⟩, hb⟩ := h
  simp only [List.cons.injEq, Value.slice.injEq, and_true] at h0
  obtain ⟨rfl, rfl, rfl⟩ := h0
  rcases h4 with ⟨rfl, _⟩ | ⟨b', off', ha, cur, e', fr, p, c, q, hb', hc, hp, hl, hf, hS, hx⟩
  · simp at hne
  · simp only [Option.some.injEq, Addr.mk.injEq, and_true] at ha
    obtain ⟨rfl, rfl⟩ := ha
    obtain ⟨rfl, rfl⟩ := hf rfl
    have hcur : cur = (p ++ (c ++ q)).toArray := by rw [← hc]
    subst hcur
    exact ⟨h1, h2, h3, hb.1, hb.2, p, c, q, hb', hp, by simpa using hl, hS, row_wide hx (fun k hk => ⟨hk.1, hk.2 rfl⟩)⟩
theorem own_shut {hd cs tl : List Value} (h1 : len = xs.length) (h2 : len ≤ cap) (h3 : cap ≤ maxLen) (h4 : xs.length ≤ Big) (h5 : ∀ x ∈ xs, r.bdd Big x) (h6 : w.heap[b]? = some (.cells (hd ++ (cs ++ tl)).toArray e (0, 0))) (h7 : hd.length = off)
    (h8 : off + cap * r.n ≤ (hd ++ (cs ++ tl)).length) (h9 : S b) (h10 : row r true w cs xs (fun k => S k ∧ k ≠ b)) : (slice e r).own w [.slice (some ⟨b, off, none⟩) len cap] xs S :=
  ⟨⟨_, _, _, rfl, h1, h2, h3, .inr ⟨b, off, rfl, _, e, (0, 0), hd, cs, tl, h6, rfl, h7, by simpa using h8, fun _ => ⟨rfl, rfl⟩, h9, row_wide h10 (fun k hk => ⟨hk.1, fun _ => hk.2⟩)⟩⟩, h4, h5⟩

theorem bdd_set {i : Nat} {y : α} (h5 : ∀ x ∈ xs, r.bdd Big x) (hy : r.bdd Big y) : ∀ x ∈ xs.set i y, r.bdd Big x := by
  intro x hx
  rcases List.mem_or_eq_of_mem_set hx with h | h
  · exact h5 x h
  · exact h ▸ hy

/-- Element i of an owned slice: its cells, which own what lies behind them; and the way back, when what lies behind them has turned. -/
theorem own_get (h : (slice e r).own w [.slice (some ⟨b, off, none⟩) len cap] xs S) {i : Nat} (hi : i < xs.length) :
    ∃ c B, r.own w c xs[i] B ∧ (∀ k, B k → S k ∧ k ≠ b) ∧ S b ∧ (∀ j v, c[j]? = some v → w.cell? ⟨b, off + i * r.n + j, none⟩ = some v) ∧ (∀ j, w.frozen? ⟨b, j, none⟩ = false) ∧
      (∀ {w' : World} {y : α}, r.own w' c y B → Touch B w w' → (slice e r).own w' [.slice (some ⟨b, off, none⟩) len cap] (xs.set i y) S) := by
  have hraw := h.raw
  obtain ⟨h1, h2, h3, h4, h5, hd, cs, tl, h6, h7, h8, h9, h10⟩ := own_open h (by omega)
  obtain ⟨p, c, q, A, B, C, rfl, hp, ra, rb, rc, hA, hB, hC, hdis⟩ := row_at h10 hi
  have hlt : b < w.heap.size := (Array.getElem?_eq_some_iff.1 h6).1
  refine ⟨c, fun k => B k ∧ k < w.heap.size, ⟨r.live rb, h5 _ (List.getElem_mem hi)⟩, fun k hk => hB k hk.1, h9, ?_, fun j => frozen_of_row w b j _ e h6, ?_⟩
  · intro j v hj
    have hjl := (List.getElem?_eq_some_iff.1 hj).1
    rw [cell_of_row w b _ _ e (0, 0) h6]
    simp only [List.getElem?_toArray]
    rw [List.getElem?_append_right (by omega), List.append_assoc, List.getElem?_append_right (by omega), List.append_assoc, List.getElem?_append_left (by omega)]
    rw [← hj]; congr 1; omega
  · intro w' y hy ht
    have hb' : w'.heap[b]? = w.heap[b]? := ht.block b hlt (fun q => (hB b q.1).2 rfl)
    refine own_shut (by simpa using h1) h2 h3 (by simpa using h4) (bdd_set h5 hy.2) (hb'.trans h6) h7 h8 h9 ?_
    have ra' := row_mono (w' := w') (row_live ra) (fun k hk => ht.block k hk.2 (fun q => (hdis rfl k).1 hk.1 q.1))
    have rc' := row_mono (w' := w') (row_live rc) (fun k hk => ht.block k hk.2 (fun q => (hdis rfl k).2.2 q.1 hk.1))
    exact row_put hi ra' hy.1 rc' (fun k hk => hA k hk.1) (fun k hk => hB k hk.1) (fun k hk => hC k hk.1) (fun _ k => ⟨fun a b => (hdis rfl k).1 a.1 b.1, fun a c => (hdis rfl k).2.1 a.1 c.1, fun b c => (hdis rfl k).2.2 b.1 c.1⟩)

/-- A store into one cell of element i. -/
theorem own_setCell (h : (slice e r).own w [.slice (some ⟨b, off, none⟩) len cap] xs S) {i j : Nat} {v : Value} {y : α} (hi : i < xs.length) (hj : j < r.n)
    (hy : ∀ {w : World} {cs : List Value} {S : Nat → Prop}, r.is true w cs xs[i] S → r.is true w (cs.set j v) y S) (hby : r.bdd Big y) :
    (slice e r).own (w.setCell ⟨b, off + i * r.n + j, none⟩ v) [.slice (some ⟨b, off, none⟩) len cap] (xs.set i y) S ∧ Touch (fun k => k = b) w (w.setCell ⟨b, off + i * r.n + j, none⟩ v) := by
  obtain ⟨h1, h2, h3, h4, h5, hd, cs, tl, h6, h7, h8, h9, h10⟩ := own_open h (by omega)
  obtain ⟨p, c, q, A, B, C, rfl, hp, ra, rb, rc, hA, hB, hC, hdis⟩ := row_at h10 hi
  have ho : ∀ k, k ≠ b → (w.setCell ⟨b, off + i * r.n + j, none⟩ v).heap[k]? = w.heap[k]? := fun k hk => heap_setCell_other w ⟨b, _, none⟩ k v hk
  have hc := r.len rb
  refine ⟨?_, ⟨rfl, rfl, rfl, by simp [World.setCell], fun k _ hk => ho k hk⟩⟩
  have h6' := heap_setCell_same w b (off + i * r.n + j) _ e v h6
  have hcur : ((hd ++ ((p ++ (c ++ q)) ++ tl)).toArray.setIfInBounds (off + i * r.n + j) v) = (hd ++ ((p ++ (c.set j v ++ q)) ++ tl)).toArray := by
    apply Array.ext'
    simp only [Array.toList_setIfInBounds]
    rw [List.set_append_right _ _ (by omega), List.append_assoc, List.set_append_right _ _ (by omega), List.append_assoc, List.set_append_left _ _ (by omega)]
    rw [show off + i * r.n + j - hd.length - p.length = j by omega]
    simp
  rw [hcur] at h6'
  refine own_shut (by simpa using h1) h2 h3 (by simpa using h4) (bdd_set h5 hby) h6' h7 (by simpa using h8) h9 ?_
  exact row_put hi (row_mono ra (fun k hk => ho k (hA k hk).2)) (r.mono (hy rb) (fun k hk => ho k (hB k hk).2)) (row_mono rc (fun k hk => ho k (hC k hk).2)) hA hB hC hdis

/-- A store of a whole element. -/
theorem own_set (h : (slice e r).own w [.slice (some ⟨b, off, none⟩) len cap] xs S) {i p : Nat} {cs : List Value} {y : α} (hi : i < xs.length) (hy : r.own w cs y T) (hT : ∀ k, S k → T k → False) (hpp : p = off + i * r.n) :
    (slice e r).own (setCells w b p cs) [.slice (some ⟨b, off, none⟩) len cap] (xs.set i y) (fun k => S k ∨ T k) ∧ Touch (fun k => k = b) w (setCells w b p cs) := by
  subst hpp
  obtain ⟨h1, h2, h3, h4, h5, hd, cl, tl, h6, h7, h8, h9, h10⟩ := own_open h (by omega)
  obtain ⟨p, c, q, A, B, C, rfl, hp, ra, rb, rc, hA, hB, hC, hdis⟩ := row_at h10 hi
  have ho : ∀ k, k ≠ b → (setCells w b (off + i * r.n) cs).heap[k]? = w.heap[k]? := fun k hk => setCells_other cs w b _ k hk
  refine ⟨?_, touch_setCells cs w b _⟩
  have hc := r.len rb
  have hcs := r.len hy.1
  have h6' := setCells_heap cs c (hd ++ p) (q ++ tl) w b (off + i * r.n) (by simpa using h6) (by simp [h7, hp]) (by omega)
  refine own_shut (hd := hd) (cs := p ++ (cs ++ q)) (tl := tl) (by simpa using h1) h2 h3 (by simpa using h4) (bdd_set h5 hy.2) (by simpa using h6') h7 (by simp only [List.length_append] at h8 ⊢; omega) (.inl h9) ?_
  exact row_put hi (row_mono ra (fun k hk => ho k (hA k hk).2)) (r.mono hy.1 (fun k hk => ho k (fun q => hT b h9 (q ▸ hk)))) (row_mono rc (fun k hk => ho k (hC k hk).2)) (fun k hk => ⟨.inl (hA k hk).1, (hA k hk).2⟩) (fun k hk => ⟨.inr hk, fun q => hT b h9 (q ▸ hk)⟩) (fun k hk => ⟨.inl (hC k hk).1, (hC k hk).2⟩)
    (fun _ k => ⟨fun a t => hT k (hA k a).1 t, (hdis rfl k).2.1, fun t c => hT k (hC k c).1 t⟩)

theorem own_frozen (h : (slice e r).own w [.slice (some ⟨b, off, none⟩) len cap] xs S) (hne : 0 < xs.length) (j : Nat) : w.frozen? ⟨b, j, none⟩ = false := by
  obtain ⟨_, _, _, _, _, hd, cs, tl, h6, _⟩ := own_open h hne
  exact frozen_of_row w b j _ e h6
theorem own_addr {a : Option Addr} (h : (slice e r).own w [.slice a len cap] xs S) (hne : 0 < xs.length) : len = xs.length ∧ ∃ b off, a = some ⟨b, off, none⟩ ∧ S b ∧ b < w.heap.size := by
  obtain ⟨⟨a', len', cap', h0, h1, h2, h3, h4⟩, hb⟩ := h
  simp only [List.cons.injEq, Value.slice.injEq, and_true] at h0
  obtain ⟨rfl, rfl, rfl⟩ := h0
  rcases h4 with ⟨rfl, _⟩ | ⟨b', off', ha, cur, e', fr, p, c, q, hb', hc, hp, hl, hf, hS, hx⟩
  · simp at hne
  · exact ⟨h1, b', off', ha, hS, (Array.getElem?_eq_some_iff.1 hb').1⟩

variable {β : Type} {q : Rep β} {cs ds : List Value} {x : α} {y : β} {A B : Nat → Prop}
theorem own.setCell (h : r.own w cs x S) {p : Addr} {v : Value} (hp : ¬ S p.block) : r.own (w.setCell p v) cs x S :=
  h.keep (fun k hk _ => heap_setCell_other w p k v (fun q => hp (q ▸ hk)))
theorem own.alloc (h : r.own w cs x S) (o : Obj) : r.own (w.alloc o) cs x S := h.below (below_alloc w o)
theorem own.drew (h : r.own w cs x S) : r.own w.drew cs x S := h.below (below_drew w)
theorem own0.setCell {v : Value} (h : own0 e r w v xs S) {p : Addr} {u : Value} (hp : ¬ S p.block) : own0 e r (w.setCell p u) v xs S :=
  h.keep (fun k hk _ => heap_setCell_other w p k u (fun q => hp (q ▸ hk)))
theorem own0.alloc {v : Value} (h : own0 e r w v xs S) (o : Obj) : own0 e r (w.alloc o) v xs S := h.below (below_alloc w o)
theorem own0.drew {v : Value} (h : own0 e r w v xs S) : own0 e r w.drew v xs S := h.below (below_drew w)
/-- A store into a block that is not old. -/
theorem raw.setCell_new (h : r.raw w cs x) {p : Addr} {v : Value} {w0 : World} (h0 : r.raw w0 cs x) (hb : Below w0.heap.size w0 w) (hp : w0.heap.size ≤ p.block) : r.raw (w.setCell p v) cs x :=
  h0.below (hb.setCell hp v)

theorem own.out {lo hi : Nat} (h : r.own w cs x (Btw lo hi)) (k : ∀ j, lo ≤ j → j < hi → w'.heap[j]? = w.heap[j]?) : r.own w' cs x (Btw lo hi) := h.keep (fun j hj _ => k j hj.1 hj.2)
/-- Owned data without memory. -/
def flat (r : Rep α) (cs : List Value) (x : α) : Prop := ∀ w, r.own w cs x (fun _ => False)
theorem flat_int {n : Int} (h : -9223372036854775808 ≤ n ∧ n ≤ 9223372036854775807) : int.flat [.int .i64 n] n := fun _ => ⟨⟨rfl, h⟩, trivial⟩
theorem flat_bool (b : Bool) : bool.flat [.bool b] b := fun _ => ⟨rfl, trivial⟩
theorem flat_byte (b : UInt8) : byte.flat [.int .u8 b.toNat] b := fun _ => ⟨rfl, trivial⟩
theorem flat_str {s : ByteArray} (h : s.size ≤ Big) : str.flat [.string s] s := fun _ => ⟨⟨rfl, by unfold maxLen; unfold Big at h; omega⟩, h⟩
theorem flat_pair (h : r.flat cs x) (k : q.flat ds y) : (pair r q).flat (cs ++ ds) (x, y) := fun w =>
  ⟨⟨cs, ds, _, _, rfl, (h w).1, (k w).1, fun _ h => h, fun _ h => h, fun _ _ h _ => h⟩, (h w).2, (k w).2⟩
theorem flat.own (h : r.flat cs x) : r.own w cs x S := (h w).wide (fun _ h => h.elim)
theorem flat.raw (h : r.flat cs x) : r.raw w cs x := (h w).raw
theorem flat.rd (h : r.flat cs x) : r.rd w cs x := (h w).rd
theorem own_pair (h : r.own w cs x A) (k : q.own w ds y B) (hA : ∀ k, A k → S k) (hB : ∀ k, B k → S k) (hd : ∀ k, A k → B k → False) : (pair r q).own w (cs ++ ds) (x, y) S :=
  ⟨⟨cs, ds, A, B, rfl, h.1, k.1, hA, hB, fun _ => hd⟩, h.2, k.2⟩
theorem own_flat (h : r.own w cs x S) (k : q.flat ds y) : (pair r q).own w (cs ++ ds) (x, y) S :=
  own_pair h (k w) (fun _ h => h) (fun _ h => h.elim) (fun _ _ h => h)
theorem flat_own (h : r.flat cs x) (k : q.own w ds y S) : (pair r q).own w (cs ++ ds) (x, y) S :=
  own_pair (h w) k (fun _ h => h.elim) (fun _ h => h) (fun _ h _ => h)
theorem pair_own {z : α × β} (h : (pair r q).own w cs z S) : ∃ c d A B, cs = c ++ d ∧ r.own w c z.1 A ∧ q.own w d z.2 B ∧ (∀ k, A k → S k) ∧ (∀ k, B k → S k) ∧ (∀ k, A k → B k → False) := by
  obtain ⟨⟨c, d, A, B, rfl, h1, h2, hA, hB, hd⟩, hb⟩ := h
  exact ⟨c, d, A, B, rfl, ⟨h1, hb.1⟩, ⟨h2, hb.2⟩, hA, hB, hd rfl⟩
theorem pair_raw {z : α × β} (h : (pair r q).raw w cs z) : ∃ c d, cs = c ++ d ∧ r.raw w c z.1 ∧ q.raw w d z.2 := by
  obtain ⟨c, d, A, B, rfl, h1, h2, hA, hB, hd⟩ := h
  exact ⟨c, d, rfl, r.wide h1 (fun _ _ => trivial), q.wide h2 (fun _ _ => trivial)⟩
theorem raw_pair {z : α × β} (h : r.raw w cs z.1) (k : q.raw w ds z.2) : (pair r q).raw w (cs ++ ds) z :=
  ⟨cs, ds, _, _, rfl, h, k, fun _ h => h, fun _ h => h, by simp⟩
theorem int_raw {n : Int} (h : int.raw w cs n) : cs = [.int .i64 n] ∧ -9223372036854775808 ≤ n ∧ n ≤ 9223372036854775807 := h
theorem bool_raw {b : Bool} (h : bool.raw w cs b) : cs = [.bool b] := h
theorem byte_raw {b : UInt8} (h : byte.raw w cs b) : cs = [.int .u8 b.toNat] := h
theorem str_raw {s : ByteArray} (h : str.raw w cs s) : cs = [.string s] ∧ s.size ≤ maxLen := h
theorem slice_raw {xs : List α} (h : (slice e r).raw w cs xs) : ∃ v, cs = [v] ∧ (slice e r).raw w [v] xs := by
  obtain ⟨a, cap, rfl, _⟩ := len_raw h
  exact ⟨_, rfl, h⟩
end
/-- A part of owned data, its cells, and the way back when the part has turned. -/
def Sub {α β : Type} (r : Rep α) (q : Rep β) (get : α → β) (put : α → β → α) (i : Nat) : Prop :=
  ∀ {w : World} {cs : List Value} {x : α} {B : Nat → Prop}, r.own w cs x B → ∃ A, q.own w ((cs.drop i).take q.n) (get x) A ∧ (∀ k, A k → B k) ∧
    ∀ {w' : World} {y : β}, q.own w' ((cs.drop i).take q.n) y A → Touch A w w' → r.own w' cs (put x y) B
theorem Sub.refl {α : Type} (r : Rep α) : Sub r r (fun x => x) (fun _ y => y) 0 := by
  intro w cs x B h
  have e : (cs.drop 0).take r.n = cs := by rw [List.drop_zero, List.take_of_length_le (by rw [r.len h.1]; exact Nat.le_refl _)]
  rw [e]
  exact ⟨B, h, fun _ h => h, fun h _ => h⟩
theorem Sub.left {α β γ : Type} {r : Rep α} {q : Rep β} {p : Rep γ} {get : α → γ} {put : α → γ → α} {i : Nat} (s : Sub r p get put i) (hi : i + p.n ≤ r.n) : Sub (pair r q) p (fun z => get z.1) (fun z y => (put z.1 y, z.2)) i := by
  intro w cs z B h
  obtain ⟨c, d, A, D, rfl, h1, h2, hA, hD, hd⟩ := pair_own h
  obtain ⟨A', h3, h4, h5⟩ := s h1
  have hc := r.len h1.1
  have e : ((c ++ d).drop i).take p.n = (c.drop i).take p.n := by
    rw [List.drop_append_of_le_length (by omega), List.take_append_of_le_length (by rw [List.length_drop]; omega)]
  rw [e]
  exact ⟨A', h3, fun k hk => hA k (h4 k hk), fun h6 t => own_pair (h5 h6 t) (h2.touch t (fun k hk q => hd k (h4 k q) hk)) hA hD hd⟩
theorem Sub.right {α β γ : Type} {r : Rep α} {q : Rep β} {p : Rep γ} {get : β → γ} {put : β → γ → β} {i j : Nat} (s : Sub q p get put i) (hj : j = r.n + i) : Sub (pair r q) p (fun z => get z.2) (fun z y => (z.1, put z.2 y)) j := by
  subst hj
  intro w cs z B h
  obtain ⟨c, d, A, D, rfl, h1, h2, hA, hD, hd⟩ := pair_own h
  obtain ⟨A', h3, h4, h5⟩ := s h2
  have hc := r.len h1.1
  have e : ((c ++ d).drop (r.n + i)).take p.n = (d.drop i).take p.n := by
    rw [← hc, ← List.drop_drop, List.drop_left]
  rw [e]
  exact ⟨A', h3, fun k hk => hD k (h4 k hk), fun h6 t => own_pair (h1.touch t (fun k hk q => hd k hk (h4 k q))) (h5 h6 t) hA hD hd⟩

section
variable {α : Type} {r : Rep α} {e : TypeId} {w : World} {b off len cap : Nat} {xs : List α} {S : Nat → Prop}
theorem own_get' {E : α} {i : Nat} (h : (slice e r).own w [.slice (some ⟨b, off, none⟩) len cap] (xs.set i E) S) (hi : i < xs.length) :
    ∃ c B, r.own w c E B ∧ (∀ k, B k → S k ∧ k ≠ b) ∧ S b ∧ (∀ j v, c[j]? = some v → w.cell? ⟨b, off + i * r.n + j, none⟩ = some v) ∧ (∀ j, w.frozen? ⟨b, j, none⟩ = false) ∧
      (∀ {w' : World} {y : α}, r.own w' c y B → Touch B w w' → (slice e r).own w' [.slice (some ⟨b, off, none⟩) len cap] (xs.set i y) S) := by
  obtain ⟨c, B, h1, h2, h3, h4, h5, h6⟩ := own_get h (i := i) (by simpa using hi)
  refine ⟨c, B, by simpa using h1, h2, h3, h4, h5, ?_⟩
  intro w' y hy t
  have := h6 hy t
  rwa [List.set_set] at this
theorem own_setCell' {E y : α} {i j p : Nat} {v : Value} (h : (slice e r).own w [.slice (some ⟨b, off, none⟩) len cap] (xs.set i E) S) (hi : i < xs.length) (hj : j < r.n)
    (hy : ∀ {w : World} {cs : List Value} {S : Nat → Prop}, r.is true w cs E S → r.is true w (cs.set j v) y S) (hby : r.bdd Big E → r.bdd Big y) (hp : p = off + i * r.n + j) :
    (slice e r).own (w.setCell ⟨b, p, none⟩ v) [.slice (some ⟨b, off, none⟩) len cap] (xs.set i y) S ∧ Touch (fun k => k = b) w (w.setCell ⟨b, p, none⟩ v) := by
  subst hp
  have hE : (xs.set i E)[i]'(by simpa using hi) = E := by simp
  obtain ⟨h1, h2⟩ := own_setCell h (i := i) (j := j) (v := v) (y := y) (by simpa using hi) hj (fun h => hy (by rw [hE] at h; exact h)) (hby (h.2.2 _ (List.mem_iff_getElem.2 ⟨i, by simpa using hi, hE⟩)))
  rw [List.set_set] at h1
  exact ⟨h1, h2⟩
theorem mark_start {x : List α} {k : Int} {i : Nat} (hi : i < x.length) : ((mkL r (x.take i) k).1 ++ x.drop i) = ((mkL r (x.take i) k).1 ++ x.drop i).set i x[i] := by
  rw [List.set_append_right _ _ (by rw [mkL_length]; simp; omega), mkL_length, List.length_take, Nat.min_eq_left (by omega), Nat.sub_self, List.drop_eq_getElem_cons hi]
  rfl
theorem mark_end {x : List α} {k : Int} {i : Nat} (hi : i < x.length) {y : α} (hy : y = (r.mark true x[i] (mkL r (x.take i) k).2).1) : ((mkL r (x.take i) k).1 ++ x.drop i).set i y = (mkL r (x.take (i + 1)) k).1 ++ x.drop (i + 1) := by
  subst hy
  rw [List.set_append_right _ _ (by rw [mkL_length]; simp; omega), mkL_length, List.length_take, Nat.min_eq_left (by omega), Nat.sub_self, List.take_succ_eq_append_getElem hi, mkL_snoc, List.drop_eq_getElem_cons hi, List.set_cons_zero]
  simp
theorem mark_end2 {x : List α} {k : Int} {i : Nat} (hi : i < x.length) : (mkL r (x.take (i + 1)) k).2 = (r.mark true x[i] (mkL r (x.take i) k).2).2 := by
  rw [List.take_succ_eq_append_getElem hi, mkL_snoc]
theorem mark_len {x : List α} {k : Int} {i : Nat} : ((mkL r (x.take i) k).1 ++ x.drop i).length = x.length := by
  simp [mkL_length]; omega
theorem mark_full {x : List α} {k : Int} {i : Nat} (hi : ¬ i < x.length) : (mkL r (x.take i) k).1 ++ x.drop i = (mkL r x k).1 ∧ (mkL r (x.take i) k).2 = (mkL r x k).2 := by
  rw [List.take_of_length_le (by omega), List.drop_eq_nil_of_le (by omega), List.append_nil]; exact ⟨rfl, rfl⟩
theorem mark_bound {x : List α} {k : Int} {i : Nat} (hb : (slice e r).bdd Big x) (hi : i < x.length) (hk : k + ((slice e r).cnt : Nat) ≤ Top) (hk0 : 0 ≤ k) :
    0 ≤ (mkL r (x.take i) k).2 ∧ (mkL r (x.take i) k).2 + (r.cnt : Nat) ≤ Top := by
  have h1 := mkL_ge (r := r) (x.take i) k
  have h2 := mkL_le (r := r) (x.take i) k (fun y hy => hb.2 y (List.mem_of_mem_take hy))
  rw [List.length_take, Nat.min_eq_left (by omega)] at h2
  have h3 : (i + 1) * r.cnt ≤ Big * r.cnt := Nat.mul_le_mul_right _ (by have := hb.1; omega)
  rw [Nat.add_mul, Nat.one_mul] at h3
  have h4 : (slice e r).cnt = Big * r.cnt := rfl
  rw [h4] at hk
  omega
end

theorem pair_held {α β : Type} {r : Rep α} {q : Rep β} {e : Bool} {a : α} {b : β} {k k' : Int} (h : (pair r q).held e (a, b) k = some k') : ∃ k1, r.held e a k = some k1 ∧ q.held e b k1 = some k' ∧ k ≤ k1 ∧ k1 ≤ k' := by
  obtain ⟨k1, h1, h2⟩ := Option.bind_eq_some_iff.1 h
  exact ⟨k1, h1, h2, r.held_ge h1, q.held_ge h2⟩
theorem int_held {x k k' : Int} (h : int.held true x k = some k') : x = k ∧ k' = k + 1 := by
  simp only [int, if_true] at h
  split at h
  · rename_i e; simp at h; exact ⟨e, h.symm⟩
  · cases h
theorem bool_held {x : Bool} {k k' : Int} (h : bool.held true x k = some k') : x = decide (k % 3 = 0) ∧ k' = k + 1 := by
  simp only [bool, if_true] at h
  split at h
  · rename_i e; simp at h; exact ⟨e, h.symm⟩
  · cases h
theorem byte_held {x : UInt8} {k k' : Int} (h : byte.held true x k = some k') : x = UInt8.ofNat (k % 256).toNat ∧ k' = k + 1 := by
  simp only [byte, if_true] at h
  split at h
  · rename_i e; simp at h; exact ⟨e, h.symm⟩
  · cases h
theorem str_held {x : ByteArray} {k k' : Int} (h : str.held true x k = some k') : x = mt k ∧ k' = k + 1 := by
  simp only [str, if_true] at h
  split at h
  · rename_i e; simp at h; exact ⟨e, h.symm⟩
  · cases h
theorem int_held0 {x k k' : Int} (h : int.held false x k = some k') : k' = k := by simp [int] at h; omega
theorem bool_held0 {x : Bool} {k k' : Int} (h : bool.held false x k = some k') : k' = k := by simp [bool] at h; omega
theorem str_held0 {x : ByteArray} {k k' : Int} (h : str.held false x k = some k') : k' = k := by simp [str] at h; omega
theorem held_step {α : Type} {r : Rep α} {x : List α} {j : Nat} {q k' : Int} (hj : j < x.length) (h : hdL r (x.drop j) q = some k') : ∃ q1, r.held true x[j] q = some q1 ∧ hdL r (x.drop (j + 1)) q1 = some k' ∧ q ≤ q1 ∧ q1 ≤ k' := by
  rw [List.drop_eq_getElem_cons hj] at h
  obtain ⟨q1, h1, h2⟩ := Option.bind_eq_some_iff.1 h
  exact ⟨q1, h1, h2, r.held_ge h1, hdL_ge _ _ _ h2⟩
theorem held_done {α : Type} {r : Rep α} {x : List α} {j : Nat} {q k' : Int} (hj : ¬ j < x.length) (h : hdL r (x.drop j) q = some k') : q = k' := by
  rw [List.drop_eq_nil_of_le (by omega)] at h
  simpa [hdL] using h

theorem fill_set {α : Type} {x : List α} {z : α} {k : Nat} (hk : k < x.length) : (x.take k ++ List.replicate (x.length - k) z).set k x[k] = x.take (k + 1) ++ List.replicate (x.length - (k + 1)) z := by
  rw [List.set_append_right _ _ (by simp; omega), List.length_take, Nat.min_eq_left (by omega), Nat.sub_self, List.take_succ_eq_append_getElem hk, List.append_assoc]
  congr 1
  rw [show x.length - k = (x.length - (k + 1)) + 1 by omega, List.replicate_succ]
  simp
theorem fill_all {α : Type} {x : List α} {z : α} {k : Nat} (hk : k ≤ x.length) (h : ¬ k < x.length) : x.take k ++ List.replicate (x.length - k) z = x := by
  rw [List.take_of_length_le (by omega), show x.length - k = 0 by omega]; simp
theorem fill_length {α : Type} {x : List α} {z : α} {k : Nat} (hk : k ≤ x.length) : (x.take k ++ List.replicate (x.length - k) z).length = x.length := by
  simp; omega
theorem at1 {α : Type} {r : Rep α} {w : World} {e : TypeId} {b len cap : Nat} {xs : List α} (h : (slice e r).raw w [.slice (some ⟨b, 0, none⟩) len cap] xs) {i : Nat} (hi : i < xs.length) (hn : r.n = 1) :
    ∃ c0, r.raw w [c0] xs[i] ∧ w.cell? ⟨b, i, none⟩ = some c0 := by
  obtain ⟨b', off', ha, c0, hr, h0⟩ := get1 h hi hn
  simp only [Option.some.injEq, Addr.mk.injEq, and_true] at ha
  obtain ⟨rfl, rfl⟩ := ha
  simp only [Nat.zero_add] at h0
  exact ⟨c0, hr, h0⟩
theorem at2 {α : Type} {r : Rep α} {w : World} {e : TypeId} {b len cap : Nat} {xs : List α} (h : (slice e r).raw w [.slice (some ⟨b, 0, none⟩) len cap] xs) {i : Nat} (hi : i < xs.length) (hn : r.n = 2) :
    ∃ c0 c1, r.raw w [c0, c1] xs[i] ∧ w.cell? ⟨b, i * 2, none⟩ = some c0 ∧ w.cell? ⟨b, i * 2 + 1, none⟩ = some c1 := by
  obtain ⟨b', off', ha, c0, c1, hr, h0, h1⟩ := get2 h hi hn
  simp only [Option.some.injEq, Addr.mk.injEq, and_true] at ha
  obtain ⟨rfl, rfl⟩ := ha
  simp only [Nat.zero_add] at h0 h1
  exact ⟨c0, c1, hr, h0, h1⟩
theorem at3 {α : Type} {r : Rep α} {w : World} {e : TypeId} {b len cap : Nat} {xs : List α} (h : (slice e r).raw w [.slice (some ⟨b, 0, none⟩) len cap] xs) {i : Nat} (hi : i < xs.length) (hn : r.n = 3) :
    ∃ c0 c1 c2, r.raw w [c0, c1, c2] xs[i] ∧ w.cell? ⟨b, i * 3, none⟩ = some c0 ∧ w.cell? ⟨b, i * 3 + 1, none⟩ = some c1 ∧ w.cell? ⟨b, i * 3 + 2, none⟩ = some c2 := by
  obtain ⟨b', off', ha, c0, c1, c2, hr, h0, h1, h2⟩ := get3 h hi hn
  simp only [Option.some.injEq, Addr.mk.injEq, and_true] at ha
  obtain ⟨rfl, rfl⟩ := ha
  simp only [Nat.zero_add] at h0 h1 h2
  exact ⟨c0, c1, c2, hr, h0, h1, h2⟩
theorem at4 {α : Type} {r : Rep α} {w : World} {e : TypeId} {b len cap : Nat} {xs : List α} (h : (slice e r).raw w [.slice (some ⟨b, 0, none⟩) len cap] xs) {i : Nat} (hi : i < xs.length) (hn : r.n = 4) :
    ∃ c0 c1 c2 c3, r.raw w [c0, c1, c2, c3] xs[i] ∧ w.cell? ⟨b, i * 4, none⟩ = some c0 ∧ w.cell? ⟨b, i * 4 + 1, none⟩ = some c1 ∧ w.cell? ⟨b, i * 4 + 2, none⟩ = some c2 ∧ w.cell? ⟨b, i * 4 + 3, none⟩ = some c3 := by
  obtain ⟨b', off', ha, c0, c1, c2, c3, hr, h0, h1, h2, h3⟩ := get4 h hi hn
  simp only [Option.some.injEq, Addr.mk.injEq, and_true] at ha
  obtain ⟨rfl, rfl⟩ := ha
  simp only [Nat.zero_add] at h0 h1 h2 h3
  exact ⟨c0, c1, c2, c3, hr, h0, h1, h2, h3⟩
theorem at5 {α : Type} {r : Rep α} {w : World} {e : TypeId} {b len cap : Nat} {xs : List α} (h : (slice e r).raw w [.slice (some ⟨b, 0, none⟩) len cap] xs) {i : Nat} (hi : i < xs.length) (hn : r.n = 5) :
    ∃ c0 c1 c2 c3 c4, r.raw w [c0, c1, c2, c3, c4] xs[i] ∧ w.cell? ⟨b, i * 5, none⟩ = some c0 ∧ w.cell? ⟨b, i * 5 + 1, none⟩ = some c1 ∧ w.cell? ⟨b, i * 5 + 2, none⟩ = some c2 ∧ w.cell? ⟨b, i * 5 + 3, none⟩ = some c3 ∧ w.cell? ⟨b, i * 5 + 4, none⟩ = some c4 := by
  obtain ⟨b', off', ha, c0, c1, c2, c3, c4, hr, h0, h1, h2, h3, h4⟩ := get5 h hi hn
  simp only [Option.some.injEq, Addr.mk.injEq, and_true] at ha
  obtain ⟨rfl, rfl⟩ := ha
  simp only [Nat.zero_add] at h0 h1 h2 h3 h4
  exact ⟨c0, c1, c2, c3, c4, hr, h0, h1, h2, h3, h4⟩
theorem at6 {α : Type} {r : Rep α} {w : World} {e : TypeId} {b len cap : Nat} {xs : List α} (h : (slice e r).raw w [.slice (some ⟨b, 0, none⟩) len cap] xs) {i : Nat} (hi : i < xs.length) (hn : r.n = 6) :
    ∃ c0 c1 c2 c3 c4 c5, r.raw w [c0, c1, c2, c3, c4, c5] xs[i] ∧ w.cell? ⟨b, i * 6, none⟩ = some c0 ∧ w.cell? ⟨b, i * 6 + 1, none⟩ = some c1 ∧ w.cell? ⟨b, i * 6 + 2, none⟩ = some c2 ∧ w.cell? ⟨b, i * 6 + 3, none⟩ = some c3 ∧ w.cell? ⟨b, i * 6 + 4, none⟩ = some c4 ∧ w.cell? ⟨b, i * 6 + 5, none⟩ = some c5 := by
  obtain ⟨b', off', ha, c0, c1, c2, c3, c4, c5, hr, h0, h1, h2, h3, h4, h5⟩ := get6 h hi hn
  simp only [Option.some.injEq, Addr.mk.injEq, and_true] at ha
  obtain ⟨rfl, rfl⟩ := ha
  simp only [Nat.zero_add] at h0 h1 h2 h3 h4 h5
  exact ⟨c0, c1, c2, c3, c4, c5, hr, h0, h1, h2, h3, h4, h5⟩
theorem at7 {α : Type} {r : Rep α} {w : World} {e : TypeId} {b len cap : Nat} {xs : List α} (h : (slice e r).raw w [.slice (some ⟨b, 0, none⟩) len cap] xs) {i : Nat} (hi : i < xs.length) (hn : r.n = 7) :
    ∃ c0 c1 c2 c3 c4 c5 c6, r.raw w [c0, c1, c2, c3, c4, c5, c6] xs[i] ∧ w.cell? ⟨b, i * 7, none⟩ = some c0 ∧ w.cell? ⟨b, i * 7 + 1, none⟩ = some c1 ∧ w.cell? ⟨b, i * 7 + 2, none⟩ = some c2 ∧ w.cell? ⟨b, i * 7 + 3, none⟩ = some c3 ∧ w.cell? ⟨b, i * 7 + 4, none⟩ = some c4 ∧ w.cell? ⟨b, i * 7 + 5, none⟩ = some c5 ∧ w.cell? ⟨b, i * 7 + 6, none⟩ = some c6 := by
  obtain ⟨b', off', ha, c0, c1, c2, c3, c4, c5, c6, hr, h0, h1, h2, h3, h4, h5, h6⟩ := get7 h hi hn
  simp only [Option.some.injEq, Addr.mk.injEq, and_true] at ha
  obtain ⟨rfl, rfl⟩ := ha
  simp only [Nat.zero_add] at h0 h1 h2 h3 h4 h5 h6
  exact ⟨c0, c1, c2, c3, c4, c5, c6, hr, h0, h1, h2, h3, h4, h5, h6⟩
theorem at8 {α : Type} {r : Rep α} {w : World} {e : TypeId} {b len cap : Nat} {xs : List α} (h : (slice e r).raw w [.slice (some ⟨b, 0, none⟩) len cap] xs) {i : Nat} (hi : i < xs.length) (hn : r.n = 8) :
    ∃ c0 c1 c2 c3 c4 c5 c6 c7, r.raw w [c0, c1, c2, c3, c4, c5, c6, c7] xs[i] ∧ w.cell? ⟨b, i * 8, none⟩ = some c0 ∧ w.cell? ⟨b, i * 8 + 1, none⟩ = some c1 ∧ w.cell? ⟨b, i * 8 + 2, none⟩ = some c2 ∧ w.cell? ⟨b, i * 8 + 3, none⟩ = some c3 ∧ w.cell? ⟨b, i * 8 + 4, none⟩ = some c4 ∧ w.cell? ⟨b, i * 8 + 5, none⟩ = some c5 ∧ w.cell? ⟨b, i * 8 + 6, none⟩ = some c6 ∧ w.cell? ⟨b, i * 8 + 7, none⟩ = some c7 := by
  obtain ⟨b', off', ha, c0, c1, c2, c3, c4, c5, c6, c7, hr, h0, h1, h2, h3, h4, h5, h6, h7⟩ := get8 h hi hn
  simp only [Option.some.injEq, Addr.mk.injEq, and_true] at ha
  obtain ⟨rfl, rfl⟩ := ha
  simp only [Nat.zero_add] at h0 h1 h2 h3 h4 h5 h6 h7
  exact ⟨c0, c1, c2, c3, c4, c5, c6, c7, hr, h0, h1, h2, h3, h4, h5, h6, h7⟩
theorem at9 {α : Type} {r : Rep α} {w : World} {e : TypeId} {b len cap : Nat} {xs : List α} (h : (slice e r).raw w [.slice (some ⟨b, 0, none⟩) len cap] xs) {i : Nat} (hi : i < xs.length) (hn : r.n = 9) :
    ∃ c0 c1 c2 c3 c4 c5 c6 c7 c8, r.raw w [c0, c1, c2, c3, c4, c5, c6, c7, c8] xs[i] ∧ w.cell? ⟨b, i * 9, none⟩ = some c0 ∧ w.cell? ⟨b, i * 9 + 1, none⟩ = some c1 ∧ w.cell? ⟨b, i * 9 + 2, none⟩ = some c2 ∧ w.cell? ⟨b, i * 9 + 3, none⟩ = some c3 ∧ w.cell? ⟨b, i * 9 + 4, none⟩ = some c4 ∧ w.cell? ⟨b, i * 9 + 5, none⟩ = some c5 ∧ w.cell? ⟨b, i * 9 + 6, none⟩ = some c6 ∧ w.cell? ⟨b, i * 9 + 7, none⟩ = some c7 ∧ w.cell? ⟨b, i * 9 + 8, none⟩ = some c8 := by
  obtain ⟨b', off', ha, c0, c1, c2, c3, c4, c5, c6, c7, c8, hr, h0, h1, h2, h3, h4, h5, h6, h7, h8⟩ := get9 h hi hn
  simp only [Option.some.injEq, Addr.mk.injEq, and_true] at ha
  obtain ⟨rfl, rfl⟩ := ha
  simp only [Nat.zero_add] at h0 h1 h2 h3 h4 h5 h6 h7 h8
  exact ⟨c0, c1, c2, c3, c4, c5, c6, c7, c8, hr, h0, h1, h2, h3, h4, h5, h6, h7, h8⟩
theorem at10 {α : Type} {r : Rep α} {w : World} {e : TypeId} {b len cap : Nat} {xs : List α} (h : (slice e r).raw w [.slice (some ⟨b, 0, none⟩) len cap] xs) {i : Nat} (hi : i < xs.length) (hn : r.n = 10) :
    ∃ c0 c1 c2 c3 c4 c5 c6 c7 c8 c9, r.raw w [c0, c1, c2, c3, c4, c5, c6, c7, c8, c9] xs[i] ∧ w.cell? ⟨b, i * 10, none⟩ = some c0 ∧ w.cell? ⟨b, i * 10 + 1, none⟩ = some c1 ∧ w.cell? ⟨b, i * 10 + 2, none⟩ = some c2 ∧ w.cell? ⟨b, i * 10 + 3, none⟩ = some c3 ∧ w.cell? ⟨b, i * 10 + 4, none⟩ = some c4 ∧ w.cell? ⟨b, i * 10 + 5, none⟩ = some c5 ∧ w.cell? ⟨b, i * 10 + 6, none⟩ = some c6 ∧ w.cell? ⟨b, i * 10 + 7, none⟩ = some c7 ∧ w.cell? ⟨b, i * 10 + 8, none⟩ = some c8 ∧ w.cell? ⟨b, i * 10 + 9, none⟩ = some c9 := by
  obtain ⟨b', off', ha, c0, c1, c2, c3, c4, c5, c6, c7, c8, c9, hr, h0, h1, h2, h3, h4, h5, h6, h7, h8, h9⟩ := get10 h hi hn
  simp only [Option.some.injEq, Addr.mk.injEq, and_true] at ha
  obtain ⟨rfl, rfl⟩ := ha
  simp only [Nat.zero_add] at h0 h1 h2 h3 h4 h5 h6 h7 h8 h9
  exact ⟨c0, c1, c2, c3, c4, c5, c6, c7, c8, c9, hr, h0, h1, h2, h3, h4, h5, h6, h7, h8, h9⟩
theorem at11 {α : Type} {r : Rep α} {w : World} {e : TypeId} {b len cap : Nat} {xs : List α} (h : (slice e r).raw w [.slice (some ⟨b, 0, none⟩) len cap] xs) {i : Nat} (hi : i < xs.length) (hn : r.n = 11) :
    ∃ c0 c1 c2 c3 c4 c5 c6 c7 c8 c9 c10, r.raw w [c0, c1, c2, c3, c4, c5, c6, c7, c8, c9, c10] xs[i] ∧ w.cell? ⟨b, i * 11, none⟩ = some c0 ∧ w.cell? ⟨b, i * 11 + 1, none⟩ = some c1 ∧ w.cell? ⟨b, i * 11 + 2, none⟩ = some c2 ∧ w.cell? ⟨b, i * 11 + 3, none⟩ = some c3 ∧ w.cell? ⟨b, i * 11 + 4, none⟩ = some c4 ∧ w.cell? ⟨b, i * 11 + 5, none⟩ = some c5 ∧ w.cell? ⟨b, i * 11 + 6, none⟩ = some c6 ∧ w.cell? ⟨b, i * 11 + 7, none⟩ = some c7 ∧ w.cell? ⟨b, i * 11 + 8, none⟩ = some c8 ∧ w.cell? ⟨b, i * 11 + 9, none⟩ = some c9 ∧ w.cell? ⟨b, i * 11 + 10, none⟩ = some c10 := by
  obtain ⟨b', off', ha, c0, c1, c2, c3, c4, c5, c6, c7, c8, c9, c10, hr, h0, h1, h2, h3, h4, h5, h6, h7, h8, h9, h10⟩ := get11 h hi hn
  simp only [Option.some.injEq, Addr.mk.injEq, and_true] at ha
  obtain ⟨rfl, rfl⟩ := ha
  simp only [Nat.zero_add] at h0 h1 h2 h3 h4 h5 h6 h7 h8 h9 h10
  exact ⟨c0, c1, c2, c3, c4, c5, c6, c7, c8, c9, c10, hr, h0, h1, h2, h3, h4, h5, h6, h7, h8, h9, h10⟩
theorem at12 {α : Type} {r : Rep α} {w : World} {e : TypeId} {b len cap : Nat} {xs : List α} (h : (slice e r).raw w [.slice (some ⟨b, 0, none⟩) len cap] xs) {i : Nat} (hi : i < xs.length) (hn : r.n = 12) :
    ∃ c0 c1 c2 c3 c4 c5 c6 c7 c8 c9 c10 c11, r.raw w [c0, c1, c2, c3, c4, c5, c6, c7, c8, c9, c10, c11] xs[i] ∧ w.cell? ⟨b, i * 12, none⟩ = some c0 ∧ w.cell? ⟨b, i * 12 + 1, none⟩ = some c1 ∧ w.cell? ⟨b, i * 12 + 2, none⟩ = some c2 ∧ w.cell? ⟨b, i * 12 + 3, none⟩ = some c3 ∧ w.cell? ⟨b, i * 12 + 4, none⟩ = some c4 ∧ w.cell? ⟨b, i * 12 + 5, none⟩ = some c5 ∧ w.cell? ⟨b, i * 12 + 6, none⟩ = some c6 ∧ w.cell? ⟨b, i * 12 + 7, none⟩ = some c7 ∧ w.cell? ⟨b, i * 12 + 8, none⟩ = some c8 ∧ w.cell? ⟨b, i * 12 + 9, none⟩ = some c9 ∧ w.cell? ⟨b, i * 12 + 10, none⟩ = some c10 ∧ w.cell? ⟨b, i * 12 + 11, none⟩ = some c11 := by
  obtain ⟨b', off', ha, c0, c1, c2, c3, c4, c5, c6, c7, c8, c9, c10, c11, hr, h0, h1, h2, h3, h4, h5, h6, h7, h8, h9, h10, h11⟩ := get12 h hi hn
  simp only [Option.some.injEq, Addr.mk.injEq, and_true] at ha
  obtain ⟨rfl, rfl⟩ := ha
  simp only [Nat.zero_add] at h0 h1 h2 h3 h4 h5 h6 h7 h8 h9 h10 h11
  exact ⟨c0, c1, c2, c3, c4, c5, c6, c7, c8, c9, c10, c11, hr, h0, h1, h2, h3, h4, h5, h6, h7, h8, h9, h10, h11⟩
end Rep

/-- What a marking call does. -/
def MarkPost {α : Type} (r : Rep α) (el : Bool) (x : α) (k : Int) (cs : List Value) (S : Nat → Prop) (w : World) (e : Ending) (w' : World) : Prop :=
  e = .returned (.int .i64 (r.mark el x k).2) ∧ r.own w' cs (r.mark el x k).1 S ∧ Touch S w w'
/-- What a call makes: a value that owns its memory, which is new. -/
def MadePost {α : Type} (r : Rep α) (x : α) (w : World) (e : Ending) (w' : World) : Prop := ∃ v, e = .returned v ∧ r.own w' [v] x (Btw w.heap.size w'.heap.size) ∧ Below w.heap.size w w'
def MadeAgg {α : Type} (r : Rep α) (x : α) (w : World) (e : Ending) (w' : World) : Prop := ∃ cs, e = .returned (.agg cs.toArray) ∧ r.own w' cs x (Btw w.heap.size w'.heap.size) ∧ Below w.heap.size w w'
/-! All cells of a block at once. -/
theorem rowC2 {W : World} {b : Nat} {t : TypeId} {fr : Nat × Nat} {c0 c1 : Value} (h : W.heap[b]? = some (.cells #[c0, c1] t fr)) : W.cell? ⟨b, 0, none⟩ = some c0 ∧ W.cell? ⟨b, 1, none⟩ = some c1 :=
  ⟨boxCell h rfl, boxCell h rfl⟩
theorem rowF2 {W : World} {b : Nat} {t : TypeId} {a : Array Value} (h : W.heap[b]? = some (.cells a t (0, 0))) : W.frozen? ⟨b, 0, none⟩ = false ∧ W.frozen? ⟨b, 1, none⟩ = false :=
  ⟨frozen_of_row W b 0 _ _ h, frozen_of_row W b 1 _ _ h⟩
theorem rowC3 {W : World} {b : Nat} {t : TypeId} {fr : Nat × Nat} {c0 c1 c2 : Value} (h : W.heap[b]? = some (.cells #[c0, c1, c2] t fr)) : W.cell? ⟨b, 0, none⟩ = some c0 ∧ W.cell? ⟨b, 1, none⟩ = some c1 ∧ W.cell? ⟨b, 2, none⟩ = some c2 :=
  ⟨boxCell h rfl, boxCell h rfl, boxCell h rfl⟩
theorem rowF3 {W : World} {b : Nat} {t : TypeId} {a : Array Value} (h : W.heap[b]? = some (.cells a t (0, 0))) : W.frozen? ⟨b, 0, none⟩ = false ∧ W.frozen? ⟨b, 1, none⟩ = false ∧ W.frozen? ⟨b, 2, none⟩ = false :=
  ⟨frozen_of_row W b 0 _ _ h, frozen_of_row W b 1 _ _ h, frozen_of_row W b 2 _ _ h⟩
theorem rowC4 {W : World} {b : Nat} {t : TypeId} {fr : Nat × Nat} {c0 c1 c2 c3 : Value} (h : W.heap[b]? = some (.cells #[c0, c1, c2, c3] t fr)) : W.cell? ⟨b, 0, none⟩ = some c0 ∧ W.cell? ⟨b, 1, none⟩ = some c1 ∧ W.cell? ⟨b, 2, none⟩ = some c2 ∧ W.cell? ⟨b, 3, none⟩ = some c3 :=
  ⟨boxCell h rfl, boxCell h rfl, boxCell h rfl, boxCell h rfl⟩
theorem rowF4 {W : World} {b : Nat} {t : TypeId} {a : Array Value} (h : W.heap[b]? = some (.cells a t (0, 0))) : W.frozen? ⟨b, 0, none⟩ = false ∧ W.frozen? ⟨b, 1, none⟩ = false ∧ W.frozen? ⟨b, 2, none⟩ = false ∧ W.frozen? ⟨b, 3, none⟩ = false :=
  ⟨frozen_of_row W b 0 _ _ h, frozen_of_row W b 1 _ _ h, frozen_of_row W b 2 _ _ h, frozen_of_row W b 3 _ _ h⟩
theorem rowC5 {W : World} {b : Nat} {t : TypeId} {fr : Nat × Nat} {c0 c1 c2 c3 c4 : Value} (h : W.heap[b]? = some (.cells #[c0, c1, c2, c3, c4] t fr)) : W.cell? ⟨b, 0, none⟩ = some c0 ∧ W.cell? ⟨b, 1, none⟩ = some c1 ∧ W.cell? ⟨b, 2, none⟩ = some c2 ∧ W.cell? ⟨b, 3, none⟩ = some c3 ∧ W.cell? ⟨b, 4, none⟩ = some c4 :=
  ⟨boxCell h rfl, boxCell h rfl, boxCell h rfl, boxCell h rfl, boxCell h rfl⟩
theorem rowF5 {W : World} {b : Nat} {t : TypeId} {a : Array Value} (h : W.heap[b]? = some (.cells a t (0, 0))) : W.frozen? ⟨b, 0, none⟩ = false ∧ W.frozen? ⟨b, 1, none⟩ = false ∧ W.frozen? ⟨b, 2, none⟩ = false ∧ W.frozen? ⟨b, 3, none⟩ = false ∧ W.frozen? ⟨b, 4, none⟩ = false :=
  ⟨frozen_of_row W b 0 _ _ h, frozen_of_row W b 1 _ _ h, frozen_of_row W b 2 _ _ h, frozen_of_row W b 3 _ _ h, frozen_of_row W b 4 _ _ h⟩
theorem rowC6 {W : World} {b : Nat} {t : TypeId} {fr : Nat × Nat} {c0 c1 c2 c3 c4 c5 : Value} (h : W.heap[b]? = some (.cells #[c0, c1, c2, c3, c4, c5] t fr)) : W.cell? ⟨b, 0, none⟩ = some c0 ∧ W.cell? ⟨b, 1, none⟩ = some c1 ∧ W.cell? ⟨b, 2, none⟩ = some c2 ∧ W.cell? ⟨b, 3, none⟩ = some c3 ∧ W.cell? ⟨b, 4, none⟩ = some c4 ∧ W.cell? ⟨b, 5, none⟩ = some c5 :=
  ⟨boxCell h rfl, boxCell h rfl, boxCell h rfl, boxCell h rfl, boxCell h rfl, boxCell h rfl⟩
theorem rowF6 {W : World} {b : Nat} {t : TypeId} {a : Array Value} (h : W.heap[b]? = some (.cells a t (0, 0))) : W.frozen? ⟨b, 0, none⟩ = false ∧ W.frozen? ⟨b, 1, none⟩ = false ∧ W.frozen? ⟨b, 2, none⟩ = false ∧ W.frozen? ⟨b, 3, none⟩ = false ∧ W.frozen? ⟨b, 4, none⟩ = false ∧ W.frozen? ⟨b, 5, none⟩ = false :=
  ⟨frozen_of_row W b 0 _ _ h, frozen_of_row W b 1 _ _ h, frozen_of_row W b 2 _ _ h, frozen_of_row W b 3 _ _ h, frozen_of_row W b 4 _ _ h, frozen_of_row W b 5 _ _ h⟩
theorem rowC7 {W : World} {b : Nat} {t : TypeId} {fr : Nat × Nat} {c0 c1 c2 c3 c4 c5 c6 : Value} (h : W.heap[b]? = some (.cells #[c0, c1, c2, c3, c4, c5, c6] t fr)) : W.cell? ⟨b, 0, none⟩ = some c0 ∧ W.cell? ⟨b, 1, none⟩ = some c1 ∧ W.cell? ⟨b, 2, none⟩ = some c2 ∧ W.cell? ⟨b, 3, none⟩ = some c3 ∧ W.cell? ⟨b, 4, none⟩ = some c4 ∧ W.cell? ⟨b, 5, none⟩ = some c5 ∧ W.cell? ⟨b, 6, none⟩ = some c6 :=
  ⟨boxCell h rfl, boxCell h rfl, boxCell h rfl, boxCell h rfl, boxCell h rfl, boxCell h rfl, boxCell h rfl⟩
theorem rowF7 {W : World} {b : Nat} {t : TypeId} {a : Array Value} (h : W.heap[b]? = some (.cells a t (0, 0))) : W.frozen? ⟨b, 0, none⟩ = false ∧ W.frozen? ⟨b, 1, none⟩ = false ∧ W.frozen? ⟨b, 2, none⟩ = false ∧ W.frozen? ⟨b, 3, none⟩ = false ∧ W.frozen? ⟨b, 4, none⟩ = false ∧ W.frozen? ⟨b, 5, none⟩ = false ∧ W.frozen? ⟨b, 6, none⟩ = false :=
  ⟨frozen_of_row W b 0 _ _ h, frozen_of_row W b 1 _ _ h, frozen_of_row W b 2 _ _ h, frozen_of_row W b 3 _ _ h, frozen_of_row W b 4 _ _ h, frozen_of_row W b 5 _ _ h, frozen_of_row W b 6 _ _ h⟩
theorem rowC8 {W : World} {b : Nat} {t : TypeId} {fr : Nat × Nat} {c0 c1 c2 c3 c4 c5 c6 c7 : Value} (h : W.heap[b]? = some (.cells #[c0, c1, c2, c3, c4, c5, c6, c7] t fr)) : W.cell? ⟨b, 0, none⟩ = some c0 ∧ W.cell? ⟨b, 1, none⟩ = some c1 ∧ W.cell? ⟨b, 2, none⟩ = some c2 ∧ W.cell? ⟨b, 3, none⟩ = some c3 ∧ W.cell? ⟨b, 4, none⟩ = some c4 ∧ W.cell? ⟨b, 5, none⟩ = some c5 ∧ W.cell? ⟨b, 6, none⟩ = some c6 ∧ W.cell? ⟨b, 7, none⟩ = some c7 :=
  ⟨boxCell h rfl, boxCell h rfl, boxCell h rfl, boxCell h rfl, boxCell h rfl, boxCell h rfl, boxCell h rfl, boxCell h rfl⟩
theorem rowF8 {W : World} {b : Nat} {t : TypeId} {a : Array Value} (h : W.heap[b]? = some (.cells a t (0, 0))) : W.frozen? ⟨b, 0, none⟩ = false ∧ W.frozen? ⟨b, 1, none⟩ = false ∧ W.frozen? ⟨b, 2, none⟩ = false ∧ W.frozen? ⟨b, 3, none⟩ = false ∧ W.frozen? ⟨b, 4, none⟩ = false ∧ W.frozen? ⟨b, 5, none⟩ = false ∧ W.frozen? ⟨b, 6, none⟩ = false ∧ W.frozen? ⟨b, 7, none⟩ = false :=
  ⟨frozen_of_row W b 0 _ _ h, frozen_of_row W b 1 _ _ h, frozen_of_row W b 2 _ _ h, frozen_of_row W b 3 _ _ h, frozen_of_row W b 4 _ _ h, frozen_of_row W b 5 _ _ h, frozen_of_row W b 6 _ _ h, frozen_of_row W b 7 _ _ h⟩
theorem rowC9 {W : World} {b : Nat} {t : TypeId} {fr : Nat × Nat} {c0 c1 c2 c3 c4 c5 c6 c7 c8 : Value} (h : W.heap[b]? = some (.cells #[c0, c1, c2, c3, c4, c5, c6, c7, c8] t fr)) : W.cell? ⟨b, 0, none⟩ = some c0 ∧ W.cell? ⟨b, 1, none⟩ = some c1 ∧ W.cell? ⟨b, 2, none⟩ = some c2 ∧ W.cell? ⟨b, 3, none⟩ = some c3 ∧ W.cell? ⟨b, 4, none⟩ = some c4 ∧ W.cell? ⟨b, 5, none⟩ = some c5 ∧ W.cell? ⟨b, 6, none⟩ = some c6 ∧ W.cell? ⟨b, 7, none⟩ = some c7 ∧ W.cell? ⟨b, 8, none⟩ = some c8 :=
  ⟨boxCell h rfl, boxCell h rfl, boxCell h rfl, boxCell h rfl, boxCell h rfl, boxCell h rfl, boxCell h rfl, boxCell h rfl, boxCell h rfl⟩
theorem rowF9 {W : World} {b : Nat} {t : TypeId} {a : Array Value} (h : W.heap[b]? = some (.cells a t (0, 0))) : W.frozen? ⟨b, 0, none⟩ = false ∧ W.frozen? ⟨b, 1, none⟩ = false ∧ W.frozen? ⟨b, 2, none⟩ = false ∧ W.frozen? ⟨b, 3, none⟩ = false ∧ W.frozen? ⟨b, 4, none⟩ = false ∧ W.frozen? ⟨b, 5, none⟩ = false ∧ W.frozen? ⟨b, 6, none⟩ = false ∧ W.frozen? ⟨b, 7, none⟩ = false ∧ W.frozen? ⟨b, 8, none⟩ = false :=
  ⟨frozen_of_row W b 0 _ _ h, frozen_of_row W b 1 _ _ h, frozen_of_row W b 2 _ _ h, frozen_of_row W b 3 _ _ h, frozen_of_row W b 4 _ _ h, frozen_of_row W b 5 _ _ h, frozen_of_row W b 6 _ _ h, frozen_of_row W b 7 _ _ h, frozen_of_row W b 8 _ _ h⟩
theorem rowC10 {W : World} {b : Nat} {t : TypeId} {fr : Nat × Nat} {c0 c1 c2 c3 c4 c5 c6 c7 c8 c9 : Value} (h : W.heap[b]? = some (.cells #[c0, c1, c2, c3, c4, c5, c6, c7, c8, c9] t fr)) : W.cell? ⟨b, 0, none⟩ = some c0 ∧ W.cell? ⟨b, 1, none⟩ = some c1 ∧ W.cell? ⟨b, 2, none⟩ = some c2 ∧ W.cell? ⟨b, 3, none⟩ = some c3 ∧ W.cell? ⟨b, 4, none⟩ = some c4 ∧ W.cell? ⟨b, 5, none⟩ = some c5 ∧ W.cell? ⟨b, 6, none⟩ = some c6 ∧ W.cell? ⟨b, 7, none⟩ = some c7 ∧ W.cell? ⟨b, 8, none⟩ = some c8 ∧ W.cell? ⟨b, 9, none⟩ = some c9 :=
  ⟨boxCell h rfl, boxCell h rfl, boxCell h rfl, boxCell h rfl, boxCell h rfl, boxCell h rfl, boxCell h rfl, boxCell h rfl, boxCell h rfl, boxCell h rfl⟩
theorem rowF10 {W : World} {b : Nat} {t : TypeId} {a : Array Value} (h : W.heap[b]? = some (.cells a t (0, 0))) : W.frozen? ⟨b, 0, none⟩ = false ∧ W.frozen? ⟨b, 1, none⟩ = false ∧ W.frozen? ⟨b, 2, none⟩ = false ∧ W.frozen? ⟨b, 3, none⟩ = false ∧ W.frozen? ⟨b, 4, none⟩ = false ∧ W.frozen? ⟨b, 5, none⟩ = false ∧ W.frozen? ⟨b, 6, none⟩ = false ∧ W.frozen? ⟨b, 7, none⟩ = false ∧ W.frozen? ⟨b, 8, none⟩ = false ∧ W.frozen? ⟨b, 9, none⟩ = false :=
  ⟨frozen_of_row W b 0 _ _ h, frozen_of_row W b 1 _ _ h, frozen_of_row W b 2 _ _ h, frozen_of_row W b 3 _ _ h, frozen_of_row W b 4 _ _ h, frozen_of_row W b 5 _ _ h, frozen_of_row W b 6 _ _ h, frozen_of_row W b 7 _ _ h, frozen_of_row W b 8 _ _ h, frozen_of_row W b 9 _ _ h⟩
theorem rowC11 {W : World} {b : Nat} {t : TypeId} {fr : Nat × Nat} {c0 c1 c2 c3 c4 c5 c6 c7 c8 c9 c10 : Value} (h : W.heap[b]? = some (.cells #[c0, c1, c2, c3, c4, c5, c6, c7, c8, c9, c10] t fr)) : W.cell? ⟨b, 0, none⟩ = some c0 ∧ W.cell? ⟨b, 1, none⟩ = some c1 ∧ W.cell? ⟨b, 2, none⟩ = some c2 ∧ W.cell? ⟨b, 3, none⟩ = some c3 ∧ W.cell? ⟨b, 4, none⟩ = some c4 ∧ W.cell? ⟨b, 5, none⟩ = some c5 ∧ W.cell? ⟨b, 6, none⟩ = some c6 ∧ W.cell? ⟨b, 7, none⟩ = some c7 ∧ W.cell? ⟨b, 8, none⟩ = some c8 ∧ W.cell? ⟨b, 9, none⟩ = some c9 ∧ W.cell? ⟨b, 10, none⟩ = some c10 :=
  ⟨boxCell h rfl, boxCell h rfl, boxCell h rfl, boxCell h rfl, boxCell h rfl, boxCell h rfl, boxCell h rfl, boxCell h rfl, boxCell h rfl, boxCell h rfl, boxCell h rfl⟩
theorem rowF11 {W : World} {b : Nat} {t : TypeId} {a : Array Value} (h : W.heap[b]? = some (.cells a t (0, 0))) : W.frozen? ⟨b, 0, none⟩ = false ∧ W.frozen? ⟨b, 1, none⟩ = false ∧ W.frozen? ⟨b, 2, none⟩ = false ∧ W.frozen? ⟨b, 3, none⟩ = false ∧ W.frozen? ⟨b, 4, none⟩ = false ∧ W.frozen? ⟨b, 5, none⟩ = false ∧ W.frozen? ⟨b, 6, none⟩ = false ∧ W.frozen? ⟨b, 7, none⟩ = false ∧ W.frozen? ⟨b, 8, none⟩ = false ∧ W.frozen? ⟨b, 9, none⟩ = false ∧ W.frozen? ⟨b, 10, none⟩ = false :=
  ⟨frozen_of_row W b 0 _ _ h, frozen_of_row W b 1 _ _ h, frozen_of_row W b 2 _ _ h, frozen_of_row W b 3 _ _ h, frozen_of_row W b 4 _ _ h, frozen_of_row W b 5 _ _ h, frozen_of_row W b 6 _ _ h, frozen_of_row W b 7 _ _ h, frozen_of_row W b 8 _ _ h, frozen_of_row W b 9 _ _ h, frozen_of_row W b 10 _ _ h⟩
theorem rowC12 {W : World} {b : Nat} {t : TypeId} {fr : Nat × Nat} {c0 c1 c2 c3 c4 c5 c6 c7 c8 c9 c10 c11 : Value} (h : W.heap[b]? = some (.cells #[c0, c1, c2, c3, c4, c5, c6, c7, c8, c9, c10, c11] t fr)) : W.cell? ⟨b, 0, none⟩ = some c0 ∧ W.cell? ⟨b, 1, none⟩ = some c1 ∧ W.cell? ⟨b, 2, none⟩ = some c2 ∧ W.cell? ⟨b, 3, none⟩ = some c3 ∧ W.cell? ⟨b, 4, none⟩ = some c4 ∧ W.cell? ⟨b, 5, none⟩ = some c5 ∧ W.cell? ⟨b, 6, none⟩ = some c6 ∧ W.cell? ⟨b, 7, none⟩ = some c7 ∧ W.cell? ⟨b, 8, none⟩ = some c8 ∧ W.cell? ⟨b, 9, none⟩ = some c9 ∧ W.cell? ⟨b, 10, none⟩ = some c10 ∧ W.cell? ⟨b, 11, none⟩ = some c11 :=
  ⟨boxCell h rfl, boxCell h rfl, boxCell h rfl, boxCell h rfl, boxCell h rfl, boxCell h rfl, boxCell h rfl, boxCell h rfl, boxCell h rfl, boxCell h rfl, boxCell h rfl, boxCell h rfl⟩
theorem rowF12 {W : World} {b : Nat} {t : TypeId} {a : Array Value} (h : W.heap[b]? = some (.cells a t (0, 0))) : W.frozen? ⟨b, 0, none⟩ = false ∧ W.frozen? ⟨b, 1, none⟩ = false ∧ W.frozen? ⟨b, 2, none⟩ = false ∧ W.frozen? ⟨b, 3, none⟩ = false ∧ W.frozen? ⟨b, 4, none⟩ = false ∧ W.frozen? ⟨b, 5, none⟩ = false ∧ W.frozen? ⟨b, 6, none⟩ = false ∧ W.frozen? ⟨b, 7, none⟩ = false ∧ W.frozen? ⟨b, 8, none⟩ = false ∧ W.frozen? ⟨b, 9, none⟩ = false ∧ W.frozen? ⟨b, 10, none⟩ = false ∧ W.frozen? ⟨b, 11, none⟩ = false :=
  ⟨frozen_of_row W b 0 _ _ h, frozen_of_row W b 1 _ _ h, frozen_of_row W b 2 _ _ h, frozen_of_row W b 3 _ _ h, frozen_of_row W b 4 _ _ h, frozen_of_row W b 5 _ _ h, frozen_of_row W b 6 _ _ h, frozen_of_row W b 7 _ _ h, frozen_of_row W b 8 _ _ h, frozen_of_row W b 9 _ _ h, frozen_of_row W b 10 _ _ h, frozen_of_row W b 11 _ _ h⟩
theorem cLs2 {W W2 : World} {p0 p1 : Addr} {v0 v1 : Value} (hb : Below W.heap.size W W2) (h0 : W.cell? p0 = some v0) (h1 : W.cell? p1 = some v1) : W2.cell? p0 = some v0 ∧ W2.cell? p1 = some v1 :=
  ⟨cell_later hb h0, cell_later hb h1⟩
theorem cLs3 {W W2 : World} {p0 p1 p2 : Addr} {v0 v1 v2 : Value} (hb : Below W.heap.size W W2) (h0 : W.cell? p0 = some v0) (h1 : W.cell? p1 = some v1) (h2 : W.cell? p2 = some v2) : W2.cell? p0 = some v0 ∧ W2.cell? p1 = some v1 ∧ W2.cell? p2 = some v2 :=
  ⟨cell_later hb h0, cell_later hb h1, cell_later hb h2⟩
theorem cLs4 {W W2 : World} {p0 p1 p2 p3 : Addr} {v0 v1 v2 v3 : Value} (hb : Below W.heap.size W W2) (h0 : W.cell? p0 = some v0) (h1 : W.cell? p1 = some v1) (h2 : W.cell? p2 = some v2) (h3 : W.cell? p3 = some v3) : W2.cell? p0 = some v0 ∧ W2.cell? p1 = some v1 ∧ W2.cell? p2 = some v2 ∧ W2.cell? p3 = some v3 :=
  ⟨cell_later hb h0, cell_later hb h1, cell_later hb h2, cell_later hb h3⟩
theorem cLs5 {W W2 : World} {p0 p1 p2 p3 p4 : Addr} {v0 v1 v2 v3 v4 : Value} (hb : Below W.heap.size W W2) (h0 : W.cell? p0 = some v0) (h1 : W.cell? p1 = some v1) (h2 : W.cell? p2 = some v2) (h3 : W.cell? p3 = some v3) (h4 : W.cell? p4 = some v4) : W2.cell? p0 = some v0 ∧ W2.cell? p1 = some v1 ∧ W2.cell? p2 = some v2 ∧ W2.cell? p3 = some v3 ∧ W2.cell? p4 = some v4 :=
  ⟨cell_later hb h0, cell_later hb h1, cell_later hb h2, cell_later hb h3, cell_later hb h4⟩
theorem cLs6 {W W2 : World} {p0 p1 p2 p3 p4 p5 : Addr} {v0 v1 v2 v3 v4 v5 : Value} (hb : Below W.heap.size W W2) (h0 : W.cell? p0 = some v0) (h1 : W.cell? p1 = some v1) (h2 : W.cell? p2 = some v2) (h3 : W.cell? p3 = some v3) (h4 : W.cell? p4 = some v4) (h5 : W.cell? p5 = some v5) : W2.cell? p0 = some v0 ∧ W2.cell? p1 = some v1 ∧ W2.cell? p2 = some v2 ∧ W2.cell? p3 = some v3 ∧ W2.cell? p4 = some v4 ∧ W2.cell? p5 = some v5 :=
  ⟨cell_later hb h0, cell_later hb h1, cell_later hb h2, cell_later hb h3, cell_later hb h4, cell_later hb h5⟩
theorem cLs7 {W W2 : World} {p0 p1 p2 p3 p4 p5 p6 : Addr} {v0 v1 v2 v3 v4 v5 v6 : Value} (hb : Below W.heap.size W W2) (h0 : W.cell? p0 = some v0) (h1 : W.cell? p1 = some v1) (h2 : W.cell? p2 = some v2) (h3 : W.cell? p3 = some v3) (h4 : W.cell? p4 = some v4) (h5 : W.cell? p5 = some v5) (h6 : W.cell? p6 = some v6) : W2.cell? p0 = some v0 ∧ W2.cell? p1 = some v1 ∧ W2.cell? p2 = some v2 ∧ W2.cell? p3 = some v3 ∧ W2.cell? p4 = some v4 ∧ W2.cell? p5 = some v5 ∧ W2.cell? p6 = some v6 :=
  ⟨cell_later hb h0, cell_later hb h1, cell_later hb h2, cell_later hb h3, cell_later hb h4, cell_later hb h5, cell_later hb h6⟩
theorem cLs8 {W W2 : World} {p0 p1 p2 p3 p4 p5 p6 p7 : Addr} {v0 v1 v2 v3 v4 v5 v6 v7 : Value} (hb : Below W.heap.size W W2) (h0 : W.cell? p0 = some v0) (h1 : W.cell? p1 = some v1) (h2 : W.cell? p2 = some v2) (h3 : W.cell? p3 = some v3) (h4 : W.cell? p4 = some v4) (h5 : W.cell? p5 = some v5) (h6 : W.cell? p6 = some v6) (h7 : W.cell? p7 = some v7) : W2.cell? p0 = some v0 ∧ W2.cell? p1 = some v1 ∧ W2.cell? p2 = some v2 ∧ W2.cell? p3 = some v3 ∧ W2.cell? p4 = some v4 ∧ W2.cell? p5 = some v5 ∧ W2.cell? p6 = some v6 ∧ W2.cell? p7 = some v7 :=
  ⟨cell_later hb h0, cell_later hb h1, cell_later hb h2, cell_later hb h3, cell_later hb h4, cell_later hb h5, cell_later hb h6, cell_later hb h7⟩
theorem cLs9 {W W2 : World} {p0 p1 p2 p3 p4 p5 p6 p7 p8 : Addr} {v0 v1 v2 v3 v4 v5 v6 v7 v8 : Value} (hb : Below W.heap.size W W2) (h0 : W.cell? p0 = some v0) (h1 : W.cell? p1 = some v1) (h2 : W.cell? p2 = some v2) (h3 : W.cell? p3 = some v3) (h4 : W.cell? p4 = some v4) (h5 : W.cell? p5 = some v5) (h6 : W.cell? p6 = some v6) (h7 : W.cell? p7 = some v7) (h8 : W.cell? p8 = some v8) : W2.cell? p0 = some v0 ∧ W2.cell? p1 = some v1 ∧ W2.cell? p2 = some v2 ∧ W2.cell? p3 = some v3 ∧ W2.cell? p4 = some v4 ∧ W2.cell? p5 = some v5 ∧ W2.cell? p6 = some v6 ∧ W2.cell? p7 = some v7 ∧ W2.cell? p8 = some v8 :=
  ⟨cell_later hb h0, cell_later hb h1, cell_later hb h2, cell_later hb h3, cell_later hb h4, cell_later hb h5, cell_later hb h6, cell_later hb h7, cell_later hb h8⟩
theorem cLs10 {W W2 : World} {p0 p1 p2 p3 p4 p5 p6 p7 p8 p9 : Addr} {v0 v1 v2 v3 v4 v5 v6 v7 v8 v9 : Value} (hb : Below W.heap.size W W2) (h0 : W.cell? p0 = some v0) (h1 : W.cell? p1 = some v1) (h2 : W.cell? p2 = some v2) (h3 : W.cell? p3 = some v3) (h4 : W.cell? p4 = some v4) (h5 : W.cell? p5 = some v5) (h6 : W.cell? p6 = some v6) (h7 : W.cell? p7 = some v7) (h8 : W.cell? p8 = some v8) (h9 : W.cell? p9 = some v9) : W2.cell? p0 = some v0 ∧ W2.cell? p1 = some v1 ∧ W2.cell? p2 = some v2 ∧ W2.cell? p3 = some v3 ∧ W2.cell? p4 = some v4 ∧ W2.cell? p5 = some v5 ∧ W2.cell? p6 = some v6 ∧ W2.cell? p7 = some v7 ∧ W2.cell? p8 = some v8 ∧ W2.cell? p9 = some v9 :=
  ⟨cell_later hb h0, cell_later hb h1, cell_later hb h2, cell_later hb h3, cell_later hb h4, cell_later hb h5, cell_later hb h6, cell_later hb h7, cell_later hb h8, cell_later hb h9⟩
theorem cLs11 {W W2 : World} {p0 p1 p2 p3 p4 p5 p6 p7 p8 p9 p10 : Addr} {v0 v1 v2 v3 v4 v5 v6 v7 v8 v9 v10 : Value} (hb : Below W.heap.size W W2) (h0 : W.cell? p0 = some v0) (h1 : W.cell? p1 = some v1) (h2 : W.cell? p2 = some v2) (h3 : W.cell? p3 = some v3) (h4 : W.cell? p4 = some v4) (h5 : W.cell? p5 = some v5) (h6 : W.cell? p6 = some v6) (h7 : W.cell? p7 = some v7) (h8 : W.cell? p8 = some v8) (h9 : W.cell? p9 = some v9) (h10 : W.cell? p10 = some v10) : W2.cell? p0 = some v0 ∧ W2.cell? p1 = some v1 ∧ W2.cell? p2 = some v2 ∧ W2.cell? p3 = some v3 ∧ W2.cell? p4 = some v4 ∧ W2.cell? p5 = some v5 ∧ W2.cell? p6 = some v6 ∧ W2.cell? p7 = some v7 ∧ W2.cell? p8 = some v8 ∧ W2.cell? p9 = some v9 ∧ W2.cell? p10 = some v10 :=
  ⟨cell_later hb h0, cell_later hb h1, cell_later hb h2, cell_later hb h3, cell_later hb h4, cell_later hb h5, cell_later hb h6, cell_later hb h7, cell_later hb h8, cell_later hb h9, cell_later hb h10⟩
theorem cLs12 {W W2 : World} {p0 p1 p2 p3 p4 p5 p6 p7 p8 p9 p10 p11 : Addr} {v0 v1 v2 v3 v4 v5 v6 v7 v8 v9 v10 v11 : Value} (hb : Below W.heap.size W W2) (h0 : W.cell? p0 = some v0) (h1 : W.cell? p1 = some v1) (h2 : W.cell? p2 = some v2) (h3 : W.cell? p3 = some v3) (h4 : W.cell? p4 = some v4) (h5 : W.cell? p5 = some v5) (h6 : W.cell? p6 = some v6) (h7 : W.cell? p7 = some v7) (h8 : W.cell? p8 = some v8) (h9 : W.cell? p9 = some v9) (h10 : W.cell? p10 = some v10) (h11 : W.cell? p11 = some v11) : W2.cell? p0 = some v0 ∧ W2.cell? p1 = some v1 ∧ W2.cell? p2 = some v2 ∧ W2.cell? p3 = some v3 ∧ W2.cell? p4 = some v4 ∧ W2.cell? p5 = some v5 ∧ W2.cell? p6 = some v6 ∧ W2.cell? p7 = some v7 ∧ W2.cell? p8 = some v8 ∧ W2.cell? p9 = some v9 ∧ W2.cell? p10 = some v10 ∧ W2.cell? p11 = some v11 :=
  ⟨cell_later hb h0, cell_later hb h1, cell_later hb h2, cell_later hb h3, cell_later hb h4, cell_later hb h5, cell_later hb h6, cell_later hb h7, cell_later hb h8, cell_later hb h9, cell_later hb h10, cell_later hb h11⟩
theorem cLs13 {W W2 : World} {p0 p1 p2 p3 p4 p5 p6 p7 p8 p9 p10 p11 p12 : Addr} {v0 v1 v2 v3 v4 v5 v6 v7 v8 v9 v10 v11 v12 : Value} (hb : Below W.heap.size W W2) (h0 : W.cell? p0 = some v0) (h1 : W.cell? p1 = some v1) (h2 : W.cell? p2 = some v2) (h3 : W.cell? p3 = some v3) (h4 : W.cell? p4 = some v4) (h5 : W.cell? p5 = some v5) (h6 : W.cell? p6 = some v6) (h7 : W.cell? p7 = some v7) (h8 : W.cell? p8 = some v8) (h9 : W.cell? p9 = some v9) (h10 : W.cell? p10 = some v10) (h11 : W.cell? p11 = some v11) (h12 : W.cell? p12 = some v12) : W2.cell? p0 = some v0 ∧ W2.cell? p1 = some v1 ∧ W2.cell? p2 = some v2 ∧ W2.cell? p3 = some v3 ∧ W2.cell? p4 = some v4 ∧ W2.cell? p5 = some v5 ∧ W2.cell? p6 = some v6 ∧ W2.cell? p7 = some v7 ∧ W2.cell? p8 = some v8 ∧ W2.cell? p9 = some v9 ∧ W2.cell? p10 = some v10 ∧ W2.cell? p11 = some v11 ∧ W2.cell? p12 = some v12 :=
  ⟨cell_later hb h0, cell_later hb h1, cell_later hb h2, cell_later hb h3, cell_later hb h4, cell_later hb h5, cell_later hb h6, cell_later hb h7, cell_later hb h8, cell_later hb h9, cell_later hb h10, cell_later hb h11, cell_later hb h12⟩
theorem cLs14 {W W2 : World} {p0 p1 p2 p3 p4 p5 p6 p7 p8 p9 p10 p11 p12 p13 : Addr} {v0 v1 v2 v3 v4 v5 v6 v7 v8 v9 v10 v11 v12 v13 : Value} (hb : Below W.heap.size W W2) (h0 : W.cell? p0 = some v0) (h1 : W.cell? p1 = some v1) (h2 : W.cell? p2 = some v2) (h3 : W.cell? p3 = some v3) (h4 : W.cell? p4 = some v4) (h5 : W.cell? p5 = some v5) (h6 : W.cell? p6 = some v6) (h7 : W.cell? p7 = some v7) (h8 : W.cell? p8 = some v8) (h9 : W.cell? p9 = some v9) (h10 : W.cell? p10 = some v10) (h11 : W.cell? p11 = some v11) (h12 : W.cell? p12 = some v12) (h13 : W.cell? p13 = some v13) : W2.cell? p0 = some v0 ∧ W2.cell? p1 = some v1 ∧ W2.cell? p2 = some v2 ∧ W2.cell? p3 = some v3 ∧ W2.cell? p4 = some v4 ∧ W2.cell? p5 = some v5 ∧ W2.cell? p6 = some v6 ∧ W2.cell? p7 = some v7 ∧ W2.cell? p8 = some v8 ∧ W2.cell? p9 = some v9 ∧ W2.cell? p10 = some v10 ∧ W2.cell? p11 = some v11 ∧ W2.cell? p12 = some v12 ∧ W2.cell? p13 = some v13 :=
  ⟨cell_later hb h0, cell_later hb h1, cell_later hb h2, cell_later hb h3, cell_later hb h4, cell_later hb h5, cell_later hb h6, cell_later hb h7, cell_later hb h8, cell_later hb h9, cell_later hb h10, cell_later hb h11, cell_later hb h12, cell_later hb h13⟩
theorem cLs15 {W W2 : World} {p0 p1 p2 p3 p4 p5 p6 p7 p8 p9 p10 p11 p12 p13 p14 : Addr} {v0 v1 v2 v3 v4 v5 v6 v7 v8 v9 v10 v11 v12 v13 v14 : Value} (hb : Below W.heap.size W W2) (h0 : W.cell? p0 = some v0) (h1 : W.cell? p1 = some v1) (h2 : W.cell? p2 = some v2) (h3 : W.cell? p3 = some v3) (h4 : W.cell? p4 = some v4) (h5 : W.cell? p5 = some v5) (h6 : W.cell? p6 = some v6) (h7 : W.cell? p7 = some v7) (h8 : W.cell? p8 = some v8) (h9 : W.cell? p9 = some v9) (h10 : W.cell? p10 = some v10) (h11 : W.cell? p11 = some v11) (h12 : W.cell? p12 = some v12) (h13 : W.cell? p13 = some v13) (h14 : W.cell? p14 = some v14) : W2.cell? p0 = some v0 ∧ W2.cell? p1 = some v1 ∧ W2.cell? p2 = some v2 ∧ W2.cell? p3 = some v3 ∧ W2.cell? p4 = some v4 ∧ W2.cell? p5 = some v5 ∧ W2.cell? p6 = some v6 ∧ W2.cell? p7 = some v7 ∧ W2.cell? p8 = some v8 ∧ W2.cell? p9 = some v9 ∧ W2.cell? p10 = some v10 ∧ W2.cell? p11 = some v11 ∧ W2.cell? p12 = some v12 ∧ W2.cell? p13 = some v13 ∧ W2.cell? p14 = some v14 :=
  ⟨cell_later hb h0, cell_later hb h1, cell_later hb h2, cell_later hb h3, cell_later hb h4, cell_later hb h5, cell_later hb h6, cell_later hb h7, cell_later hb h8, cell_later hb h9, cell_later hb h10, cell_later hb h11, cell_later hb h12, cell_later hb h13, cell_later hb h14⟩
theorem cLs16 {W W2 : World} {p0 p1 p2 p3 p4 p5 p6 p7 p8 p9 p10 p11 p12 p13 p14 p15 : Addr} {v0 v1 v2 v3 v4 v5 v6 v7 v8 v9 v10 v11 v12 v13 v14 v15 : Value} (hb : Below W.heap.size W W2) (h0 : W.cell? p0 = some v0) (h1 : W.cell? p1 = some v1) (h2 : W.cell? p2 = some v2) (h3 : W.cell? p3 = some v3) (h4 : W.cell? p4 = some v4) (h5 : W.cell? p5 = some v5) (h6 : W.cell? p6 = some v6) (h7 : W.cell? p7 = some v7) (h8 : W.cell? p8 = some v8) (h9 : W.cell? p9 = some v9) (h10 : W.cell? p10 = some v10) (h11 : W.cell? p11 = some v11) (h12 : W.cell? p12 = some v12) (h13 : W.cell? p13 = some v13) (h14 : W.cell? p14 = some v14) (h15 : W.cell? p15 = some v15) : W2.cell? p0 = some v0 ∧ W2.cell? p1 = some v1 ∧ W2.cell? p2 = some v2 ∧ W2.cell? p3 = some v3 ∧ W2.cell? p4 = some v4 ∧ W2.cell? p5 = some v5 ∧ W2.cell? p6 = some v6 ∧ W2.cell? p7 = some v7 ∧ W2.cell? p8 = some v8 ∧ W2.cell? p9 = some v9 ∧ W2.cell? p10 = some v10 ∧ W2.cell? p11 = some v11 ∧ W2.cell? p12 = some v12 ∧ W2.cell? p13 = some v13 ∧ W2.cell? p14 = some v14 ∧ W2.cell? p15 = some v15 :=
  ⟨cell_later hb h0, cell_later hb h1, cell_later hb h2, cell_later hb h3, cell_later hb h4, cell_later hb h5, cell_later hb h6, cell_later hb h7, cell_later hb h8, cell_later hb h9, cell_later hb h10, cell_later hb h11, cell_later hb h12, cell_later hb h13, cell_later hb h14, cell_later hb h15⟩
theorem cLs17 {W W2 : World} {p0 p1 p2 p3 p4 p5 p6 p7 p8 p9 p10 p11 p12 p13 p14 p15 p16 : Addr} {v0 v1 v2 v3 v4 v5 v6 v7 v8 v9 v10 v11 v12 v13 v14 v15 v16 : Value} (hb : Below W.heap.size W W2) (h0 : W.cell? p0 = some v0) (h1 : W.cell? p1 = some v1) (h2 : W.cell? p2 = some v2) (h3 : W.cell? p3 = some v3) (h4 : W.cell? p4 = some v4) (h5 : W.cell? p5 = some v5) (h6 : W.cell? p6 = some v6) (h7 : W.cell? p7 = some v7) (h8 : W.cell? p8 = some v8) (h9 : W.cell? p9 = some v9) (h10 : W.cell? p10 = some v10) (h11 : W.cell? p11 = some v11) (h12 : W.cell? p12 = some v12) (h13 : W.cell? p13 = some v13) (h14 : W.cell? p14 = some v14) (h15 : W.cell? p15 = some v15) (h16 : W.cell? p16 = some v16) : W2.cell? p0 = some v0 ∧ W2.cell? p1 = some v1 ∧ W2.cell? p2 = some v2 ∧ W2.cell? p3 = some v3 ∧ W2.cell? p4 = some v4 ∧ W2.cell? p5 = some v5 ∧ W2.cell? p6 = some v6 ∧ W2.cell? p7 = some v7 ∧ W2.cell? p8 = some v8 ∧ W2.cell? p9 = some v9 ∧ W2.cell? p10 = some v10 ∧ W2.cell? p11 = some v11 ∧ W2.cell? p12 = some v12 ∧ W2.cell? p13 = some v13 ∧ W2.cell? p14 = some v14 ∧ W2.cell? p15 = some v15 ∧ W2.cell? p16 = some v16 :=
  ⟨cell_later hb h0, cell_later hb h1, cell_later hb h2, cell_later hb h3, cell_later hb h4, cell_later hb h5, cell_later hb h6, cell_later hb h7, cell_later hb h8, cell_later hb h9, cell_later hb h10, cell_later hb h11, cell_later hb h12, cell_later hb h13, cell_later hb h14, cell_later hb h15, cell_later hb h16⟩
theorem cLs18 {W W2 : World} {p0 p1 p2 p3 p4 p5 p6 p7 p8 p9 p10 p11 p12 p13 p14 p15 p16 p17 : Addr} {v0 v1 v2 v3 v4 v5 v6 v7 v8 v9 v10 v11 v12 v13 v14 v15 v16 v17 : Value} (hb : Below W.heap.size W W2) (h0 : W.cell? p0 = some v0) (h1 : W.cell? p1 = some v1) (h2 : W.cell? p2 = some v2) (h3 : W.cell? p3 = some v3) (h4 : W.cell? p4 = some v4) (h5 : W.cell? p5 = some v5) (h6 : W.cell? p6 = some v6) (h7 : W.cell? p7 = some v7) (h8 : W.cell? p8 = some v8) (h9 : W.cell? p9 = some v9) (h10 : W.cell? p10 = some v10) (h11 : W.cell? p11 = some v11) (h12 : W.cell? p12 = some v12) (h13 : W.cell? p13 = some v13) (h14 : W.cell? p14 = some v14) (h15 : W.cell? p15 = some v15) (h16 : W.cell? p16 = some v16) (h17 : W.cell? p17 = some v17) : W2.cell? p0 = some v0 ∧ W2.cell? p1 = some v1 ∧ W2.cell? p2 = some v2 ∧ W2.cell? p3 = some v3 ∧ W2.cell? p4 = some v4 ∧ W2.cell? p5 = some v5 ∧ W2.cell? p6 = some v6 ∧ W2.cell? p7 = some v7 ∧ W2.cell? p8 = some v8 ∧ W2.cell? p9 = some v9 ∧ W2.cell? p10 = some v10 ∧ W2.cell? p11 = some v11 ∧ W2.cell? p12 = some v12 ∧ W2.cell? p13 = some v13 ∧ W2.cell? p14 = some v14 ∧ W2.cell? p15 = some v15 ∧ W2.cell? p16 = some v16 ∧ W2.cell? p17 = some v17 :=
  ⟨cell_later hb h0, cell_later hb h1, cell_later hb h2, cell_later hb h3, cell_later hb h4, cell_later hb h5, cell_later hb h6, cell_later hb h7, cell_later hb h8, cell_later hb h9, cell_later hb h10, cell_later hb h11, cell_later hb h12, cell_later hb h13, cell_later hb h14, cell_later hb h15, cell_later hb h16, cell_later hb h17⟩
end Go.Proofs.YtpgnbablhdknnaaDoor

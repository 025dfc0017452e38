/-
  Small functions on numbers: ranges, comparisons; the library's cmp.Compare and cmp.Or.
-/
import Derived.Test.YtlfblpgkegeaeaaGreatLib
import Derived.Test.YtlfblpgkegeaeaaGreatTypes
import Derived.Test.YtlfblpgkegeaeaaGreatOwn2
import Derived.StillTailTactics
namespace Go.Proofs.YtlfblpgkegeaeaaGreat
open Go.RowKit
set_option linter.unusedVariables false
/-! A still region, walked with its meaning shut: so that no elaboration looks inside. -/
@[irreducible] def stillW (P : Program) (ops : Array Oper) (w : World) (Q : Act → Prop) (L : List Oper) (a : Act) : Prop := wpStill P ops w Q L a
@[irreducible] def guardW (P : Program) (ops : Array Oper) (w : World) (o : Oper) (a : Act) (K : Act → Prop) : Prop := if Region.wanted o (yielded ops a.tmps) then o.still P a w K else K (a.put o.dst undef)
theorem stillW_open {P : Program} {ops : Array Oper} {w : World} {Q : Act → Prop} {L : List Oper} {a : Act} (h : stillW P ops w Q L a) : wpStill P ops w Q L a := by unfold stillW at h; exact h
theorem stillW_nil {P : Program} {ops : Array Oper} {w : World} {Q : Act → Prop} {a : Act} (h : Q a) : stillW P ops w Q [] a := by unfold stillW; exact wpStill_nil h
theorem guardW_eq {P : Program} {ops : Array Oper} {w : World} {o : Oper} {a : Act} {K : Act → Prop} : guardW P ops w o a K = if Region.wanted o (yielded ops a.tmps) then o.still P a w K else K (a.put o.dst undef) := by unfold guardW; rfl
theorem stillW_step {P : Program} {ops : Array Oper} {w : World} {Q : Act → Prop} {a : Act} {o : Oper} {rest : List Oper}
    (h : ∀ K : Act → Prop, (∀ a, stillW P ops w Q rest a → K a) → guardW P ops w o a K) : stillW P ops w Q (o :: rest) a := by
  unfold stillW
  exact wpStill_step fun K hK => by
    have := h K (fun a q => hK a (stillW_open q))
    rw [guardW_eq] at this
    exact this
/-- n lies from a to b. -/
def inR (n a b : Int) : Bool := decide (a ≤ n) && decide (n ≤ b)
/-- How a stands to b. -/
def cmpI (a b : Int) : Int := if a < b then -1 else if b < a then 1 else 0
/-- The first that is not 0. -/
def orI : List Int → Int
  | [] => 0
  | a :: l => if a = 0 then orI l else a
theorem orI_hit {x : List Int} {k : Nat} (h : k < x.length) (hx : x[k] ≠ 0) (hno : ∀ j, (h : j < k) → (h2 : j < x.length) → x[j] = 0) : orI x = x[k] := by
  induction x generalizing k with
  | nil => simp at h
  | cons a l ih =>
    cases k with
    | zero => simp at hx; simp [orI, hx]
    | succ k =>
      have h0 := hno 0 (by omega) (by simp)
      simp at h0
      simp only [orI, h0, if_true, List.getElem_cons_succ]
      exact ih (by simpa using h) (by simpa using hx) (fun j hj h2 => hno (j + 1) (by omega) (by simp only [List.length_cons]; omega))
theorem orI_miss {x : List Int} (hno : ∀ j, (h2 : j < x.length) → x[j] = 0) : orI x = 0 := by
  induction x with
  | nil => rfl
  | cons a l ih =>
    have h0 := hno 0 (by simp)
    simp at h0
    simp only [orI, h0, if_true]
    exact ih (fun j h2 => hno (j + 1) (by simp only [List.length_cons]; omega))
set_option maxHeartbeats 400000 in
theorem specl1In_c {w : World} {n a b : Int} : Calls Tryz.prog 173 #[.int .i64 n, .int .i64 a, .int .i64 b] w fun e w' => e = .returned (.bool (inR n a b)) ∧ w' = w := by
  go_enter Tryz.func173, Tryz.ntmps173
  by_cases h : n ≥ a
  · have hd : decide (n ≥ a) = true := by simpa using h
    go_wp2
    go_ret
    exact ⟨ret_bool (by simp [inR, h]), rfl⟩
  · have hd : decide (n ≥ a) = false := by simpa using h
    go_wp2
    go_ret
    exact ⟨ret_bool (by simp [inR]; omega), rfl⟩
theorem l1In_at {w : World} {n a b : Int} {v : Bool} (h : inR n a b = v) : Calls Tryz.prog 173 #[.int .i64 n, .int .i64 a, .int .i64 b] w fun e w' => e = .returned (.bool v) ∧ w' = w := by subst h; exact specl1In_c
set_option maxHeartbeats 400000 in
theorem implInRange_c {w : World} {n a b : Int} : Calls Tryz.prog 184 #[.int .i64 n, .int .i64 a, .int .i64 b] w fun e w' => e = .returned (.bool (inR n a b)) ∧ w' = w := by
  go_enter Tryz.func184, Tryz.ntmps184
  by_cases h : a ≤ n
  · have hd : decide (a ≤ n) = true := by simpa using h
    go_wp2
    go_ret
    exact ⟨ret_bool (by simp [inR, h]), rfl⟩
  · have hd : decide (a ≤ n) = false := by simpa using h
    go_wp2
    go_ret
    exact ⟨ret_bool (by simp [inR]; omega), rfl⟩
theorem InRange_at {w : World} {n a b : Int} {v : Bool} (h : inR n a b = v) : Calls Tryz.prog 184 #[.int .i64 n, .int .i64 a, .int .i64 b] w fun e w' => e = .returned (.bool v) ∧ w' = w := by subst h; exact implInRange_c
end Go.Proofs.YtlfblpgkegeaeaaGreat

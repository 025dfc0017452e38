/-
  Small functions on numbers: ranges, comparisons; the library's cmp.Compare and cmp.Or.
-/
import Derived.Test.YtpgnbablhdknnaaDoorLib
import Derived.Test.YtpgnbablhdknnaaDoorTypes
import Derived.Test.YtpgnbablhdknnaaDoorOwn2
import Derived.StillTailTactics
namespace Go.Proofs.YtpgnbablhdknnaaDoor
open Go.RowKit
set_option linter.unusedVariables false
/-! A still region, walked with its meaning shut: so that no elaboration looks inside. -/
@[irreducible] def stillW (P : Program) (ops : Array Oper) (w : World) (Q : Act → Prop) (L : List Oper) (a : Act) : Prop := wpStill P ops w Q L a
@[irreducible] def guardW (P : Program) (ops : Array Oper) (w : World) (o : Oper) (a : Act) (K : Act → Prop) : Prop := if Region.wanted o (yielded ops a.tmps) then o.still P a w K else K (a.put o.dst undef)
theorem stillW_open {P : Program} {ops : Array Oper} {w : World} {Q : Act → Prop} {L : List Oper} {a : Act} (h : stillW P ops w Q L a) : wpStill P ops w Q L a := by unfold stillW at h; exact h
theorem stillW_nil {P : Program} {ops : Array Oper} {w : World} {Q : Act → Prop} {a : Act} (h : Q a) : stillW P ops w Q [] a := by unfold stillW; exact wpStill_nil h
theorem guardW_eq {P : Program} {ops : Array Oper} {w : World} {o : Oper} {a : Act} {K : Act → Prop} : guardW P ops w o a K = if Region.wanted o (yielded ops a.tmps) then o.still P a w K else K (a.put o.dst undef) := by unfold guardW; rfl
theorem stillW_step {P : Program} {ops : Array Oper} {w : World} {Q : Act → Prop} {a : Act} {o : Oper} {rest : List Oper}
    (h : ∀ K : Act → Prop, (∀ a, stillW P ops w Q rest a → K a) → guardW P ops w o a K) : stillW P ops w Q (o :: rest) a := by
  unfold stillW
  exact wpStill_step fun K hK => by
    have := h K (fun a q => hK a (stillW_open q))
    rw [guardW_eq] at this
    exact this
/-- n lies from a to b. -/
def inR (n a b : Int) : Bool := decide (a ≤ n) && decide (n ≤ b)
/-- How a stands to b. -/
def cmpI (a b : Int) : Int := if a < b then -1 else if b < a then 1 else 0
/-- The first that is not 0. -/
def orI : List Int → Int
  | [] => 0
  | a :: l => if a = 0 then orI l else a
theorem orI_hit {x : List Int} {k : Nat} (h : k < x.length) (hx : x[k] ≠ 0) (hno : ∀ j, (h : j < k) → (h2 : j < x.length) → x[j] = 0) : orI x = x[k] := by
  induction x generalizing k with
  | nil => simp at h
  | cons a l ih =>
    cases k with
    | zero => simp at hx; simp [orI, hx]
    | succ k =>
      have h0 := hno 0 (by omega) (by simp)
      simp at h0
      simp only [orI, h0, if_true, List.getElem_cons_succ]
      exact ih (by simpa using h) (by simpa using hx) (fun j hj h2 => hno (j + 1) (by omega) (by simp only [List.length_cons]; omega))
theorem orI_miss {x : List Int} (hno : ∀ j, (h2 : j < x.length) → x[j] = 0) : orI x = 0 := by
  induction x with
  | nil => rfl
  | cons a l ih =>
    have h0 := hno 0 (by simp)
    simp at h0
    simp only [orI, h0, if_true]
    exact ih (fun j h2 => hno (j + 1) (by simp only [List.length_cons]; omega))
set_option maxHeartbeats 400000 in
theorem specl1In_c {w : World} {n a b : Int} : Calls Tryd.prog 30 #[.int .i64 n, .int .i64 a, .int .i64 b] w fun e w' => e = .returned (.bool (inR n a b)) ∧ w' = w := by
  go_enter Tryd.func30, Tryd.ntmps30
  by_cases h : n ≥ a
  · have hd : decide (n ≥ a) = true := by simpa using h
    go_wp2
    go_ret
    exact ⟨ret_bool (by simp [inR, h]), rfl⟩
  · have hd : decide (n ≥ a) = false := by simpa using h
    go_wp2
    go_ret
    exact ⟨ret_bool (by simp [inR]; omega), rfl⟩
theorem l1In_at {w : World} {n a b : Int} {v : Bool} (h : inR n a b = v) : Calls Tryd.prog 30 #[.int .i64 n, .int .i64 a, .int .i64 b] w fun e w' => e = .returned (.bool v) ∧ w' = w := by subst h; exact specl1In_c
set_option maxHeartbeats 400000 in
theorem implInRange_c {w : World} {n a b : Int} : Calls Tryd.prog 29 #[.int .i64 n, .int .i64 a, .int .i64 b] w fun e w' => e = .returned (.bool (inR n a b)) ∧ w' = w := by
  go_enter Tryd.func29, Tryd.ntmps29
  by_cases h : a ≤ n
  · have hd : decide (a ≤ n) = true := by simpa using h
    go_wp2
    go_ret
    exact ⟨ret_bool (by simp [inR, h]), rfl⟩
  · have hd : decide (a ≤ n) = false := by simpa using h
    go_wp2
    go_ret
    exact ⟨ret_bool (by simp [inR]; omega), rfl⟩
theorem InRange_at {w : World} {n a b : Int} {v : Bool} (h : inR n a b = v) : Calls Tryd.prog 29 #[.int .i64 n, .int .i64 a, .int .i64 b] w fun e w' => e = .returned (.bool v) ∧ w' = w := by subst h; exact implInRange_c
theorem isNaN_c {w : World} {n : Int} : Calls Tryd.prog 51 #[.int .i64 n] w fun e w' => e = .returned (.bool false) ∧ w' = w := by
  go_enter Tryd.func51, Tryd.ntmps51
  go_wp2
  go_ret
  exact ⟨ret_bool (by simp), rfl⟩
set_option maxHeartbeats 400000 in
theorem cmpCompare_c {w : World} {a b : Int} : Calls Tryd.prog 48 #[.int .i64 a, .int .i64 b] w fun e w' => e = .returned (.int .i64 (cmpI a b)) ∧ w' = w := by
  go_enter Tryd.func48, Tryd.ntmps48
  go_wp2_with fail
  refine isNaN_c.mono ?_
  rintro e u ⟨rfl, rfl⟩
  go_wp2_with fail
  refine isNaN_c.mono ?_
  rintro e u ⟨rfl, rfl⟩
  by_cases h : a < b
  · go_wp2
    go_ret
    exact ⟨ret_int (by simp [cmpI, h]), rfl⟩
  · by_cases h2 : a > b
    · go_wp2
      go_ret
      exact ⟨ret_int (by unfold cmpI; rw [if_neg (by omega), if_pos (by omega)]), rfl⟩
    · go_wp2
      go_ret
      exact ⟨ret_int (by unfold cmpI; rw [if_neg (by omega), if_neg (by omega)]), rfl⟩
set_option maxHeartbeats 400000 in
theorem cmpOr_c {w : World} {va : Value} {x : List Int} (ha : (Rep.slice 3 Rep.int).raw w [va] x) : Calls Tryd.prog 47 #[va] w fun e w' => e = .returned (.int .i64 (orI x)) ∧ w' = w := by
  obtain ⟨aa, capa, hva, la⟩ := Rep.len_raw ha; obtain rfl : va = _ := by simpa using hva
  clear hva
  go_enter Tryd.func47, Tryd.ntmps47
  go_wp2
  go_loop [8] (fun i => ∃ k : Nat, k ≤ x.length ∧ i = .int .i64 k ∧ (∀ j, (h : j < k) → (h2 : j < x.length) → x[j] = 0)) (fun i => x.length - (intOf i).toNat)
  case atStart => exact ⟨0, Nat.zero_le _, rfl, fun _ h => by omega⟩
  case round =>
    obtain ⟨k, hk, rfl, hno⟩ := hrel
    have HN := Lib.hid hno; clear hno
    by_cases hlt : k < x.length
    · obtain ⟨ba, offa, rfl, c0, hr, A0⟩ := Rep.get1 ha hlt rfl
      have he := Rep.int_raw hr
      simp only [List.cons.injEq, and_true] at he
      obtain ⟨rfl, hr1⟩ := he
      clear hr hr1
      generalize hy : x[k] = y at *
      have HY := Lib.hid hy; clear hy
      have hit : y ≠ 0 → Hid (orI x = y) := fun q => Lib.hid ((orI_hit hlt (by rw [HY.out]; exact q) HN.out).trans HY.out)
      have mis : y = 0 → Hid (∀ j, (h : j < k + 1) → (h2 : j < x.length) → x[j] = 0) := fun q => Lib.hid (fun j h h2 => by by_cases e : j = k; (subst e; rw [HY.out]; exact q); exact HN.out j (by omega) h2)
      have HI := Lib.hid hit; have HM := Lib.hid mis; clear hit mis
      by_cases h1 : y = 0
      · have HT := HM.out h1; clear HI HM
        go_wp2; go_round; (case rel => exact ⟨k + 1, by omega, by go_num, HT.out⟩); (case measure => simp [intOf]; omega)
      · have HT := HI.out h1; clear HI HM
        go_wp2
        go_ret
        exact ⟨ret_int HT.out.symm, rfl⟩
    · have HT := Lib.hid (orI_miss (fun j h2 => HN.out j (by omega) h2))
      go_wp2
      go_ret
      exact ⟨ret_int HT.out.symm, rfl⟩
end Go.Proofs.YtpgnbablhdknnaaDoor

/-
  The library's functions on slices, at the program's types. Printed by genlib.py.
-/
import Derived.Test.YtpgnbablhdknnaaDoorProg
import Derived.Test.YtpgnbablhdknnaaDoorTypes
import Derived.WalkKit
import Derived.WalkSpells
import Derived.WalkLawsBesides
import Derived.BigQuiet
import Derived.Deep.QuietTactic
import Derived.StillTailTactics
namespace Go.Proofs.YtpgnbablhdknnaaDoor
open Go.RowKit
set_option linter.unusedVariables false

/-- The place of the first element that answers, or -1. -/
def idxOf {α : Type} (p : α → Bool) (l : List α) : Int := match l.findIdx? p with | some i => i | none => -1
theorem idxOf_hit {α : Type} {p : α → Bool} {x : List α} {k : Nat} (hlt : k < x.length) (hp : p x[k] = true) (hno : ∀ j, (h : j < k) → (h2 : j < x.length) → p x[j] = false) : idxOf p x = k := by
  unfold idxOf
  have : x.findIdx? p = some k := by
    rw [List.findIdx?_eq_some_iff_getElem]
    exact ⟨hlt, hp, fun j hj => by simpa using hno j hj (by omega)⟩
  rw [this]
theorem idxOf_miss {α : Type} {p : α → Bool} {x : List α} {k : Nat} (hlt : ¬ k < x.length) (hno : ∀ j, (h : j < k) → (h2 : j < x.length) → p x[j] = false) : idxOf p x = -1 := by
  unfold idxOf
  have : x.findIdx? p = none := by
    rw [List.findIdx?_eq_none_iff]
    intro y hy
    obtain ⟨j, hj, rfl⟩ := List.getElem_of_mem hy
    simpa using hno j (by omega) hj
  rw [this]
theorem no_succ {α : Type} {p : α → Bool} {x : List α} {k : Nat} (hlt : k < x.length) (hp : p x[k] = false) (hno : ∀ j, (h : j < k) → (h2 : j < x.length) → p x[j] = false) : ∀ j, (h : j < k + 1) → (h2 : j < x.length) → p x[j] = false := by
  intro j h h2
  by_cases q : j = k
  · subst q; exact hp
  · exact hno j (by omega) h2
theorem idxOf_lt {α : Type} (p : α → Bool) (x : List α) : -1 ≤ idxOf p x ∧ idxOf p x < x.length ∨ x = [] ∧ idxOf p x = -1 := by
  unfold idxOf
  cases h : x.findIdx? p with
  | none => cases x <;> simp; omega
  | some i =>
    have := (List.findIdx?_eq_some_iff_getElem.1 h).1
    left; simp only; omega
/-- Calling a function value, known to be one with a body. -/
def Callable (P : Program) (g : FuncId) : Prop := ∀ vs W, (callFunc g vs).run P W = .ok (.enter g vs) W
theorem callable_of {P : Program} {g : FuncId} {fn : Func} (hf : P.funcs[g]? = some fn) (hn : (fn.name == "runtime.NumGoroutine") = false) (hb : fn.body.isNone = false) : Callable P g := by
  intro vs W
  have hp : (program : Sem Program).run P W = .ok P W := rfl
  have hn' : ¬ (fn.name = "runtime.NumGoroutine") := by simpa using hn
  unfold callFunc
  simp only [Sem.run_bind, hp, Result.andThen_ok, hf, hn, hb, Bool.false_eq_true, if_false, Sem.run_pure]
/-- A value as an argument: a struct's cells are one value. -/
def argOf {α : Type} (r : Rep α) (cs : List Value) : Value := if r.n = 1 then cs.headD undef else .agg cs.toArray

set_option maxHeartbeats 400000 in
theorem IndexFunc_Link_c {w : World} {va : Value} {x : List LLink} {g : FuncId} {cp : Array Value} (p : LLink → Bool) (hg : Callable Tryd.prog g) (ha : (Rep.slice 49 RLink).raw w [va] x)
    (hcl : ∀ wr, Below w.heap.size w wr → ∀ (i : Nat) (h : i < x.length) cs, RLink.raw wr cs x[i] → Calls Tryd.prog g (#[.agg cs.toArray] ++ cp) wr (fun e w' => e = .returned (.bool (p x[i])) ∧ Below wr.heap.size wr w')) :
    Calls Tryd.prog 37 #[va, .func (.func g) #[] cp] w fun e w' => e = .returned (.int .i64 (idxOf p x)) ∧ Below w.heap.size w w' := by
  obtain ⟨aa, capa, hva, la⟩ := Rep.len_raw ha; obtain rfl : va = _ := by simpa using hva
  clear hva
  have HCL := Lib.hid hcl; clear hcl
  unfold Callable at hg
  go_enter Tryd.func37, Tryd.ntmps37
  go_wp2
  go_loopw [8] (fun i wr => ∃ k : Nat, k ≤ x.length ∧ i = .int .i64 k ∧ (∀ j, (h : j < k) → (h2 : j < x.length) → p x[j] = false) ∧ Below w.heap.size w wr) (fun i _ => x.length - (intOf i).toNat)
  case atStart => exact ⟨0, Nat.zero_le _, rfl, fun _ h => by omega, Below.refl _ _⟩
  case round =>
    obtain ⟨k, hk, rfl, hno, hbel⟩ := hrel
    have HN := Lib.hid hno; clear hno
    by_cases hlt : k < x.length
    · obtain ⟨ba, offa, rfl, c0, c1, hr, A0, A1⟩ := Rep.get2 (ha.below hbel) hlt rfl
      have C := HCL.out wr hbel k hlt _ hr
      by_cases hp : p x[k] = true
      · rw [hp] at C
        have HC := Lib.hid C; clear C
        have HT := Lib.hid (idxOf_hit hlt hp HN.out); clear hp
        go_wp2_with fail
        refine HC.out.mono ?_
        rintro e w1 ⟨rfl, hb1⟩
        go_wp2
        go_ret
        exact ⟨ret_int HT.out.symm, hbel.trans (hb1.mono hbel.size)⟩
      · have hp : p x[k] = false := by simpa using hp
        rw [hp] at C
        have HC := Lib.hid C; clear C
        have HT := Lib.hid (no_succ hlt hp HN.out); clear hp
        go_wp2_with fail
        refine HC.out.mono ?_
        rintro e w1 ⟨rfl, hb1⟩
        go_wp2
        go_roundw
        case rel => exact ⟨k + 1, by omega, by go_num, HT.out, hbel.trans (hb1.mono hbel.size)⟩
        case measure => simp [intOf]; omega
    · have HT := Lib.hid (idxOf_miss hlt HN.out)
      go_wp2
      go_ret
      exact ⟨ret_int HT.out.symm, hbel⟩
end Go.Proofs.YtpgnbablhdknnaaDoor

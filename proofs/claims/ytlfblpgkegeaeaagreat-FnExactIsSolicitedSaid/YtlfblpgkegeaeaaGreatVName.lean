/-
  Names that are valid.
-/
import Derived.Test.YtlfblpgkegeaeaaGreatValid
import Derived.IntWalk
import Derived.Deep.Cut
namespace Go.Proofs.YtlfblpgkegeaeaaGreat
open Go.RowKit
set_option linter.unusedVariables false
set_option linter.unusedSimpArgs false
set_option linter.unnecessarySimpa false
def vName (n : LName) : Bool := allB (fun j => vPart (n.getD j ByteArray.empty)) n.length && decide (n.length ≤ 6)
theorem vName_bad {n : LName} {k : Nat} (h : k < n.length) (q : vPart n[k] = false) : vName n = false := by
  unfold vName; rw [allB_bad h (by (try simp only); rw [getD_get h]; exact q)]; rfl
theorem vName_next {n : LName} {k : Nat} (h : k < n.length) (q : vPart n[k] = true) (a : allB (fun j => vPart (n.getD j ByteArray.empty)) k = true) : allB (fun j => vPart (n.getD j ByteArray.empty)) (k + 1) = true :=
  allB_succ a (by (try simp only); rw [getD_get h]; exact q)
theorem vName_good {n : LName} {k : Nat} (q : allB (fun j => vPart (n.getD j ByteArray.empty)) k = true) (h : ¬ k < n.length) (hk : k ≤ n.length) : vName n = decide (n.length ≤ 6) := by
  obtain rfl : k = n.length := by omega
  unfold vName; rw [q]; rfl
/-- No element answers: the same as every element's answer being no. -/
theorem idx_all {α : Type} (p : α → Bool) (x : List α) (d : α) : (!decide (0 ≤ idxOf p x)) = allB (fun j => !p (x.getD j d)) x.length := by
  unfold idxOf
  cases h : x.findIdx? p with
  | none =>
    have hn := List.findIdx?_eq_none_iff.1 h
    have : allB (fun j => !p (x.getD j d)) x.length = true := by
      have key : ∀ n, n ≤ x.length → allB (fun j => !p (x.getD j d)) n = true := by
        intro n
        induction n with
        | zero => intro _; rfl
        | succ n ih =>
          intro hn2
          refine allB_succ (ih (by omega)) ?_
          (try simp only)
          rw [getD_get (by omega), hn _ (List.getElem_mem _)]
          rfl
      exact key _ (Nat.le_refl _)
    rw [this]; simp
  | some i =>
    obtain ⟨hi, hp, _⟩ := List.findIdx?_eq_some_iff_getElem.1 h
    rw [allB_bad hi (by (try simp only); rw [getD_get hi, hp]; rfl)]
    simp
theorem vName_idx (n : LName) : vName n = (decide (n.length ≤ 6) && !decide (0 ≤ idxOf (fun p => !vPart p) n)) := by
  unfold vName
  rw [idx_all _ n ByteArray.empty]
  simp only [Bool.not_not]
  exact Bool.and_comm _ _
set_option maxRecDepth 100000 in
set_option maxHeartbeats 1000000 in
theorem specValidName_c {w : World} {cn : List Value} {n : LName} (hn : RName.raw w cn n) : Calls Tryz.prog 172 #[.agg cn.toArray] w fun e w' => e = .returned (.bool (vName n)) ∧ Below w.heap.size w w' := by
  obtain ⟨av, rfl, a_0⟩ := RName_raw hn
  obtain ⟨aa, capa, hva, la⟩ := Rep.len_raw a_0; obtain rfl : av = _ := by simpa using hva
  clear hn hva
  go_enter Tryz.func172, Tryz.ntmps172
  go_wp2
  generalize hwB : World.alloc w _ = wB
  have EB : Below w.heap.size w wB := by rw [← hwB]; exact (by repeat (first | (with_reducible exact Below.refl _ _) | refine Below.alloc ?_ (by simp; try omega) _ | refine Below.drew ?_ | refine Below.setCell ?_ (by simp; try omega) _))
  have K0 : wB.cell? ⟨w.heap.size, 0, none⟩ = some (.slice aa n.length capa) := by rw [← hwB]; simp [go_sem]
  clear hwB
  replace a_0 := a_0.below EB
  go_loopw [3] (fun i wr => ∃ k : Nat, k ≤ n.length ∧ i = .int .i64 k ∧ Hid (allB (fun j => vPart (n.getD j ByteArray.empty)) k = true) ∧ Below wB.heap.size wB wr) (fun i _ => n.length - (intOf i).toNat)
  case atStart => exact ⟨0, Nat.zero_le _, rfl, Lib.hid rfl, Below.refl _ _⟩
  case round =>
    obtain ⟨k, hk, rfl, HN, hbel⟩ := hrel
    replace K0 := cell_later hbel K0
    have EB2 := EB.trans (hbel.mono EB.size)
    by_cases hlt : k < n.length
    · obtain ⟨ba, offa, rfl, c0, hr, A0⟩ := Rep.get1 (a_0.below hbel) hlt rfl
      obtain ⟨he, hsz⟩ := Rep.str_raw hr
      obtain rfl : c0 = _ := by simpa using he
      clear he hr
      have hb := fun q => vName_bad hlt q
      have hx := fun q => vName_next hlt q HN.out
      generalize n[k] = s at *
      have HB := Lib.hid hb; have HX := Lib.hid hx; have HSZ := Lib.hid hsz; clear hb hx hsz
      go_wp2_with fail
      refine (specValidPart_c HSZ.out).mono ?_
      rintro e w1 ⟨rfl, hw⟩
      obtain rfl := hw.symm
      cases hv : vPart s
      · have HT := Lib.hid (HB.out hv)
        go_wp2
        go_ret
        exact ⟨ret_bool HT.out.symm, EB2⟩
      · have HT := Lib.hid (HX.out hv)
        go_wp2
        go_roundw
        case rel => exact ⟨k + 1, by omega, by go_num, HT, hbel⟩
        case measure => simp [intOf]; omega
    · have HT := Lib.hid (vName_good HN.out hlt hk)
      go_wp2
      go_ret
      exact ⟨ret_bool (by rw [HT.out]; simp; try omega), EB2⟩
set_option maxHeartbeats 400000 in
theorem implValidName1_c {w : World} {s : ByteArray} (hs : s.size ≤ maxLen) : Calls Tryz.prog 218 (#[.string s] ++ #[]) w fun e w' => e = .returned (.bool (!vPart s)) ∧ Below w.heap.size w w' := by
  show Calls Tryz.prog 218 #[_] w _
  go_enter Tryz.func218, Tryz.ntmps218
  go_wp2_with fail
  refine (implValidPart_c hs).mono ?_
  rintro e w1 ⟨rfl, hw⟩
  obtain rfl := hw.symm
  go_wp2
  go_ret
  exact ⟨rfl, Below.refl _ _⟩
theorem callable_implValidName1_c : Callable Tryz.prog 218 := callable_of Tryz.func218 (by kernel_rfl) (by kernel_rfl)
set_option maxRecDepth 100000 in
set_option maxHeartbeats 1000000 in
theorem implValidName_c {w : World} {cn : List Value} {n : LName} (hn : RName.raw w cn n) : Calls Tryz.prog 183 #[.agg cn.toArray] w fun e w' => e = .returned (.bool (vName n)) ∧ Below w.heap.size w w' := by
  obtain ⟨av, rfl, a_0⟩ := RName_raw hn
  obtain ⟨aa, capa, hva, la⟩ := Rep.len_raw a_0; obtain rfl : av = _ := by simpa using hva
  clear hn hva
  have HV := Lib.hid (vName_idx n)
  go_enter Tryz.func183, Tryz.ntmps183
  by_cases hl : n.length ≤ 6
  · have hd : decide ((n.length : Int) ≤ 6) = true := by simp; omega
    have hdn : decide (n.length ≤ 6) = true := by simpa using hl
    go_wp2_with fail
    refine (ContainsFunc_String_c (fun p => !vPart p) callable_implValidName1_c (a_0.below (by repeat (first | (with_reducible exact Below.refl _ _) | refine Below.alloc ?_ (by simp; try omega) _ | refine Below.drew ?_ | refine Below.setCell ?_ (by simp; try omega) _))) ?_).mono ?_
    · intro wr hb i h c hr
      obtain ⟨he, hsz⟩ := Rep.str_raw hr
      obtain rfl : c = _ := by simpa using he
      exact implValidName1_c hsz
    rintro e w1 ⟨rfl, hb1⟩
    have EF : Below w.heap.size w w1 := Below.trans (by repeat (first | (with_reducible exact Below.refl _ _) | refine Below.alloc ?_ (by simp; try omega) _ | refine Below.drew ?_ | refine Below.setCell ?_ (by simp; try omega) _)) (hb1.mono (by simp))
    clear hb1
    go_wp2
    go_ret
    exact ⟨ret_bool (by rw [HV.out, hdn]; simp), EF⟩
  · have hd : decide ((n.length : Int) ≤ 6) = false := by simp; omega
    have hdn : decide (n.length ≤ 6) = false := by simpa using hl
    go_wp2
    go_ret
    exact ⟨ret_bool (by rw [HV.out, hdn]; rfl), (by repeat (first | (with_reducible exact Below.refl _ _) | refine Below.alloc ?_ (by simp; try omega) _ | refine Below.drew ?_ | refine Below.setCell ?_ (by simp; try omega) _))⟩
end Go.Proofs.YtlfblpgkegeaeaaGreat

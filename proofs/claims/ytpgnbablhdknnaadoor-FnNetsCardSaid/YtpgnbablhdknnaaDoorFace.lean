/-
  Faces and remote ends.
-/
import Derived.Test.YtpgnbablhdknnaaDoorNbr
import Derived.IntWalk
namespace Go.Proofs.YtpgnbablhdknnaaDoor
open Go.RowKit
set_option linter.unusedVariables false
def eqI (v y : Int) : Bool := y == v
def faceTo (x : LTopology) (a b : Int) : Int := idxOf (eqI b) (nbrs x a) + 1
theorem nbrs_len (x : LTopology) (a : Int) : (nbrs x a).length ≤ 6 := Nat.le_trans (nbK_len x a _) (nbN_le _)
theorem idxOf_bd {α : Type} (p : α → Bool) (x : List α) (n : Nat) (h : x.length ≤ n) : -1 ≤ idxOf p x ∧ idxOf p x ≤ n := by
  unfold idxOf
  cases h' : x.findIdx? p with
  | none => simp only; omega
  | some i => have := (List.findIdx?_eq_some_iff_getElem.1 h').1; simp only; omega
theorem nbK_mem (x : LTopology) (a : Int) : ∀ k, ∀ y ∈ nbK x a k, 0 ≤ y ∧ y < k
  | 0, y, h => by simp [nbK] at h
  | k + 1, y, h => by
    unfold nbK at h
    split at h
    · rcases List.mem_append.1 h with h | h
      · have := nbK_mem x a k y h; omega
      · simp at h; omega
    · have := nbK_mem x a k y h; omega
theorem nbrs_mem {x : LTopology} {a : Int} {y : Int} (h : y ∈ nbrs x a) : 0 ≤ y ∧ y < 6 := by
  have := nbK_mem x a _ y h; have := nbN_le x.1; omega
theorem nbrs_get {x : LTopology} {a : Int} {j : Nat} (h : j < (nbrs x a).length) : -9223372036854775808 ≤ (nbrs x a)[j] ∧ (nbrs x a)[j] ≤ 9223372036854775807 := by
  have := nbrs_mem (List.getElem_mem h); omega
set_option maxHeartbeats 400000 in
theorem Index_int_c {w : World} {va : Value} {y : List Int} {b : Int} (hy : (Rep.slice 3 Rep.int).raw w [va] y) :
    Calls Tryd.prog 36 #[va, .int .i64 b] w fun e w' => e = .returned (.int .i64 (idxOf (eqI b) y)) ∧ w' = w := by
  obtain ⟨aa, capa, hva, la⟩ := Rep.len_raw hy; obtain rfl : va = _ := by simpa using hva
  clear hva
  go_enter Tryd.func36, Tryd.ntmps36
  go_wp2
  go_loop [8] (fun i => ∃ k : Nat, k ≤ y.length ∧ i = .int .i64 k ∧ (∀ j, (h : j < k) → (h2 : j < y.length) → eqI b y[j] = false)) (fun i => y.length - (intOf i).toNat)
  case atStart => exact ⟨0, Nat.zero_le _, rfl, fun _ h => by omega⟩
  case round =>
    obtain ⟨k, hk, rfl, hno⟩ := hrel
    have HN := Lib.hid hno; clear hno
    by_cases hlt : k < y.length
    · obtain ⟨ba, offa, rfl, c0, hr, A0⟩ := Rep.get1 hy hlt rfl
      obtain ⟨he, hrg⟩ := Rep.int_raw hr
      obtain rfl : c0 = _ := by simpa using he
      clear he hr
      by_cases hq : y[k] = b
      · have HT := Lib.hid (idxOf_hit hlt (show eqI b y[k] = true by simp [eqI, hq]) HN.out)
        have q1 : (y[k] == b) = true := by simpa using hq
        have q2 : (b == y[k]) = true := by simpa using hq.symm
        clear hq
        go_wp2
        go_ret
        exact ⟨ret_int (by rw [HT.out]), rfl⟩
      · have HT := Lib.hid (no_succ hlt (show eqI b y[k] = false by simp [eqI, hq]) HN.out)
        have q1 : (y[k] == b) = false := by simpa using hq
        have q2 : (b == y[k]) = false := by simpa using fun q => hq q.symm
        clear hq
        go_wp2
        go_round
        case rel => exact ⟨k + 1, by omega, by go_num, HT.out⟩
        case measure => simp [intOf]; omega
    · have HT := Lib.hid (idxOf_miss hlt HN.out)
      go_wp2
      go_ret
      exact ⟨ret_int (by rw [HT.out]; try rfl), rfl⟩
set_option maxHeartbeats 400000 in
theorem specFaceTo_c {w : World} {ca : List Value} {x : LTopology} {a b : Int} (ha : RTopology.rd w ca x) (hr : -9223372036854775808 ≤ a ∧ a ≤ 9223372036854775807) (_ : -9223372036854775808 ≤ b ∧ b ≤ 9223372036854775807) :
    Calls Tryd.prog 17 #[.agg ca.toArray, .int .i64 a, .int .i64 b] w fun e w' => e = .returned (.int .i64 (faceTo x a b)) ∧ Below w.heap.size w w' := by
  have HA := Lib.hid ha
  have HR := Lib.hid hr
  obtain ⟨av1, rfl, a_0, a_1⟩ := RTopology_raw ha.1
  clear ha hr a_1 a_0
  obtain ⟨y, hyE⟩ : ∃ y, y = nbrs x a := ⟨_, rfl⟩
  unfold faceTo
  rw [← hyE]
  have HY := Lib.hid hyE
  clear hyE
  go_enter Tryd.func17, Tryd.ntmps17
  go_wp2_with fail
  refine (specNeighborsOf_c (HA.out.below (by repeat (first | (with_reducible exact Below.refl _ _) | refine Below.alloc ?_ (by simp; try omega) _ | refine Below.drew ?_ | refine Below.setCell ?_ (by simp; try omega) _))) HR.out).mono ?_
  rintro e w1 ⟨v, rfl, O1, hb1⟩
  have hy := O1.raw
  rw [← HY.out] at hy
  have EF : Below w.heap.size w w1 := Below.trans (by repeat (first | (with_reducible exact Below.refl _ _) | refine Below.alloc ?_ (by simp; try omega) _ | refine Below.drew ?_ | refine Below.setCell ?_ (by simp; try omega) _)) (hb1.mono (by simp))
  obtain ⟨aa, capa, hva, la⟩ := Rep.len_raw hy; obtain rfl : v = _ := by simpa using hva
  clear hva hb1 O1
  go_wp2
  go_loop [8] (fun i => ∃ k : Nat, k ≤ y.length ∧ i = .int .i64 k ∧ (∀ j, (h : j < k) → (h2 : j < y.length) → eqI b y[j] = false)) (fun i => y.length - (intOf i).toNat)
  case atStart => exact ⟨0, Nat.zero_le _, rfl, fun _ h => by omega⟩
  case round =>
    obtain ⟨k, hk, rfl, hno⟩ := hrel
    have HN := Lib.hid hno; clear hno
    by_cases hlt : k < y.length
    · obtain ⟨ba, offa, rfl, c0, hr, A0⟩ := Rep.get1 hy hlt rfl
      obtain ⟨he, hrg⟩ := Rep.int_raw hr
      obtain rfl : c0 = _ := by simpa using he
      clear he hr
      by_cases hq : y[k] = b
      · have HT := Lib.hid (idxOf_hit hlt (show eqI b y[k] = true by simp [eqI, hq]) HN.out)
        have q1 : (y[k] == b) = true := by simpa using hq
        have q2 : (b == y[k]) = true := by simpa using hq.symm
        clear hq
        go_wp2
        go_ret
        exact ⟨ret_int (by rw [HT.out]), EF⟩
      · have HT := Lib.hid (no_succ hlt (show eqI b y[k] = false by simp [eqI, hq]) HN.out)
        have q1 : (y[k] == b) = false := by simpa using hq
        have q2 : (b == y[k]) = false := by simpa using fun q => hq q.symm
        clear hq
        go_wp2
        go_round
        case rel => exact ⟨k + 1, by omega, by go_num, HT.out⟩
        case measure => simp [intOf]; omega
    · have HT := Lib.hid (idxOf_miss hlt HN.out)
      go_wp2
      go_ret
      exact ⟨ret_int (by rw [HT.out]; try rfl), EF⟩
set_option maxHeartbeats 400000 in
theorem implFaceTo_c {w : World} {ca : List Value} {x : LTopology} {a b : Int} (ha : RTopology.rd w ca x) (hr : -9223372036854775808 ≤ a ∧ a ≤ 9223372036854775807) (_ : -9223372036854775808 ≤ b ∧ b ≤ 9223372036854775807) :
    Calls Tryd.prog 16 #[.agg ca.toArray, .int .i64 a, .int .i64 b] w fun e w' => e = .returned (.int .i64 (faceTo x a b)) ∧ Below w.heap.size w w' := by
  have HA := Lib.hid ha
  have HR := Lib.hid hr
  obtain ⟨av1, rfl, a_0, a_1⟩ := RTopology_raw ha.1
  clear ha hr a_1 a_0
  go_enter Tryd.func16, Tryd.ntmps16
  go_wp2_with fail
  refine (implNeighborsOf_c (HA.out.below (by repeat (first | (with_reducible exact Below.refl _ _) | refine Below.alloc ?_ (by simp; try omega) _ | refine Below.drew ?_ | refine Below.setCell ?_ (by simp; try omega) _))) HR.out).mono ?_
  rintro e w1 ⟨v, rfl, O1, hb1⟩
  have hy := O1.raw
  have EF : Below w.heap.size w w1 := Below.trans (by repeat (first | (with_reducible exact Below.refl _ _) | refine Below.alloc ?_ (by simp; try omega) _ | refine Below.drew ?_ | refine Below.setCell ?_ (by simp; try omega) _)) (hb1.mono (by simp))
  obtain ⟨aa, capa, hva, la⟩ := Rep.len_raw hy; obtain rfl : v = _ := by simpa using hva
  have hbd := idxOf_bd (eqI b) (nbrs x a) 6 (nbrs_len x a)
  clear hva hb1 O1
  go_wp2_with fail
  refine (Index_int_c hy).mono ?_
  rintro e w2 ⟨rfl, rfl⟩
  go_wp2
  go_ret
  exact ⟨rfl, EF⟩
end Go.Proofs.YtpgnbablhdknnaaDoor

/-
  Neighbours, faces and remote ends.
-/
import Derived.Test.YtpgnbablhdknnaaDoorNet
import Derived.Test.YtpgnbablhdknnaaDoorNum
import Derived.Test.YtpgnbablhdknnaaDoorInfo
import Derived.Test.YtpgnbablhdknnaaDoorSoft
import Derived.IntWalk
namespace Go.Proofs.YtpgnbablhdknnaaDoor
open Go.RowKit
set_option linter.unusedVariables false
def nbK (x : LTopology) (a : Int) : Nat → List Int
  | 0 => []
  | k + 1 => if 0 ≤ idxOf (isLink a k) x.2 then nbK x a k ++ [(k : Int)] else nbK x a k
def nbN (n : Int) : Nat := (max 0 (min n 6)).toNat
def nbrs (x : LTopology) (a : Int) : List Int := nbK x a (nbN x.1)
theorem nbK_len (x : LTopology) (a : Int) : ∀ k, (nbK x a k).length ≤ k
  | 0 => Nat.le_refl _
  | k + 1 => by
    have := nbK_len x a k
    unfold nbK
    split
    · simp; omega
    · omega
theorem nbN_le (n : Int) : nbN n ≤ 6 := by unfold nbN; omega
theorem nbN_cases (n : Int) : n ≤ 0 ∧ nbN n = 0 ∨ 0 < n ∧ n < 6 ∧ (nbN n : Int) = n ∨ 6 ≤ n ∧ nbN n = 6 := by unfold nbN; omega
theorem nbN_lt {n : Int} {k : Nat} (h : (k : Int) < n) (h6 : k < 6) : k < nbN n := by unfold nbN; omega
theorem nbN_ge {n : Int} {k : Nat} (h : k ≤ nbN n) (h6 : ¬ ((k : Int) < n ∧ k < 6)) : k = nbN n := by unfold nbN at *; omega
theorem nbK_yes {x : LTopology} {a : Int} {k : Nat} (h : 0 ≤ idxOf (isLink a k) x.2) : nbK x a (k + 1) = nbK x a k ++ [(k : Int)] := by simp [nbK, h]
theorem nbK_no {x : LTopology} {a : Int} {k : Nat} (h : ¬ 0 ≤ idxOf (isLink a k) x.2) : nbK x a (k + 1) = nbK x a k := by simp [nbK, h]
set_option maxHeartbeats 1000000 in
theorem specNeighborsOf_c {w : World} {ca : List Value} {x : LTopology} {a : Int} (ha : RTopology.rd w ca x) (hr : -9223372036854775808 ≤ a ∧ a ≤ 9223372036854775807) :
    Calls Tryd.prog 15 #[.agg ca.toArray, .int .i64 a] w (MadePost (Rep.slice 3 Rep.int) (nbrs x a) w) := by
  have HA := Lib.hid ha
  have HR := Lib.hid hr
  obtain ⟨av1, rfl, a_0, a_1⟩ := RTopology_raw ha.1
  obtain ⟨x0, x1⟩ := x
  clear ha hr a_1
  go_enter Tryd.func15, Tryd.ntmps15
  go_wp2
  generalize hwA : World.alloc w _ = wA
  have HS : Hid (wA.heap.size = w.heap.size + 1) := Lib.hid (by rw [← hwA]; simp)
  have EA : Below w.heap.size w wA := by rw [← hwA]; exact (Below.refl _ _).alloc (Nat.le_refl _) _
  have XB : Hid (wA.heap[w.heap.size]? = some (.cells #[.int .i64 x0, av1] 26 (0, 0))) := Lib.hid (by rw [← hwA]; exact heap_new_at rfl)
  clear hwA
  have O0 := Rep.own0_lit (e := 3) (r := Rep.int) (w := wA) (cs := []) (xs := []) (T := fun _ => False) (S := Btw (w.heap.size + 1) (wA.heap.size + 1)) (by simp) (by simp) rfl (fun _ h => h.elim) ⟨by have := HS.out; omega, by omega⟩
  rw [HS.out] at O0
  go_loopw [5, 6] (fun v i wr => ∃ k : Nat, k ≤ nbN x0 ∧ i = .int .i64 k ∧ Rep.own0 3 Rep.int wr v (nbK (x0, x1) a k) (Btw (w.heap.size + 1) wr.heap.size) ∧ Below (w.heap.size + 1) wA wr ∧ w.heap.size + 1 ≤ wr.heap.size) (fun _ i _ => nbN x0 - (intOf i).toNat)
  case atStart => exact ⟨0, Nat.zero_le _, rfl, O0.wide (fun k hk => ⟨hk.1, by have := hk.2; have := HS.out; simp; omega⟩), (Below.refl _ _).alloc (by have := HS.out; omega) _, by have := HS.out; simp; omega⟩
  case round =>
    clear O0
    obtain ⟨k, hk, rfl, hown, hbel, hge⟩ := hrel
    obtain ⟨va, vc, rfl⟩ := hown.none_iff
    have h6 := nbN_le x0
    have L0 := boxCell ((hbel.block _ (Nat.lt_succ_self _)).trans XB.out) (j := 0) (v := .int .i64 x0) rfl
    have L1 := boxCell ((hbel.block _ (Nat.lt_succ_self _)).trans XB.out) (j := 1) (v := av1) rfl
    have HO := Lib.hid hown; clear hown
    have EW : Below w.heap.size w wr := EA.trans (hbel.mono (by omega))
    by_cases hc : (k : Int) < x0 ∧ k < 6
    · obtain ⟨hlt, h6'⟩ := hc
      have hd : decide ((k : Int) < x0) = true := by simpa using hlt
      go_wp2_with fail
      refine (specLinkIndex_c (HA.out.below EW) HR.out ⟨by omega, by omega⟩).mono ?_
      rintro e w1 ⟨rfl, hb1⟩
      have hz1 := hb1.size
      have hbel1 := hbel.trans (hb1.mono hge)
      have HO1 := HO.out.below hb1
      have hlen := nbK_len (x0, x1) a k
      clear L0 L1
      by_cases hh : 0 ≤ idxOf (isLink a k) x1
      · have HT := Lib.hid (nbK_yes (x := (x0, x1)) hh)
        go_wp2_with (at_builtin; refine Rep.wpList_pushB rfl _ _ 32 rfl (r := Rep.int) (e := 3) Tryd.underlying32 infInt rfl (by decide) (by decide) (B := w.heap.size + 1) HO1 (by rfl) (by rfl) rfl (Rep.flat_int (n := (k : Int)) (by omega) w1) rfl (fun _ _ h => h) (fun j hj => ⟨hj.1, by have := hj.2; omega⟩) (fun _ h => h.elim) (by omega) (by omega) ?_)
        intro v2 w2 hown2 hbel2 hz2
        rw [← HT.out] at hown2
        have HO2 := Lib.hid hown2
        have hbel3 := hbel1.trans hbel2
        clear hown2 HO1 HO hbel2 hbel1 hbel hb1 EW
        go_wp2
        go_roundw
        case rel => exact ⟨k + 1, nbN_lt hlt h6', by go_num, HO2.out, hbel3, by omega⟩
        case measure => have := nbN_lt hlt h6'; simp [intOf]; omega
      · have HT := Lib.hid (nbK_no (x := (x0, x1)) hh)
        go_wp2
        go_roundw
        case rel => exact ⟨k + 1, nbN_lt hlt h6', by go_num, by rw [HT.out]; exact HO1.wide (fun j hj => ⟨hj.1, by have := hj.2; omega⟩), hbel1, by omega⟩
        case measure => have := nbN_lt hlt h6'; simp [intOf]; omega
    · have HK := Lib.hid (nbN_ge hk hc)
      by_cases hlt : (k : Int) < x0
      · have hd : decide ((k : Int) < x0) = true := by simpa using hlt
        have h6' : ¬ k < 6 := fun q => hc ⟨hlt, q⟩
        have hd6 : decide ((k : Int) < 6) = false := by simp; omega
        go_wp2
        go_ret
        refine ⟨_, rfl, ?_, EW⟩
        unfold nbrs
        simp only [← HK.out]
        exact (HO.out.own (by unfold Big; have := nbK_len (x0, x1) a k; omega)).wide (fun j hj => ⟨by have := hj.1; omega, hj.2⟩)
      · have hd : decide ((k : Int) < x0) = false := by simpa using hlt
        go_wp2
        go_ret
        refine ⟨_, rfl, ?_, EW⟩
        unfold nbrs
        simp only [← HK.out]
        exact (HO.out.own (by unfold Big; have := nbK_len (x0, x1) a k; omega)).wide (fun j hj => ⟨by have := hj.1; omega, hj.2⟩)
set_option maxHeartbeats 1000000 in
theorem implNeighborsOf_c {w : World} {ca : List Value} {x : LTopology} {a : Int} (ha : RTopology.rd w ca x) (hr : -9223372036854775808 ≤ a ∧ a ≤ 9223372036854775807) :
    Calls Tryd.prog 14 #[.agg ca.toArray, .int .i64 a] w (MadePost (Rep.slice 3 Rep.int) (nbrs x a) w) := by
  have HA := Lib.hid ha
  have HR := Lib.hid hr
  obtain ⟨av1, rfl, a_0, a_1⟩ := RTopology_raw ha.1
  obtain ⟨x0, x1⟩ := x
  clear ha hr a_1
  go_enter Tryd.func14, Tryd.ntmps14
  go_wp2
  all_goals
    generalize hwA : World.alloc w _ = wA
    have HS : Hid (wA.heap.size = w.heap.size + 1) := Lib.hid (by rw [← hwA]; simp)
    have EA : Below w.heap.size w wA := by rw [← hwA]; exact (Below.refl _ _).alloc (Nat.le_refl _) _
    have XB : Hid (wA.heap[w.heap.size]? = some (.cells #[.int .i64 x0, av1] 26 (0, 0))) := Lib.hid (by rw [← hwA]; exact heap_new_at rfl)
    clear hwA
    have O0 := Rep.own0_lit (e := 3) (r := Rep.int) (w := wA) (cs := []) (xs := []) (T := fun _ => False) (S := Btw (w.heap.size + 1) (wA.heap.size + 1)) (by simp) (by simp) rfl (fun _ h => h.elim) ⟨by have := HS.out; omega, by omega⟩
    rw [HS.out] at O0
    go_loopw [5, 12] (fun v i wr => ∃ k : Nat, k ≤ nbN x0 ∧ i = .int .i64 k ∧ Rep.own0 3 Rep.int wr v (nbK (x0, x1) a k) (Btw (w.heap.size + 1) wr.heap.size) ∧ Below (w.heap.size + 1) wA wr ∧ w.heap.size + 1 ≤ wr.heap.size) (fun _ i _ => nbN x0 - (intOf i).toNat)
    case atStart => exact ⟨0, Nat.zero_le _, rfl, O0.wide (fun k hk => ⟨hk.1, by have := hk.2; have := HS.out; simp; omega⟩), (Below.refl _ _).alloc (by have := HS.out; omega) _, by have := HS.out; simp; omega⟩
    case round =>
      clear O0
      obtain ⟨k, hk, rfl, hown, hbel, hge⟩ := hrel
      obtain ⟨va, vc, rfl⟩ := hown.none_iff
      have h6 := nbN_le x0
      have L0 := boxCell ((hbel.block _ (Nat.lt_succ_self _)).trans XB.out) (j := 0) (v := .int .i64 x0) rfl
      have L1 := boxCell ((hbel.block _ (Nat.lt_succ_self _)).trans XB.out) (j := 1) (v := av1) rfl
      have HO := Lib.hid hown; clear hown
      have EW : Below w.heap.size w wr := EA.trans (hbel.mono (by omega))
      have hN := nbN_cases x0
      by_cases hc : k < nbN x0
      · have hlt := hc
        have hm1 : (k : Int) < 6 := by omega
        have hm2 : (k : Int) < x0 := by omega
        first
          | (exfalso; omega)
          | skip
        all_goals
          go_wp2_with fail
          refine (implLinkIndex_c (HA.out.below EW) HR.out ⟨by omega, by omega⟩).mono ?_
          rintro e w1 ⟨rfl, hb1⟩
          have hz1 := hb1.size
          have hbel1 := hbel.trans (hb1.mono hge)
          have HO1 := HO.out.below hb1
          have hlen := nbK_len (x0, x1) a k
          clear L0 L1
          by_cases hh : 0 ≤ idxOf (isLink a k) x1
          · have HT := Lib.hid (nbK_yes (x := (x0, x1)) hh)
            go_wp2_with (at_builtin; refine Rep.wpList_pushB rfl _ _ 32 rfl (r := Rep.int) (e := 3) Tryd.underlying32 infInt rfl (by decide) (by decide) (B := w.heap.size + 1) HO1 (by rfl) (by rfl) rfl (Rep.flat_int (n := (k : Int)) (by omega) w1) rfl (fun _ _ h => h) (fun j hj => ⟨hj.1, by have := hj.2; omega⟩) (fun _ h => h.elim) (by omega) (by omega) ?_)
            intro v2 w2 hown2 hbel2 hz2
            rw [← HT.out] at hown2
            have HO2 := Lib.hid hown2
            have hbel3 := hbel1.trans hbel2
            clear hown2 HO1 HO hbel2 hbel1 hbel hb1 EW
            go_wp2
            go_roundw
            case rel => exact ⟨k + 1, hlt, by go_num, HO2.out, hbel3, by omega⟩
            case measure => have := hlt; simp [intOf]; omega
          · have HT := Lib.hid (nbK_no (x := (x0, x1)) hh)
            go_wp2
            go_roundw
            case rel => exact ⟨k + 1, hlt, by go_num, by rw [HT.out]; exact HO1.wide (fun j hj => ⟨hj.1, by have := hj.2; omega⟩), hbel1, by omega⟩
            case measure => have := hlt; simp [intOf]; omega
      · have HK := Lib.hid (show k = nbN x0 by omega)
        have hm1 : (6 : Int) ≤ k ∨ x0 ≤ k := by omega
        by_cases hm2 : (k : Int) < 6
        · first
          | (exfalso; omega)
          | skip
          all_goals
            have hm3 : ¬ (k : Int) < x0 := by omega
            have hm4 : (0 : Int) ≤ k := by omega
            clear hN hm1
            go_wp2
            go_ret
            refine ⟨_, rfl, ?_, EW⟩
            unfold nbrs
            simp only [← HK.out]
            exact (HO.out.own (by unfold Big; have := nbK_len (x0, x1) a k; omega)).wide (fun j hj => ⟨by have := hj.1; omega, hj.2⟩)
        · first
          | (exfalso; omega)
          | skip
          all_goals
            clear hN hm1
            go_wp2
            go_ret
            refine ⟨_, rfl, ?_, EW⟩
            unfold nbrs
            simp only [← HK.out]
            exact (HO.out.own (by unfold Big; have := nbK_len (x0, x1) a k; omega)).wide (fun j hj => ⟨by have := hj.1; omega, hj.2⟩)
end Go.Proofs.YtpgnbablhdknnaaDoor

/-
  Removing links that fail.
-/
import Derived.Test.YtpgnbablhdknnaaDoorFace
import Derived.Test.YtpgnbablhdknnaaDoorAcc
import Derived.IntWalk
namespace Go.Proofs.YtpgnbablhdknnaaDoor
open Go.RowKit
set_option linter.unusedVariables false
set_option linter.unusedSimpArgs false
set_option linter.unnecessarySimpa false
def hasI (l : List Int) (n : Int) : Bool := decide (0 ≤ idxOf (eqI n) l)
def bitB (s i : Int) : Bool := bits BinOp.and IntKind.i64 (s / 2 ^ i.toNat) 1 == 1
def inSet (s i : Int) : Bool := decide (0 ≤ s) && (inR i 0 30 && bitB s i)
def keepL (f : List Int) (d : Int) (j : Nat) (l : LLink) : Bool := !hasI f j && (!inSet d l.1 && !inSet d l.2)
def remL (x : LTopology) (f : List Int) (d : Int) (j : Nat) : List LLink := if keepL f d j (x.2.getD j (0, 0)) then [x.2.getD j (0, 0)] else []
def remT (x : LTopology) (f : List Int) (d : Int) : LTopology := (x.1, accK (remL x f d) x.2.length)
theorem remL_len (x : LTopology) (f : List Int) (d : Int) (k : Nat) : (remL x f d k).length ≤ 1 := by unfold remL; split <;> simp
theorem remL_yes {x : LTopology} {f : List Int} {d : Int} {k : Nat} (h : k < x.2.length) (q : keepL f d k x.2[k] = true) : remL x f d k = [x.2[k]] := by
  unfold remL; rw [getD_get h, q]; rfl
theorem remL_no {x : LTopology} {f : List Int} {d : Int} {k : Nat} (h : k < x.2.length) (q : keepL f d k x.2[k] = false) : remL x f d k = [] := by
  unfold remL; rw [getD_get h, q]; rfl
set_option maxHeartbeats 400000 in
theorem implinSet_c {w : World} {s i : Int} :
    Calls Tryd.prog 35 #[.int .i64 s, .int .i64 i] w fun e w' => e = .returned (.bool (inSet s i)) ∧ w' = w := by
  go_enter Tryd.func35, Tryd.ntmps35
  by_cases h1 : 0 ≤ s
  · have hd : decide (s ≥ 0) = true := by simpa using h1
    go_wp2_with fail
    refine implInRange_c.mono ?_
    rintro e u ⟨rfl, rfl⟩
    cases hq : inR i 0 30
    · have HT := Lib.hid (show inSet s i = false by simp [inSet, hq])
      go_wp2
      go_ret
      exact ⟨ret_bool HT.out.symm, rfl⟩
    · have hq' : 0 ≤ i ∧ i ≤ 30 := by simpa [inR] using hq
      have HT := Lib.hid (show inSet s i = bitB s i by simp [inSet, h1, hq])
      go_wp2
      go_ret
      exact ⟨ret_bool (HT.out.trans rfl).symm, rfl⟩
  · have hd : decide (s ≥ 0) = false := by simpa using h1
    have HT := Lib.hid (show inSet s i = false by simp [inSet, h1])
    go_wp2
    go_ret
    exact ⟨ret_bool HT.out.symm, rfl⟩
set_option maxHeartbeats 400000 in
theorem specl19In_c {w : World} {s i : Int} :
    Calls Tryd.prog 40 #[.int .i64 s, .int .i64 i] w fun e w' => e = .returned (.bool (inSet s i)) ∧ w' = w := by
  go_enter Tryd.func40, Tryd.ntmps40
  go_wp2_with fail
  refine specl1In_c.mono ?_
  rintro e u ⟨rfl, rfl⟩
  cases hq : inR i 0 30
  · have HT := Lib.hid (show inSet s i = false by simp [inSet, hq])
    go_wp2
    go_ret
    exact ⟨ret_bool HT.out.symm, rfl⟩
  · by_cases h1 : 0 ≤ s
    · have hd : decide (s ≥ 0) = true := by simpa using h1
      have hq' : 0 ≤ i ∧ i ≤ 30 := by simpa [inR] using hq
      have HT := Lib.hid (show inSet s i = bitB s i by simp [inSet, h1, hq])
      go_wp2
      go_ret
      exact ⟨ret_bool (HT.out.trans rfl).symm, rfl⟩
    · have hd : decide (s ≥ 0) = false := by simpa using h1
      have HT := Lib.hid (show inSet s i = false by simp [inSet, h1])
      go_wp2
      go_ret
      exact ⟨ret_bool HT.out.symm, rfl⟩
set_option maxHeartbeats 400000 in
theorem Contains_int_c {w : World} {va : Value} {y : List Int} {b : Int} (hy : (Rep.slice 3 Rep.int).raw w [va] y) :
    Calls Tryd.prog 34 #[va, .int .i64 b] w fun e w' => e = .returned (.bool (hasI y b)) ∧ w' = w := by
  go_enter Tryd.func34, Tryd.ntmps34
  go_wp2_with fail
  refine (Index_int_c hy).mono ?_
  rintro e w2 ⟨rfl, rfl⟩
  go_wp2
  go_ret
  exact ⟨rfl, rfl⟩
set_option maxHeartbeats 400000 in
theorem specl19Has_c {w : World} {va : Value} {y : List Int} {b : Int} (hy : (Rep.slice 3 Rep.int).raw w [va] y) :
    Calls Tryd.prog 39 #[va, .int .i64 b] w fun e w' => e = .returned (.bool (hasI y b)) ∧ w' = w := by
  obtain ⟨aa, capa, hva, la⟩ := Rep.len_raw hy; obtain rfl : va = _ := by simpa using hva
  clear hva
  go_enter Tryd.func39, Tryd.ntmps39
  go_wp2
  go_loop [5] (fun i => ∃ k : Nat, k ≤ y.length ∧ i = .int .i64 k ∧ (∀ j, (h : j < k) → (h2 : j < y.length) → eqI b y[j] = false)) (fun i => y.length - (intOf i).toNat)
  case atStart => exact ⟨0, Nat.zero_le _, rfl, fun _ h => by omega⟩
  case round =>
    obtain ⟨k, hk, rfl, hno⟩ := hrel
    have HN := Lib.hid hno; clear hno
    by_cases hlt : k < y.length
    · obtain ⟨ba, offa, rfl, c0, hr, A0⟩ := Rep.get1 hy hlt rfl
      obtain ⟨he, hrg⟩ := Rep.int_raw hr
      obtain rfl : c0 = _ := by simpa using he
      clear he hr
      by_cases hq : y[k] = b
      · have HT := Lib.hid (show hasI y b = true by unfold hasI; rw [idxOf_hit hlt (show eqI b y[k] = true by simp [eqI, hq]) HN.out]; simp)
        have q1 : (y[k] == b) = true := by simpa using hq
        clear hq
        go_wp2
        go_ret
        exact ⟨ret_bool HT.out.symm, rfl⟩
      · have HT := Lib.hid (no_succ hlt (show eqI b y[k] = false by simp [eqI, hq]) HN.out)
        have q1 : (y[k] == b) = false := by simpa using hq
        clear hq
        go_wp2
        go_round
        case rel => exact ⟨k + 1, by omega, by go_num, HT.out⟩
        case measure => simp [intOf]; omega
    · have HT := Lib.hid (show hasI y b = false by unfold hasI; rw [idxOf_miss hlt HN.out]; simp)
      go_wp2
      go_ret
      exact ⟨ret_bool HT.out.symm, rfl⟩
set_option maxHeartbeats 2000000 in
theorem specRemoveFailed_c {w : World} {ca : List Value} {x : LTopology} {vf : Value} {f : List Int} {d : Int} (ha : RTopology.rd w ca x) (hf : (Rep.slice 3 Rep.int).rd w [vf] f) (hd : -9223372036854775808 ≤ d ∧ d ≤ 9223372036854775807) :
    Calls Tryd.prog 21 #[.agg ca.toArray, vf, .int .i64 d] w (MadeAgg RTopology (remT x f d) w) := by
  have HF := Lib.hid hf
  obtain ⟨av1, rfl, a_0, a_1⟩ := RTopology_raw ha.1
  have HL := Lib.hid ha.2.2.1
  obtain ⟨x0, x1⟩ := x
  have A00 := Lib.hid a_0
  clear ha hd a_0 hf
  obtain ⟨aa, capa, hva, la⟩ := Rep.len_raw a_1; obtain rfl : av1 = _ := by simpa using hva
  clear hva
  go_enter Tryd.func21, Tryd.ntmps21
  go_wp2
  generalize hwA : World.alloc (World.alloc (World.alloc w _) _) _ = wA
  have HZ : Hid (wA.heap.size = w.heap.size + 3) := Lib.hid (by rw [← hwA]; simp)
  have EA : Below w.heap.size w wA := by rw [← hwA]; exact (by repeat (first | (with_reducible exact Below.refl _ _) | refine Below.alloc ?_ (by simp; try omega) _ | refine Below.drew ?_ | refine Below.setCell ?_ (by simp; try omega) _))
  have XB : Hid (wA.heap[w.heap.size]? = some (.cells #[.int .i64 x0, .slice aa x1.length capa] 26 (0, 0))) := Lib.hid (by rw [← hwA]; exact heap_keep (heap_keep (heap_new_at rfl)))
  have XR : Hid (wA.heap[w.heap.size + 1]? = some (.cells #[.int .i64 0, .slice none 0 0] 26 (0, 0))) := Lib.hid (by rw [← hwA]; exact heap_keep (heap_new_at (by simp)))
  have XO : Hid (wA.heap[w.heap.size + 1 + 1]? = some (.cells #[.int .i64 x0, .slice none 0 0] 26 (0, 0))) := Lib.hid (by rw [← hwA]; exact heap_new_at (by simp))
  clear hwA
  go_loopw [8] (fun i wr => ∃ (k : Nat) (v : Value), k ≤ x1.length ∧ i = .int .i64 k ∧ Hid (wr.heap[w.heap.size + 1 + 1]? = some (.cells #[.int .i64 x0, v] 26 (0, 0))) ∧ Hid (Rep.own0 49 RLink wr v (accK (remL (x0, x1) f d) k) (Btw (w.heap.size + 3) wr.heap.size)) ∧ Below (w.heap.size + 1 + 1) wA wr ∧ w.heap.size + 3 ≤ wr.heap.size) (fun i _ => x1.length - (intOf i).toNat)
  case atStart => exact ⟨0, _, Nat.zero_le _, rfl, XO, Lib.hid Rep.own0.nil, Below.refl _ _, by have := HZ.out; omega⟩
  case round =>
    obtain ⟨k, v, hk, rfl, XV, HO, hbel, hge⟩ := hrel
    obtain ⟨va, vc, hv⟩ := HO.out.none_iff
    obtain rfl := hv
    have L0 := boxCell ((hbel.block _ (show w.heap.size < w.heap.size + 1 + 1 by omega)).trans XB.out) (j := 0) (v := .int .i64 x0) rfl
    have L1 := boxCell ((hbel.block _ (show w.heap.size < w.heap.size + 1 + 1 by omega)).trans XB.out) (j := 1) (v := .slice aa x1.length capa) rfl
    have M0 := boxCell XV.out (j := 0) (v := .int .i64 x0) rfl
    have M1 := boxCell XV.out (j := 1) rfl
    have EW : Below w.heap.size w wr := EA.trans (hbel.mono (by omega))
    by_cases hlt : k < x1.length
    · obtain ⟨ba, offa, rfl, c0, c1, hr, A0, A1⟩ := Rep.get2 (a_1.below EW) hlt rfl
      obtain ⟨he, hr1, hr2⟩ := RLink_raw hr
      simp only [List.cons.injEq, and_true] at he
      obtain ⟨rfl, rfl⟩ := he
      clear hr
      have hyes := fun q => accK_one (remL_yes (x := (x0, x1)) (f := f) (d := d) hlt q)
      have hno := fun q => accK_none (remL_no (x := (x0, x1)) (f := f) (d := d) hlt q)
      simp only at hyes hno
      generalize hy : x1[k] = y at *
      obtain ⟨y1, y2⟩ := y
      clear hy
      try simp only at hr1 hr2 A0 A1
      have HYES := Lib.hid hyes
      have HNO := Lib.hid hno
      have hlen := accK_len (remL_len (x0, x1) f d) k
      have hlx : x1.length ≤ 16777216 := HL.out
      clear hyes hno
      go_wp2_with fail
      refine (specl19Has_c (HF.out.1.below EW)).mono ?_
      rintro e w1 ⟨rfl, hw⟩
      obtain rfl := hw.symm
      cases h1 : hasI f k
      · go_wp2_with fail
        refine specl19In_c.mono ?_
        rintro e w1 ⟨rfl, hw⟩
        obtain rfl := hw.symm
        cases h2 : inSet d y1
        · go_wp2_with fail
          refine specl19In_c.mono ?_
          rintro e w1 ⟨rfl, hw⟩
          obtain rfl := hw.symm
          cases h3 : inSet d y2
          · have HT := HYES.out (by simp [keepL, h1, h2, h3])
            go_wp2_with fail
            refine wp_region_soft_tail (fun W => Below wr.heap.size wr W) [true, true, true, true, true, true, true, false] (by kernel_rfl) (by kernel_rfl) (fun c a d v w h => by cases d <;> exact h) ((Below.refl _ _).drew) ?_
            intro wS HS
            all_goals first | (refine soft_pass rfl HS ?_) | (refine soft_read (v := ?_) rfl (fun W hW => ?_) ?_; rotate_left; (· go_simp; try with_reducible rfl))
            all_goals try simp only [Act.put, List.setIfInBounds_toArray, List.set_cons_zero, List.set_cons_succ]
            all_goals first | (refine soft_pass rfl HS ?_) | (refine soft_read (v := ?_) rfl (fun W hW => ?_) ?_; rotate_left; (· have A_L0 := cell_later hW L0; have A_L1 := cell_later hW L1; have A_M0 := cell_later hW M0; have A_M1 := cell_later hW M1; have A_A0 := cell_later hW A0; have A_A1 := cell_later hW A1; clear hW; go_simp; try with_reducible rfl))
            all_goals try simp only [Act.put, List.setIfInBounds_toArray, List.set_cons_zero, List.set_cons_succ]
            all_goals first | (refine soft_pass rfl HS ?_) | (refine soft_read (v := ?_) rfl (fun W hW => ?_) ?_; rotate_left; (· go_simp; try with_reducible rfl))
            all_goals try simp only [Act.put, List.setIfInBounds_toArray, List.set_cons_zero, List.set_cons_succ]
            all_goals first | (refine soft_pass rfl HS ?_) | (refine soft_read (v := ?_) rfl (fun W hW => ?_) ?_; rotate_left; (· have A_L0 := cell_later hW L0; have A_L1 := cell_later hW L1; have A_M0 := cell_later hW M0; have A_M1 := cell_later hW M1; have A_A0 := cell_later hW A0; have A_A1 := cell_later hW A1; clear hW; go_simp; try with_reducible rfl))
            all_goals try simp only [Act.put, List.setIfInBounds_toArray, List.set_cons_zero, List.set_cons_succ]
            all_goals first | (refine soft_pass rfl HS ?_) | (refine soft_read (v := ?_) rfl (fun W hW => ?_) ?_; rotate_left; (· go_simp; try with_reducible rfl))
            all_goals try simp only [Act.put, List.setIfInBounds_toArray, List.set_cons_zero, List.set_cons_succ]
            all_goals first | (refine soft_pass rfl HS ?_) | (refine soft_read (v := ?_) rfl (fun W hW => ?_) ?_; rotate_left; (· go_simp; try with_reducible rfl))
            all_goals try simp only [Act.put, List.setIfInBounds_toArray, List.set_cons_zero, List.set_cons_succ]
            all_goals first | (refine soft_pass rfl HS ?_) | (refine soft_read (v := ?_) rfl (fun W hW => ?_) ?_; rotate_left; (· have A_L0 := cell_later hW L0; have A_L1 := cell_later hW L1; have A_M0 := cell_later hW M0; have A_M1 := cell_later hW M1; have A_A0 := cell_later hW A0; have A_A1 := cell_later hW A1; clear hW; go_simp; try with_reducible rfl))
            all_goals try simp only [Act.put, List.setIfInBounds_toArray, List.set_cons_zero, List.set_cons_succ]
            all_goals first | (refine soft_pass rfl HS ?_) | (refine soft_do rfl (fun K hK => ?_); go_simp; refine hK _ _ (HS.alloc HS.size _) ?_; clear hK K)
            all_goals try simp only [Act.put, List.setIfInBounds_toArray, List.set_cons_zero, List.set_cons_succ]
            all_goals refine soft_rest ?_
            have hsW := HS.size
            have XW := keepBox XV.out HS
            have hbelW := hbel.trans (HS.mono (by omega))
            replace HO := Lib.hid (HO.out.below HS)
            go_wp2_with (at_builtin; refine Rep.wpList_pushB rfl _ _ 24 rfl (r := RLink) (e := 49) Tryd.underlying24 infLink rfl (by decide) (by decide) (B := w.heap.size + 3) HO.out (by rfl) (by rfl) rfl (Rep.flat_pair (Rep.flat_int hr1) (Rep.flat_int hr2) _) rfl (fun _ _ h => h) (fun j hj => ⟨hj.1, by have := hj.2; omega⟩) (fun _ h => h.elim) (by omega) (by omega) ?_)
            intro v2 w2 hown2 hbel2 hz2
            rw [← HT] at hown2
            obtain ⟨va2, vc2, hv2⟩ := hown2.none_iff
            obtain rfl := hv2
            have XV2 := (hbel2.block _ (by omega)).trans XW
            have N1 := boxCell XV2 (j := 1) rfl
            have NF := frozen_of_row w2 (w.heap.size + 1 + 1) 1 _ _ XV2
            have hbel3 := hbelW.trans (hbel2.mono (by omega))
            have HX2 := Lib.hid XV2
            have HO2 := Lib.hid hown2
            clear XV2 hown2 HT HO HYES HNO hbel2 hbel L0 L1 A0 A1 M0 M1
            go_wp2
            go_roundw
            case rel => exact ⟨k + 1, _, by omega, by go_num, Lib.hid (heap_setCell_same w2 _ 1 _ _ _ HX2.out), Lib.hid ((HO2.out.setCell (by intro q; have := q.1; first | omega | (simp at this; omega) | (simp at this))).wide (fun j hj => ⟨hj.1, by simpa [World.setCell] using hj.2⟩)), hbel3.setCell (by simp) _, by simp [World.setCell]; omega⟩
            case measure => simp [intOf]; omega
          · have HT := HNO.out (by simp [keepL, h1, h2, h3])
            clear HYES HNO
            have HT' := Lib.hid HT
            clear HT
            go_wp2
            go_roundw
            case rel => exact ⟨k + 1, _, by omega, by go_num, XV, Lib.hid (by rw [HT'.out]; exact HO.out), hbel, hge⟩
            case measure => simp [intOf]; omega
        · have HT := HNO.out (by simp [keepL, h1, h2])
          clear HYES HNO
          have HT' := Lib.hid HT
          clear HT
          go_wp2
          go_roundw
          case rel => exact ⟨k + 1, _, by omega, by go_num, XV, Lib.hid (by rw [HT'.out]; exact HO.out), hbel, hge⟩
          case measure => simp [intOf]; omega
      · have HT := HNO.out (by simp [keepL, h1])
        clear HYES HNO
        have HT' := Lib.hid HT
        clear HT
        go_wp2
        go_roundw
        case rel => exact ⟨k + 1, _, by omega, by go_num, XV, Lib.hid (by rw [HT'.out]; exact HO.out), hbel, hge⟩
        case measure => simp [intOf]; omega
    · obtain rfl : k = x1.length := by omega
      have R0 := boxCell ((hbel.block _ (show w.heap.size + 1 < w.heap.size + 1 + 1 by omega)).trans XR.out) (j := 0) (v := .int .i64 0) rfl
      have R1 := boxCell ((hbel.block _ (show w.heap.size + 1 < w.heap.size + 1 + 1 by omega)).trans XR.out) (j := 1) (v := .slice none 0 0) rfl
      have F0 := fun j => frozen_of_row wr (w.heap.size + 1) j _ _ ((hbel.block _ (show w.heap.size + 1 < w.heap.size + 1 + 1 by omega)).trans XR.out)
      have F00 := F0 0
      have F01 := F0 1
      clear F0
      go_wp2
      have ol := accK_len (remL_len (x0, x1) f d) x1.length
      refine bodyPost_ret (v := .agg #[.int .i64 x0, .slice va (accK (remL (x0, x1) f d) x1.length).length vc]) (by simp [results, Tryd.results21, go_sem, R0, R1, F00, F01]) rfl ⟨[_, _], rfl, ?_, ?_⟩
      · exact Rep.flat_own (r := Rep.int) (q := Rep.slice 49 RLink) (cs := [_]) (Rep.flat_int A00.out) ((((HO.out.own (by unfold Big; have := HL.out; unfold Big at this; (try simp only at this); omega)).setCell (by intro q; have := q.1; first | omega | (simp at this; omega) | (simp at this))).setCell (by intro q; have := q.1; first | omega | (simp at this; omega) | (simp at this))).wide (fun j hj => ⟨by have := hj.1; omega, by simpa [World.setCell] using hj.2⟩))
      · exact (EW.setCell (by simp) _).setCell (by simp) _
set_option maxHeartbeats 2000000 in
theorem implRemoveFailed_c {w : World} {ca : List Value} {x : LTopology} {vf : Value} {f : List Int} {d : Int} (ha : RTopology.rd w ca x) (hf : (Rep.slice 3 Rep.int).rd w [vf] f) (hd : -9223372036854775808 ≤ d ∧ d ≤ 9223372036854775807) :
    Calls Tryd.prog 12 #[.agg ca.toArray, vf, .int .i64 d] w (MadeAgg RTopology (remT x f d) w) := by
  have HF := Lib.hid hf
  obtain ⟨av1, rfl, a_0, a_1⟩ := RTopology_raw ha.1
  have HL := Lib.hid ha.2.2.1
  obtain ⟨x0, x1⟩ := x
  have A00 := Lib.hid a_0
  clear ha hd a_0 hf
  obtain ⟨aa, capa, hva, la⟩ := Rep.len_raw a_1; obtain rfl : av1 = _ := by simpa using hva
  clear hva
  go_enter Tryd.func12, Tryd.ntmps12
  go_wp2
  generalize hwA : World.alloc (World.alloc (World.alloc w _) _) _ = wA
  have HZ : Hid (wA.heap.size = w.heap.size + 3) := Lib.hid (by rw [← hwA]; simp)
  have EA : Below w.heap.size w wA := by rw [← hwA]; exact (by repeat (first | (with_reducible exact Below.refl _ _) | refine Below.alloc ?_ (by simp; try omega) _ | refine Below.drew ?_ | refine Below.setCell ?_ (by simp; try omega) _))
  have XB : Hid (wA.heap[w.heap.size]? = some (.cells #[.int .i64 x0, .slice aa x1.length capa] 26 (0, 0))) := Lib.hid (by rw [← hwA]; exact heap_keep (heap_keep (heap_new_at rfl)))
  have XR : Hid (wA.heap[w.heap.size + 1]? = some (.cells #[.int .i64 0, .slice none 0 0] 26 (0, 0))) := Lib.hid (by rw [← hwA]; exact heap_keep (heap_new_at (by simp)))
  have XO : Hid (wA.heap[w.heap.size + 1 + 1]? = some (.cells #[.int .i64 x0, .slice none 0 0] 26 (0, 0))) := Lib.hid (by rw [← hwA]; exact heap_new_at (by simp))
  clear hwA
  go_loopw [16] (fun i wr => ∃ (k : Nat) (v : Value), k ≤ x1.length ∧ i = .int .i64 k ∧ Hid (wr.heap[w.heap.size + 1 + 1]? = some (.cells #[.int .i64 x0, v] 26 (0, 0))) ∧ Hid (Rep.own0 49 RLink wr v (accK (remL (x0, x1) f d) k) (Btw (w.heap.size + 3) wr.heap.size)) ∧ Below (w.heap.size + 1 + 1) wA wr ∧ w.heap.size + 3 ≤ wr.heap.size) (fun i _ => x1.length - (intOf i).toNat)
  case atStart => exact ⟨0, _, Nat.zero_le _, rfl, XO, Lib.hid Rep.own0.nil, Below.refl _ _, by have := HZ.out; omega⟩
  case round =>
    obtain ⟨k, v, hk, rfl, XV, HO, hbel, hge⟩ := hrel
    obtain ⟨va, vc, hv⟩ := HO.out.none_iff
    obtain rfl := hv
    have L0 := boxCell ((hbel.block _ (show w.heap.size < w.heap.size + 1 + 1 by omega)).trans XB.out) (j := 0) (v := .int .i64 x0) rfl
    have L1 := boxCell ((hbel.block _ (show w.heap.size < w.heap.size + 1 + 1 by omega)).trans XB.out) (j := 1) (v := .slice aa x1.length capa) rfl
    have M0 := boxCell XV.out (j := 0) (v := .int .i64 x0) rfl
    have M1 := boxCell XV.out (j := 1) rfl
    have EW : Below w.heap.size w wr := EA.trans (hbel.mono (by omega))
    by_cases hlt : k < x1.length
    · obtain ⟨ba, offa, rfl, c0, c1, hr, A0, A1⟩ := Rep.get2 (a_1.below EW) hlt rfl
      obtain ⟨he, hr1, hr2⟩ := RLink_raw hr
      simp only [List.cons.injEq, and_true] at he
      obtain ⟨rfl, rfl⟩ := he
      clear hr
      have hyes := fun q => accK_one (remL_yes (x := (x0, x1)) (f := f) (d := d) hlt q)
      have hno := fun q => accK_none (remL_no (x := (x0, x1)) (f := f) (d := d) hlt q)
      simp only at hyes hno
      generalize hy : x1[k] = y at *
      obtain ⟨y1, y2⟩ := y
      clear hy
      try simp only at hr1 hr2 A0 A1
      have HYES := Lib.hid hyes
      have HNO := Lib.hid hno
      have hlen := accK_len (remL_len (x0, x1) f d) k
      have hlx : x1.length ≤ 16777216 := HL.out
      clear hyes hno
      go_wp2_with fail
      generalize hwC : World.alloc wr _ = wC
      have HS : Below wr.heap.size wr wC := by rw [← hwC]; exact (Below.refl _ _).alloc (Nat.le_refl _) _
      have K0 : wC.cell? ⟨wr.heap.size, 0, none⟩ = some (.int .i64 y1) := by rw [← hwC]; simp [go_sem]
      have K1 : wC.cell? ⟨wr.heap.size, 1, none⟩ = some (.int .i64 y2) := by rw [← hwC]; simp [go_sem]
      clear hwC
      have hsW := HS.size
      have XW := keepBox XV.out HS
      have hbelW := hbel.trans (HS.mono (by omega))
      have EC : Below w.heap.size w wC := EW.trans (HS.mono EW.size)
      replace HO := Lib.hid (HO.out.below HS)
      replace L0 := cell_later HS L0
      replace L1 := cell_later HS L1
      replace M0 := cell_later HS M0
      replace M1 := cell_later HS M1
      clear A0 A1
      refine (Contains_int_c (HF.out.1.below EC)).mono ?_
      rintro e w1 ⟨rfl, hw⟩
      obtain rfl := hw.symm
      cases h1 : hasI f k
      · go_wp2_with fail
        refine implinSet_c.mono ?_
        rintro e w1 ⟨rfl, hw⟩
        obtain rfl := hw.symm
        cases h2 : inSet d y1
        · go_wp2_with fail
          refine implinSet_c.mono ?_
          rintro e w1 ⟨rfl, hw⟩
          obtain rfl := hw.symm
          cases h3 : inSet d y2
          · have HT := HYES.out (by simp [keepL, h1, h2, h3])
            go_wp2_with (at_builtin; refine Rep.wpList_pushB rfl _ _ 24 rfl (r := RLink) (e := 49) Tryd.underlying24 infLink rfl (by decide) (by decide) (B := w.heap.size + 3) HO.out (by rfl) (by rfl) rfl (Rep.flat_pair (Rep.flat_int hr1) (Rep.flat_int hr2) _) rfl (fun _ _ h => h) (fun j hj => ⟨hj.1, by have := hj.2; omega⟩) (fun _ h => h.elim) (by omega) (by omega) ?_)
            intro v2 w2 hown2 hbel2 hz2
            rw [← HT] at hown2
            obtain ⟨va2, vc2, hv2⟩ := hown2.none_iff
            obtain rfl := hv2
            have XV2 := (hbel2.block _ (by omega)).trans XW
            have N1 := boxCell XV2 (j := 1) rfl
            have NF := frozen_of_row w2 (w.heap.size + 1 + 1) 1 _ _ XV2
            have hbel3 := hbelW.trans (hbel2.mono (by omega))
            have HX2 := Lib.hid XV2
            have HO2 := Lib.hid hown2
            clear XV2 hown2 HT HO HYES HNO hbel2 hbel L0 L1 M0 M1 K0 K1
            go_wp2
            go_roundw
            case rel => exact ⟨k + 1, _, by omega, by go_num, Lib.hid (heap_setCell_same w2 _ 1 _ _ _ HX2.out), Lib.hid ((HO2.out.setCell (by intro q; have := q.1; first | omega | (simp at this; omega) | (simp at this))).wide (fun j hj => ⟨hj.1, by simpa [World.setCell] using hj.2⟩)), hbel3.setCell (by simp) _, by simp [World.setCell]; omega⟩
            case measure => simp [intOf]; omega
          · have HT := HNO.out (by simp [keepL, h1, h2, h3])
            clear HYES HNO
            have HT' := Lib.hid HT
            clear HT
            go_wp2
            go_roundw
            case rel => exact ⟨k + 1, _, by omega, by go_num, Lib.hid XW, Lib.hid (by rw [HT'.out]; exact HO.out.wide (fun j hj => ⟨hj.1, by have := hj.2; omega⟩)), hbelW, by omega⟩
            case measure => simp [intOf]; omega
        · have HT := HNO.out (by simp [keepL, h1, h2])
          clear HYES HNO
          have HT' := Lib.hid HT
          clear HT
          go_wp2
          go_roundw
          case rel => exact ⟨k + 1, _, by omega, by go_num, Lib.hid XW, Lib.hid (by rw [HT'.out]; exact HO.out.wide (fun j hj => ⟨hj.1, by have := hj.2; omega⟩)), hbelW, by omega⟩
          case measure => simp [intOf]; omega
      · have HT := HNO.out (by simp [keepL, h1])
        clear HYES HNO
        have HT' := Lib.hid HT
        clear HT
        go_wp2
        go_roundw
        case rel => exact ⟨k + 1, _, by omega, by go_num, Lib.hid XW, Lib.hid (by rw [HT'.out]; exact HO.out.wide (fun j hj => ⟨hj.1, by have := hj.2; omega⟩)), hbelW, by omega⟩
        case measure => simp [intOf]; omega
    · obtain rfl : k = x1.length := by omega
      have R0 := boxCell ((hbel.block _ (show w.heap.size + 1 < w.heap.size + 1 + 1 by omega)).trans XR.out) (j := 0) (v := .int .i64 0) rfl
      have R1 := boxCell ((hbel.block _ (show w.heap.size + 1 < w.heap.size + 1 + 1 by omega)).trans XR.out) (j := 1) (v := .slice none 0 0) rfl
      have F0 := fun j => frozen_of_row wr (w.heap.size + 1) j _ _ ((hbel.block _ (show w.heap.size + 1 < w.heap.size + 1 + 1 by omega)).trans XR.out)
      have F00 := F0 0
      have F01 := F0 1
      clear F0
      go_wp2
      have ol := accK_len (remL_len (x0, x1) f d) x1.length
      refine bodyPost_ret (v := .agg #[.int .i64 x0, .slice va (accK (remL (x0, x1) f d) x1.length).length vc]) (by simp [results, Tryd.results12, go_sem, R0, R1, F00, F01]) rfl ⟨[_, _], rfl, ?_, ?_⟩
      · exact Rep.flat_own (r := Rep.int) (q := Rep.slice 49 RLink) (cs := [_]) (Rep.flat_int A00.out) ((((HO.out.own (by unfold Big; have := HL.out; unfold Big at this; (try simp only at this); omega)).setCell (by intro q; have := q.1; first | omega | (simp at this; omega) | (simp at this))).setCell (by intro q; have := q.1; first | omega | (simp at this; omega) | (simp at this))).wide (fun j hj => ⟨by have := hj.1; omega, by simpa [World.setCell] using hj.2⟩))
      · exact (EW.setCell (by simp) _).setCell (by simp) _
end Go.Proofs.YtpgnbablhdknnaaDoor

/-
  Faces that wait.
-/
import Derived.Test.YtfigcalengpipaaMade
import Derived.Test.YtfigcalengpipaaPend
import Derived.Test.YtfigcalengpipaaInfo
import Derived.IntWalk
import Derived.Deep.Cut
import Derived.WalkSpells
import Derived.WalkLawsBesides
namespace Go.Proofs.Ytfigcalengpipaa
open Go.RowKit
set_option linter.unusedVariables false
set_option linter.unusedSimpArgs false
set_option linter.unnecessarySimpa false
def facesOf (l : List LRequester) : List Int := l.map (·.1)
def facesP (n : LName) (x : LNode) : List Int := if idxOf (isPend n) x.2.2.1 < 0 then [] else facesOf (x.2.2.1.getD (idxOf (isPend n) x.2.2.1).toNat ([], [], 0)).2.1
theorem facesP_no {n : LName} {x : LNode} (h : idxOf (isPend n) x.2.2.1 < 0) : facesP n x = [] := by unfold facesP; rw [if_pos h]
theorem facesP_yes {n : LName} {x : LNode} {k : Nat} (h : idxOf (isPend n) x.2.2.1 = k) (hk : k < x.2.2.1.length) : facesP n x = facesOf x.2.2.1[k].2.1 := by
  unfold facesP
  simp only [h, Int.toNat_natCast, getD_get hk]
  rw [if_neg (by omega)]
theorem facesOf_snoc {l : List LRequester} {k : Nat} (h : k < l.length) : facesOf (l.take (k + 1)) = facesOf (l.take k) ++ [l[k].1] := by
  unfold facesOf; rw [List.take_succ_eq_append_getElem h, List.map_append]; rfl
theorem facesOf_len (l : List LRequester) : (facesOf l).length = l.length := by simp [facesOf]
set_option maxRecDepth 100000 in
set_option maxHeartbeats 4000000 in
theorem specPendingFaces_c {w : World} {cx : List Value} {x : LNode} (hx : RNode.rd w cx x) {cn : List Value} {n : LName} (hn : RName.rd w cn n) :
    Calls Try.prog 21 #[.agg cx.toArray, .agg cn.toArray] w (MadePost (Rep.slice 3 Rep.int) (facesP n x) w) := by
  obtain ⟨nv, rfl, n_0⟩ := RName_raw hn.1
  obtain ⟨na, np, hnv, _⟩ := Rep.len_raw n_0; obtain rfl : nv = _ := by simpa using hnv
  have HN := Lib.hid hn
  have HBD := Lib.hid hx.2.2.2.1
  obtain ⟨av0, av2, av3, av4, av5, av6, rfl, a_0, a_1, a_2, a_3, a_4, a_5, a_6, a_7, a_8⟩ := RNode_raw hx.1
  obtain ⟨aa0, ap0, ah0, al0⟩ := Rep.len_raw a_0; obtain rfl : av0 = _ := by simpa using ah0
  clear ah0
  obtain ⟨aa2, ap2, ah2, al2⟩ := Rep.len_raw a_3; obtain rfl : av2 = _ := by simpa using ah2
  clear ah2
  obtain ⟨aa3, ap3, ah3, al3⟩ := Rep.len_raw a_4; obtain rfl : av3 = _ := by simpa using ah3
  clear ah3
  obtain ⟨aa4, ap4, ah4, al4⟩ := Rep.len_raw a_5; obtain rfl : av4 = _ := by simpa using ah4
  clear ah4
  obtain ⟨aa5, ap5, ah5, al5⟩ := Rep.len_raw a_6; obtain rfl : av5 = _ := by simpa using ah5
  clear ah5
  obtain ⟨aa6, ap6, ah6, al6⟩ := Rep.len_raw a_7; obtain rfl : av6 = _ := by simpa using ah6
  clear ah6
  have HP := Lib.hid a_4
  have hplen : x.2.2.1.length ≤ 16777216 := HBD.out.1
  clear hnv n_0 hn hx a_0 a_1 a_2 a_3 a_5 a_6 a_7 a_8 a_4
  go_enter Try.func21, Try.ntmps21
  go_upto_region 1 with fail
  generalize hwB : World.alloc (World.alloc w _) _ = wB
  have EB : Below w.heap.size w wB := by rw [← hwB]; exact (by repeat (first | (with_reducible exact Below.refl _ _) | refine Below.alloc ?_ (by simp; try omega) _ | refine Below.drew ?_ | refine Below.setCell ?_ (by simp; try omega) _))
  have KP : wB.cell? ⟨w.heap.size, 3, none⟩ = some (.slice aa3 x.2.2.1.length ap3) := by rw [← hwB]; simp [go_sem]
  have KN : wB.cell? ⟨w.heap.size + 1, 0, none⟩ = some (.slice na n.length np) := by rw [← hwB]; simp [go_sem]
  have hzB : wB.heap.size = w.heap.size + 2 := by rw [← hwB]; simp
  clear hwB
  have ED := EB
  go_wp2_with fail
  refine (specl13Find_c (HP.out.below ED) (HN.out.1.below ED)).mono ?_
  rintro e w2 ⟨rfl, hb2⟩
  have E2 := ED.trans (hb2.mono ED.size)
  have hz2 := hb2.size
  replace KP := cell_later hb2 KP
  clear KN hb2 ED EB
  by_cases hk : idxOf (isPend n) x.2.2.1 < 0
  · have HT := Lib.hid (facesP_no hk)
    have hk2 : ¬ (0 ≤ idxOf (isPend n) x.2.2.1) := by omega
    generalize hq : idxOf (isPend n) x.2.2.1 = q at *
    clear hq
    go_wp2
    go_loopw [6, 7] (fun v i wr => v = .slice (some ⟨w2.heap.size, 0, none⟩) 0 0 ∧ i = .int .i64 0 ∧ Below w.heap.size w wr) (fun _ _ _ => 0)
    case atStart => exact ⟨rfl, rfl, E2.alloc E2.size _⟩
    case round =>
      obtain ⟨rfl, rfl, hbel⟩ := hrel
      go_wp2
      go_ret
      exact ⟨_, rfl, by rw [HT.out]; exact Rep.void_own, hbel⟩
  · obtain ⟨k, hkl, hki⟩ := idxOf_at hk
    have HKI := Lib.hid hki
    rw [hki]
    have HT := Lib.hid (facesP_yes hki hkl)
    clear hk hki
    have hkI : (0 : Int) ≤ k := by omega
    have hkI2 : (k : Int) < x.2.2.1.length := by omega
    have EZ := E2
    obtain ⟨qb, qo, qE, c0, c1, c2, qr, Q0, Q1, Q2⟩ := Rep.get3 (HP.out.below EZ) hkl rfl
    obtain ⟨qv0, qv1, qhe, q_0, q_1, q_2, q_3⟩ := RPendingInterest_raw qr
    simp only [List.cons.injEq, and_true] at qhe
    obtain ⟨rfl, rfl, rfl⟩ := qhe
    obtain ⟨sa, sp, sh, _⟩ := Rep.len_raw q_2; obtain rfl : c1 = _ := (by simpa using sh)
    have HB := Lib.hid (HBD.out.2 _ (List.getElem_mem hkl))
    clear sh qr q_0 q_1 q_3 Q0 Q2
    generalize x.2.2.1[k] = y at *
    have hsl : y.2.1.length ≤ 16777216 := HB.out.2.1.1
    subst qE
    go_wp2
    go_loopw [6, 7] (fun v i wr => ∃ j : Nat, j ≤ y.2.1.length ∧ i = .int .i64 j ∧ Hid (Rep.own0 3 Rep.int wr v (facesOf (y.2.1.take j)) (Btw w2.heap.size wr.heap.size)) ∧ Below w2.heap.size w2 wr) (fun _ i _ => y.2.1.length - (intOf i).toNat)
    case atStart => exact ⟨0, Nat.zero_le _, rfl, Lib.hid Rep.own0.void, (Below.refl _ _).alloc (Nat.le_refl _) _⟩
    case round =>
      obtain ⟨j, hj, rfl, HO, hbel⟩ := hrel
      have hjI : (0 : Int) ≤ j := by omega
      have hjI2 : (j : Int) ≤ y.2.1.length := by omega
      have hzr := hbel.size
      replace KP := cell_later hbel KP
      replace Q1 := cell_later hbel Q1
      obtain ⟨oa, on, oc, ho, HON⟩ := HO.out.parts; obtain rfl := ho
      have hlk : (facesOf (y.2.1.take j)).length ≤ j := by rw [facesOf_len]; simp; omega
      have hE0 : w.heap.size ≤ w2.heap.size := E2.size
      by_cases hlt : j < y.2.1.length
      · have hltI : (j : Int) < y.2.1.length := by omega
        have HSN := Lib.hid (facesOf_snoc hlt)
        obtain ⟨rb, ro, rfl, d0, d1, d2, rr, R0, R1, R2⟩ := Rep.get3 (q_2.below hbel) hlt rfl
        obtain ⟨rhe, r_0, r_1, r_2⟩ := RRequester_raw rr
        simp only [List.cons.injEq, and_true] at rhe
        obtain ⟨rfl, rfl, rfl⟩ := rhe
        clear rr
        generalize y.2.1[j] = z at *
        go_wp2_with (at_builtin; refine Rep.wpList_pushB rfl _ _ 55 rfl (r := Rep.int) (e := 3) Try.underlying55 infInt rfl (by decide) (by decide) (B := w2.heap.size) HO.out (by rfl) (by rfl) rfl (Rep.flat_int (n := z.1) r_0 wr) rfl (fun _ _ h => h) (fun j hj => ⟨hj.1, by have := hj.2; omega⟩) (fun _ h => h.elim) (by omega) (by first | omega | (simp; omega)) ?_)
        intro v5 w5 hown5 hbel5 hz5
        have hb5 : Below w2.heap.size w2 w5 := hbel.trans hbel5
        have HO5 := Lib.hid (hown5.cast HSN.out.symm)
        clear hown5 hbel5 HO HSN
        go_wp2
        go_roundw
        case rel => exact ⟨j + 1, by omega, by go_num, HO5, hb5⟩
        case measure => simp [intOf]; omega
      · have hltI : ¬ (j : Int) < y.2.1.length := by omega
        have hjl : y.2.1.take j = y.2.1 := List.take_of_length_le (by omega)
        have HR := Lib.hid ((HO.out.cast (congrArg facesOf hjl)).cast HT.out.symm)
        clear hjl
        go_wp2
        go_ret
        exact ⟨_, rfl, (HR.out.own (by rw [HT.out, facesOf_len]; exact hsl)).wide (fun j hj => ⟨by have := hj.1; omega, hj.2⟩), E2.trans (hbel.mono E2.size)⟩
set_option maxRecDepth 100000 in
set_option maxHeartbeats 4000000 in
theorem implPendingFaces_c {w : World} {cx : List Value} {x : LNode} (hx : RNode.rd w cx x) {cn : List Value} {n : LName} (hn : RName.rd w cn n) :
    Calls Try.prog 23 #[.agg cx.toArray, .agg cn.toArray] w (MadePost (Rep.slice 3 Rep.int) (facesP n x) w) := by
  obtain ⟨nv, rfl, n_0⟩ := RName_raw hn.1
  obtain ⟨na, np, hnv, _⟩ := Rep.len_raw n_0; obtain rfl : nv = _ := by simpa using hnv
  have HN := Lib.hid hn
  have HBD := Lib.hid hx.2.2.2.1
  obtain ⟨av0, av2, av3, av4, av5, av6, rfl, a_0, a_1, a_2, a_3, a_4, a_5, a_6, a_7, a_8⟩ := RNode_raw hx.1
  obtain ⟨aa0, ap0, ah0, al0⟩ := Rep.len_raw a_0; obtain rfl : av0 = _ := by simpa using ah0
  clear ah0
  obtain ⟨aa2, ap2, ah2, al2⟩ := Rep.len_raw a_3; obtain rfl : av2 = _ := by simpa using ah2
  clear ah2
  obtain ⟨aa3, ap3, ah3, al3⟩ := Rep.len_raw a_4; obtain rfl : av3 = _ := by simpa using ah3
  clear ah3
  obtain ⟨aa4, ap4, ah4, al4⟩ := Rep.len_raw a_5; obtain rfl : av4 = _ := by simpa using ah4
  clear ah4
  obtain ⟨aa5, ap5, ah5, al5⟩ := Rep.len_raw a_6; obtain rfl : av5 = _ := by simpa using ah5
  clear ah5
  obtain ⟨aa6, ap6, ah6, al6⟩ := Rep.len_raw a_7; obtain rfl : av6 = _ := by simpa using ah6
  clear ah6
  have HP := Lib.hid a_4
  have hplen : x.2.2.1.length ≤ 16777216 := HBD.out.1
  clear hnv n_0 hn hx a_0 a_1 a_2 a_3 a_5 a_6 a_7 a_8 a_4
  go_enter Try.func23, Try.ntmps23
  go_upto_region 1 with fail
  generalize hwB : World.alloc (World.alloc w _) _ = wB
  have EB : Below w.heap.size w wB := by rw [← hwB]; exact (by repeat (first | (with_reducible exact Below.refl _ _) | refine Below.alloc ?_ (by simp; try omega) _ | refine Below.drew ?_ | refine Below.setCell ?_ (by simp; try omega) _))
  have KP : wB.cell? ⟨w.heap.size, 3, none⟩ = some (.slice aa3 x.2.2.1.length ap3) := by rw [← hwB]; simp [go_sem]
  have KN : wB.cell? ⟨w.heap.size + 1, 0, none⟩ = some (.slice na n.length np) := by rw [← hwB]; simp [go_sem]
  have hzB : wB.heap.size = w.heap.size + 2 := by rw [← hwB]; simp
  clear hwB
  go_upto_region 2 with fail
  generalize hwC : World.alloc wB _ = wC
  have EC : Below wB.heap.size wB wC := by rw [← hwC]; exact (Below.refl _ _).alloc (Nat.le_refl _) _
  have hzC : wC.heap.size = wB.heap.size + 1 := by rw [← hwC]; simp
  clear hwC
  replace KP := cell_later EC KP
  replace KN := cell_later EC KN
  have ED := EB.trans (EC.mono EB.size)
  go_wp2_with fail
  refine (implpendingAt_c (HP.out.below ED) (HN.out.1.below ED)).mono ?_
  rintro e w2 ⟨rfl, hb2⟩
  have E2 := ED.trans (hb2.mono ED.size)
  have hz2 := hb2.size
  replace KP := cell_later hb2 KP
  clear KN hb2 ED EB
  by_cases hk : idxOf (isPend n) x.2.2.1 < 0
  · have HT := Lib.hid (facesP_no hk)
    have hk2 : ¬ (0 ≤ idxOf (isPend n) x.2.2.1) := by omega
    generalize hq : idxOf (isPend n) x.2.2.1 = q at *
    clear hq
    go_wp2
    go_ret
    exact ⟨_, rfl, by rw [HT.out]; exact Rep.void_own, E2⟩
  · obtain ⟨k, hkl, hki⟩ := idxOf_at hk
    have HKI := Lib.hid hki
    rw [hki]
    have HT := Lib.hid (facesP_yes hki hkl)
    clear hk hki
    have hkI : (0 : Int) ≤ k := by omega
    have hkI2 : (k : Int) < x.2.2.1.length := by omega
    have EZ := E2
    obtain ⟨qb, qo, qE, c0, c1, c2, qr, Q0, Q1, Q2⟩ := Rep.get3 (HP.out.below EZ) hkl rfl
    obtain ⟨qv0, qv1, qhe, q_0, q_1, q_2, q_3⟩ := RPendingInterest_raw qr
    simp only [List.cons.injEq, and_true] at qhe
    obtain ⟨rfl, rfl, rfl⟩ := qhe
    obtain ⟨sa, sp, sh, _⟩ := Rep.len_raw q_2; obtain rfl : c1 = _ := (by simpa using sh)
    have HB := Lib.hid (HBD.out.2 _ (List.getElem_mem hkl))
    clear sh qr q_0 q_1 q_3 Q0 Q2
    generalize x.2.2.1[k] = y at *
    have hsl : y.2.1.length ≤ 16777216 := HB.out.2.1.1
    subst qE
    go_wp2
    go_loopw [5, 23] (fun v i wr => ∃ j : Nat, j ≤ y.2.1.length ∧ i = .int .i64 j ∧ Hid (Rep.own0 3 Rep.int wr v (facesOf (y.2.1.take j)) (Btw w2.heap.size wr.heap.size)) ∧ Below w2.heap.size w2 wr) (fun _ i _ => y.2.1.length - (intOf i).toNat)
    case atStart => exact ⟨0, Nat.zero_le _, rfl, Lib.hid Rep.own0.void, Below.refl _ _⟩
    case round =>
      obtain ⟨j, hj, rfl, HO, hbel⟩ := hrel
      have hjI : (0 : Int) ≤ j := by omega
      have hjI2 : (j : Int) ≤ y.2.1.length := by omega
      have hzr := hbel.size
      replace KP := cell_later hbel KP
      replace Q1 := cell_later hbel Q1
      obtain ⟨oa, on, oc, ho, HON⟩ := HO.out.parts; obtain rfl := ho
      have hlk : (facesOf (y.2.1.take j)).length ≤ j := by rw [facesOf_len]; simp; omega
      have hE0 : w.heap.size ≤ w2.heap.size := E2.size
      by_cases hlt : j < y.2.1.length
      · have hltI : (j : Int) < y.2.1.length := by omega
        have HSN := Lib.hid (facesOf_snoc hlt)
        obtain ⟨rb, ro, rfl, d0, d1, d2, rr, R0, R1, R2⟩ := Rep.get3 (q_2.below hbel) hlt rfl
        obtain ⟨rhe, r_0, r_1, r_2⟩ := RRequester_raw rr
        simp only [List.cons.injEq, and_true] at rhe
        obtain ⟨rfl, rfl, rfl⟩ := rhe
        clear rr
        generalize y.2.1[j] = z at *
        go_upto_region 7 with fail
        generalize hwE : World.alloc wr _ = wE
        have EE : Below wr.heap.size wr wE := by rw [← hwE]; exact (Below.refl _ _).alloc (Nat.le_refl _) _
        have M0 : wE.cell? ⟨wr.heap.size, 0, none⟩ = some (.int .i64 z.1) := by rw [← hwE]; simp [go_sem]
        have hzE := EE.size
        clear hwE
        replace HO := Lib.hid (HO.out.below EE)
        go_wp2_with (at_builtin; refine Rep.wpList_pushB rfl _ _ 55 rfl (r := Rep.int) (e := 3) Try.underlying55 infInt rfl (by decide) (by decide) (B := w2.heap.size) HO.out (by rfl) (by rfl) rfl (Rep.flat_int (n := z.1) r_0 wE) rfl (fun _ _ h => h) (fun j hj => ⟨hj.1, by have := hj.2; omega⟩) (fun _ h => h.elim) (by omega) (by first | omega | (simp; omega)) ?_)
        intro v5 w5 hown5 hbel5 hz5
        have hb5 : Below w2.heap.size w2 w5 := (hbel.trans (EE.mono hbel.size)).trans hbel5
        have HO5 := Lib.hid (hown5.cast HSN.out.symm)
        clear hown5 hbel5 HO HSN
        go_wp2
        go_roundw
        case rel => exact ⟨j + 1, by omega, by go_num, HO5, hb5⟩
        case measure => simp [intOf]; omega
      · have hltI : ¬ (j : Int) < y.2.1.length := by omega
        have hjl : y.2.1.take j = y.2.1 := List.take_of_length_le (by omega)
        have HR := Lib.hid ((HO.out.cast (congrArg facesOf hjl)).cast HT.out.symm)
        clear hjl
        go_wp2
        go_ret
        exact ⟨_, rfl, (HR.out.own (by rw [HT.out, facesOf_len]; exact hsl)).wide (fun j hj => ⟨by have := hj.1; omega, hj.2⟩), E2.trans (hbel.mono E2.size)⟩
end Go.Proofs.Ytfigcalengpipaa

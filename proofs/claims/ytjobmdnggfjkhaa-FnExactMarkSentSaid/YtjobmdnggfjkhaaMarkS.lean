/-
  A sending marked.
-/
import Derived.Test.YtjobmdnggfjkhaaCopyP
import Derived.Test.YtjobmdnggfjkhaaCut
import Derived.Test.YtjobmdnggfjkhaaPend
import Derived.IntWalk
import Derived.Deep.Cut
import Derived.WalkSpells
import Derived.WalkLawsBesides
namespace Go.Proofs.Ytjobmdnggfjkhaa
open Go.RowKit
set_option linter.unusedVariables false
set_option linter.unusedSimpArgs false
set_option linter.unnecessarySimpa false
def sentP (n : LName) (t : Int) (l : List LPendingInterest) : List LPendingInterest :=
  if idxOf (isPend n) l < 0 then l else l.set (idxOf (isPend n) l).toNat (setPendingInterest_2 (l.getD (idxOf (isPend n) l).toNat ([], [], 0)) t)
theorem sentP_no {n : LName} {t : Int} {l : List LPendingInterest} (h : idxOf (isPend n) l < 0) : sentP n t l = l := by unfold sentP; rw [if_pos h]
theorem sentP_yes {n : LName} {t : Int} {l : List LPendingInterest} {k : Nat} (h : idxOf (isPend n) l = k) (hk : k < l.length) : sentP n t l = l.set k (setPendingInterest_2 l[k] t) := by
  unfold sentP
  simp only [h, Int.toNat_natCast, getD_get hk]
  rw [if_neg (by omega)]
set_option maxRecDepth 100000 in
set_option maxHeartbeats 4000000 in
theorem specMarkSent_c {w : World} {vl : Value} {l : List LPendingInterest} (hl : (Rep.slice 108 RPendingInterest).rd w [vl] l) {cn : List Value} {n : LName} (hn : RName.rd w cn n) {t : Int} (ht : -9223372036854775808 ≤ t ∧ t ≤ 9223372036854775807) :
    Calls Try.prog 32 #[vl, .agg cn.toArray, .int .i64 t] w (MadePost (Rep.slice 108 RPendingInterest) (sentP n t l) w) := by
  have HL := Lib.hid hl
  have HN := Lib.hid hn
  have hlb : l.length ≤ 16777216 := hl.2.1
  obtain ⟨nv, rfl, n_0⟩ := RName_raw hn.1
  obtain ⟨na, np, hnv, _⟩ := Rep.len_raw n_0; obtain rfl : nv = _ := by simpa using hnv
  obtain ⟨va, vp, hvl, hvll⟩ := Rep.len_raw hl.1; obtain rfl : vl = _ := by simpa using hvl
  clear hnv n_0 hl hn hvl
  go_enter Try.func32, Try.ntmps32
  go_wp2_with fail
  generalize hwB : World.alloc w _ = wB
  have EB : Below w.heap.size w wB := by rw [← hwB]; exact (Below.refl _ _).alloc (Nat.le_refl _) _
  have K0 : wB.cell? ⟨w.heap.size, 0, none⟩ = some (.slice na n.length np) := by rw [← hwB]; simp [go_sem]
  have hzB : wB.heap.size = w.heap.size + 1 := by rw [← hwB]; simp
  clear hwB
  refine (specl13Copy_c (HL.out.below EB)).mono ?_
  rintro e w1 ⟨v1, rfl, O1, hb1⟩
  replace K0 := cell_later hb1 K0
  have E1 := EB.trans (hb1.mono EB.size)
  have hz1 := hb1.size
  have HO := Lib.hid (O1.wide (T := Btw w.heap.size w1.heap.size) (fun j hj => ⟨by have := hj.1; omega, hj.2⟩))
  obtain ⟨oa, on, oc, ho, HON⟩ := O1.parts; obtain rfl := ho
  clear O1 hb1 EB
  have HF := Lib.hid ht
  clear ht
  go_wp2_with fail
  refine (specl13Find_c (HL.out.1.below E1) (HN.out.1.below E1)).mono ?_
  rintro e w4 ⟨rfl, hb4⟩
  replace K0 := cell_later hb4 K0
  have E4 := E1.trans (hb4.mono E1.size)
  have hz4 := hb4.size
  replace HO := Lib.hid ((HO.out.below hb4).wide (T := Btw w.heap.size w4.heap.size) (fun j hj => ⟨hj.1, by have := hj.2; omega⟩))
  clear hb4 E1
  by_cases hk : idxOf (isPend n) l < 0
  · have HT := Lib.hid (sentP_no (t := t) hk)
    have hk2 : ¬ (0 ≤ idxOf (isPend n) l) := by omega
    generalize hq : idxOf (isPend n) l = q at *
    clear hq
    go_wp2
    go_ret
    exact ⟨_, rfl, (HO.out.cast HT.out.symm).own (by rw [HT.out]; exact hlb), E4⟩
  · obtain ⟨k, hkl, hki⟩ := idxOf_at hk
    have HKI := Lib.hid hki
    rw [hki]
    clear hk hki
    obtain ⟨b, cap, hv, hbS, hbl, hcap2, hcap3⟩ := Rep.own0_addr HO.out hkl
    simp only [Value.slice.injEq] at hv
    obtain ⟨rfl, hon, rfl⟩ := hv
    have hkon : k < on := by omega
    have hkI : (0 : Int) ≤ k := by omega
    have hkI2 : (k : Int) < on := by omega
    have HRD := Lib.hid (HO.out.own hlb)
    obtain ⟨c0, c1, c2, hr, A0, A1, A2⟩ := Rep.at3 HRD.out.raw hkl rfl
    clear hr
    have hfz := Rep.own0_frozen HO.out (by omega) (k * 3 + 2)
    have HT := Lib.hid (sentP_yes (t := t) HKI.out hkl)
    obtain ⟨s1, s2⟩ := Rep.own0_setCell (i := k) (j := 2) (p := k * 3 + 2) (u := .int .i64 t) HO.out hlb hkl (by decide) (fun h => RPendingInterest_set2 _ HF.out h) (show RPendingInterest.bdd Big (setPendingInterest_2 l[k] t) from Rep.raw_bdd HRD.out.rd hkl) rfl
    have HS1 := Lib.hid (s1.cast HT.out.symm); clear s1 s2 hon
    go_wp2
    go_ret
    exact ⟨_, rfl, (HS1.out.own (by rw [HT.out]; simp; unfold Big; omega)).wide (fun j hj => ⟨hj.1, by simpa [World.setCell] using hj.2⟩), E4.setCell hbS.1 _⟩
set_option maxRecDepth 100000 in
set_option maxHeartbeats 4000000 in
theorem implMarkSent_c {w : World} {vl : Value} {l : List LPendingInterest} (hl : (Rep.slice 108 RPendingInterest).rd w [vl] l) {cn : List Value} {n : LName} (hn : RName.rd w cn n) {t : Int} (ht : -9223372036854775808 ≤ t ∧ t ≤ 9223372036854775807) :
    Calls Try.prog 34 #[vl, .agg cn.toArray, .int .i64 t] w (MadePost (Rep.slice 108 RPendingInterest) (sentP n t l) w) := by
  have HL := Lib.hid hl
  have HN := Lib.hid hn
  have hlb : l.length ≤ 16777216 := hl.2.1
  obtain ⟨nv, rfl, n_0⟩ := RName_raw hn.1
  obtain ⟨na, np, hnv, _⟩ := Rep.len_raw n_0; obtain rfl : nv = _ := by simpa using hnv
  obtain ⟨va, vp, hvl, hvll⟩ := Rep.len_raw hl.1; obtain rfl : vl = _ := by simpa using hvl
  clear hnv n_0 hl hn hvl
  go_enter Try.func34, Try.ntmps34
  go_wp2_with fail
  generalize hwB : World.alloc w _ = wB
  have EB : Below w.heap.size w wB := by rw [← hwB]; exact (Below.refl _ _).alloc (Nat.le_refl _) _
  have K0 : wB.cell? ⟨w.heap.size, 0, none⟩ = some (.slice na n.length np) := by rw [← hwB]; simp [go_sem]
  have hzB : wB.heap.size = w.heap.size + 1 := by rw [← hwB]; simp
  clear hwB
  refine (implcopyPending_c (HL.out.below EB)).mono ?_
  rintro e w1 ⟨v1, rfl, O1, hb1⟩
  replace K0 := cell_later hb1 K0
  have E1 := EB.trans (hb1.mono EB.size)
  have hz1 := hb1.size
  have HO := Lib.hid (O1.wide (T := Btw w.heap.size w1.heap.size) (fun j hj => ⟨by have := hj.1; omega, hj.2⟩))
  obtain ⟨oa, on, oc, ho, HON⟩ := O1.parts; obtain rfl := ho
  clear O1 hb1 EB
  have HF := Lib.hid ht
  clear ht
  go_wp2_with fail
  refine (implpendingAt_c (HL.out.1.below E1) (HN.out.1.below E1)).mono ?_
  rintro e w4 ⟨rfl, hb4⟩
  replace K0 := cell_later hb4 K0
  have E4 := E1.trans (hb4.mono E1.size)
  have hz4 := hb4.size
  replace HO := Lib.hid ((HO.out.below hb4).wide (T := Btw w.heap.size w4.heap.size) (fun j hj => ⟨hj.1, by have := hj.2; omega⟩))
  clear hb4 E1
  by_cases hk : idxOf (isPend n) l < 0
  · have HT := Lib.hid (sentP_no (t := t) hk)
    have hk2 : ¬ (0 ≤ idxOf (isPend n) l) := by omega
    generalize hq : idxOf (isPend n) l = q at *
    clear hq
    go_wp2
    go_ret
    exact ⟨_, rfl, (HO.out.cast HT.out.symm).own (by rw [HT.out]; exact hlb), E4⟩
  · obtain ⟨k, hkl, hki⟩ := idxOf_at hk
    have HKI := Lib.hid hki
    rw [hki]
    clear hk hki
    obtain ⟨b, cap, hv, hbS, hbl, hcap2, hcap3⟩ := Rep.own0_addr HO.out hkl
    simp only [Value.slice.injEq] at hv
    obtain ⟨rfl, hon, rfl⟩ := hv
    have hkon : k < on := by omega
    have hkI : (0 : Int) ≤ k := by omega
    have hkI2 : (k : Int) < on := by omega
    have HRD := Lib.hid (HO.out.own hlb)
    obtain ⟨c0, c1, c2, hr, A0, A1, A2⟩ := Rep.at3 HRD.out.raw hkl rfl
    clear hr
    have hfz := Rep.own0_frozen HO.out (by omega) (k * 3 + 2)
    have HT := Lib.hid (sentP_yes (t := t) HKI.out hkl)
    obtain ⟨s1, s2⟩ := Rep.own0_setCell (i := k) (j := 2) (p := k * 3 + 2) (u := .int .i64 t) HO.out hlb hkl (by decide) (fun h => RPendingInterest_set2 _ HF.out h) (show RPendingInterest.bdd Big (setPendingInterest_2 l[k] t) from Rep.raw_bdd HRD.out.rd hkl) rfl
    have HS1 := Lib.hid (s1.cast HT.out.symm); clear s1 s2 hon
    go_wp2
    go_ret
    exact ⟨_, rfl, (HS1.out.own (by rw [HT.out]; simp; unfold Big; omega)).wide (fun j hj => ⟨hj.1, by simpa [World.setCell] using hj.2⟩), E4.setCell hbS.1 _⟩
end Go.Proofs.Ytjobmdnggfjkhaa

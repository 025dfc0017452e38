/-
  A failure recorded.
-/
import Derived.Test.YtikjbdfkdkijkaaCopyR
import Derived.Test.YtikjbdfkdkijkaaCut
import Derived.Test.YtikjbdfkdkijkaaMeas
import Derived.Test.YtikjbdfkdkijkaaVName
import Derived.Test.YtikjbdfkdkijkaaMin
import Derived.IntWalk
import Derived.Deep.Cut
import Derived.WalkSpells
import Derived.WalkLawsBesides
namespace Go.Proofs.Ytikjbdfkdkijkaa
open Go.RowKit
set_option linter.unusedVariables false
set_option linter.unusedSimpArgs false
set_option linter.unnecessarySimpa false
def upF (x : Int) : Int := min 50 (wrap64 (x + 1))
theorem upF_rng {x : Int} : -9223372036854775808 ≤ upF x ∧ upF x ≤ 9223372036854775807 := by
  unfold upF
  unfold wrap64
  omega
def recF (n : LName) (f : Int) (l : List LMeasurement) : List LMeasurement :=
  if vName n && inR f 1 6 then
    (if idxOf (isMeas n f) l < 0 then (if l.length < 24 then l ++ [(n, f, 1)] else l)
     else l.set (idxOf (isMeas n f) l).toNat (setMeasurement_2 (l.getD (idxOf (isMeas n f) l).toNat ([], 0, 0)) (upF (l.getD (idxOf (isMeas n f) l).toNat ([], 0, 0)).2.2)))
  else l
theorem recF_no {n : LName} {f : Int} {l : List LMeasurement} (h : (vName n && inR f 1 6) = false) : recF n f l = l := by unfold recF; rw [h]; rfl
theorem recF_new {n : LName} {f : Int} {l : List LMeasurement} (h : (vName n && inR f 1 6) = true) (h2 : idxOf (isMeas n f) l < 0) (h3 : l.length < 24) : recF n f l = l ++ [(n, f, 1)] := by unfold recF; rw [if_pos h, if_pos h2, if_pos h3]
theorem recF_full {n : LName} {f : Int} {l : List LMeasurement} (h : (vName n && inR f 1 6) = true) (h2 : idxOf (isMeas n f) l < 0) (h3 : ¬ l.length < 24) : recF n f l = l := by unfold recF; rw [if_pos h, if_pos h2, if_neg h3]
theorem recF_up {n : LName} {f : Int} {l : List LMeasurement} {k : Nat} (h : (vName n && inR f 1 6) = true) (h2 : idxOf (isMeas n f) l = k) (hk : k < l.length) : recF n f l = l.set k (setMeasurement_2 l[k] (upF l[k].2.2)) := by
  unfold recF
  simp only [h, h2, Int.toNat_natCast, getD_get hk]
  rw [if_pos trivial, if_neg (by omega)]
set_option maxRecDepth 100000 in
set_option maxHeartbeats 4000000 in
theorem specRecordFailure_c {w : World} {vl : Value} {l : List LMeasurement} (hl : (Rep.slice 76 RMeasurement).rd w [vl] l) {cn : List Value} {n : LName} (hn : RName.rd w cn n) {f : Int} (hf : -9223372036854775808 ≤ f ∧ f ≤ 9223372036854775807) :
    Calls Try.prog 14 #[vl, .agg cn.toArray, .int .i64 f] w (MadePost (Rep.slice 76 RMeasurement) (recF n f l) w) := by
  have HL := Lib.hid hl
  have HN := Lib.hid hn
  have hlb : l.length ≤ 16777216 := hl.2.1
  obtain ⟨nv, rfl, n_0⟩ := RName_raw hn.1
  obtain ⟨na, np, hnv, _⟩ := Rep.len_raw n_0; obtain rfl : nv = _ := by simpa using hnv
  obtain ⟨va, vp, hvl, hvll⟩ := Rep.len_raw hl.1; obtain rfl : vl = _ := by simpa using hvl
  clear hnv n_0 hl hn hvl
  go_enter Try.func14, Try.ntmps14
  go_wp2_with fail
  generalize hwB : World.alloc w _ = wB
  have EB : Below w.heap.size w wB := by rw [← hwB]; exact (Below.refl _ _).alloc (Nat.le_refl _) _
  have K0 : wB.cell? ⟨w.heap.size, 0, none⟩ = some (.slice na n.length np) := by rw [← hwB]; simp [go_sem]
  have hzB : wB.heap.size = w.heap.size + 1 := by rw [← hwB]; simp
  clear hwB
  refine (specl15Copy_c (HL.out.below EB)).mono ?_
  rintro e w1 ⟨v1, rfl, O1, hb1⟩
  replace K0 := cell_later hb1 K0
  have E1 := EB.trans (hb1.mono EB.size)
  have hz1 := hb1.size
  have HO := Lib.hid (O1.wide (T := Btw w.heap.size w1.heap.size) (fun j hj => ⟨by have := hj.1; omega, hj.2⟩))
  obtain ⟨oa, on, oc, ho, HON⟩ := O1.parts; obtain rfl := ho
  clear O1 hb1 EB
  have HF := Lib.hid hf
  clear hf
  go_wp2_with fail
  refine (specValidName_c (HN.out.1.below E1)).mono ?_
  rintro e w2 ⟨rfl, hb2⟩
  replace K0 := cell_later hb2 K0
  have E2 := E1.trans (hb2.mono E1.size)
  have hz2 := hb2.size
  replace HO := Lib.hid ((HO.out.below hb2).wide (T := Btw w.heap.size w2.heap.size) (fun j hj => ⟨hj.1, by have := hj.2; omega⟩))
  clear hb2 E1
  cases hv : vName n
  · have HT := Lib.hid (recF_no (f := f) (l := l) (by rw [hv]; rfl))
    go_wp2
    go_ret
    exact ⟨_, rfl, (HO.out.cast HT.out.symm).own (by rw [HT.out]; exact hlb), E2⟩
  · go_wp2_with fail
    refine specl1In_c.mono ?_
    rintro e w3 ⟨rfl, hw3⟩
    obtain rfl := hw3.symm
    clear hw3
    cases hi : inR f 1 6
    · have HT := Lib.hid (recF_no (f := f) (l := l) (by rw [hv, hi]; rfl))
      go_wp2
      go_ret
      exact ⟨_, rfl, (HO.out.cast HT.out.symm).own (by rw [HT.out]; exact hlb), E2⟩
    · have HB : Hid ((vName n && inR f 1 6) = true) := Lib.hid (by rw [hv, hi]; rfl)
      clear hv hi
      go_wp2_with fail
      refine (specl15Find_c (HL.out.1.below E2) (HN.out.1.below E2)).mono ?_
      rintro e w4 ⟨rfl, hb4⟩
      replace K0 := cell_later hb4 K0
      have E4 := E2.trans (hb4.mono E2.size)
      have hz4 := hb4.size
      replace HO := Lib.hid ((HO.out.below hb4).wide (T := Btw w.heap.size w4.heap.size) (fun j hj => ⟨hj.1, by have := hj.2; omega⟩))
      clear hb4 E2
      by_cases hk : idxOf (isMeas n f) l < 0
      · have hk2 : ¬ (0 ≤ idxOf (isMeas n f) l) := by omega
        generalize hq : idxOf (isMeas n f) l = q at *
        have HQ := Lib.hid hq; clear hq
        by_cases h24 : l.length < 24
        · have h24I : (l.length : Int) < 24 := by omega
          have HT := Lib.hid (recF_new HB.out (by rw [HQ.out]; exact hk) h24)
          go_wp2_with fail
          refine (specl4Copy_c (HN.out.below E4)).mono ?_
          rintro e wT ⟨tc, rfl, OT, hbT⟩
          obtain ⟨tv0, rfl, t_0⟩ := RName_raw OT.raw
          obtain ⟨ta0, tp0, th0, _⟩ := Rep.len_raw t_0; obtain rfl : tv0 = _ := (by simpa using th0)
          clear th0 t_0
          go_upto_region 9 with fail
          generalize hwC : World.alloc wT _ = wC
          have EC : Below wT.heap.size wT wC := by rw [← hwC]; exact (Below.refl _ _).alloc (Nat.le_refl _) _
          have KC : wC.cell? ⟨wT.heap.size, 0, none⟩ = some (.slice ta0 n.length tp0) := by rw [← hwC]; simp [go_sem]
          clear hwC
          have ER := hbT.trans (EC.mono hbT.size)
          have hsT := hbT.size
          have hsC := EC.size
          have OTC := OT.below EC
          replace HO := Lib.hid (HO.out.below ER)
          have hlk : on ≤ 24 := by have := HON.out; omega
          go_wp2_with (at_builtin; refine Rep.wpList_pushB rfl _ _ 24 rfl (r := RMeasurement) (e := 76) Try.underlying24 infMeasurement rfl (by decide) (by decide) (B := w.heap.size) HO.out (by rfl) (by rfl) rfl (Rep.own.wide (T := Btw w4.heap.size wT.heap.size) (Rep.own_flat (r := RName) (q := Rep.pair Rep.int Rep.int) (cs := [.slice ta0 n.length tp0]) (ds := [.int .i64 f, .int .i64 1]) (x := n) (y := (f, 1)) (OTC) (Rep.flat_pair (Rep.flat_int HF.out) (Rep.flat_int (n := 1) (by omega)))) (fun j hj => hj)) rfl (fun j h1 h2 => by have p := h1.2; have q := h2.1; omega) (fun j hj => ⟨hj.1, by have := hj.2; omega⟩) (fun j hj => ⟨by have := hj.1; omega, by have := hj.2; omega⟩) (by omega) (by have := HON.out; omega) ?_)
          intro v5 w5 hown5 hbel5 hz5
          have HO5 := Lib.hid (hown5.cast HT.out.symm)
          have E5 := (E4.trans (ER.mono E4.size)).trans hbel5
          clear hown5 hbel5
          go_wp2
          go_ret
          exact ⟨_, rfl, HO5.out.own (by rw [HT.out, List.length_append]; unfold Big; simp; omega), E5⟩
        · have h24I : ¬ (l.length : Int) < 24 := by omega
          have HT := Lib.hid (recF_full HB.out (by rw [HQ.out]; exact hk) h24)
          go_wp2
          go_ret
          exact ⟨_, rfl, (HO.out.cast HT.out.symm).own (by rw [HT.out]; exact hlb), E4⟩
      · obtain ⟨k, hkl, hki⟩ := idxOf_get hk
        have HKI := Lib.hid hki
        rw [hki]
        clear hk hki
        obtain ⟨b, cap, hv, hbS, hbl, hcap2, hcap3⟩ := Rep.own0_addr HO.out hkl
        simp only [Value.slice.injEq] at hv
        obtain ⟨rfl, hon, rfl⟩ := hv
        have hkon : k < on := by omega
        have hkI : (0 : Int) ≤ k := by omega
        have hkI2 : (k : Int) < on := by omega
        have HRD := Lib.hid (HO.out.own hlb)
        obtain ⟨c0, c1, c2, hr, A0, A1, A2⟩ := Rep.at3 HRD.out.raw hkl rfl
        obtain ⟨rv, rhe, r_0, r_1, r_2, r_3⟩ := RMeasurement_raw hr
        simp only [List.cons.injEq, and_true] at rhe
        obtain ⟨rfl, rfl, rfl⟩ := rhe
        have hfz := Rep.own0_frozen HO.out (by omega) (k * 3 + 2)
        have HT := Lib.hid (recF_up HB.out HKI.out hkl)
        obtain ⟨s1, s2⟩ := Rep.own0_setCell (i := k) (j := 2) (p := k * 3 + 2) (u := .int .i64 (upF l[k].2.2)) HO.out hlb hkl (by decide) (fun h => RMeasurement_set2 _ upF_rng h) (show RMeasurement.bdd Big (setMeasurement_2 l[k] (upF l[k].2.2)) from Rep.raw_bdd HRD.out.rd hkl) rfl
        have HS1 := Lib.hid (fun v (hv : v = upF l[k].2.2) => (show Rep.own0 76 RMeasurement (w4.setCell ⟨b, k * 3 + 2, none⟩ (.int .i64 v)) _ _ _ from hv ▸ s1.cast HT.out.symm)); clear s1 s2 hon hr r_0 r_1 r_2
        go_wp2_with fail
        refine specMin_c.mono ?_
        rintro e w6 ⟨rfl, hw6⟩
        obtain rfl := hw6.symm
        clear hw6
        go_wp2
        all_goals go_ret
        all_goals exact ⟨_, rfl, ((HS1.out _ (by unfold upF; omega)).own (by rw [HT.out]; simp; unfold Big; omega)).wide (fun j hj => ⟨hj.1, by simpa [World.setCell] using hj.2⟩), E4.setCell hbS.1 _⟩
set_option maxRecDepth 100000 in
set_option maxHeartbeats 4000000 in
theorem implRecordFailure_c {w : World} {vl : Value} {l : List LMeasurement} (hl : (Rep.slice 76 RMeasurement).rd w [vl] l) {cn : List Value} {n : LName} (hn : RName.rd w cn n) {f : Int} (hf : -9223372036854775808 ≤ f ∧ f ≤ 9223372036854775807) :
    Calls Try.prog 7 #[vl, .agg cn.toArray, .int .i64 f] w (MadePost (Rep.slice 76 RMeasurement) (recF n f l) w) := by
  have HL := Lib.hid hl
  have HN := Lib.hid hn
  have hlb : l.length ≤ 16777216 := hl.2.1
  obtain ⟨nv, rfl, n_0⟩ := RName_raw hn.1
  obtain ⟨na, np, hnv, _⟩ := Rep.len_raw n_0; obtain rfl : nv = _ := by simpa using hnv
  obtain ⟨va, vp, hvl, hvll⟩ := Rep.len_raw hl.1; obtain rfl : vl = _ := by simpa using hvl
  clear hnv n_0 hl hn hvl
  go_enter Try.func7, Try.ntmps7
  go_wp2_with fail
  generalize hwB : World.alloc w _ = wB
  have EB : Below w.heap.size w wB := by rw [← hwB]; exact (Below.refl _ _).alloc (Nat.le_refl _) _
  have K0 : wB.cell? ⟨w.heap.size, 0, none⟩ = some (.slice na n.length np) := by rw [← hwB]; simp [go_sem]
  have hzB : wB.heap.size = w.heap.size + 1 := by rw [← hwB]; simp
  clear hwB
  refine (implcopyMeasurements_c (HL.out.below EB)).mono ?_
  rintro e w1 ⟨v1, rfl, O1, hb1⟩
  replace K0 := cell_later hb1 K0
  have E1 := EB.trans (hb1.mono EB.size)
  have hz1 := hb1.size
  have HO := Lib.hid (O1.wide (T := Btw w.heap.size w1.heap.size) (fun j hj => ⟨by have := hj.1; omega, hj.2⟩))
  obtain ⟨oa, on, oc, ho, HON⟩ := O1.parts; obtain rfl := ho
  clear O1 hb1 EB
  have HF := Lib.hid hf
  clear hf
  go_wp2_with fail
  refine (implValidName_c (HN.out.1.below E1)).mono ?_
  rintro e w2 ⟨rfl, hb2⟩
  replace K0 := cell_later hb2 K0
  have E2 := E1.trans (hb2.mono E1.size)
  have hz2 := hb2.size
  replace HO := Lib.hid ((HO.out.below hb2).wide (T := Btw w.heap.size w2.heap.size) (fun j hj => ⟨hj.1, by have := hj.2; omega⟩))
  clear hb2 E1
  cases hv : vName n
  · have HT := Lib.hid (recF_no (f := f) (l := l) (by rw [hv]; rfl))
    go_wp2
    go_ret
    exact ⟨_, rfl, (HO.out.cast HT.out.symm).own (by rw [HT.out]; exact hlb), E2⟩
  · go_wp2_with fail
    refine implInRange_c.mono ?_
    rintro e w3 ⟨rfl, hw3⟩
    obtain rfl := hw3.symm
    clear hw3
    cases hi : inR f 1 6
    · have HT := Lib.hid (recF_no (f := f) (l := l) (by rw [hv, hi]; rfl))
      go_wp2
      go_ret
      exact ⟨_, rfl, (HO.out.cast HT.out.symm).own (by rw [HT.out]; exact hlb), E2⟩
    · have HB : Hid ((vName n && inR f 1 6) = true) := Lib.hid (by rw [hv, hi]; rfl)
      clear hv hi
      go_wp2_with fail
      refine (implmeasuredAt_c (HL.out.1.below E2) (HN.out.1.below E2)).mono ?_
      rintro e w4 ⟨rfl, hb4⟩
      replace K0 := cell_later hb4 K0
      have E4 := E2.trans (hb4.mono E2.size)
      have hz4 := hb4.size
      replace HO := Lib.hid ((HO.out.below hb4).wide (T := Btw w.heap.size w4.heap.size) (fun j hj => ⟨hj.1, by have := hj.2; omega⟩))
      clear hb4 E2
      by_cases hk : idxOf (isMeas n f) l < 0
      · have hk2 : ¬ (0 ≤ idxOf (isMeas n f) l) := by omega
        generalize hq : idxOf (isMeas n f) l = q at *
        have HQ := Lib.hid hq; clear hq
        by_cases h24 : l.length < 24
        · have h24I : (l.length : Int) < 24 := by omega
          have HT := Lib.hid (recF_new HB.out (by rw [HQ.out]; exact hk) h24)
          go_wp2_with fail
          refine (implcopyName_c (HN.out.below E4)).mono ?_
          rintro e wT ⟨tc, rfl, OT, hbT⟩
          obtain ⟨tv0, rfl, t_0⟩ := RName_raw OT.raw
          obtain ⟨ta0, tp0, th0, _⟩ := Rep.len_raw t_0; obtain rfl : tv0 = _ := (by simpa using th0)
          clear th0 t_0
          have ER := hbT
          have hsT := hbT.size
          replace HO := Lib.hid (HO.out.below ER)
          have hlk : on ≤ 24 := by have := HON.out; omega
          go_wp2_with (at_builtin; refine Rep.wpList_pushB rfl _ _ 24 rfl (r := RMeasurement) (e := 76) Try.underlying24 infMeasurement rfl (by decide) (by decide) (B := w.heap.size) HO.out (by rfl) (by rfl) rfl (Rep.own.wide (T := Btw w4.heap.size wT.heap.size) (Rep.own_flat (r := RName) (q := Rep.pair Rep.int Rep.int) (cs := [.slice ta0 n.length tp0]) (ds := [.int .i64 f, .int .i64 1]) (x := n) (y := (f, 1)) (OT) (Rep.flat_pair (Rep.flat_int HF.out) (Rep.flat_int (n := 1) (by omega)))) (fun j hj => hj)) rfl (fun j h1 h2 => by have p := h1.2; have q := h2.1; omega) (fun j hj => ⟨hj.1, by have := hj.2; omega⟩) (fun j hj => ⟨by have := hj.1; omega, by have := hj.2; omega⟩) (by omega) (by have := HON.out; omega) ?_)
          intro v5 w5 hown5 hbel5 hz5
          have HO5 := Lib.hid (hown5.cast HT.out.symm)
          have E5 := (E4.trans (ER.mono E4.size)).trans hbel5
          clear hown5 hbel5
          go_wp2
          go_ret
          exact ⟨_, rfl, HO5.out.own (by rw [HT.out, List.length_append]; unfold Big; simp; omega), E5⟩
        · have h24I : ¬ (l.length : Int) < 24 := by omega
          have HT := Lib.hid (recF_full HB.out (by rw [HQ.out]; exact hk) h24)
          go_wp2
          go_ret
          exact ⟨_, rfl, (HO.out.cast HT.out.symm).own (by rw [HT.out]; exact hlb), E4⟩
      · obtain ⟨k, hkl, hki⟩ := idxOf_get hk
        have HKI := Lib.hid hki
        rw [hki]
        clear hk hki
        obtain ⟨b, cap, hv, hbS, hbl, hcap2, hcap3⟩ := Rep.own0_addr HO.out hkl
        simp only [Value.slice.injEq] at hv
        obtain ⟨rfl, hon, rfl⟩ := hv
        have hkon : k < on := by omega
        have hkI : (0 : Int) ≤ k := by omega
        have hkI2 : (k : Int) < on := by omega
        have HRD := Lib.hid (HO.out.own hlb)
        obtain ⟨c0, c1, c2, hr, A0, A1, A2⟩ := Rep.at3 HRD.out.raw hkl rfl
        obtain ⟨rv, rhe, r_0, r_1, r_2, r_3⟩ := RMeasurement_raw hr
        simp only [List.cons.injEq, and_true] at rhe
        obtain ⟨rfl, rfl, rfl⟩ := rhe
        have hfz := Rep.own0_frozen HO.out (by omega) (k * 3 + 2)
        have HT := Lib.hid (recF_up HB.out HKI.out hkl)
        obtain ⟨s1, s2⟩ := Rep.own0_setCell (i := k) (j := 2) (p := k * 3 + 2) (u := .int .i64 (upF l[k].2.2)) HO.out hlb hkl (by decide) (fun h => RMeasurement_set2 _ upF_rng h) (show RMeasurement.bdd Big (setMeasurement_2 l[k] (upF l[k].2.2)) from Rep.raw_bdd HRD.out.rd hkl) rfl
        have HS1 := Lib.hid (fun v (hv : v = upF l[k].2.2) => (show Rep.own0 76 RMeasurement (w4.setCell ⟨b, k * 3 + 2, none⟩ (.int .i64 v)) _ _ _ from hv ▸ s1.cast HT.out.symm)); clear s1 s2 hon hr r_0 r_1 r_2
        go_wp2
        all_goals go_ret
        all_goals exact ⟨_, rfl, ((HS1.out _ (by unfold upF; omega)).own (by rw [HT.out]; simp; unfold Big; omega)).wide (fun j hj => ⟨hj.1, by simpa [World.setCell] using hj.2⟩), E4.setCell hbS.1 _⟩
end Go.Proofs.Ytikjbdfkdkijkaa

/-
  A success recorded.
-/
import Derived.Test.YtikjbdfkdkijkaaCopyR
import Derived.Test.YtikjbdfkdkijkaaDelF
import Derived.Test.YtikjbdfkdkijkaaMeas
import Derived.IntWalk
import Derived.Deep.Cut
import Derived.WalkSpells
import Derived.WalkLawsBesides
namespace Go.Proofs.Ytikjbdfkdkijkaa
open Go.RowKit
set_option linter.unusedVariables false
set_option linter.unusedSimpArgs false
set_option linter.unnecessarySimpa false
def recS (n : LName) (f : Int) (l : List LMeasurement) : List LMeasurement :=
  if idxOf (isMeas n f) l < 0 then l
  else if (l.getD (idxOf (isMeas n f) l).toNat ([], 0, 0)).2.2 < 2 then l.take (idxOf (isMeas n f) l).toNat ++ l.drop ((idxOf (isMeas n f) l).toNat + 1)
  else l.set (idxOf (isMeas n f) l).toNat (setMeasurement_2 (l.getD (idxOf (isMeas n f) l).toNat ([], 0, 0)) ((l.getD (idxOf (isMeas n f) l).toNat ([], 0, 0)).2.2 / 2))
theorem recS_none {n : LName} {f : Int} {l : List LMeasurement} (h : idxOf (isMeas n f) l < 0) : recS n f l = l := by unfold recS; rw [if_pos h]
theorem recS_cut {n : LName} {f : Int} {l : List LMeasurement} {k : Nat} (h : idxOf (isMeas n f) l = k) (hk : k < l.length) (h2 : l[k].2.2 < 2) : recS n f l = l.take k ++ l.drop (k + 1) := by
  unfold recS
  simp only [h, Int.toNat_natCast, getD_get hk]
  rw [if_neg (by omega), if_pos h2]
theorem recS_half {n : LName} {f : Int} {l : List LMeasurement} {k : Nat} (h : idxOf (isMeas n f) l = k) (hk : k < l.length) (h2 : ¬ l[k].2.2 < 2) : recS n f l = l.set k (setMeasurement_2 l[k] (l[k].2.2 / 2)) := by
  unfold recS
  simp only [h, Int.toNat_natCast, getD_get hk]
  rw [if_neg (by omega), if_neg h2]
set_option maxRecDepth 100000 in
set_option maxHeartbeats 2000000 in
theorem specRecordSuccess_c {w : World} {vl : Value} {l : List LMeasurement} (hl : (Rep.slice 76 RMeasurement).rd w [vl] l) {cn : List Value} {n : LName} (hn : RName.rd w cn n) {f : Int} (hf : -9223372036854775808 ≤ f ∧ f ≤ 9223372036854775807) :
    Calls Try.prog 15 #[vl, .agg cn.toArray, .int .i64 f] w (MadePost (Rep.slice 76 RMeasurement) (recS n f l) w) := by
  have HL := Lib.hid hl
  have HN := Lib.hid hn
  have hlb : l.length ≤ 16777216 := hl.2.1
  obtain ⟨nv, rfl, n_0⟩ := RName_raw hn.1
  obtain ⟨na, np, hnv, _⟩ := Rep.len_raw n_0; obtain rfl : nv = _ := by simpa using hnv
  clear hnv n_0 hl hn hf
  go_enter Try.func15, Try.ntmps15
  go_wp2_with fail
  generalize hwB : World.alloc w _ = wB
  have EB : Below w.heap.size w wB := by rw [← hwB]; exact (Below.refl _ _).alloc (Nat.le_refl _) _
  have K0 : wB.cell? ⟨w.heap.size, 0, none⟩ = some (.slice na n.length np) := by rw [← hwB]; simp [go_sem]
  have hzB : wB.heap.size = w.heap.size + 1 := by rw [← hwB]; simp
  clear hwB
  refine (specl15Copy_c (HL.out.below EB)).mono ?_
  rintro e w1 ⟨v1, rfl, O1, hb1⟩
  replace K0 := cell_later hb1 K0
  have E1 := EB.trans (hb1.mono EB.size)
  have HO := Lib.hid O1
  obtain ⟨oa, on, oc, ho, HON⟩ := O1.parts; obtain rfl := ho
  clear O1 hb1
  go_wp2_with fail
  refine (specl15Find_c (HL.out.1.below E1) (HN.out.1.below E1)).mono ?_
  rintro e w2 ⟨rfl, hb2⟩
  have E2 := E1.trans (hb2.mono E1.size)
  have hz1 := E1.size
  have hz2 := hb2.size
  replace HO := Lib.hid ((HO.out.below hb2).wide (T := Btw w.heap.size w2.heap.size) (fun j hj => ⟨by have := hj.1; omega, by have := hj.2; omega⟩))
  clear hb2 E1 EB
  by_cases hk : idxOf (isMeas n f) l < 0
  · have HT := Lib.hid (recS_none hk)
    go_wp2
    go_ret
    exact ⟨_, rfl, (HO.out.cast HT.out.symm).own (by rw [HT.out]; unfold Big; omega), E2⟩
  · obtain ⟨k, hkl, hki⟩ := idxOf_get hk
    have HKI := Lib.hid hki
    rw [hki]
    clear hk hki
    obtain ⟨b, cap, hv, hgap⟩ := Rep.gap_start HO.out hkl
    simp only [Value.slice.injEq] at hv
    obtain ⟨rfl, hon, rfl⟩ := hv
    have hkon : k < on := by omega
    rw [List.drop_eq_getElem_cons hkl] at hgap
    have hcap := hgap.len
    simp only [List.length_take, List.length_cons, List.length_drop] at hcap
    have hcap2 : on ≤ oc := by have := hcap.2.1; omega
    have hcap3 : oc ≤ 9223372036854775807 := by have := hcap.2.2; unfold maxLen at this; omega
    have hbS := hgap.mem
    have hfz := hgap.frozen (k * 3 + 2)
    have G : Hid (Rep.gap 76 RMeasurement w2 b oc l.length (l.take k) 1 (l.drop (k + 1)) (Btw w.heap.size w2.heap.size)) := Lib.hid hgap.skip
    clear hgap hcap
    have HRD := Lib.hid (HO.out.own hlb)
    obtain ⟨c0, c1, c2, hr, A0, A1, A2⟩ := Rep.at3 HRD.out.raw hkl rfl
    obtain ⟨rv, rhe, r_0, r_1, r_2, r_3⟩ := RMeasurement_raw hr
    simp only [List.cons.injEq, and_true] at rhe
    obtain ⟨rfl, rfl, rfl⟩ := rhe
    have HCUT := Lib.hid (recS_cut HKI.out hkl)
    have HHALF := Lib.hid (recS_half HKI.out hkl)
    have HSET := Lib.hid (fun (v : Int) (hv : -9223372036854775808 ≤ v ∧ v ≤ 9223372036854775807) => Rep.own0_setCell (i := k) (j := 2) (p := k * 3 + 2) (u := .int .i64 v) HO.out hlb hkl (by decide) (fun h => RMeasurement_set2 v hv h) (show RMeasurement.bdd Big (setMeasurement_2 l[k] v) from Rep.raw_bdd HRD.out.rd hkl) rfl)
    have HON := Lib.hid hon
    clear hon hr r_0 r_1 r_2
    have hkI : (0 : Int) ≤ k := by omega
    have hkI2 : (k : Int) < on := by omega
    have hkN : k ≤ oc := by omega
    have hwr := Go.IntWalk.i64_in ((k : Int) + 1) (by omega)

    by_cases h2 : l[k].2.2 < 2
    · have HT := Lib.hid (HCUT.out h2)
      clear HCUT HHALF HSET
      have HK : Hid ((l.take k).length = k) := Lib.hid (by simp; omega)
      have hk1 : k + 1 ≤ oc := by omega
      have hk2 : k + 1 ≤ on := by omega
      have hk3 : (k : Int) + 1 ≤ on := by omega
      have hk4 : (0 : Int) ≤ (k : Int) + 1 := by omega
      by_cases hce : oc = k + 1
      · have HR : Hid ((l.drop (k + 1)).length = 0) := Lib.hid (by have := HON.out; simp; omega)
        obtain rfl : on = k + 1 := by omega
        subst hce
        have hk5 : (k : Int) ≤ (k : Int) + 1 := by omega
        go_upto_region 6 with fail
        refine wp_region_softP (fun W => Below w2.heap.size w2 W) [(1, true), (2, true), (3, true), (5, true), (6, true), (7, true), (8, true), (0, false), (4, false), (9, false), (10, true)] (by kernel_rfl) (by kernel_rfl) (fun c a d v w h => by cases d <;> exact h) ((Below.refl _ _).drew) ?_
        intro wS HS
        simp only [pickOps, List.getElem?_cons_succ, List.getElem?_cons_zero, List.map_cons, List.map_nil]
        all_goals first | (refine soft_pass rfl HS ?_) | (refine soft_read (v := ?_) rfl (fun W hW => ?_) ?_; rotate_left; (· go_simp; try with_reducible rfl))
        all_goals try simp only [Act.put, List.setIfInBounds_toArray, List.set_cons_zero, List.set_cons_succ]
        all_goals first | (refine soft_pass rfl HS ?_) | (refine soft_read (v := ?_) rfl (fun W hW => ?_) ?_; rotate_left; (· go_simp; try with_reducible rfl))
        all_goals try simp only [Act.put, List.setIfInBounds_toArray, List.set_cons_zero, List.set_cons_succ]
        all_goals first | (refine soft_pass rfl HS ?_) | (refine soft_read (v := ?_) rfl (fun W hW => ?_) ?_; rotate_left; (· go_simp; try with_reducible rfl))
        all_goals try simp only [Act.put, List.setIfInBounds_toArray, List.set_cons_zero, List.set_cons_succ]
        all_goals first | (refine soft_pass rfl HS ?_) | (refine soft_read (v := ?_) rfl (fun W hW => ?_) ?_; rotate_left; (· go_simp; try with_reducible rfl))
        all_goals try simp only [Act.put, List.setIfInBounds_toArray, List.set_cons_zero, List.set_cons_succ]
        all_goals first | (refine soft_pass rfl HS ?_) | (refine soft_read (v := ?_) rfl (fun W hW => ?_) ?_; rotate_left; (· go_simp; try with_reducible rfl))
        all_goals try simp only [Act.put, List.setIfInBounds_toArray, List.set_cons_zero, List.set_cons_succ]
        all_goals first | (refine soft_pass rfl HS ?_) | (refine soft_read (v := ?_) rfl (fun W hW => ?_) ?_; rotate_left; (· go_simp; try with_reducible rfl))
        all_goals try simp only [Act.put, List.setIfInBounds_toArray, List.set_cons_zero, List.set_cons_succ]
        all_goals first | (refine soft_pass rfl HS ?_) | (refine soft_read (v := ?_) rfl (fun W hW => ?_) ?_; rotate_left; (· go_simp; try with_reducible rfl))
        all_goals try simp only [Act.put, List.setIfInBounds_toArray, List.set_cons_zero, List.set_cons_succ]
        all_goals first | (refine soft_pass rfl HS ?_) | (refine soft_do rfl (fun K hK => ?_); go_simp; generalize hwU : World.alloc wS _ = wU; replace HS : Below w2.heap.size w2 wU := (by rw [← hwU]; exact HS.alloc HS.size _); clear hwU; refine hK _ _ HS ?_; clear hK K)
        all_goals try simp only [Act.put, List.setIfInBounds_toArray, List.set_cons_zero, List.set_cons_succ]
        all_goals first | (refine soft_pass rfl HS ?_) | (refine soft_do rfl (fun K hK => ?_); obtain ⟨v3, u3, hr3, hb3, v4, u4, hr4, ho4, hb4⟩ := Rep.run_without (P := Try.prog) (t := 24) Try.underlying24 infMeasurement rfl (by decide) (by decide) G.out HS (a0 := some ⟨wS.heap.size, 0, none⟩) (by omega) (k + 1) 0 24 24 (q := 0) (kl := k) (rl := 0) (fun hne => absurd (List.eq_nil_of_length_eq_zero HR.out) hne) HK.out.symm HR.out.symm; have HS3 := HS.trans (hb3.mono HS.size); refine Rep.wp_append _ _ _ rfl (by rfl) (by rfl) hr3 ?_; refine hK _ _ HS3 ?_; clear hK K)
        all_goals try simp only [Act.put, List.setIfInBounds_toArray, List.set_cons_zero, List.set_cons_succ]
        all_goals first | (refine soft_pass rfl HS ?_) | (refine soft_do rfl (fun K hK => ?_); have HS4 := HS.trans (hb4.mono HS.size); refine Rep.wp_append _ _ _ rfl (by rfl) (by rfl) hr4 ?_; refine hK _ _ HS4 ?_; clear hK K)
        all_goals try simp only [Act.put, List.setIfInBounds_toArray, List.set_cons_zero, List.set_cons_succ]
        all_goals first | (refine soft_pass rfl HS ?_) | (refine soft_read (v := ?_) rfl (fun W hW => ?_) ?_; rotate_left; (· go_simp; try with_reducible rfl))
        all_goals try simp only [Act.put, List.setIfInBounds_toArray, List.set_cons_zero, List.set_cons_succ]
        all_goals refine soft_nil ?_
        go_wp2
        go_ret
        have hz4 := hb4.size
        have hzS := HS.size
        refine ⟨_, rfl, ((ho4.wide (T := Btw w.heap.size u4.heap.size) ?_).cast HT.out.symm).own (by rw [HT.out]; have := HON.out; have := HK.out; have := HR.out; simp only [List.length_append]; unfold Big; omega), E2.trans (HS4.mono E2.size)⟩
        rintro j (hj | hj)
        · exact ⟨hj.1, by have := hj.2; have := HS4.size; omega⟩
        · exact ⟨by omega, hj.2⟩
      · have HR : Hid ((l.drop (k + 1)).length = on - (k + 1)) := Lib.hid (by have := HON.out; simp; omega)
        go_upto_region 6 with fail
        refine wp_region_softP (fun W => Below w2.heap.size w2 W) [(1, true), (2, true), (3, true), (5, true), (6, true), (7, true), (8, true), (0, false), (4, false), (9, false), (10, true)] (by kernel_rfl) (by kernel_rfl) (fun c a d v w h => by cases d <;> exact h) ((Below.refl _ _).drew) ?_
        intro wS HS
        simp only [pickOps, List.getElem?_cons_succ, List.getElem?_cons_zero, List.map_cons, List.map_nil]
        all_goals first | (refine soft_pass rfl HS ?_) | (refine soft_read (v := ?_) rfl (fun W hW => ?_) ?_; rotate_left; (· go_simp; try with_reducible rfl))
        all_goals try simp only [Act.put, List.setIfInBounds_toArray, List.set_cons_zero, List.set_cons_succ]
        all_goals first | (refine soft_pass rfl HS ?_) | (refine soft_read (v := ?_) rfl (fun W hW => ?_) ?_; rotate_left; (· go_simp; try with_reducible rfl))
        all_goals try simp only [Act.put, List.setIfInBounds_toArray, List.set_cons_zero, List.set_cons_succ]
        all_goals first | (refine soft_pass rfl HS ?_) | (refine soft_read (v := ?_) rfl (fun W hW => ?_) ?_; rotate_left; (· go_simp; try with_reducible rfl))
        all_goals try simp only [Act.put, List.setIfInBounds_toArray, List.set_cons_zero, List.set_cons_succ]
        all_goals first | (refine soft_pass rfl HS ?_) | (refine soft_read (v := ?_) rfl (fun W hW => ?_) ?_; rotate_left; (· go_simp; try with_reducible rfl))
        all_goals try simp only [Act.put, List.setIfInBounds_toArray, List.set_cons_zero, List.set_cons_succ]
        all_goals first | (refine soft_pass rfl HS ?_) | (refine soft_read (v := ?_) rfl (fun W hW => ?_) ?_; rotate_left; (· go_simp; try with_reducible rfl))
        all_goals try simp only [Act.put, List.setIfInBounds_toArray, List.set_cons_zero, List.set_cons_succ]
        all_goals first | (refine soft_pass rfl HS ?_) | (refine soft_read (v := ?_) rfl (fun W hW => ?_) ?_; rotate_left; (· go_simp; try with_reducible rfl))
        all_goals try simp only [Act.put, List.setIfInBounds_toArray, List.set_cons_zero, List.set_cons_succ]
        all_goals first | (refine soft_pass rfl HS ?_) | (refine soft_read (v := ?_) rfl (fun W hW => ?_) ?_; rotate_left; (· go_simp; try with_reducible rfl))
        all_goals try simp only [Act.put, List.setIfInBounds_toArray, List.set_cons_zero, List.set_cons_succ]
        all_goals first | (refine soft_pass rfl HS ?_) | (refine soft_do rfl (fun K hK => ?_); go_simp; generalize hwU : World.alloc wS _ = wU; replace HS : Below w2.heap.size w2 wU := (by rw [← hwU]; exact HS.alloc HS.size _); clear hwU; refine hK _ _ HS ?_; clear hK K)
        all_goals try simp only [Act.put, List.setIfInBounds_toArray, List.set_cons_zero, List.set_cons_succ]
        all_goals first | (refine soft_pass rfl HS ?_) | (refine soft_do rfl (fun K hK => ?_); obtain ⟨v3, u3, hr3, hb3, v4, u4, hr4, ho4, hb4⟩ := Rep.run_without (P := Try.prog) (t := 24) Try.underlying24 infMeasurement rfl (by decide) (by decide) G.out HS (a0 := some ⟨wS.heap.size, 0, none⟩) (by omega) oc (oc - (k + 1)) 24 24 (q := ((k + 1) * 3)) (kl := k) (rl := (on - (k + 1))) (fun _ => by rw [HK.out]; rfl) HK.out.symm HR.out.symm; have HS3 := HS.trans (hb3.mono HS.size); refine Rep.wp_append _ _ _ rfl (by rfl) (by rfl) hr3 ?_; refine hK _ _ HS3 ?_; clear hK K)
        all_goals try simp only [Act.put, List.setIfInBounds_toArray, List.set_cons_zero, List.set_cons_succ]
        all_goals first | (refine soft_pass rfl HS ?_) | (refine soft_do rfl (fun K hK => ?_); have HS4 := HS.trans (hb4.mono HS.size); refine Rep.wp_append _ _ _ rfl (by rfl) (by rfl) hr4 ?_; refine hK _ _ HS4 ?_; clear hK K)
        all_goals try simp only [Act.put, List.setIfInBounds_toArray, List.set_cons_zero, List.set_cons_succ]
        all_goals first | (refine soft_pass rfl HS ?_) | (refine soft_read (v := ?_) rfl (fun W hW => ?_) ?_; rotate_left; (· go_simp; try with_reducible rfl))
        all_goals try simp only [Act.put, List.setIfInBounds_toArray, List.set_cons_zero, List.set_cons_succ]
        all_goals refine soft_nil ?_
        go_wp2
        go_ret
        have hz4 := hb4.size
        have hzS := HS.size
        refine ⟨_, rfl, ((ho4.wide (T := Btw w.heap.size u4.heap.size) ?_).cast HT.out.symm).own (by rw [HT.out]; have := HON.out; have := HK.out; have := HR.out; simp only [List.length_append]; unfold Big; omega), E2.trans (HS4.mono E2.size)⟩
        rintro j (hj | hj)
        · exact ⟨hj.1, by have := hj.2; have := HS4.size; omega⟩
        · exact ⟨by omega, hj.2⟩
    · have HT := Lib.hid (HHALF.out (by omega))
      obtain ⟨s1, s2⟩ := HSET.out (l[k].2.2 / 2) (by omega)
      have HS1 := Lib.hid s1; have HS2 := Lib.hid s2
      clear HCUT HHALF HSET s1 s2 G
      go_wp2
      go_ret
      exact ⟨_, rfl, ((HS1.out.cast HT.out.symm).own (by rw [HT.out]; simp; unfold Big; omega)).wide (fun j hj => ⟨hj.1, by simpa [World.setCell] using hj.2⟩), E2.setCell hbS.1 _⟩
set_option maxRecDepth 100000 in
set_option maxHeartbeats 2000000 in
theorem implRecordSuccess_c {w : World} {vl : Value} {l : List LMeasurement} (hl : (Rep.slice 76 RMeasurement).rd w [vl] l) {cn : List Value} {n : LName} (hn : RName.rd w cn n) {f : Int} (hf : -9223372036854775808 ≤ f ∧ f ≤ 9223372036854775807) :
    Calls Try.prog 9 #[vl, .agg cn.toArray, .int .i64 f] w (MadePost (Rep.slice 76 RMeasurement) (recS n f l) w) := by
  have HL := Lib.hid hl
  have HN := Lib.hid hn
  have hlb : l.length ≤ 16777216 := hl.2.1
  obtain ⟨nv, rfl, n_0⟩ := RName_raw hn.1
  obtain ⟨na, np, hnv, _⟩ := Rep.len_raw n_0; obtain rfl : nv = _ := by simpa using hnv
  clear hnv n_0 hl hn hf
  go_enter Try.func9, Try.ntmps9
  go_wp2_with fail
  generalize hwB : World.alloc w _ = wB
  have EB : Below w.heap.size w wB := by rw [← hwB]; exact (Below.refl _ _).alloc (Nat.le_refl _) _
  have K0 : wB.cell? ⟨w.heap.size, 0, none⟩ = some (.slice na n.length np) := by rw [← hwB]; simp [go_sem]
  have hzB : wB.heap.size = w.heap.size + 1 := by rw [← hwB]; simp
  clear hwB
  refine (implcopyMeasurements_c (HL.out.below EB)).mono ?_
  rintro e w1 ⟨v1, rfl, O1, hb1⟩
  replace K0 := cell_later hb1 K0
  have E1 := EB.trans (hb1.mono EB.size)
  have HO := Lib.hid O1
  obtain ⟨oa, on, oc, ho, HON⟩ := O1.parts; obtain rfl := ho
  clear O1 hb1
  go_wp2_with fail
  refine (implmeasuredAt_c (HL.out.1.below E1) (HN.out.1.below E1)).mono ?_
  rintro e w2 ⟨rfl, hb2⟩
  have E2 := E1.trans (hb2.mono E1.size)
  have hz1 := E1.size
  have hz2 := hb2.size
  replace HO := Lib.hid ((HO.out.below hb2).wide (T := Btw w.heap.size w2.heap.size) (fun j hj => ⟨by have := hj.1; omega, by have := hj.2; omega⟩))
  clear hb2 E1 EB
  by_cases hk : idxOf (isMeas n f) l < 0
  · have HT := Lib.hid (recS_none hk)
    go_wp2
    go_ret
    exact ⟨_, rfl, (HO.out.cast HT.out.symm).own (by rw [HT.out]; unfold Big; omega), E2⟩
  · obtain ⟨k, hkl, hki⟩ := idxOf_get hk
    have HKI := Lib.hid hki
    rw [hki]
    clear hk hki
    obtain ⟨b, cap, hv, hgap⟩ := Rep.gap_start HO.out hkl
    simp only [Value.slice.injEq] at hv
    obtain ⟨rfl, hon, rfl⟩ := hv
    have hkon : k < on := by omega
    rw [List.drop_eq_getElem_cons hkl] at hgap
    have hcap := hgap.len
    simp only [List.length_take, List.length_cons, List.length_drop] at hcap
    have hcap2 : on ≤ oc := by have := hcap.2.1; omega
    have hcap3 : oc ≤ 9223372036854775807 := by have := hcap.2.2; unfold maxLen at this; omega
    have hbS := hgap.mem
    have hfz := hgap.frozen (k * 3 + 2)
    have G : Hid (Rep.gap 76 RMeasurement w2 b oc l.length (l.take k) 1 (l.drop (k + 1)) (Btw w.heap.size w2.heap.size)) := Lib.hid hgap.skip
    clear hgap hcap
    have HRD := Lib.hid (HO.out.own hlb)
    obtain ⟨c0, c1, c2, hr, A0, A1, A2⟩ := Rep.at3 HRD.out.raw hkl rfl
    obtain ⟨rv, rhe, r_0, r_1, r_2, r_3⟩ := RMeasurement_raw hr
    simp only [List.cons.injEq, and_true] at rhe
    obtain ⟨rfl, rfl, rfl⟩ := rhe
    have HCUT := Lib.hid (recS_cut HKI.out hkl)
    have HHALF := Lib.hid (recS_half HKI.out hkl)
    have HSET := Lib.hid (fun (v : Int) (hv : -9223372036854775808 ≤ v ∧ v ≤ 9223372036854775807) => Rep.own0_setCell (i := k) (j := 2) (p := k * 3 + 2) (u := .int .i64 v) HO.out hlb hkl (by decide) (fun h => RMeasurement_set2 v hv h) (show RMeasurement.bdd Big (setMeasurement_2 l[k] v) from Rep.raw_bdd HRD.out.rd hkl) rfl)
    have HON := Lib.hid hon
    clear hon hr r_0 r_1 r_2
    have hkI : (0 : Int) ≤ k := by omega
    have hkI2 : (k : Int) < on := by omega
    have hkN : k ≤ oc := by omega
    have hwr := Go.IntWalk.i64_in ((k : Int) + 1) (by omega)

    have hsh : l[k].2.2 / 2 ^ (1 : Nat) = l[k].2.2 / 2 := rfl
    obtain ⟨s1, s2⟩ := HSET.out (l[k].2.2 / 2) (by omega)
    have HS1 := Lib.hid s1; have HS2 := Lib.hid s2
    have hkl2 : k < (l.set k (setMeasurement_2 l[k] (l[k].2.2 / 2))).length := by simpa using hkl
    have hr2 := Rep.at3 (HS1.out.own (by simpa [Big] using hlb)).raw hkl2 rfl
    simp only [List.getElem_set_self] at hr2
    obtain ⟨d0, d1, d2, hr2, B0, B1, B2⟩ := hr2
    obtain ⟨qv, qhe, q_0, q_1, q_2, q_3⟩ := RMeasurement_raw hr2
    simp only [List.cons.injEq, and_true] at qhe
    obtain ⟨rfl, rfl, rfl⟩ := qhe
    change _ = some (Value.int IntKind.i64 (l[k].2.2 / 2)) at B2
    clear s1 s2 hr2 q_0 q_1 q_2 q_3 HSET G
    go_upto_region 6 with fail
    have E3 : Below w.heap.size w (w2.setCell ⟨b, k * 3 + 2, none⟩ (.int .i64 (l[k].2.2 / 2))) := E2.setCell hbS.1 _
    have hz3 : (w2.setCell ⟨b, k * 3 + 2, none⟩ (.int .i64 (l[k].2.2 / 2))).heap.size = w2.heap.size := by simp [World.setCell]
    generalize hw3 : w2.setCell ⟨b, k * 3 + 2, none⟩ (.int .i64 (l[k].2.2 / 2)) = w3 at *
    clear hw3 hsh HS2 A0 A1 A2 HRD HO hfz
    by_cases h2 : l[k].2.2 < 2
    · have h3 : l[k].2.2 / 2 < 1 := by omega
      have HT := Lib.hid (HCUT.out h2)
      clear HCUT HHALF
      go_wp2_with fail
      refine (Delete_Measurement_c HS1.out (by simpa using hlb) hkl2).mono ?_
      rintro e w4 ⟨v4, rfl, O4, T4⟩
      have HQ : Hid ((l.set k (setMeasurement_2 l[k] (l[k].2.2 / 2))).take k ++ (l.set k (setMeasurement_2 l[k] (l[k].2.2 / 2))).drop (k + 1) = recS n f l) := Lib.hid (by
        rw [HT.out, List.take_set_of_le (Nat.le_refl _), List.drop_set_of_lt (Nat.lt_succ_self _)])
      have HL4 : Hid ((recS n f l).length ≤ 16777216) := Lib.hid (by rw [HT.out, List.length_append, List.length_take, List.length_drop]; omega)
      have hz4 := T4.size
      have E4 : Below w.heap.size w w4 := E3.trans (T4.below (by omega) (fun j hj => hj.1))
      have HO4 := Lib.hid (O4.cast HQ.out)
      clear O4 T4
      go_wp2
      go_ret
      exact ⟨_, rfl, (HO4.out.own HL4.out).wide (fun j hj => ⟨hj.1, by have := hj.2; omega⟩), E4⟩
    · have h3 : ¬ l[k].2.2 / 2 < 1 := by omega
      have HT := Lib.hid (HHALF.out (by omega))
      clear HCUT HHALF
      go_wp2
      go_ret
      exact ⟨_, rfl, ((HS1.out.cast HT.out.symm).own (by rw [HT.out]; simp; unfold Big; omega)).wide (fun j hj => ⟨hj.1, by have := hj.2; omega⟩), E3⟩
end Go.Proofs.Ytikjbdfkdkijkaa

/-
  A route added.
-/
import Derived.Test.YtjobmdnggfjkhaaCopyR
import Derived.Test.YtjobmdnggfjkhaaCut
import Derived.Test.YtjobmdnggfjkhaaRoute
import Derived.Test.YtjobmdnggfjkhaaVRoute
import Derived.Test.YtjobmdnggfjkhaaMeas
import Derived.IntWalk
import Derived.Deep.Cut
import Derived.WalkSpells
import Derived.WalkLawsBesides
namespace Go.Proofs.Ytjobmdnggfjkhaa
open Go.RowKit
set_option linter.unusedVariables false
set_option linter.unusedSimpArgs false
set_option linter.unnecessarySimpa false
def addR1 (r : LRoute) (l : List LRoute) : List LRoute :=
  if idxOf (isRoute r.1 r.2.1) l < 0 then l ++ [r] else l.set (idxOf (isRoute r.1 r.2.1) l).toNat (setRoute_2 (l.getD (idxOf (isRoute r.1 r.2.1) l).toNat ([], 0, 0)) r.2.2)
def addOk (r : LRoute) (l : List LRoute) : Bool := vRoutes (addR1 r l)
def addR (r : LRoute) (l : List LRoute) : List LRoute := if addOk r l then addR1 r l else l
theorem addR1_new {r : LRoute} {l : List LRoute} (h : idxOf (isRoute r.1 r.2.1) l < 0) : addR1 r l = l ++ [r] := by unfold addR1; rw [if_pos h]
theorem addR1_set {r : LRoute} {l : List LRoute} {k : Nat} (h : idxOf (isRoute r.1 r.2.1) l = k) (hk : k < l.length) : addR1 r l = l.set k (setRoute_2 l[k] r.2.2) := by
  unfold addR1
  simp only [h, Int.toNat_natCast, getD_get hk]
  rw [if_neg (by omega)]
theorem addR_no {r : LRoute} {l : List LRoute} (h : vRoutes (addR1 r l) = false) : addR r l = l ∧ addOk r l = false := by unfold addR addOk; rw [h]; exact ⟨rfl, rfl⟩
theorem addR_yes {r : LRoute} {l : List LRoute} (h : vRoutes (addR1 r l) = true) : addR r l = addR1 r l ∧ addOk r l = true := by unfold addR addOk; rw [h]; exact ⟨rfl, rfl⟩
theorem vRoutes_len {l : List LRoute} (h : vRoutes l = true) : l.length ≤ 24 := by unfold vRoutes at h; simp at h; exact h.2
set_option maxRecDepth 100000 in
set_option maxHeartbeats 4000000 in
theorem specAddRoute_c {w : World} {vl : Value} {l : List LRoute} (hl : (Rep.slice 48 RRoute).rd w [vl] l) {cr : List Value} {r : LRoute} (hr : RRoute.rd w cr r) :
    Calls Try.prog 22 #[vl, .agg cr.toArray] w fun e w' => ∃ v, e = .returned (.tuple #[v, .bool (addOk r l)]) ∧ (Rep.slice 48 RRoute).own w' [v] (addR r l) (Btw w.heap.size w'.heap.size) ∧ Below w.heap.size w w' := by
  have HL := Lib.hid hl
  have hlb : l.length ≤ 16777216 := hl.2.1
  obtain ⟨nv, rfl, r_0, r_1, r_2, r_3⟩ := RRoute_raw hr.1
  obtain ⟨n, f, c⟩ := r
  have HN : Hid (RName.rd w [nv] n) := Lib.hid ⟨r_0, hr.2.1⟩
  obtain ⟨na, np, hnv, _⟩ := Rep.len_raw r_1; obtain rfl : nv = _ := by simpa using hnv
  obtain ⟨va, vp, hvl, hvll⟩ := Rep.len_raw hl.1; obtain rfl : vl = _ := by simpa using hvl
  have HF := Lib.hid r_2
  have HC := Lib.hid r_3
  clear hnv r_0 r_1 r_2 r_3 hl hr hvl
  go_enter Try.func22, Try.ntmps22
  go_wp2_with fail
  generalize hwB : World.alloc w _ = wB
  have EB : Below w.heap.size w wB := by rw [← hwB]; exact (Below.refl _ _).alloc (Nat.le_refl _) _
  have K0 : wB.cell? ⟨w.heap.size, 0, none⟩ = some (.slice na n.length np) := by rw [← hwB]; simp [go_sem]
  have K1 : wB.cell? ⟨w.heap.size, 1, none⟩ = some (.int .i64 f) := by rw [← hwB]; simp [go_sem]
  have K2 : wB.cell? ⟨w.heap.size, 2, none⟩ = some (.int .i64 c) := by rw [← hwB]; simp [go_sem]
  have hzB : wB.heap.size = w.heap.size + 1 := by rw [← hwB]; simp
  clear hwB
  refine (specl14Copy_c (HL.out.below EB)).mono ?_
  rintro e w1 ⟨v1, rfl, O1, hb1⟩
  replace K0 := cell_later hb1 K0
  replace K1 := cell_later hb1 K1
  replace K2 := cell_later hb1 K2
  have E1 := EB.trans (hb1.mono EB.size)
  have hz1 := hb1.size
  have HO := Lib.hid (O1.wide (T := Btw w.heap.size w1.heap.size) (fun j hj => ⟨by have := hj.1; omega, hj.2⟩))
  obtain ⟨oa, on, oc, ho, HON⟩ := O1.parts; obtain rfl := ho
  clear O1 hb1 EB
  go_wp2_with fail
  refine (specl14Find_c (HL.out.1.below E1) (HN.out.1.below E1)).mono ?_
  rintro e w4 ⟨rfl, hb4⟩
  replace K0 := cell_later hb4 K0
  replace K1 := cell_later hb4 K1
  replace K2 := cell_later hb4 K2
  have E4 := E1.trans (hb4.mono E1.size)
  have hz4 := hb4.size
  replace HO := Lib.hid ((HO.out.below hb4).wide (T := Btw w.heap.size w4.heap.size) (fun j hj => ⟨hj.1, by have := hj.2; omega⟩))
  clear hb4 E1
  by_cases hk : idxOf (isRoute n f) l < 0
  · have HT := Lib.hid (addR1_new (r := (n, f, c)) hk)
    have hk2 : ¬ (0 ≤ idxOf (isRoute n f) l) := by omega
    generalize hq : idxOf (isRoute n f) l = q at *
    clear hq hk
    go_wp2_with fail
    refine (specl4Copy_c (HN.out.below E4)).mono ?_
    rintro e wT ⟨tc, rfl, OT, hbT⟩
    obtain ⟨tv0, rfl, t_0⟩ := RName_raw OT.raw
    obtain ⟨ta0, tp0, th0, _⟩ := Rep.len_raw t_0; obtain rfl : tv0 = _ := (by simpa using th0)
    clear th0 t_0
    go_upto_region 6 with fail
    generalize hwC : World.alloc wT _ = wC
    have EC : Below wT.heap.size wT wC := by rw [← hwC]; exact (Below.refl _ _).alloc (Nat.le_refl _) _
    have KC : wC.cell? ⟨wT.heap.size, 0, none⟩ = some (.slice ta0 n.length tp0) := by rw [← hwC]; simp [go_sem]
    clear hwC
    have ER := hbT.trans (EC.mono hbT.size)
    have hsT := hbT.size
    have hsC := EC.size
    have OTC := OT.below EC
    replace K0 := cell_later ER K0
    replace K1 := cell_later ER K1
    replace K2 := cell_later ER K2
    replace HO := Lib.hid (HO.out.below ER)
    go_wp2_with (at_builtin; refine Rep.wpList_pushB rfl _ _ 43 rfl (r := RRoute) (e := 48) Try.underlying43 infRoute rfl (by decide) (by decide) (B := w.heap.size) HO.out (by rfl) (by rfl) rfl (Rep.own.wide (T := Btw w4.heap.size wT.heap.size) (Rep.own_flat (r := RName) (q := Rep.pair Rep.int Rep.int) (cs := [.slice ta0 n.length tp0]) (ds := [.int .i64 f, .int .i64 c]) (x := n) (y := (f, c)) (OTC) (Rep.flat_pair (Rep.flat_int HF.out) (Rep.flat_int HC.out))) (fun j hj => hj)) rfl (fun j h1 h2 => by have p := h1.2; have q := h2.1; omega) (fun j hj => ⟨hj.1, by have := hj.2; omega⟩) (fun j hj => ⟨by have := hj.1; omega, by have := hj.2; omega⟩) (by omega) (by have := HON.out; omega) ?_)
    intro v5 w5 hown5 hbel5 hz5
    have HO5 := Lib.hid (hown5.cast HT.out.symm)
    have E5 := (E4.trans (ER.mono E4.size)).trans hbel5
    clear hown5 hbel5 HO
    go_wp2_with fail
    refine (specValidRoutes_w HO5.out.raw0).mono ?_
    rintro e w7 ⟨rfl, hb7⟩
    have E7 := E5.trans (hb7.mono E5.size)
    have hz7 := hb7.size
    have hzE := E5.size
    have HO7 := Lib.hid (HO5.out.below hb7)
    clear hb7
    cases hv : vRoutes (addR1 (n, f, c) l)
    · have HQ := Lib.hid (addR_no hv)
      clear hv
      go_wp2_with fail
      refine (specl14Copy_c (HL.out.below E7)).mono ?_
      rintro e w8 ⟨v8, rfl, O8, hb8⟩
      have HO8 := Lib.hid (O8.cast HQ.out.1.symm)
      clear O8
      go_wp2
      go_ret2
      exact ⟨v8, by rw [HQ.out.2]; rfl, (HO8.out.own (by rw [HQ.out.1]; exact hlb)).wide (fun j hj => ⟨by have := hj.1; omega, hj.2⟩), E7.trans (hb8.mono E7.size)⟩
    · have HQ := Lib.hid (addR_yes hv)
      have HLN := Lib.hid (vRoutes_len hv)
      clear hv
      go_wp2
      go_ret2
      exact ⟨v5, by rw [HQ.out.2]; rfl, ((HO7.out.cast HQ.out.1.symm).own (by rw [HQ.out.1]; have := HLN.out; unfold Big; omega)).wide (fun j hj => ⟨by have := hj.1; omega, by have := hj.2; omega⟩), E7⟩
  · obtain ⟨k, hkl, hki⟩ := idxOf_get hk
    have HKI := Lib.hid hki
    rw [hki]
    clear hk hki
    obtain ⟨b, cap, hv, hbS, hbl, hcap2, hcap3⟩ := Rep.own0_addr HO.out hkl
    simp only [Value.slice.injEq] at hv
    obtain ⟨rfl, hon, rfl⟩ := hv
    have hkon : k < on := by omega
    have hkI : (0 : Int) ≤ k := by omega
    have hkI2 : (k : Int) < on := by omega
    have HRD := Lib.hid (HO.out.own hlb)
    obtain ⟨c0, c1, c2, hr, A0, A1, A2⟩ := Rep.at3 HRD.out.raw hkl rfl
    clear hr
    have hfz := Rep.own0_frozen HO.out (by omega) (k * 3 + 2)
    have HT := Lib.hid (addR1_set (r := (n, f, c)) HKI.out hkl)
    obtain ⟨s1, s2⟩ := Rep.own0_setCell (i := k) (j := 2) (p := k * 3 + 2) (u := .int .i64 c) HO.out hlb hkl (by decide) (fun h => RRoute_set2 _ HC.out h) (show RRoute.bdd Big (setRoute_2 l[k] c) from Rep.raw_bdd HRD.out.rd hkl) rfl
    have HS1 := Lib.hid (s1.cast HT.out.symm)
    have E5 : Below w.heap.size w (w4.setCell ⟨b, k * 3 + 2, none⟩ (.int .i64 c)) := E4.setCell hbS.1 _
    have hz5 : (w4.setCell ⟨b, k * 3 + 2, none⟩ (.int .i64 c)).heap.size = w4.heap.size := by simp [World.setCell]
    clear s1 s2 hon HRD
    go_upto_region 7 with fail
    generalize hw5 : w4.setCell ⟨b, k * 3 + 2, none⟩ (.int .i64 c) = w5 at *
    clear hw5
    go_wp2_with fail
    refine (specValidRoutes_w HS1.out.raw0).mono ?_
    rintro e w7 ⟨rfl, hb7⟩
    have E7 := E5.trans (hb7.mono E5.size)
    have hz7 := hb7.size
    have hzE := E5.size
    have HO7 := Lib.hid (HS1.out.below hb7)
    clear hb7
    cases hv : vRoutes (addR1 (n, f, c) l)
    · have HQ := Lib.hid (addR_no hv)
      clear hv
      go_wp2_with fail
      refine (specl14Copy_c (HL.out.below E7)).mono ?_
      rintro e w8 ⟨v8, rfl, O8, hb8⟩
      have HO8 := Lib.hid (O8.cast HQ.out.1.symm)
      clear O8
      go_wp2
      go_ret2
      exact ⟨v8, by rw [HQ.out.2]; rfl, (HO8.out.own (by rw [HQ.out.1]; exact hlb)).wide (fun j hj => ⟨by have := hj.1; omega, hj.2⟩), E7.trans (hb8.mono E7.size)⟩
    · have HQ := Lib.hid (addR_yes hv)
      have HLN := Lib.hid (vRoutes_len hv)
      clear hv
      go_wp2
      go_ret2
      exact ⟨.slice (some ⟨b, 0, none⟩) on oc, by rw [HQ.out.2]; rfl, ((HO7.out.cast HQ.out.1.symm).own (by rw [HQ.out.1]; have := HLN.out; unfold Big; omega)).wide (fun j hj => ⟨by have := hj.1; omega, by have := hj.2; omega⟩), E7⟩
set_option maxRecDepth 100000 in
set_option maxHeartbeats 4000000 in
theorem implAddRoute_c {w : World} {vl : Value} {l : List LRoute} (hl : (Rep.slice 48 RRoute).rd w [vl] l) {cr : List Value} {r : LRoute} (hr : RRoute.rd w cr r) :
    Calls Try.prog 25 #[vl, .agg cr.toArray] w fun e w' => ∃ v, e = .returned (.tuple #[v, .bool (addOk r l)]) ∧ (Rep.slice 48 RRoute).own w' [v] (addR r l) (Btw w.heap.size w'.heap.size) ∧ Below w.heap.size w w' := by
  have HL := Lib.hid hl
  have hlb : l.length ≤ 16777216 := hl.2.1
  obtain ⟨nv, rfl, r_0, r_1, r_2, r_3⟩ := RRoute_raw hr.1
  obtain ⟨n, f, c⟩ := r
  have HN : Hid (RName.rd w [nv] n) := Lib.hid ⟨r_0, hr.2.1⟩
  obtain ⟨na, np, hnv, _⟩ := Rep.len_raw r_1; obtain rfl : nv = _ := by simpa using hnv
  obtain ⟨va, vp, hvl, hvll⟩ := Rep.len_raw hl.1; obtain rfl : vl = _ := by simpa using hvl
  have HF := Lib.hid r_2
  have HC := Lib.hid r_3
  clear hnv r_0 r_1 r_2 r_3 hl hr hvl
  go_enter Try.func25, Try.ntmps25
  go_wp2_with fail
  generalize hwB : World.alloc w _ = wB
  have EB : Below w.heap.size w wB := by rw [← hwB]; exact (Below.refl _ _).alloc (Nat.le_refl _) _
  have K0 : wB.cell? ⟨w.heap.size, 0, none⟩ = some (.slice na n.length np) := by rw [← hwB]; simp [go_sem]
  have K1 : wB.cell? ⟨w.heap.size, 1, none⟩ = some (.int .i64 f) := by rw [← hwB]; simp [go_sem]
  have K2 : wB.cell? ⟨w.heap.size, 2, none⟩ = some (.int .i64 c) := by rw [← hwB]; simp [go_sem]
  have hzB : wB.heap.size = w.heap.size + 1 := by rw [← hwB]; simp
  clear hwB
  refine (implcopyRoutes_c (HL.out.below EB)).mono ?_
  rintro e w1 ⟨v1, rfl, O1, hb1⟩
  replace K0 := cell_later hb1 K0
  replace K1 := cell_later hb1 K1
  replace K2 := cell_later hb1 K2
  have E1 := EB.trans (hb1.mono EB.size)
  have hz1 := hb1.size
  have HO := Lib.hid (O1.wide (T := Btw w.heap.size w1.heap.size) (fun j hj => ⟨by have := hj.1; omega, hj.2⟩))
  obtain ⟨oa, on, oc, ho, HON⟩ := O1.parts; obtain rfl := ho
  clear O1 hb1 EB
  go_wp2_with fail
  refine (implrouteAt_c (HL.out.1.below E1) (HN.out.1.below E1)).mono ?_
  rintro e w4 ⟨rfl, hb4⟩
  replace K0 := cell_later hb4 K0
  replace K1 := cell_later hb4 K1
  replace K2 := cell_later hb4 K2
  have E4 := E1.trans (hb4.mono E1.size)
  have hz4 := hb4.size
  replace HO := Lib.hid ((HO.out.below hb4).wide (T := Btw w.heap.size w4.heap.size) (fun j hj => ⟨hj.1, by have := hj.2; omega⟩))
  clear hb4 E1
  by_cases hk : idxOf (isRoute n f) l < 0
  · have HT := Lib.hid (addR1_new (r := (n, f, c)) hk)
    have hk2 : ¬ (0 ≤ idxOf (isRoute n f) l) := by omega
    generalize hq : idxOf (isRoute n f) l = q at *
    clear hq hk
    go_upto_region 5 with fail
    refine wp_region_softP_tail (fun W => Below w4.heap.size w4 W) [(0, true), (1, true), (2, true), (4, true), (5, true), (6, true), (7, true), (3, false), (8, true), (9, false)] (by kernel_rfl) (by kernel_rfl) (fun c a d v w h => by cases d <;> exact h) ((Below.refl _ _).drew) ?_
    intro wS HS
    simp only [pickOps, List.length_cons, List.length_nil, List.getElem?_cons_succ, List.getElem?_cons_zero, List.map_cons, List.map_nil, List.cons_append, List.nil_append, List.drop_succ_cons, List.drop_zero]
    all_goals first | (refine soft_pass rfl HS ?_) | (refine soft_read (v := ?_) rfl (fun W hW => ?_) ?_; rotate_left; (· go_simp; try with_reducible rfl))
    all_goals try simp only [Act.put, List.setIfInBounds_toArray, List.set_cons_zero, List.set_cons_succ]
    all_goals first | (refine soft_pass rfl HS ?_) | (refine soft_read (v := ?_) rfl (fun W hW => ?_) ?_; rotate_left; (· go_simp; try with_reducible rfl))
    all_goals try simp only [Act.put, List.setIfInBounds_toArray, List.set_cons_zero, List.set_cons_succ]
    all_goals first | (refine soft_pass rfl HS ?_) | (refine soft_read (v := ?_) rfl (fun W hW => ?_) ?_; rotate_left; (· have A_K0 := cell_later hW K0; have A_K1 := cell_later hW K1; have A_K2 := cell_later hW K2; clear hW; go_simp; try with_reducible rfl))
    all_goals try simp only [Act.put, List.setIfInBounds_toArray, List.set_cons_zero, List.set_cons_succ]
    all_goals first | (refine soft_pass rfl HS ?_) | (refine soft_read (v := ?_) rfl (fun W hW => ?_) ?_; rotate_left; (· go_simp; try with_reducible rfl))
    all_goals try simp only [Act.put, List.setIfInBounds_toArray, List.set_cons_zero, List.set_cons_succ]
    all_goals first | (refine soft_pass rfl HS ?_) | (refine soft_read (v := ?_) rfl (fun W hW => ?_) ?_; rotate_left; (· have A_K0 := cell_later hW K0; have A_K1 := cell_later hW K1; have A_K2 := cell_later hW K2; clear hW; go_simp; try with_reducible rfl))
    all_goals try simp only [Act.put, List.setIfInBounds_toArray, List.set_cons_zero, List.set_cons_succ]
    all_goals first | (refine soft_pass rfl HS ?_) | (refine soft_read (v := ?_) rfl (fun W hW => ?_) ?_; rotate_left; (· go_simp; try with_reducible rfl))
    all_goals try simp only [Act.put, List.setIfInBounds_toArray, List.set_cons_zero, List.set_cons_succ]
    all_goals first | (refine soft_pass rfl HS ?_) | (refine soft_read (v := ?_) rfl (fun W hW => ?_) ?_; rotate_left; (· have A_K0 := cell_later hW K0; have A_K1 := cell_later hW K1; have A_K2 := cell_later hW K2; clear hW; go_simp; try with_reducible rfl))
    all_goals try simp only [Act.put, List.setIfInBounds_toArray, List.set_cons_zero, List.set_cons_succ]
    all_goals first | (refine soft_pass rfl HS ?_) | (refine soft_do rfl (fun K hK => ?_); go_simp; refine (implcopyName_c (HN.out.below (E4.trans (HS.mono E4.size)))).mono ?_; rintro e wT ⟨tc, rfl, OT, hbT⟩; obtain ⟨tv0, rfl, t_0⟩ := RName_raw OT.raw; obtain ⟨ta0, tp0, th0, _⟩ := Rep.len_raw t_0; obtain rfl : tv0 = _ := (by simpa using th0); clear th0 t_0; have hrS := HS.size; have hbT2 := hbT.size; replace HS := HS.trans (hbT.mono HS.size); refine hK _ _ HS ?_; clear hK K hbT)
    all_goals try simp only [Act.put, List.setIfInBounds_toArray, List.set_cons_zero, List.set_cons_succ]
    all_goals first | (refine soft_pass rfl HS ?_) | (refine soft_read (v := ?_) rfl (fun W hW => ?_) ?_; rotate_left; (· go_simp; try with_reducible rfl))
    all_goals try simp only [Act.put, List.setIfInBounds_toArray, List.set_cons_zero, List.set_cons_succ]
    all_goals first | (refine soft_pass rfl HS ?_) | (refine soft_do rfl (fun K hK => ?_); go_simp; refine hK _ _ (HS.alloc HS.size _) ?_; clear hK K)
    all_goals try simp only [Act.put, List.setIfInBounds_toArray, List.set_cons_zero, List.set_cons_succ]
    all_goals refine soft_rest ?_
    have hsS := HS.size
    replace HO := Lib.hid (HO.out.below HS)
    go_wp2_with (at_builtin; refine Rep.wpList_pushB rfl _ _ 43 rfl (r := RRoute) (e := 48) Try.underlying43 infRoute rfl (by decide) (by decide) (B := w.heap.size) HO.out (by rfl) (by rfl) rfl (Rep.own.wide (T := Btw w4.heap.size wT.heap.size) (Rep.own_flat (r := RName) (q := Rep.pair Rep.int Rep.int) (cs := [.slice ta0 n.length tp0]) (ds := [.int .i64 f, .int .i64 c]) (x := n) (y := (f, c)) (OT) (Rep.flat_pair (Rep.flat_int HF.out) (Rep.flat_int HC.out))) (fun j hj => ⟨by have := hj.1; omega, hj.2⟩)) rfl (fun j h1 h2 => by have p := h1.2; have q := h2.1; omega) (fun j hj => ⟨hj.1, by have := hj.2; omega⟩) (fun j hj => ⟨by have := hj.1; omega, by have := hj.2; omega⟩) (by omega) (by have := HON.out; omega) ?_)
    intro v5 w5 hown5 hbel5 hz5
    have HO5 := Lib.hid (hown5.cast HT.out.symm)
    have E5 := (E4.trans (HS.mono E4.size)).trans hbel5
    clear hown5 hbel5 HO
    go_wp2_with fail
    refine (implValidRoutes_w HO5.out.raw0).mono ?_
    rintro e w7 ⟨rfl, hb7⟩
    have E7 := E5.trans (hb7.mono E5.size)
    have hz7 := hb7.size
    have hzE := E5.size
    have HO7 := Lib.hid (HO5.out.below hb7)
    clear hb7
    cases hv : vRoutes (addR1 (n, f, c) l)
    · have HQ := Lib.hid (addR_no hv)
      clear hv
      go_wp2_with fail
      refine (implcopyRoutes_c (HL.out.below E7)).mono ?_
      rintro e w8 ⟨v8, rfl, O8, hb8⟩
      have HO8 := Lib.hid (O8.cast HQ.out.1.symm)
      clear O8
      go_wp2
      go_ret2
      exact ⟨v8, by rw [HQ.out.2]; rfl, (HO8.out.own (by rw [HQ.out.1]; exact hlb)).wide (fun j hj => ⟨by have := hj.1; omega, hj.2⟩), E7.trans (hb8.mono E7.size)⟩
    · have HQ := Lib.hid (addR_yes hv)
      have HLN := Lib.hid (vRoutes_len hv)
      clear hv
      go_wp2
      go_ret2
      exact ⟨v5, by rw [HQ.out.2]; rfl, ((HO7.out.cast HQ.out.1.symm).own (by rw [HQ.out.1]; have := HLN.out; unfold Big; omega)).wide (fun j hj => ⟨by have := hj.1; omega, by have := hj.2; omega⟩), E7⟩
  · obtain ⟨k, hkl, hki⟩ := idxOf_get hk
    have HKI := Lib.hid hki
    rw [hki]
    clear hk hki
    obtain ⟨b, cap, hv, hbS, hbl, hcap2, hcap3⟩ := Rep.own0_addr HO.out hkl
    simp only [Value.slice.injEq] at hv
    obtain ⟨rfl, hon, rfl⟩ := hv
    have hkon : k < on := by omega
    have hkI : (0 : Int) ≤ k := by omega
    have hkI2 : (k : Int) < on := by omega
    have HRD := Lib.hid (HO.out.own hlb)
    obtain ⟨c0, c1, c2, hr, A0, A1, A2⟩ := Rep.at3 HRD.out.raw hkl rfl
    clear hr
    have hfz := Rep.own0_frozen HO.out (by omega) (k * 3 + 2)
    have HT := Lib.hid (addR1_set (r := (n, f, c)) HKI.out hkl)
    obtain ⟨s1, s2⟩ := Rep.own0_setCell (i := k) (j := 2) (p := k * 3 + 2) (u := .int .i64 c) HO.out hlb hkl (by decide) (fun h => RRoute_set2 _ HC.out h) (show RRoute.bdd Big (setRoute_2 l[k] c) from Rep.raw_bdd HRD.out.rd hkl) rfl
    have HS1 := Lib.hid (s1.cast HT.out.symm)
    have E5 : Below w.heap.size w (w4.setCell ⟨b, k * 3 + 2, none⟩ (.int .i64 c)) := E4.setCell hbS.1 _
    have hz5 : (w4.setCell ⟨b, k * 3 + 2, none⟩ (.int .i64 c)).heap.size = w4.heap.size := by simp [World.setCell]
    clear s1 s2 hon HRD
    go_upto_region 6 with fail
    generalize hw5 : w4.setCell ⟨b, k * 3 + 2, none⟩ (.int .i64 c) = w5 at *
    clear hw5
    go_wp2_with fail
    refine (implValidRoutes_w HS1.out.raw0).mono ?_
    rintro e w7 ⟨rfl, hb7⟩
    have E7 := E5.trans (hb7.mono E5.size)
    have hz7 := hb7.size
    have hzE := E5.size
    have HO7 := Lib.hid (HS1.out.below hb7)
    clear hb7
    cases hv : vRoutes (addR1 (n, f, c) l)
    · have HQ := Lib.hid (addR_no hv)
      clear hv
      go_wp2_with fail
      refine (implcopyRoutes_c (HL.out.below E7)).mono ?_
      rintro e w8 ⟨v8, rfl, O8, hb8⟩
      have HO8 := Lib.hid (O8.cast HQ.out.1.symm)
      clear O8
      go_wp2
      go_ret2
      exact ⟨v8, by rw [HQ.out.2]; rfl, (HO8.out.own (by rw [HQ.out.1]; exact hlb)).wide (fun j hj => ⟨by have := hj.1; omega, hj.2⟩), E7.trans (hb8.mono E7.size)⟩
    · have HQ := Lib.hid (addR_yes hv)
      have HLN := Lib.hid (vRoutes_len hv)
      clear hv
      go_wp2
      go_ret2
      exact ⟨.slice (some ⟨b, 0, none⟩) on oc, by rw [HQ.out.2]; rfl, ((HO7.out.cast HQ.out.1.symm).own (by rw [HQ.out.1]; have := HLN.out; unfold Big; omega)).wide (fun j hj => ⟨by have := hj.1; omega, by have := hj.2; omega⟩), E7⟩
end Go.Proofs.Ytjobmdnggfjkhaa

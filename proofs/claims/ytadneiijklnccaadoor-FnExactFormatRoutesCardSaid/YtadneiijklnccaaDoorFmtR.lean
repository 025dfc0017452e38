/-
  Routes, written as text.
-/
import Derived.Test.YtadneiijklnccaaDoorFmtT
import Derived.Test.YtadneiijklnccaaDoorSzW
import Derived.Test.YtadneiijklnccaaDoorMade
import Derived.Test.YtadneiijklnccaaDoorSoft2
import Derived.Test.YtadneiijklnccaaDoorTake2
import Derived.Test.YtadneiijklnccaaDoorCut
import Derived.Test.YtadneiijklnccaaDoorInfo
import Derived.Test.YtadneiijklnccaaDoorPush
import Derived.IntWalk
import Derived.Deep.Cut
import Derived.WalkSpells
import Derived.WalkLawsBesides
namespace Go.Proofs.YtadneiijklnccaaDoor
open Go.RowKit
set_option linter.unusedVariables false
set_option linter.unusedSimpArgs false
set_option linter.unnecessarySimpa false
def nameL (n : LName) : List UInt8 := Lib.joinTail [47] (n.map (·.data.toList))
def nameB (n : LName) : ByteArray := if n = [] then ⟨#[47]⟩ else ⟨(nameL n).toArray⟩
theorem nameL_succ {n : LName} {k : Nat} (h : k < n.length) : nameL (n.take (k + 1)) = nameL (n.take k) ++ ([47] ++ n[k].data.toList) := by
  unfold nameL Lib.joinTail
  rw [List.take_succ_eq_append_getElem h, List.map_append, List.map_append, List.flatten_append]
  simp
theorem nameL_len (n : LName) : (nameL n).length = wN n := by
  unfold nameL
  rw [Lib.joinTail_length]
  unfold wN sumL Lib.lens
  simp only [List.length_cons, List.length_nil, List.length_map, List.map_map]
  have : n.map (List.length ∘ fun x : ByteArray => x.data.toList) = n.map ByteArray.size := by
    apply List.map_congr_left; intro x _; simp
  first | (rw [this]; omega) | (simp; omega)
theorem nameB_size (n : LName) : (nameB n).size ≤ wN n + 1 := by
  unfold nameB
  split
  · have : (⟨#[47]⟩ : ByteArray).size = 1 := rfl
    omega
  · rw [ba_size, nameL_len]; omega
def rtB (r : LRoute) : ByteArray := nameB r.1 ++ ⟨#[62]⟩ ++ itoaB r.2.1 ++ ⟨#[58]⟩ ++ itoaB r.2.2
theorem rtB_size {r : LRoute} (h1 : -9223372036854775808 ≤ r.2.1 ∧ r.2.1 ≤ 9223372036854775807) (h2 : -9223372036854775808 ≤ r.2.2 ∧ r.2.2 ≤ 9223372036854775807) : (rtB r).size ≤ wN r.1 + 43 := by
  have a := itoaB_size h1
  have b := itoaB_size h2
  have n := nameB_size r.1
  have c : (⟨#[62]⟩ : ByteArray).size = 1 := rfl
  have d : (⟨#[58]⟩ : ByteArray).size = 1 := rfl
  unfold rtB; simp only [ByteArray.size_append]; omega
def routesL (l : List LRoute) : List UInt8 := Lib.join (l.map fun r => (rtB r).data.toList) [32]
def routesB (l : List LRoute) : ByteArray := if l = [] then ⟨#[45]⟩ else ⟨(routesL l).toArray⟩
theorem join_snoc : ∀ (xs : List (List UInt8)) (x sep : List UInt8), xs ≠ [] → Lib.join (xs ++ [x]) sep = Lib.join xs sep ++ sep ++ x
  | y :: ys, x, sep, _ => by
    rw [List.cons_append, Lib.join_cons, Lib.join_cons]
    unfold Lib.joinTail
    simp
theorem routesL_0 {l : List LRoute} (h : 0 < l.length) : routesL (l.take 1) = (rtB l[0]).data.toList := by
  unfold routesL
  rw [show l.take 1 = [l[0]] by rw [List.take_one]; cases l with | nil => cases h | cons a b => rfl]
  exact Lib.join_one _ _
theorem routesL_succ {l : List LRoute} {k : Nat} (h0 : 0 < k) (h : k < l.length) : routesL (l.take (k + 1)) = routesL (l.take k) ++ [32] ++ (rtB l[k]).data.toList := by
  unfold routesL
  rw [List.take_succ_eq_append_getElem h, List.map_append, List.map_cons, List.map_nil]
  exact join_snoc _ _ _ (by
    intro q
    have := congrArg List.length q
    rw [List.length_map, List.length_take] at this
    simp only [List.length_nil] at this; omega)
theorem wN_at {l : List LRoute} {k : Nat} (h : k < l.length) : wN l[k].1 ≤ wRs l := by
  have := sumL_mem (f := fun r : LRoute => wN r.1) (List.getElem_mem h)
  unfold wRs; omega
theorem sum_at {l : List LRoute} {k : Nat} (h : k ≤ l.length) : sumL (fun r : LRoute => wN r.1) (l.take k) + k ≤ wRs l := by
  have e := sumL_split (fun r : LRoute => wN r.1) l k
  unfold wRs; omega
set_option maxRecDepth 100000 in
set_option maxHeartbeats 2000000 in
theorem specFormatName_c {w : World} {cn : List Value} {n : LName} (hn : RName.raw w cn n) (hw : wN n ≤ 1048576) :
    Calls Tryd.prog 21 #[.agg cn.toArray] w fun e w' => e = .returned (.string (nameB n)) ∧ Below w.heap.size w w' := by
  obtain ⟨av, rfl, a_0⟩ := RName_raw hn
  obtain ⟨aa, capa, hva, la⟩ := Rep.len_raw a_0; obtain rfl : av = _ := by simpa using hva
  have HA := Lib.hid a_0
  have hnl : n.length ≤ 1048576 := by unfold wN at hw; omega
  clear hn hva a_0
  go_enter Tryd.func21, Tryd.ntmps21
  go_wp2_with fail
  generalize hwB : World.alloc w _ = wB
  have EB : Below w.heap.size w wB := by rw [← hwB]; exact (by repeat (first | (with_reducible exact Below.refl _ _) | refine Below.alloc ?_ (by simp; try omega) _ | refine Below.drew ?_ | refine Below.setCell ?_ (by simp; try omega) _))
  have K0 : wB.cell? ⟨w.heap.size, 0, none⟩ = some (.slice aa n.length capa) := by rw [← hwB]; simp [go_sem]
  clear hwB
  have HB := Lib.hid (HA.out.below EB)
  have HW := Lib.hid hw
  clear hw
  go_wp2
  go_loop [3, 4] (fun sv iv => ∃ (k : Nat) (s : ByteArray), k ≤ n.length ∧ iv = .int .i64 k ∧ sv = .string s ∧ s.size ≤ 1048576 ∧ Hid (s.data.toList = nameL (n.take k))) (fun _ iv => n.length - (intOf iv).toNat)
  case atStart => exact ⟨0, ByteArray.empty, Nat.zero_le _, rfl, rfl, by decide, Lib.hid rfl⟩
  case round =>
    obtain ⟨k, s, hk, rfl, rfl, hs, HP⟩ := hrel
    by_cases hlt : k < n.length
    · obtain ⟨ba, offa, rfl, c0, hr, A0⟩ := Rep.get1 HB.out hlt rfl
      obtain ⟨he, hsz⟩ := Rep.str_raw hr
      obtain rfl : c0 = _ := by simpa using he
      have HX := Lib.hid (nameL_succ hlt)
      have hss : s.size + 1 + n[k].size ≤ 1048576 := by
        have h1 := congrArg List.length HX.out
        rw [← HP.out] at h1
        have h2 := nameL_len (n.take (k + 1))
        have h3 : wN (n.take (k + 1)) ≤ wN n := by
          have e := sumL_split ByteArray.size n (k + 1)
          unfold wN; rw [List.length_take]; omega
        have h4 := HW.out
        simp only [List.length_append, List.length_cons, List.length_nil] at h1
        have h5 : s.data.toList.length = s.size := by simp
        have h6 : n[k].data.toList.length = n[k].size := by simp
        omega
      clear he hr hsz
      generalize n[k] = p at *
      go_wp2
      go_round
      case rel => exact ⟨k + 1, _, by omega, by go_num, rfl, (by have c1 : (⟨#[47]⟩ : ByteArray).size = 1 := rfl; simp only [ByteArray.size_append]; omega), Lib.hid (by rw [HX.out, ← HP.out]; simp)⟩
      case measure => simp [intOf]; omega
    · obtain rfl : k = n.length := by omega
      have HS : Hid (n ≠ [] → s = nameB n) := Lib.hid (fun q => by
        unfold nameB; rw [if_neg q]
        apply ByteArray.ext
        have h := HP.out
        rw [List.take_length] at h
        rw [← h])
      by_cases h0 : n.length = 0
      · have hn0 : n = [] := List.length_eq_zero_iff.1 h0
        subst hn0
        go_wp2
        go_ret
        exact ⟨rfl, EB⟩
      · have HT := Lib.hid (HS.out (fun q => h0 (by rw [q]; rfl)))
        go_wp2
        go_ret
        exact ⟨by rw [← HT.out]; rfl, EB⟩
theorem joinC {w : World} {v : Value} {xs : List ByteArray} (h : (Rep.slice 9 Rep.str).raw w [v] xs) (h0 : 0 < xs.length) (c : UInt8) (hl : (Lib.join (xs.map (·.data.toList)) [c]).length ≤ 140737488355328) (hx : xs.length ≤ 140737488355328) :
    Calls Tryd.prog 32 #[v, .string ⟨#[c]⟩] w fun e w' => e = .returned (.string ⟨(Lib.join (xs.map (·.data.toList)) [c]).toArray⟩) ∧ Below w.heap.size w w' := by
  obtain ⟨a, cap, hv, _⟩ := Rep.len_raw h; obtain rfl : v = _ := by simpa using hv
  obtain ⟨b, off, rfl, _⟩ := Rep.get1 h h0 rfl
  have hb : b < w.heap.size := by
    obtain ⟨_, _, h2, c0, _, A0⟩ := Rep.get1 h h0 rfl
    simp only [Option.some.injEq, Addr.mk.injEq, and_true] at h2
    obtain ⟨rfl, rfl⟩ := h2
    exact Nat.lt_of_not_le (fun q => by simp [World.cell?, Array.getElem?_eq_none q] at A0)
  have hc := Rep.cap_raw h
  refine Tryd.strings_Join b off cap xs ⟨#[c]⟩ w ?_ hb hx hc.1 hl
  intro j x hj
  obtain ⟨hlt, rfl⟩ := List.getElem?_eq_some_iff.1 hj
  obtain ⟨_, _, h2, c0, hr, A0⟩ := Rep.get1 h hlt rfl
  simp only [Option.some.injEq, Addr.mk.injEq, and_true] at h2
  obtain ⟨rfl, rfl⟩ := h2
  obtain ⟨he, _⟩ := Rep.str_raw hr
  obtain rfl : c0 = _ := by simpa using he
  exact A0
set_option maxRecDepth 100000 in
set_option maxHeartbeats 1000000 in
theorem implslashed_c {w : World} {va : Value} {n : LName} (ha : (Rep.slice 9 Rep.str).raw w [va] n) (hw : wN n ≤ 1048576) :
    Calls Tryd.prog 31 #[va] w fun e w' => e = .returned (.string (nameB n)) ∧ Below w.heap.size w w' := by
  obtain ⟨aa, capa, hva, la⟩ := Rep.len_raw ha; obtain rfl : va = _ := by simpa using hva
  have HA := Lib.hid ha
  clear hva ha
  go_enter Tryd.func31, Tryd.ntmps31
  by_cases h0 : n.length = 0
  · have hn0 : n = [] := List.length_eq_zero_iff.1 h0
    subst hn0
    go_wp2
    go_ret
    exact ⟨rfl, Below.refl _ _⟩
  · have hpos : 0 < n.length := by omega
    have HJ : Hid (nameB n = ⟨#[47]⟩ ++ ⟨(Lib.join (n.map (·.data.toList)) [47]).toArray⟩) := Lib.hid (by
      cases n with
      | nil => cases hpos
      | cons a r =>
        unfold nameB nameL
        rw [if_neg (by simp), List.map_cons, Lib.join_cons]
        apply ByteArray.ext
        simp [Lib.joinTail])
    have hjl : (Lib.join (n.map (·.data.toList)) [47]).length ≤ 1048576 := by
      have h1 := congrArg ByteArray.size HJ.out
      have h4 := ba_size (Lib.join (n.map (·.data.toList)) [47])
      rw [ByteArray.size_append] at h1
      have h2 := nameB_size n
      have h3 : (⟨#[47]⟩ : ByteArray).size = 1 := rfl
      omega
    have hnl : n.length ≤ 1048576 := by unfold wN at hw; omega
    have hln : ((n.length : Int) == 0) = false := by rw [beq_eq_false_iff_ne]; omega
    clear hw
    have hbs := ba_size (Lib.join (n.map (·.data.toList)) [47])
    have hj2 : (Lib.join (n.map (·.data.toList)) [47]).length ≤ 140737488355328 := by omega
    have hj3 : n.length ≤ 140737488355328 := by omega
    have HJC := Lib.hid (joinC HA.out hpos 47 hj2 hj3)
    clear hj2 hj3
    go_wp2_with fail
    refine (HJC.out).mono ?_
    rintro e w1 ⟨rfl, hb⟩
    generalize (⟨(Lib.join (n.map (·.data.toList)) [47]).toArray⟩ : ByteArray) = J at *
    go_wp2
    go_ret
    exact ⟨by rw [HJ.out]; rfl, hb⟩
set_option maxHeartbeats 400000 in
theorem implFormatName_c {w : World} {cn : List Value} {n : LName} (hn : RName.raw w cn n) (hw : wN n ≤ 1048576) :
    Calls Tryd.prog 23 #[.agg cn.toArray] w fun e w' => e = .returned (.string (nameB n)) ∧ Below w.heap.size w w' := by
  obtain ⟨av, rfl, a_0⟩ := RName_raw hn
  clear hn
  go_enter Tryd.func23, Tryd.ntmps23
  go_wp2_with fail
  generalize hwB : World.alloc w _ = wB
  have EB : Below w.heap.size w wB := by rw [← hwB]; exact (by repeat (first | (with_reducible exact Below.refl _ _) | refine Below.alloc ?_ (by simp; try omega) _ | refine Below.drew ?_ | refine Below.setCell ?_ (by simp; try omega) _))
  clear hwB
  refine (implslashed_c (a_0.below EB) hw).mono ?_
  rintro e w1 ⟨rfl, hb⟩
  have EG := EB.trans (hb.mono EB.size)
  go_wp2
  go_ret
  exact ⟨rfl, EG⟩
set_option maxRecDepth 100000 in
set_option maxHeartbeats 4000000 in
theorem specFormatRoutes_c {w : World} {vl : Value} {l : List LRoute} (hl : (Rep.slice 55 RRoute).rd w [vl] l) (hw : wRs l ≤ 1048576) :
    Calls Tryd.prog 11 #[vl] w fun e w' => e = .returned (.string (routesB l)) ∧ Below w.heap.size w w' := by
  obtain ⟨aa, capa, hva, la⟩ := Rep.len_raw hl.1; obtain rfl : vl = _ := by simpa using hva
  have HA := Lib.hid hl.1
  have hll : l.length ≤ 1048576 := by unfold wRs at hw; omega
  have HW := Lib.hid hw
  clear hl hva hw
  go_enter Tryd.func11, Tryd.ntmps11
  go_wp2
  go_loopw [3, 4] (fun sv iv wr => ∃ (k : Nat) (s : ByteArray), k ≤ l.length ∧ iv = .int .i64 k ∧ sv = .string s ∧ s.size ≤ sumL (fun r : LRoute => wN r.1) (l.take k) + 44 * k ∧ Hid (s.data.toList = if k = 0 then [] else routesL (l.take k)) ∧ Below w.heap.size w wr) (fun _ iv _ => l.length - (intOf iv).toNat)
  case atStart => exact ⟨0, ByteArray.empty, Nat.zero_le _, rfl, rfl, Nat.zero_le _, Lib.hid (by simp), Below.refl _ _⟩
  case round =>
    obtain ⟨k, s, hk, rfl, rfl, hs, HP, hbel⟩ := hrel
    by_cases hlt : k < l.length
    · obtain ⟨ba, offa, rfl, c0, c1, c2, hr, A0, A1, A2⟩ := Rep.get3 (HA.out.below hbel) hlt rfl
      obtain ⟨rv0, hre, r_0, r_1, r_2, r_3⟩ := RRoute_raw hr
      simp only [List.cons.injEq, and_true] at hre
      obtain ⟨rfl, rfl, rfl⟩ := hre
      obtain ⟨ra, rp, hrv, _⟩ := Rep.len_raw r_1; obtain rfl : c0 = _ := by simpa using hrv
      have hwn : wN l[k].1 ≤ 1048576 := Nat.le_trans (wN_at hlt) HW.out
      have hrs := rtB_size r_2 r_3
      have hns := nameB_size l[k].1
      have hq1 := itoaB_size r_2
      have hq2 := itoaB_size r_3
      have hsu := sumL_succ (f := fun r : LRoute => wN r.1) hlt
      have hs2 := sum_at (l := l) (k := k + 1) (by omega)
      have hs3 := HW.out
      have H0 : Hid (k = 0 → routesL (l.take (k + 1)) = (rtB l[k]).data.toList) := Lib.hid (fun q => by subst q; exact routesL_0 hlt)
      have HX := Lib.hid (fun (q : 0 < k) => routesL_succ q hlt)
      have HRT := Lib.hid (show rtB l[k] = nameB l[k].1 ++ ⟨#[62]⟩ ++ itoaB l[k].2.1 ++ ⟨#[58]⟩ ++ itoaB l[k].2.2 from rfl)
      clear hr hrv r_1
      try simp only at hsu
      generalize l[k] = r at *
      have HR0 := Lib.hid r_0
      have HQ := Lib.hid (show (rtB r).size ≤ wN r.1 + 43 from hrs)
      have hsz2 : s.size + wN r.1 + 44 ≤ 100000000 := by omega
      by_cases h0 : k = 0
      · have HS0 := Lib.hid (show s = ByteArray.empty by
          apply ByteArray.ext
          have h := HP.out
          rw [if_pos h0] at h
          apply Array.ext'
          rw [h]; rfl)
        have hk0 : ¬ (0 : Int) < (k : Int) := by omega
        have H00 := Lib.hid h0; clear h0
        go_upto_region 7 with fail
        refine wp_region_softP (fun W => Below wr.heap.size wr W) [(0, true), (1, true), (2, true), (3, true), (4, true), (5, true), (9, true), (10, true), (11, true), (12, true), (13, true), (17, true), (18, true), (19, true), (20, true), (21, true), (6, false), (7, true), (8, true), (14, false), (15, true), (16, true), (22, false), (23, true), (24, true)] (by kernel_rfl) (by kernel_rfl) (fun c a d v w h => by cases d <;> exact h) ((Below.refl _ _).drew) ?_
        intro wS HS
        simp only [pickOps, List.getElem?_cons_succ, List.getElem?_cons_zero, List.map_cons, List.map_nil]
        iterate 5
         all_goals first | (refine soft_pass rfl HS ?_) | (refine soft_read (v := ?_) rfl (fun W hW => ?_) ?_; rotate_left; (· go_simp; try with_reducible rfl))
         all_goals try simp only [Act.put, List.setIfInBounds_toArray, List.set_cons_zero, List.set_cons_succ]
        all_goals first | (refine soft_pass rfl HS ?_) | (refine soft_read (v := ?_) rfl (fun W hW => ?_) ?_; rotate_left; (· have A_A0 := cell_later hW A0; have A_A1 := cell_later hW A1; have A_A2 := cell_later hW A2; clear hW; go_simp; try with_reducible rfl))
        iterate 4
         all_goals try simp only [Act.put, List.setIfInBounds_toArray, List.set_cons_zero, List.set_cons_succ]
         all_goals first | (refine soft_pass rfl HS ?_) | (refine soft_read (v := ?_) rfl (fun W hW => ?_) ?_; rotate_left; (· go_simp; try with_reducible rfl))
        all_goals try simp only [Act.put, List.setIfInBounds_toArray, List.set_cons_zero, List.set_cons_succ]
        all_goals first | (refine soft_pass rfl HS ?_) | (refine soft_read (v := ?_) rfl (fun W hW => ?_) ?_; rotate_left; (· have A_A0 := cell_later hW A0; have A_A1 := cell_later hW A1; have A_A2 := cell_later hW A2; clear hW; go_simp; try with_reducible rfl))
        iterate 4
         all_goals try simp only [Act.put, List.setIfInBounds_toArray, List.set_cons_zero, List.set_cons_succ]
         all_goals first | (refine soft_pass rfl HS ?_) | (refine soft_read (v := ?_) rfl (fun W hW => ?_) ?_; rotate_left; (· go_simp; try with_reducible rfl))
        all_goals try simp only [Act.put, List.setIfInBounds_toArray, List.set_cons_zero, List.set_cons_succ]
        all_goals first | (refine soft_pass rfl HS ?_) | (refine soft_read (v := ?_) rfl (fun W hW => ?_) ?_; rotate_left; (· have A_A0 := cell_later hW A0; have A_A1 := cell_later hW A1; have A_A2 := cell_later hW A2; clear hW; go_simp; try with_reducible rfl))
        all_goals try simp only [Act.put, List.setIfInBounds_toArray, List.set_cons_zero, List.set_cons_succ]
        all_goals first | (refine soft_pass rfl HS ?_) | (refine soft_do rfl (fun K hK => ?_); go_simp; refine (specFormatName_c (HR0.out.below HS) hwn).mono ?_; rintro e wS1 ⟨rfl, hbS⟩; replace HS := HS.trans (hbS.mono HS.size); refine hK _ _ HS ?_; clear hK K hbS)
        iterate 2
         all_goals try simp only [Act.put, List.setIfInBounds_toArray, List.set_cons_zero, List.set_cons_succ]
         all_goals first | (refine soft_pass rfl HS ?_) | (refine soft_read (v := ?_) rfl (fun W hW => ?_) ?_; rotate_left; (· go_simp; (try rw [if_neg (by simp [ByteArray.size_append]; omega)]); try with_reducible rfl))
        all_goals try simp only [Act.put, List.setIfInBounds_toArray, List.set_cons_zero, List.set_cons_succ]
        all_goals first | (refine soft_pass rfl HS ?_) | (refine soft_do rfl (fun K hK => ?_); go_simp; refine (specFormatInt_c r_2).mono ?_; rintro e wS1 ⟨rfl, hbS⟩; replace HS := HS.trans (hbS.mono HS.size); refine hK _ _ HS ?_; clear hK K hbS)
        iterate 2
         all_goals try simp only [Act.put, List.setIfInBounds_toArray, List.set_cons_zero, List.set_cons_succ]
         all_goals first | (refine soft_pass rfl HS ?_) | (refine soft_read (v := ?_) rfl (fun W hW => ?_) ?_; rotate_left; (· go_simp; (try rw [if_neg (by simp [ByteArray.size_append]; omega)]); try with_reducible rfl))
        all_goals try simp only [Act.put, List.setIfInBounds_toArray, List.set_cons_zero, List.set_cons_succ]
        all_goals first | (refine soft_pass rfl HS ?_) | (refine soft_do rfl (fun K hK => ?_); go_simp; refine (specFormatInt_c r_3).mono ?_; rintro e wS1 ⟨rfl, hbS⟩; replace HS := HS.trans (hbS.mono HS.size); refine hK _ _ HS ?_; clear hK K hbS)
        all_goals try simp only [Act.put, List.setIfInBounds_toArray, List.set_cons_zero, List.set_cons_succ]
        all_goals first | (refine soft_pass rfl HS ?_) | (refine soft_read (v := ?_) rfl (fun W hW => ?_) ?_; rotate_left; (· go_simp; (try rw [if_neg (by simp [ByteArray.size_append]; omega)]); try with_reducible rfl))
        all_goals try simp only [Act.put, List.setIfInBounds_toArray, List.set_cons_zero, List.set_cons_succ]
        all_goals first | (refine soft_pass rfl HS ?_) | (refine soft_read (v := ?_) rfl (fun W hW => ?_) ?_; rotate_left; (· go_simp; try with_reducible rfl))
        all_goals try simp only [Act.put, List.setIfInBounds_toArray, List.set_cons_zero, List.set_cons_succ]
        all_goals refine soft_nil ?_
        have EWR := hbel.trans (HS.mono hbel.size)
        clear HS A0 A1 A2
        go_wp2
        go_roundw
        case rel => exact ⟨k + 1, _, by omega, by go_num, rfl, (by have c1 : (⟨#[62]⟩ : ByteArray).size = 1 := rfl; have c2 : (⟨#[58]⟩ : ByteArray).size = 1 := rfl; simp only [ByteArray.size_append] at *; omega), Lib.hid (by rw [if_neg (by omega), H0.out H00.out, HRT.out, HS0.out]; simp), EWR⟩
        case measure => simp [intOf]; omega
      · have hpos : 0 < k := by omega
        have hk0 : (0 : Int) < (k : Int) := by omega
        go_upto_region 7 with fail
        refine wp_region_softP (fun W => Below wr.heap.size wr W) [(0, true), (1, true), (2, true), (3, true), (4, true), (5, true), (9, true), (10, true), (11, true), (12, true), (13, true), (17, true), (18, true), (19, true), (20, true), (21, true), (6, false), (7, true), (8, true), (14, false), (15, true), (16, true), (22, false), (23, true), (24, true)] (by kernel_rfl) (by kernel_rfl) (fun c a d v w h => by cases d <;> exact h) ((Below.refl _ _).drew) ?_
        intro wS HS
        simp only [pickOps, List.getElem?_cons_succ, List.getElem?_cons_zero, List.map_cons, List.map_nil]
        iterate 5
         all_goals first | (refine soft_pass rfl HS ?_) | (refine soft_read (v := ?_) rfl (fun W hW => ?_) ?_; rotate_left; (· go_simp; try with_reducible rfl))
         all_goals try simp only [Act.put, List.setIfInBounds_toArray, List.set_cons_zero, List.set_cons_succ]
        all_goals first | (refine soft_pass rfl HS ?_) | (refine soft_read (v := ?_) rfl (fun W hW => ?_) ?_; rotate_left; (· have A_A0 := cell_later hW A0; have A_A1 := cell_later hW A1; have A_A2 := cell_later hW A2; clear hW; go_simp; try with_reducible rfl))
        iterate 4
         all_goals try simp only [Act.put, List.setIfInBounds_toArray, List.set_cons_zero, List.set_cons_succ]
         all_goals first | (refine soft_pass rfl HS ?_) | (refine soft_read (v := ?_) rfl (fun W hW => ?_) ?_; rotate_left; (· go_simp; try with_reducible rfl))
        all_goals try simp only [Act.put, List.setIfInBounds_toArray, List.set_cons_zero, List.set_cons_succ]
        all_goals first | (refine soft_pass rfl HS ?_) | (refine soft_read (v := ?_) rfl (fun W hW => ?_) ?_; rotate_left; (· have A_A0 := cell_later hW A0; have A_A1 := cell_later hW A1; have A_A2 := cell_later hW A2; clear hW; go_simp; try with_reducible rfl))
        iterate 4
         all_goals try simp only [Act.put, List.setIfInBounds_toArray, List.set_cons_zero, List.set_cons_succ]
         all_goals first | (refine soft_pass rfl HS ?_) | (refine soft_read (v := ?_) rfl (fun W hW => ?_) ?_; rotate_left; (· go_simp; try with_reducible rfl))
        all_goals try simp only [Act.put, List.setIfInBounds_toArray, List.set_cons_zero, List.set_cons_succ]
        all_goals first | (refine soft_pass rfl HS ?_) | (refine soft_read (v := ?_) rfl (fun W hW => ?_) ?_; rotate_left; (· have A_A0 := cell_later hW A0; have A_A1 := cell_later hW A1; have A_A2 := cell_later hW A2; clear hW; go_simp; try with_reducible rfl))
        all_goals try simp only [Act.put, List.setIfInBounds_toArray, List.set_cons_zero, List.set_cons_succ]
        all_goals first | (refine soft_pass rfl HS ?_) | (refine soft_do rfl (fun K hK => ?_); go_simp; refine (specFormatName_c (HR0.out.below HS) hwn).mono ?_; rintro e wS1 ⟨rfl, hbS⟩; replace HS := HS.trans (hbS.mono HS.size); refine hK _ _ HS ?_; clear hK K hbS)
        iterate 2
         all_goals try simp only [Act.put, List.setIfInBounds_toArray, List.set_cons_zero, List.set_cons_succ]
         all_goals first | (refine soft_pass rfl HS ?_) | (refine soft_read (v := ?_) rfl (fun W hW => ?_) ?_; rotate_left; (· go_simp; (try rw [if_neg (by simp [ByteArray.size_append]; omega)]); try with_reducible rfl))
        all_goals try simp only [Act.put, List.setIfInBounds_toArray, List.set_cons_zero, List.set_cons_succ]
        all_goals first | (refine soft_pass rfl HS ?_) | (refine soft_do rfl (fun K hK => ?_); go_simp; refine (specFormatInt_c r_2).mono ?_; rintro e wS1 ⟨rfl, hbS⟩; replace HS := HS.trans (hbS.mono HS.size); refine hK _ _ HS ?_; clear hK K hbS)
        iterate 2
         all_goals try simp only [Act.put, List.setIfInBounds_toArray, List.set_cons_zero, List.set_cons_succ]
         all_goals first | (refine soft_pass rfl HS ?_) | (refine soft_read (v := ?_) rfl (fun W hW => ?_) ?_; rotate_left; (· go_simp; (try rw [if_neg (by simp [ByteArray.size_append]; omega)]); try with_reducible rfl))
        all_goals try simp only [Act.put, List.setIfInBounds_toArray, List.set_cons_zero, List.set_cons_succ]
        all_goals first | (refine soft_pass rfl HS ?_) | (refine soft_do rfl (fun K hK => ?_); go_simp; refine (specFormatInt_c r_3).mono ?_; rintro e wS1 ⟨rfl, hbS⟩; replace HS := HS.trans (hbS.mono HS.size); refine hK _ _ HS ?_; clear hK K hbS)
        all_goals try simp only [Act.put, List.setIfInBounds_toArray, List.set_cons_zero, List.set_cons_succ]
        all_goals first | (refine soft_pass rfl HS ?_) | (refine soft_read (v := ?_) rfl (fun W hW => ?_) ?_; rotate_left; (· go_simp; (try rw [if_neg (by simp [ByteArray.size_append]; omega)]); try with_reducible rfl))
        all_goals try simp only [Act.put, List.setIfInBounds_toArray, List.set_cons_zero, List.set_cons_succ]
        all_goals first | (refine soft_pass rfl HS ?_) | (refine soft_read (v := ?_) rfl (fun W hW => ?_) ?_; rotate_left; (· go_simp; try with_reducible rfl))
        all_goals try simp only [Act.put, List.setIfInBounds_toArray, List.set_cons_zero, List.set_cons_succ]
        all_goals refine soft_nil ?_
        have EWR := hbel.trans (HS.mono hbel.size)
        clear HS A0 A1 A2
        go_wp2
        go_roundw
        case rel => exact ⟨k + 1, _, by omega, by go_num, rfl, (by have c0 : (⟨#[32]⟩ : ByteArray).size = 1 := rfl; have c1 : (⟨#[62]⟩ : ByteArray).size = 1 := rfl; have c2 : (⟨#[58]⟩ : ByteArray).size = 1 := rfl; simp only [ByteArray.size_append] at *; omega), Lib.hid (by have h := HP.out; rw [if_neg h0] at h; rw [if_neg (by omega), HX.out hpos, HRT.out, ← h]; simp), EWR⟩
        case measure => simp [intOf]; omega
    · obtain rfl : k = l.length := by omega
      by_cases h0 : l.length = 0
      · have hn0 : l = [] := List.length_eq_zero_iff.1 h0
        subst hn0
        go_wp2
        go_ret
        exact ⟨rfl, hbel⟩
      · have HT := Lib.hid (show s = routesB l by
          unfold routesB; rw [if_neg (fun q => h0 (by rw [q]; rfl))]
          apply ByteArray.ext
          have h := HP.out
          rw [if_neg h0, List.take_length] at h
          rw [← h])
        go_wp2
        go_ret
        exact ⟨by rw [← HT.out]; rfl, hbel⟩
set_option maxRecDepth 100000 in
set_option maxHeartbeats 1000000 in
theorem implorDash_c {w : World} {va : Value} {l : List LRoute} (ha : (Rep.slice 9 Rep.str).raw w [va] (l.map rtB)) (hl : (routesL l).length ≤ 140737488355328) (hx : l.length ≤ 1048576) :
    Calls Tryd.prog 24 #[va] w fun e w' => e = .returned (.string (routesB l)) ∧ Below w.heap.size w w' := by
  obtain ⟨aa, capa, hva, la⟩ := Rep.len_raw ha; obtain rfl : va = _ := by simpa using hva
  have HA := Lib.hid ha
  have HE : Hid ((l.map rtB).map (·.data.toList) = l.map fun r => (rtB r).data.toList) := Lib.hid (by rw [List.map_map]; rfl)
  clear hva ha
  have hlm : (l.map rtB).length = l.length := by simp
  generalize l.map rtB = ws at *
  have HLM := Lib.hid hlm
  clear hlm
  go_enter Tryd.func24, Tryd.ntmps24
  by_cases h0 : l.length = 0
  · have hn0 : l = [] := List.length_eq_zero_iff.1 h0
    subst hn0
    go_wp2
    go_ret
    exact ⟨rfl, Below.refl _ _⟩
  · have hpos : 0 < ws.length := by rw [HLM.out]; omega
    have hln : ((l.length : Int) == 0) = false := by rw [beq_eq_false_iff_ne]; omega
    have HJC := Lib.hid (joinC HA.out hpos 32 (by rw [HE.out]; exact hl) (by rw [HLM.out]; omega))
    have HT := Lib.hid (show routesB l = ⟨(Lib.join (ws.map (·.data.toList)) [32]).toArray⟩ by
      unfold routesB routesL
      rw [HE.out, if_neg (fun q => h0 (by rw [q]; rfl))])
    clear hl
    go_wp2_with fail
    refine (HJC.out).mono ?_
    rintro e w1 ⟨rfl, hb⟩
    generalize (⟨(Lib.join (ws.map (·.data.toList)) [32]).toArray⟩ : ByteArray) = J at *
    go_wp2
    go_ret
    exact ⟨by rw [HT.out]; rfl, hb⟩
theorem routesL_len {l : List LRoute} (hw : wRs l ≤ 1048576) (hs : ∀ r ∈ l, (rtB r).size ≤ wN r.1 + 43) : (routesL l).length ≤ 100000000 := by
  have key : ∀ (l : List LRoute), (∀ r ∈ l, (rtB r).size ≤ wN r.1 + 43) → (Lib.joinTail [32] (l.map fun r => (rtB r).data.toList)).length ≤ sumL (fun r : LRoute => wN r.1) l + 44 * l.length := by
    intro l
    induction l with
    | nil => intro _; simp [Lib.joinTail]
    | cons a r ih =>
      intro h
      have h1 := ih (fun x hx => h x (by simp [hx]))
      have h2 := h a (by simp)
      have h3 : (rtB a).data.toList.length = (rtB a).size := by simp
      have e : sumL (fun r : LRoute => wN r.1) (a :: r) = wN a.1 + sumL (fun r : LRoute => wN r.1) r := by simp [sumL]
      rw [e]
      simp only [Lib.joinTail, List.map_cons, List.flatten_cons, List.length_append, List.length_cons, List.length_nil] at *
      omega
  have hll : l.length ≤ 1048576 := by unfold wRs at hw; omega
  cases l with
  | nil => simp [routesL, Lib.join_nil]
  | cons a r =>
    have h1 := key (a :: r) hs
    have h2 : (routesL (a :: r)).length ≤ (Lib.joinTail [32] ((a :: r).map fun r => (rtB r).data.toList)).length := by
      unfold routesL
      rw [List.map_cons, Lib.join_cons]
      simp [Lib.joinTail]
    unfold wRs at hw
    omega
set_option maxRecDepth 100000 in
set_option maxHeartbeats 4000000 in
theorem implFormatRoutes_c {w : World} {vl : Value} {l : List LRoute} (hl : (Rep.slice 55 RRoute).rd w [vl] l) (hw : wRs l ≤ 1048576) (ht : TabW Tryd.prog w) :
    Calls Tryd.prog 13 #[vl] w fun e w' => e = .returned (.string (routesB l)) ∧ Below w.heap.size w w' := by
  obtain ⟨aa, capa, hva, la⟩ := Rep.len_raw hl.1; obtain rfl : vl = _ := by simpa using hva
  have HA := Lib.hid hl.1
  have hll : l.length ≤ 1048576 := by unfold wRs at hw; omega
  have HW := Lib.hid hw
  have HT := Lib.hid ht
  have HB := Lib.hid hl
  clear hl hva hw ht
  go_enter Tryd.func13, Tryd.ntmps13
  go_wp2
  have O0 : Rep.own0 9 Rep.str (w.alloc (.cells #[] 9)) (.slice (some ⟨w.heap.size, 0, none⟩) 0 0) ([] : List ByteArray) (Btw w.heap.size (w.alloc (.cells #[] 9)).heap.size) := Rep.own0.void
  go_loopw [3, 9] (fun v iv wr => ∃ (k : Nat), k ≤ l.length ∧ iv = .int .i64 k ∧ Hid (Rep.own0 9 Rep.str wr v ((l.take k).map rtB) (Btw w.heap.size wr.heap.size)) ∧ Hid (∀ r ∈ l.take k, (rtB r).size ≤ wN r.1 + 43) ∧ Below w.heap.size w wr) (fun _ iv _ => l.length - (intOf iv).toNat)
  case atStart => exact ⟨0, Nat.zero_le _, rfl, Lib.hid O0, Lib.hid (by simp), (Below.refl _ _).alloc (Nat.le_refl _) _⟩
  case round =>
    clear O0
    obtain ⟨k, hk, rfl, HO, HSZ, hbel⟩ := hrel
    obtain ⟨oa, on, oc, ho, HON⟩ := HO.out.parts; obtain rfl := ho
    by_cases hlt : k < l.length
    · obtain ⟨ba, offa, rfl, c0, c1, c2, hr, A0, A1, A2⟩ := Rep.get3 (HA.out.below hbel) hlt rfl
      obtain ⟨rv0, hre, r_0, r_1, r_2, r_3⟩ := RRoute_raw hr
      simp only [List.cons.injEq, and_true] at hre
      obtain ⟨rfl, rfl, rfl⟩ := hre
      obtain ⟨ra, rp, hrv, _⟩ := Rep.len_raw r_1; obtain rfl : c0 = _ := by simpa using hrv
      have hwn : wN l[k].1 ≤ 1048576 := Nat.le_trans (wN_at hlt) HW.out
      have hrs := rtB_size r_2 r_3
      have hns := nameB_size l[k].1
      have hq1 := itoaB_size r_2
      have hq2 := itoaB_size r_3
      have hsu := sumL_succ (f := fun r : LRoute => wN r.1) hlt
      have hs2 := sum_at (l := l) (k := k + 1) (by omega)
      have hs3 := HW.out
      have H0 : Hid (k = 0 → routesL (l.take (k + 1)) = (rtB l[k]).data.toList) := Lib.hid (fun q => by subst q; exact routesL_0 hlt)
      have HX := Lib.hid (fun (q : 0 < k) => routesL_succ q hlt)
      have HRT := Lib.hid (show rtB l[k] = nameB l[k].1 ++ ⟨#[62]⟩ ++ itoaB l[k].2.1 ++ ⟨#[58]⟩ ++ itoaB l[k].2.2 from rfl)
      clear hr hrv r_1
      try simp only at hsu
      have HSN := Lib.hid (show (l.take (k + 1)).map rtB = (l.take k).map rtB ++ [rtB l[k]] by rw [List.take_succ_eq_append_getElem hlt, List.map_append]; rfl)
      have HZN := Lib.hid (fun q => all_take_succ (P := fun r : LRoute => (rtB r).size ≤ wN r.1 + 43) HSZ.out hlt q)
      generalize l[k] = r at *
      have HR0 := Lib.hid r_0
      have HQ := Lib.hid (show (rtB r).size ≤ wN r.1 + 43 from hrs)
      have hlm : ((l.take k).map rtB).length ≤ k := by rw [List.length_map, List.length_take]; omega
      go_upto_region 5 with fail
      generalize hwC : World.alloc wr _ = wC
      have EC : Below wr.heap.size wr wC := by rw [← hwC]; exact (Below.refl _ _).alloc (Nat.le_refl _) _
      have M0 : wC.cell? ⟨wr.heap.size, 0, none⟩ = some (.slice ra r.1.length rp) := by rw [← hwC]; simp [go_sem]
      have M1 : wC.cell? ⟨wr.heap.size, 1, none⟩ = some (.int .i64 r.2.1) := by rw [← hwC]; simp [go_sem]
      have M2 : wC.cell? ⟨wr.heap.size, 2, none⟩ = some (.int .i64 r.2.2) := by rw [← hwC]; simp [go_sem]
      clear hwC A0 A1 A2
      have HTC := Lib.hid ((HT.out.below hbel).below EC)
      have hcB : wr.heap.size ≤ wC.heap.size := EC.size
      refine wp_region_softP_tail (fun W => Below wC.heap.size wC W) [(0, true), (1, true), (2, true), (5, true), (6, true), (10, true), (11, true), (3, false), (4, true), (7, false), (8, true), (9, true), (12, false), (13, true), (14, false)] (by kernel_rfl) (by kernel_rfl) (fun c a d v w h => by cases d <;> exact h) ((Below.refl _ _).drew) ?_
      intro wS HS
      simp only [pickOps, List.length_cons, List.length_nil, List.getElem?_cons_succ, List.getElem?_cons_zero, List.map_cons, List.map_nil, List.cons_append, List.nil_append, List.drop_succ_cons, List.drop_zero]
      iterate 2
       all_goals first | (refine soft_pass rfl HS ?_) | (refine soft_read (v := ?_) rfl (fun W hW => ?_) ?_; rotate_left; (· go_simp; try with_reducible rfl))
       all_goals try simp only [Act.put, List.setIfInBounds_toArray, List.set_cons_zero, List.set_cons_succ]
      iterate 2
       all_goals first | (refine soft_pass rfl HS ?_) | (refine soft_read (v := ?_) rfl (fun W hW => ?_) ?_; rotate_left; (· have A_M0 := cell_later hW M0; have A_M1 := cell_later hW M1; have A_M2 := cell_later hW M2; clear hW; go_simp; try with_reducible rfl))
       all_goals try simp only [Act.put, List.setIfInBounds_toArray, List.set_cons_zero, List.set_cons_succ]
       all_goals first | (refine soft_pass rfl HS ?_) | (refine soft_read (v := ?_) rfl (fun W hW => ?_) ?_; rotate_left; (· go_simp; try with_reducible rfl))
       all_goals try simp only [Act.put, List.setIfInBounds_toArray, List.set_cons_zero, List.set_cons_succ]
      all_goals first | (refine soft_pass rfl HS ?_) | (refine soft_read (v := ?_) rfl (fun W hW => ?_) ?_; rotate_left; (· have A_M0 := cell_later hW M0; have A_M1 := cell_later hW M1; have A_M2 := cell_later hW M2; clear hW; go_simp; try with_reducible rfl))
      all_goals try simp only [Act.put, List.setIfInBounds_toArray, List.set_cons_zero, List.set_cons_succ]
      all_goals first | (refine soft_pass rfl HS ?_) | (refine soft_do rfl (fun K hK => ?_); go_simp; refine (implFormatName_c (HR0.out.below (EC.trans (HS.mono EC.size))) hwn).mono ?_; rintro e wS1 ⟨rfl, hbS⟩; replace HS := HS.trans (hbS.mono HS.size); refine hK _ _ HS ?_; clear hK K hbS)
      all_goals try simp only [Act.put, List.setIfInBounds_toArray, List.set_cons_zero, List.set_cons_succ]
      all_goals first | (refine soft_pass rfl HS ?_) | (refine soft_read (v := ?_) rfl (fun W hW => ?_) ?_; rotate_left; (· go_simp; (try rw [if_neg (by simp [ByteArray.size_append]; omega)]); try with_reducible rfl))
      all_goals try simp only [Act.put, List.setIfInBounds_toArray, List.set_cons_zero, List.set_cons_succ]
      all_goals first | (refine soft_pass rfl HS ?_) | (refine soft_do rfl (fun K hK => ?_); go_simp; refine (implFormatInt_c r_2 (HTC.out.below HS)).mono ?_; rintro e wS1 ⟨rfl, hbS⟩; replace HS := HS.trans (hbS.mono HS.size); refine hK _ _ HS ?_; clear hK K hbS)
      iterate 2
       all_goals try simp only [Act.put, List.setIfInBounds_toArray, List.set_cons_zero, List.set_cons_succ]
       all_goals first | (refine soft_pass rfl HS ?_) | (refine soft_read (v := ?_) rfl (fun W hW => ?_) ?_; rotate_left; (· go_simp; (try rw [if_neg (by simp [ByteArray.size_append]; omega)]); try with_reducible rfl))
      all_goals try simp only [Act.put, List.setIfInBounds_toArray, List.set_cons_zero, List.set_cons_succ]
      all_goals first | (refine soft_pass rfl HS ?_) | (refine soft_do rfl (fun K hK => ?_); go_simp; refine (implFormatInt_c r_3 (HTC.out.below HS)).mono ?_; rintro e wS1 ⟨rfl, hbS⟩; replace HS := HS.trans (hbS.mono HS.size); refine hK _ _ HS ?_; clear hK K hbS)
      all_goals try simp only [Act.put, List.setIfInBounds_toArray, List.set_cons_zero, List.set_cons_succ]
      all_goals first | (refine soft_pass rfl HS ?_) | (refine soft_read (v := ?_) rfl (fun W hW => ?_) ?_; rotate_left; (· go_simp; (try rw [if_neg (by simp [ByteArray.size_append]; omega)]); try with_reducible rfl))
      all_goals try simp only [Act.put, List.setIfInBounds_toArray, List.set_cons_zero, List.set_cons_succ]
      all_goals rw [← HRT.out]
      all_goals first | (refine soft_pass rfl HS ?_) | (refine soft_do rfl (fun K hK => ?_); go_simp; refine hK _ _ (HS.alloc HS.size _) ?_; clear hK K)
      all_goals try simp only [Act.put, List.setIfInBounds_toArray, List.set_cons_zero, List.set_cons_succ]
      all_goals refine soft_rest ?_
      have ECS := EC.trans (HS.mono EC.size)
      have hsW := ECS.size
      have hbd2 := hbel.size
      have HOS := Lib.hid (HO.out.below ECS)
      have hby : ∀ W : World, Rep.str.own W [.string (rtB r)] (rtB r) (fun _ => False) := fun W => ⟨⟨rfl, by unfold maxLen; omega⟩, by show _ ≤ Big; unfold Big; omega⟩
      clear HS M0 M1 M2 HO
      go_wp2_with (at_builtin; refine Rep.wpList_pushB rfl _ _ 47 rfl (r := Rep.str) (e := 9) Tryd.underlying47 infString rfl (by decide) (by decide) (B := w.heap.size) HOS.out (by rfl) (by rfl) rfl (hby _) rfl (fun _ _ h => h) (fun j hj => ⟨hj.1, by have := hj.2; omega⟩) (fun _ h => h.elim) (by omega) (by omega) ?_)
      intro v2 w2 hown2 hbel2 hz2
      have HO2 : Hid (Rep.own0 9 Rep.str w2 v2 ((l.take (k + 1)).map rtB) (Btw w.heap.size w2.heap.size)) := Lib.hid (hown2.cast (by rw [HSN.out]; first | rfl | simp only [List.map_take]))
      obtain ⟨a2, n2, c2, hv2, HN2⟩ := hown2.parts
      obtain rfl := hv2
      have EWR := hbel.trans ((ECS.mono hbd2).trans hbel2)
      have HZ2 := Lib.hid (HZN.out HQ.out)
      clear hown2 hbel2 HOS ECS
      go_wp2
      go_roundw
      case rel => exact ⟨k + 1, by omega, by go_num, HO2, HZ2, EWR⟩
      case measure => simp [intOf]; omega
    · obtain rfl : k = l.length := by omega
      have HZ := Lib.hid (show ∀ r ∈ l, (rtB r).size ≤ wN r.1 + 43 from by have h := HSZ.out; rwa [List.take_length] at h)
      have hrl := routesL_len HW.out HZ.out
      have HJ := Lib.hid (implorDash_c (HO.out.cast (by rw [List.take_length])).raw0 (by omega) hll)
      clear hrl
      go_wp2_with fail
      refine (HJ.out).mono ?_
      rintro e w1 ⟨rfl, hb⟩
      have EWR := hbel.trans (hb.mono hbel.size)
      go_wp2
      go_ret
      exact ⟨rfl, EWR⟩
end Go.Proofs.YtadneiijklnccaaDoor

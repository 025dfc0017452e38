/-
  Secrets, certificates and anchors.
-/
import Derived.Test.YtlfblpgkegeaeaaGreatRule
import Derived.Test.YtlfblpgkegeaeaaGreatSig
import Derived.Test.YtlfblpgkegeaeaaGreatEqData
import Derived.Test.YtlfblpgkegeaeaaGreatLook
import Derived.IntWalk
import Derived.Deep.Cut
import Derived.WalkSpells
import Derived.WalkLawsBesides
namespace Go.Proofs.YtlfblpgkegeaeaaGreat
open Go.RowKit
set_option linter.unusedVariables false
set_option linter.unusedSimpArgs false
set_option linter.unnecessarySimpa false
def isK (n : LName) (k : LKey) : Bool := eqN k.1 n
def secOf (l : List LKey) (n : LName) : Int := if idxOf (isK n) l < 0 then 0 else (l.getD (idxOf (isK n) l).toNat ([], 0)).2
def verS (l : List LKey) (x : LData) : Bool := verify (secOf l x.2.2.1) x
def keyDig (l : List LKey) (n : LName) : List UInt8 := if secOf l n = 0 then [] else vintI (digest [secOf l n])
section
variable {l : List LKey} {n : LName} {k : Nat}
theorem sec_no (h : idxOf (isK n) l = -1) : secOf l n = 0 := by simp [secOf, h]
theorem sec_yes (hk : k < l.length) (h : idxOf (isK n) l = k) : secOf l n = l[k].2 := by
  unfold secOf
  rw [h, Int.toNat_natCast, getD_get hk, if_neg (by omega)]
theorem sec_rng {w : World} {vl : Value} (hl : (Rep.slice 187 RKey).raw w [vl] l) : -9223372036854775808 ≤ secOf l n ∧ secOf l n ≤ 9223372036854775807 := by
  by_cases h : idxOf (isK n) l < 0
  · unfold secOf; rw [if_pos h]; omega
  · obtain ⟨j, hj, hji⟩ := idxOf_ge h
    rw [sec_yes hj hji]
    obtain ⟨al, pl, el, ll⟩ := Rep.len_raw hl; obtain rfl : vl = _ := by simpa using el
    obtain ⟨qb, qo, hqe, qc0, qc1, qr, _, _⟩ := Rep.get2 hl hj rfl
    obtain ⟨v0, he, _, _, h3⟩ := RKey_raw qr
    exact h3
theorem keyDig_no (h : secOf l n = 0) : keyDig l n = [] := by unfold keyDig; rw [if_pos h]
theorem keyDig_yes (h : ¬ secOf l n = 0) : keyDig l n = [] ++ vintI (digest [secOf l n]) := by unfold keyDig; rw [if_neg h]; rfl
theorem keyDig_len : (keyDig l n).length ≤ 6 := by
  unfold keyDig
  split
  · simp
  · exact vintI_len _
end
set_option maxRecDepth 100000 in
set_option maxHeartbeats 2000000 in
theorem specl9Find_c {w : World} {vl : Value} {l : (List LKey)} (hl : (Rep.slice 187 RKey).raw w [vl] l) {cn : List Value} {n : LName} (hn : RName.raw w cn n) :
    Calls Tryz.prog 227 #[vl, .agg cn.toArray] w fun e w' => e = .returned (.int .i64 (idxOf (isK n) l)) ∧ Below w.heap.size w w' := by
  obtain ⟨al, pl, el, ll⟩ := Rep.len_raw hl; obtain rfl : vl = _ := by simpa using el
  clear el
  have Hn := Lib.hid hn
  obtain ⟨fnv0, rfl, fn_0⟩ := RName_raw hn
  obtain ⟨fna0, fnp0, fnh0, fnl0⟩ := Rep.len_raw fn_0; obtain rfl : fnv0 = _ := by simpa using fnh0
  clear fnh0
  go_enter Tryz.func227, Tryz.ntmps227
  go_wp2
  generalize hwB : World.alloc w _ = wB
  have EB : Below w.heap.size w wB := by rw [← hwB]; exact (by repeat (first | (with_reducible exact Below.refl _ _) | refine Below.alloc ?_ (by simp; try omega) _ | refine Below.drew ?_ | refine Below.setCell ?_ (by simp; try omega) _))
  have K3_0 : wB.cell? ⟨w.heap.size, 0, none⟩ = some (.slice fna0 (n).length fnp0) := by rw [← hwB]; simp [go_sem]
  clear hwB
  replace hl := hl.below EB
  go_loopw [5] (fun i wr => ∃ k : Nat, k ≤ l.length ∧ i = .int .i64 k ∧ Hid (∀ j, (h : j < k) → (h2 : j < l.length) → (isK n) l[j] = false) ∧ Below wB.heap.size wB wr) (fun i _ => l.length - (intOf i).toNat)
  case atStart => exact ⟨0, Nat.zero_le _, rfl, Lib.hid (fun _ h => by omega), Below.refl _ _⟩
  case round =>
    obtain ⟨k, hk, rfl, HN, hbel⟩ := hrel
    replace K3_0 := cell_later hbel K3_0
    by_cases hlt : k < l.length
    · obtain ⟨qb, qo, rfl, qc0, qc1, qr, Aq0, Aq1⟩ := Rep.get2 (hl.below hbel) (i := k) (by omega) rfl
      have hhit := fun q => idxOf_hit hlt q HN.out
      have hmis := fun q => no_succ hlt q HN.out
      generalize l[k] = x at *
      have HD := Lib.hid hhit; have HX := Lib.hid hmis; clear hhit hmis
      obtain ⟨x0, x1⟩ := x
      obtain ⟨qv0, qhe, q_0, q_1, q_2⟩ := RKey_raw qr
      simp only [List.cons.injEq, and_true] at qhe
      obtain ⟨rfl, rfl⟩ := qhe
      obtain ⟨qa0, qp0, qh0, ql0⟩ := Rep.len_raw q_1; obtain rfl : qc0 = _ := by simpa using qh0
      clear qh0
      go_upto_region 4 with fail
      refine wp_region_soft (fun W => Below wr.heap.size wr W) [true, true, true, true, true, true, false] (by kernel_rfl) (by kernel_rfl) (fun c a d v w h => by cases d <;> exact h) ((Below.refl _ _).drew) ?_
      intro wS HS
      all_goals first | (refine soft_pass rfl HS ?_) | (refine soft_read (v := ?_) rfl (fun W hW => ?_) ?_; rotate_left; (· go_simp; try with_reducible rfl))
      all_goals try simp only [Act.put, List.setIfInBounds_toArray, List.set_cons_zero, List.set_cons_succ]
      all_goals first | (refine soft_pass rfl HS ?_) | (refine soft_read (v := ?_) rfl (fun W hW => ?_) ?_; rotate_left; (· go_simp; try with_reducible rfl))
      all_goals try simp only [Act.put, List.setIfInBounds_toArray, List.set_cons_zero, List.set_cons_succ]
      all_goals first | (refine soft_pass rfl HS ?_) | (refine soft_read (v := ?_) rfl (fun W hW => ?_) ?_; rotate_left; (· go_simp; try with_reducible rfl))
      all_goals try simp only [Act.put, List.setIfInBounds_toArray, List.set_cons_zero, List.set_cons_succ]
      all_goals first | (refine soft_pass rfl HS ?_) | (refine soft_read (v := ?_) rfl (fun W hW => ?_) ?_; rotate_left; (· go_simp; try with_reducible rfl))
      all_goals try simp only [Act.put, List.setIfInBounds_toArray, List.set_cons_zero, List.set_cons_succ]
      all_goals first | (refine soft_pass rfl HS ?_) | (refine soft_read (v := ?_) rfl (fun W hW => ?_) ?_; rotate_left; (· have A_K3_0 := cell_later hW K3_0; have A_Aq0 := cell_later hW Aq0; have A_Aq1 := cell_later hW Aq1; clear hW; go_simp; try with_reducible rfl))
      all_goals try simp only [Act.put, List.setIfInBounds_toArray, List.set_cons_zero, List.set_cons_succ]
      all_goals first | (refine soft_pass rfl HS ?_) | (refine soft_read (v := ?_) rfl (fun W hW => ?_) ?_; rotate_left; (· have A_K3_0 := cell_later hW K3_0; have A_Aq0 := cell_later hW Aq0; have A_Aq1 := cell_later hW Aq1; clear hW; go_simp; try with_reducible rfl))
      all_goals try simp only [Act.put, List.setIfInBounds_toArray, List.set_cons_zero, List.set_cons_succ]
      all_goals first | (refine soft_pass rfl HS ?_) | (refine soft_do rfl (fun K hK => ?_); go_simp; refine (specEqualNames_c (Rep.raw.below q_0 HS) (Rep.raw.below Hn.out (EB.trans ((hbel.trans (HS.mono hbel.size)).mono EB.size)))).mono ?_; rintro e wS1 ⟨rfl, hbS⟩; replace HS := HS.trans (hbS.mono HS.size); refine hK _ _ HS ?_; clear hK K hbS)
      all_goals try simp only [Act.put, List.setIfInBounds_toArray, List.set_cons_zero, List.set_cons_succ]
      all_goals refine soft_nil ?_
      all_goals cases hg6 : eqN x0 n
      all_goals have EG := hbel.trans (HS.mono hbel.size)
      all_goals first
        | (have HT := Lib.hid (HD.out (show _ = true by simp only [isK, Bool.not_true, Bool.not_false, Bool.and_true, Bool.true_and, Bool.and_false, Bool.false_and, Bool.or_true, Bool.true_or, Bool.or_false, Bool.false_or, Bool.not_not, hg6])); clear HD HX; go_wp2; go_ret; exact ⟨ret_int HT.out.symm, EB.trans (EG.mono EB.size)⟩)
        | (have HT := Lib.hid (HX.out (show _ = false by simp only [isK, Bool.not_true, Bool.not_false, Bool.and_true, Bool.true_and, Bool.and_false, Bool.false_and, Bool.or_true, Bool.true_or, Bool.or_false, Bool.false_or, Bool.not_not, hg6])); clear HD HX; go_wp2; go_roundw; (case rel => exact ⟨k + 1, by omega, by go_num, HT, EG⟩); (case measure => simp [intOf]; omega))
    · have HT := Lib.hid (idxOf_miss hlt HN.out)
      go_wp2
      go_ret
      exact ⟨ret_int HT.out.symm, EB.trans (hbel.mono EB.size)⟩
set_option maxRecDepth 100000 in
set_option maxHeartbeats 1000000 in
theorem specSecretOf_c {w : World} {vl : Value} {l : List LKey} (hl : (Rep.slice 187 RKey).raw w [vl] l) {cn : List Value} {n : LName} (hn : RName.raw w cn n) :
    Calls Tryz.prog 201 #[vl, .agg cn.toArray] w fun e w' => e = .returned (.int .i64 (secOf l n)) ∧ Below w.heap.size w w' := by
  obtain ⟨al, pl, el, ll⟩ := Rep.len_raw hl; obtain rfl : vl = _ := by simpa using el
  have HL := Lib.hid hl; have HN := Lib.hid hn
  obtain ⟨nv, rfl, n_0⟩ := RName_raw hn
  obtain ⟨an, capn, hvn, ln⟩ := Rep.len_raw n_0; obtain rfl : nv = _ := by simpa using hvn
  clear el hl hn hvn n_0
  go_enter Tryz.func201, Tryz.ntmps201
  go_upto_region 1 with fail
  generalize hwB : World.alloc w _ = wB
  have EB : Below w.heap.size w wB := by rw [← hwB]; exact (by repeat (first | (with_reducible exact Below.refl _ _) | refine Below.alloc ?_ (by simp; try omega) _ | refine Below.drew ?_ | refine Below.setCell ?_ (by simp; try omega) _))
  have K0 : wB.cell? ⟨w.heap.size, 0, none⟩ = some (.slice an n.length capn) := by rw [← hwB]; simp [go_sem]
  clear hwB
  go_wp2_with fail
  refine (specl9Find_c (HL.out.below EB) (HN.out.below EB) (cn := [.slice an n.length capn])).mono ?_
  rintro e w1 ⟨rfl, hb⟩
  have E1 := EB.trans (hb.mono EB.size)
  clear hb EB K0
  by_cases hi : idxOf (isK n) l < 0
  · have HT : Hid (secOf l n = 0) := Lib.hid (by unfold secOf; rw [if_pos hi])
    go_wp2
    go_ret
    exact ⟨ret_int HT.out.symm, E1⟩
  · obtain ⟨j, hj, hji⟩ := idxOf_ge hi
    have HT := Lib.hid (sec_yes hj hji)
    obtain ⟨qb, qo, hqe, qc0, qc1, qr, Aq0, Aq1⟩ := Rep.get2 (HL.out.below E1) hj rfl
    obtain rfl := hqe
    rw [hji]
    clear hi hji
    generalize l[j] = x at *
    obtain ⟨x0, x1⟩ := x
    obtain ⟨v0, qhe, q_0, q_1, q_2⟩ := RKey_raw qr
    simp only [List.cons.injEq, and_true] at qhe
    obtain ⟨rfl, rfl⟩ := qhe
    have hjI : (j : Int) < l.length := by omega
    have hj0 : ¬ ((j : Int) < 0) := by omega
    have hjz := Int.natCast_nonneg j
    go_wp2
    go_ret
    exact ⟨ret_int HT.out.symm, E1⟩
set_option maxRecDepth 100000 in
set_option maxHeartbeats 1000000 in
theorem implSecretOf_c {w : World} {vl : Value} {l : List LKey} (hl : (Rep.slice 187 RKey).raw w [vl] l) {cn : List Value} {n : LName} (hn : RName.raw w cn n) :
    Calls Tryz.prog 209 #[vl, .agg cn.toArray] w fun e w' => e = .returned (.int .i64 (secOf l n)) ∧ Below w.heap.size w w' := by
  obtain ⟨al, pl, el, ll⟩ := Rep.len_raw hl; obtain rfl : vl = _ := by simpa using el
  have HL := Lib.hid hl; have HN := Lib.hid hn
  obtain ⟨nv, rfl, n_0⟩ := RName_raw hn
  obtain ⟨an, capn, hvn, ln⟩ := Rep.len_raw n_0; obtain rfl : nv = _ := by simpa using hvn
  clear el hl hn hvn n_0
  go_enter Tryz.func209, Tryz.ntmps209
  go_upto_region 1 with fail
  generalize hwB : World.alloc w _ = wB
  have EB : Below w.heap.size w wB := by rw [← hwB]; exact (by repeat (first | (with_reducible exact Below.refl _ _) | refine Below.alloc ?_ (by simp; try omega) _ | refine Below.drew ?_ | refine Below.setCell ?_ (by simp; try omega) _))
  have K0 : wB.cell? ⟨w.heap.size, 0, none⟩ = some (.slice an n.length capn) := by rw [← hwB]; simp [go_sem]
  clear hwB
  go_wp2
  go_loopw [9] (fun i wr => ∃ k : Nat, k ≤ l.length ∧ i = .int .i64 k ∧ Hid (∀ j, (h : j < k) → (h2 : j < l.length) → isK n l[j] = false) ∧ Below wB.heap.size wB wr) (fun i _ => l.length - (intOf i).toNat)
  case atStart => exact ⟨0, Nat.zero_le _, rfl, Lib.hid (fun _ h => by omega), Below.refl _ _⟩
  case round =>
    obtain ⟨k, hk, rfl, HW, hbel⟩ := hrel
    have EG := EB.trans (hbel.mono EB.size)
    replace K0 := cell_later hbel K0
    by_cases hlt : k < l.length
    · obtain ⟨qb, qo, rfl, qc0, qc1, qr, Aq0, Aq1⟩ := Rep.get2 (HL.out.below EG) hlt rfl
      have hhit := fun q => sec_yes hlt (idxOf_hit (p := isK n) hlt q HW.out)
      have hmis := fun q => no_succ (p := isK n) hlt q HW.out
      generalize l[k] = x at *
      have HD := Lib.hid hhit; have HX := Lib.hid hmis; clear hhit hmis
      obtain ⟨x0, x1⟩ := x
      obtain ⟨qv0, qhe, q_0, q_1, q_2⟩ := RKey_raw qr
      simp only [List.cons.injEq, and_true] at qhe
      obtain ⟨rfl, rfl⟩ := qhe
      obtain ⟨qa0, qp0, qh0, ql0⟩ := Rep.len_raw q_1; obtain rfl : qc0 = _ := by simpa using qh0
      clear qh0
      go_upto_region 4 with fail
      generalize hwC : World.alloc wr _ = wC
      have EC : Below wr.heap.size wr wC := by rw [← hwC]; exact (Below.refl _ _).alloc (Nat.le_refl _) _
      have M0 : wC.cell? ⟨wr.heap.size, 0, none⟩ = some (.slice qa0 x0.length qp0) := by rw [← hwC]; simp [go_sem]
      have M1 : wC.cell? ⟨wr.heap.size, 1, none⟩ = some (.int .i64 x1) := by rw [← hwC]; simp [go_sem]
      replace K0 := cell_later EC K0
      clear hwC
      have EE := EG.trans (EC.mono EG.size)
      have hbelC := hbel.trans (EC.mono hbel.size)
      go_wp2_with fail
      refine (implEqualNames_c (Rep.raw.below q_0 EC) (HN.out.below EE) (ca := [.slice qa0 x0.length qp0]) (cb := [.slice an n.length capn])).mono ?_
      rintro e w2 ⟨rfl, hb2⟩
      replace M1 := cell_later hb2 M1
      have E2 := EE.trans (hb2.mono EE.size)
      have hbel2 := hbelC.trans (hb2.mono hbelC.size)
      clear hb2
      cases hv : eqN x0 n
      · have HT := Lib.hid (HX.out hv)
        clear HD HX hv
        go_wp2
        go_roundw
        case rel => exact ⟨k + 1, by omega, by go_num, HT, hbel2⟩
        case measure => simp [intOf]; omega
      · have HT := Lib.hid (HD.out hv)
        clear HD HX hv
        go_wp2
        go_ret
        exact ⟨ret_int HT.out.symm, E2⟩
    · have HT := Lib.hid (sec_no (idxOf_miss (p := isK n) hlt HW.out))
      go_wp2
      go_ret
      exact ⟨ret_int HT.out.symm, EG⟩
def certOk (l : List LKey) (n : LName) (t : Int) (x : LData) : Bool := ((eqN x.1 n && fresh t x) && verS l x) && decide (x.2.1 = keyDig l n)
def findCert (t : LTrustPolicy) (n : LName) (now : Int) : Int := if secOf t.1 n = 0 then -1 else idxOf (certOk t.1 n now) t.2.2.2
def isAn (n : LName) (a : LName) : Bool := eqN a n
def isAnc (t : LTrustPolicy) (n : LName) : Bool := decide (0 ≤ idxOf (isAn n) t.2.2.1)
theorem fc_no {t : LTrustPolicy} {n : LName} {now : Int} (h : secOf t.1 n = 0) : findCert t n now = -1 := by unfold findCert; rw [if_pos h]
theorem fc_yes {t : LTrustPolicy} {n : LName} {now : Int} (h : ¬ secOf t.1 n = 0) : findCert t n now = idxOf (certOk t.1 n now) t.2.2.2 := by unfold findCert; rw [if_neg h]
set_option maxRecDepth 100000 in
set_option maxHeartbeats 2000000 in
theorem specVerifySignature_c {w : World} {vl : Value} {l : List LKey} (hl : (Rep.slice 187 RKey).raw w [vl] l) {cx : List Value} {x : LData} (hx : RData.rd w cx x) (hc : x.2.1.length ≤ 2000000) :
    Calls Tryz.prog 168 #[vl, .agg cx.toArray] w fun e w' => e = .returned (.bool (verS l x)) ∧ Below w.heap.size w w' := by
  obtain ⟨al, pl, el, ll⟩ := Rep.len_raw hl; obtain rfl : vl = _ := by simpa using el
  have HL := Lib.hid hl; have HX := Lib.hid hx
  have hy := hx.1
  obtain ⟨av0, av1, av2, rfl, a_0, a_1, a_2, a_3, a_4, a_5, a_6⟩ := RData_raw hy
  obtain ⟨aa0, ap0, ah0, al0⟩ := Rep.len_raw a_1; obtain rfl : av0 = _ := by simpa using ah0
  clear ah0
  obtain ⟨aa1, ap1, ah1, al1⟩ := Rep.len_raw a_2; obtain rfl : av1 = _ := by simpa using ah1
  clear ah1
  obtain ⟨aa2, ap2, ah2, al2⟩ := Rep.len_raw a_4; obtain rfl : av2 = _ := by simpa using ah2
  clear ah2
  have HK := Lib.hid a_3
  have HR := Lib.hid (sec_rng (n := x.2.2.1) hl)
  clear hl hx hy el a_0 a_1 a_2 a_3 a_4 a_5 a_6
  go_enter Tryz.func168, Tryz.ntmps168
  go_upto_region 1 with fail
  generalize hwB : World.alloc w _ = wB
  have EB : Below w.heap.size w wB := by rw [← hwB]; exact (by repeat (first | (with_reducible exact Below.refl _ _) | refine Below.alloc ?_ (by simp; try omega) _ | refine Below.drew ?_ | refine Below.setCell ?_ (by simp; try omega) _))
  have K0 : wB.cell? ⟨w.heap.size, 0, none⟩ = some (.slice aa0 x.1.length ap0) := by rw [← hwB]; simp [go_sem]
  have K1 : wB.cell? ⟨w.heap.size, 1, none⟩ = some (.slice aa1 x.2.1.length ap1) := by rw [← hwB]; simp [go_sem]
  have K2 : wB.cell? ⟨w.heap.size, 2, none⟩ = some (.slice aa2 x.2.2.1.length ap2) := by rw [← hwB]; simp [go_sem]
  have K3 : wB.cell? ⟨w.heap.size, 3, none⟩ = some (.int .i64 x.2.2.2.1) := by rw [← hwB]; simp [go_sem]
  have K4 : wB.cell? ⟨w.heap.size, 4, none⟩ = some (.int .i64 x.2.2.2.2) := by rw [← hwB]; simp [go_sem]
  clear hwB
  refine wp_region_softP (fun W => Below wB.heap.size wB W) [(0, true), (1, true), (2, true), (4, true), (3, false), (5, false), (6, true)] (by kernel_rfl) (by kernel_rfl) (fun c a d v w h => by cases d <;> exact h) ((Below.refl _ _).drew) ?_
  intro wS HS
  simp only [pickOps, List.getElem?_cons_succ, List.getElem?_cons_zero, List.map_cons, List.map_nil]
  all_goals first | (refine soft_pass rfl HS ?_) | (refine soft_read (v := ?_) rfl (fun W hW => ?_) ?_; rotate_left; (· go_simp; try with_reducible rfl))
  all_goals try simp only [Act.put, List.setIfInBounds_toArray, List.set_cons_zero, List.set_cons_succ]
  all_goals first | (refine soft_pass rfl HS ?_) | (refine soft_read (v := ?_) rfl (fun W hW => ?_) ?_; rotate_left; (· go_simp; try with_reducible rfl))
  all_goals try simp only [Act.put, List.setIfInBounds_toArray, List.set_cons_zero, List.set_cons_succ]
  all_goals first | (refine soft_pass rfl HS ?_) | (refine soft_read (v := ?_) rfl (fun W hW => ?_) ?_; rotate_left; (· have A_K0 := cell_later hW K0; have A_K1 := cell_later hW K1; have A_K2 := cell_later hW K2; have A_K3 := cell_later hW K3; have A_K4 := cell_later hW K4; clear hW; go_simp; try with_reducible rfl))
  all_goals try simp only [Act.put, List.setIfInBounds_toArray, List.set_cons_zero, List.set_cons_succ]
  all_goals first | (refine soft_pass rfl HS ?_) | (refine soft_read (v := ?_) rfl (fun W hW => ?_) ?_; rotate_left; (· have A_K0 := cell_later hW K0; have A_K1 := cell_later hW K1; have A_K2 := cell_later hW K2; have A_K3 := cell_later hW K3; have A_K4 := cell_later hW K4; clear hW; go_simp; try with_reducible rfl))
  all_goals try simp only [Act.put, List.setIfInBounds_toArray, List.set_cons_zero, List.set_cons_succ]
  all_goals first | (refine soft_pass rfl HS ?_) | (refine soft_do rfl (fun K hK => ?_); go_simp; refine (specSecretOf_c (HL.out.below (EB.trans (HS.mono EB.size))) (HK.out.below (EB.trans (HS.mono EB.size))) (cn := [.slice aa2 x.2.2.1.length ap2])).mono ?_; rintro e wS1 ⟨rfl, hbS⟩; replace HS := HS.trans (hbS.mono HS.size); refine hK _ _ HS ?_; clear hK K hbS)
  all_goals try simp only [Act.put, List.setIfInBounds_toArray, List.set_cons_zero, List.set_cons_succ]
  all_goals first | (refine soft_pass rfl HS ?_) | (refine soft_do rfl (fun K hK => ?_); go_simp; refine (specVerifyData_c HR.out (HX.out.below (EB.trans (HS.mono EB.size))) hc (cx := [.slice aa0 x.1.length ap0, .slice aa1 x.2.1.length ap1, .slice aa2 x.2.2.1.length ap2, .int .i64 x.2.2.2.1, .int .i64 x.2.2.2.2])).mono ?_; rintro e wS1 ⟨rfl, hbS⟩; replace HS := HS.trans (hbS.mono HS.size); refine hK _ _ HS ?_; clear hK K hbS)
  all_goals try simp only [Act.put, List.setIfInBounds_toArray, List.set_cons_zero, List.set_cons_succ]
  all_goals first | (refine soft_pass rfl HS ?_) | (refine soft_read (v := ?_) rfl (fun W hW => ?_) ?_; rotate_left; (· go_simp; try with_reducible rfl))
  all_goals try simp only [Act.put, List.setIfInBounds_toArray, List.set_cons_zero, List.set_cons_succ]
  all_goals refine soft_nil ?_
  have EG := EB.trans (HS.mono EB.size)
  go_wp2
  go_ret
  exact ⟨rfl, EG⟩
set_option maxRecDepth 100000 in
set_option maxHeartbeats 2000000 in
theorem specKeyDigest_c {w : World} {vl : Value} {l : List LKey} (hl : (Rep.slice 187 RKey).raw w [vl] l) {cn : List Value} {n : LName} (hn : RName.raw w cn n) :
    Calls Tryz.prog 205 #[vl, .agg cn.toArray] w (Made0 5 Rep.byte (keyDig l n) w) := by
  obtain ⟨al, pl, el, ll⟩ := Rep.len_raw hl; obtain rfl : vl = _ := by simpa using el
  have HL := Lib.hid hl; have HN := Lib.hid hn
  have HR := Lib.hid (show I64q (secOf l n) from sec_rng hl)
  obtain ⟨nv, rfl, n_0⟩ := RName_raw hn
  obtain ⟨an, capn, hvn, ln⟩ := Rep.len_raw n_0; obtain rfl : nv = _ := by simpa using hvn
  clear el hl hn hvn n_0
  go_enter Tryz.func205, Tryz.ntmps205
  go_upto_region 1 with fail
  generalize hwB : World.alloc w _ = wB
  have EB : Below w.heap.size w wB := by rw [← hwB]; exact (by repeat (first | (with_reducible exact Below.refl _ _) | refine Below.alloc ?_ (by simp; try omega) _ | refine Below.drew ?_ | refine Below.setCell ?_ (by simp; try omega) _))
  have K0 : wB.cell? ⟨w.heap.size, 0, none⟩ = some (.slice an n.length capn) := by rw [← hwB]; simp [go_sem]
  clear hwB
  go_wp2_with fail
  refine (specSecretOf_c (HL.out.below EB) (HN.out.below EB) (cn := [.slice an n.length capn])).mono ?_
  rintro e w1 ⟨rfl, hb⟩
  have E1 := EB.trans (hb.mono EB.size)
  clear hb EB K0
  by_cases h0 : secOf l n = 0
  · have HT := Lib.hid (keyDig_no h0)
    have h0b : (secOf l n == 0) = true := by simpa using h0
    go_wp2
    go_ret
    exact ⟨_, rfl, (Rep.own0.void : Rep.own0 5 Rep.byte _ _ [] _).cast HT.out.symm, (by repeat (first | (with_reducible exact E1) | refine Below.alloc ?_ (by have := Below.size E1; simp; try omega) _ | refine Below.drew ?_ | refine Below.setCell ?_ (by have := Below.size E1; simp; try omega) _))⟩
  have HT := Lib.hid (keyDig_yes h0)
  have h0b : (secOf l n == 0) = false := by simpa using h0
  generalize secOf l n = s at *
  have RD := ((litq (w := (w1.alloc (.cells #[] 5))) (x := s) (e := 3) HR.out).own (by show 1 ≤ _; unfold Big; omega)).raw
  have RV := ((Rep.own0.void (e := 5) (r := Rep.byte) (w := World.alloc (w1.alloc (.cells #[] 5)) (.cells #[.int .i64 s] 3)) (a := some ⟨w1.heap.size, 0, none⟩) (S := fun _ => False)).own (Nat.zero_le _)).rd
  clear h0
  go_wp2_with fail
  refine (specDigest_c (by simpa using RD)).mono ?_
  rintro e w2 ⟨rfl, hw⟩
  obtain rfl := hw.symm
  go_wp2_with fail
  refine (specAppendVarint_c RV).mono ?_
  rintro e w3 ⟨v3, rfl, O3, hb3⟩
  obtain ⟨a3, n3, c3, hv3, HN3⟩ := O3.parts; obtain rfl := hv3
  have E3 : Below w.heap.size w w3 := E1.trans (Below.trans (by repeat (first | (with_reducible exact Below.refl _ _) | refine Below.alloc ?_ (by have := E1.size; simp; try omega) _)) (hb3.mono (by have := E1.size; simp; omega)))
  have HO3 := Lib.hid (O3.wide (T := Btw w.heap.size w3.heap.size) (fun j hj => ⟨by have h1 := hj.1; have h2 := E1.size; (try simp at h1); omega, hj.2⟩))
  clear O3 hb3 RD RV
  go_wp2
  go_ret
  exact ⟨_, rfl, HO3.out.cast HT.out.symm, E3⟩
set_option maxRecDepth 100000 in
set_option maxHeartbeats 2000000 in
theorem implVerifySignature_c {w : World} {vl : Value} {l : List LKey} (hl : (Rep.slice 187 RKey).raw w [vl] l) {cx : List Value} {x : LData} (hx : RData.rd w cx x) (hc : x.2.1.length ≤ 2000000) :
    Calls Tryz.prog 179 #[vl, .agg cx.toArray] w fun e w' => e = .returned (.bool (verS l x)) ∧ Below w.heap.size w w' := by
  obtain ⟨al, pl, el, ll⟩ := Rep.len_raw hl; obtain rfl : vl = _ := by simpa using el
  have HL := Lib.hid hl; have HX := Lib.hid hx
  have hy := hx.1
  obtain ⟨av0, av1, av2, rfl, a_0, a_1, a_2, a_3, a_4, a_5, a_6⟩ := RData_raw hy
  obtain ⟨aa0, ap0, ah0, al0⟩ := Rep.len_raw a_1; obtain rfl : av0 = _ := by simpa using ah0
  clear ah0
  obtain ⟨aa1, ap1, ah1, al1⟩ := Rep.len_raw a_2; obtain rfl : av1 = _ := by simpa using ah1
  clear ah1
  obtain ⟨aa2, ap2, ah2, al2⟩ := Rep.len_raw a_4; obtain rfl : av2 = _ := by simpa using ah2
  clear ah2
  have HK := Lib.hid a_3
  have HR := Lib.hid (sec_rng (n := x.2.2.1) hl)
  clear hl hx hy el a_0 a_1 a_2 a_3 a_4 a_5 a_6
  go_enter Tryz.func179, Tryz.ntmps179
  go_upto_region 1 with fail
  generalize hwB : World.alloc w _ = wB
  have EB : Below w.heap.size w wB := by rw [← hwB]; exact (by repeat (first | (with_reducible exact Below.refl _ _) | refine Below.alloc ?_ (by simp; try omega) _ | refine Below.drew ?_ | refine Below.setCell ?_ (by simp; try omega) _))
  have K0 : wB.cell? ⟨w.heap.size, 0, none⟩ = some (.slice aa0 x.1.length ap0) := by rw [← hwB]; simp [go_sem]
  have K1 : wB.cell? ⟨w.heap.size, 1, none⟩ = some (.slice aa1 x.2.1.length ap1) := by rw [← hwB]; simp [go_sem]
  have K2 : wB.cell? ⟨w.heap.size, 2, none⟩ = some (.slice aa2 x.2.2.1.length ap2) := by rw [← hwB]; simp [go_sem]
  have K3 : wB.cell? ⟨w.heap.size, 3, none⟩ = some (.int .i64 x.2.2.2.1) := by rw [← hwB]; simp [go_sem]
  have K4 : wB.cell? ⟨w.heap.size, 4, none⟩ = some (.int .i64 x.2.2.2.2) := by rw [← hwB]; simp [go_sem]
  clear hwB
  refine wp_region_softP (fun W => Below wB.heap.size wB W) [(0, true), (1, true), (2, true), (4, true), (3, false), (5, false), (6, true)] (by kernel_rfl) (by kernel_rfl) (fun c a d v w h => by cases d <;> exact h) ((Below.refl _ _).drew) ?_
  intro wS HS
  simp only [pickOps, List.getElem?_cons_succ, List.getElem?_cons_zero, List.map_cons, List.map_nil]
  all_goals first | (refine soft_pass rfl HS ?_) | (refine soft_read (v := ?_) rfl (fun W hW => ?_) ?_; rotate_left; (· go_simp; try with_reducible rfl))
  all_goals try simp only [Act.put, List.setIfInBounds_toArray, List.set_cons_zero, List.set_cons_succ]
  all_goals first | (refine soft_pass rfl HS ?_) | (refine soft_read (v := ?_) rfl (fun W hW => ?_) ?_; rotate_left; (· go_simp; try with_reducible rfl))
  all_goals try simp only [Act.put, List.setIfInBounds_toArray, List.set_cons_zero, List.set_cons_succ]
  all_goals first | (refine soft_pass rfl HS ?_) | (refine soft_read (v := ?_) rfl (fun W hW => ?_) ?_; rotate_left; (· have A_K0 := cell_later hW K0; have A_K1 := cell_later hW K1; have A_K2 := cell_later hW K2; have A_K3 := cell_later hW K3; have A_K4 := cell_later hW K4; clear hW; go_simp; try with_reducible rfl))
  all_goals try simp only [Act.put, List.setIfInBounds_toArray, List.set_cons_zero, List.set_cons_succ]
  all_goals first | (refine soft_pass rfl HS ?_) | (refine soft_read (v := ?_) rfl (fun W hW => ?_) ?_; rotate_left; (· have A_K0 := cell_later hW K0; have A_K1 := cell_later hW K1; have A_K2 := cell_later hW K2; have A_K3 := cell_later hW K3; have A_K4 := cell_later hW K4; clear hW; go_simp; try with_reducible rfl))
  all_goals try simp only [Act.put, List.setIfInBounds_toArray, List.set_cons_zero, List.set_cons_succ]
  all_goals first | (refine soft_pass rfl HS ?_) | (refine soft_do rfl (fun K hK => ?_); go_simp; refine (implSecretOf_c (HL.out.below (EB.trans (HS.mono EB.size))) (HK.out.below (EB.trans (HS.mono EB.size))) (cn := [.slice aa2 x.2.2.1.length ap2])).mono ?_; rintro e wS1 ⟨rfl, hbS⟩; replace HS := HS.trans (hbS.mono HS.size); refine hK _ _ HS ?_; clear hK K hbS)
  all_goals try simp only [Act.put, List.setIfInBounds_toArray, List.set_cons_zero, List.set_cons_succ]
  all_goals first | (refine soft_pass rfl HS ?_) | (refine soft_do rfl (fun K hK => ?_); go_simp; refine (implVerifyData_c HR.out (HX.out.below (EB.trans (HS.mono EB.size))) hc (cx := [.slice aa0 x.1.length ap0, .slice aa1 x.2.1.length ap1, .slice aa2 x.2.2.1.length ap2, .int .i64 x.2.2.2.1, .int .i64 x.2.2.2.2])).mono ?_; rintro e wS1 ⟨rfl, hbS⟩; replace HS := HS.trans (hbS.mono HS.size); refine hK _ _ HS ?_; clear hK K hbS)
  all_goals try simp only [Act.put, List.setIfInBounds_toArray, List.set_cons_zero, List.set_cons_succ]
  all_goals first | (refine soft_pass rfl HS ?_) | (refine soft_read (v := ?_) rfl (fun W hW => ?_) ?_; rotate_left; (· go_simp; try with_reducible rfl))
  all_goals try simp only [Act.put, List.setIfInBounds_toArray, List.set_cons_zero, List.set_cons_succ]
  all_goals refine soft_nil ?_
  have EG := EB.trans (HS.mono EB.size)
  go_wp2
  go_ret
  exact ⟨rfl, EG⟩
set_option maxRecDepth 100000 in
set_option maxHeartbeats 2000000 in
theorem implKeyDigest_c {w : World} {vl : Value} {l : List LKey} (hl : (Rep.slice 187 RKey).raw w [vl] l) {cn : List Value} {n : LName} (hn : RName.raw w cn n) :
    Calls Tryz.prog 216 #[vl, .agg cn.toArray] w (Made0 5 Rep.byte (keyDig l n) w) := by
  obtain ⟨al, pl, el, ll⟩ := Rep.len_raw hl; obtain rfl : vl = _ := by simpa using el
  have HL := Lib.hid hl; have HN := Lib.hid hn
  have HR := Lib.hid (show I64q (secOf l n) from sec_rng hl)
  obtain ⟨nv, rfl, n_0⟩ := RName_raw hn
  obtain ⟨an, capn, hvn, ln⟩ := Rep.len_raw n_0; obtain rfl : nv = _ := by simpa using hvn
  clear el hl hn hvn n_0
  go_enter Tryz.func216, Tryz.ntmps216
  go_upto_region 1 with fail
  generalize hwB : World.alloc w _ = wB
  have EB : Below w.heap.size w wB := by rw [← hwB]; exact (by repeat (first | (with_reducible exact Below.refl _ _) | refine Below.alloc ?_ (by simp; try omega) _ | refine Below.drew ?_ | refine Below.setCell ?_ (by simp; try omega) _))
  have K0 : wB.cell? ⟨w.heap.size, 0, none⟩ = some (.slice an n.length capn) := by rw [← hwB]; simp [go_sem]
  clear hwB
  go_wp2_with fail
  refine (implSecretOf_c (HL.out.below EB) (HN.out.below EB) (cn := [.slice an n.length capn])).mono ?_
  rintro e w1 ⟨rfl, hb⟩
  have E1 := EB.trans (hb.mono EB.size)
  clear hb EB K0
  by_cases h0 : secOf l n = 0
  · have HT := Lib.hid (keyDig_no h0)
    have h0b : (secOf l n == 0) = true := by simpa using h0
    go_wp2
    go_ret
    exact ⟨_, rfl, (Rep.own0.void : Rep.own0 5 Rep.byte _ _ [] _).cast HT.out.symm, E1⟩
  have HT := Lib.hid (keyDig_yes h0)
  have h0b : (secOf l n == 0) = false := by simpa using h0
  generalize secOf l n = s at *
  have RD := ((litq (w := w1) (x := s) (e := 3) HR.out).own (by show 1 ≤ _; unfold Big; omega)).raw
  have RV := ((Rep.own0.void (e := 5) (r := Rep.byte) (w := World.alloc w1 (.cells #[.int .i64 s] 3)) (a := none) (S := fun _ => False)).own (Nat.zero_le _)).rd
  clear h0
  go_wp2_with fail
  refine (implDigest_c (by simpa using RD)).mono ?_
  rintro e w2 ⟨rfl, hw⟩
  obtain rfl := hw.symm
  go_wp2_with fail
  refine (implAppendVarint_c RV).mono ?_
  rintro e w3 ⟨v3, rfl, O3, hb3⟩
  obtain ⟨a3, n3, c3, hv3, HN3⟩ := O3.parts; obtain rfl := hv3
  have E3 : Below w.heap.size w w3 := E1.trans (Below.trans (by repeat (first | (with_reducible exact Below.refl _ _) | refine Below.alloc ?_ (by have := E1.size; simp; try omega) _)) (hb3.mono (by have := E1.size; simp; omega)))
  have HO3 := Lib.hid (O3.wide (T := Btw w.heap.size w3.heap.size) (fun j hj => ⟨by have h1 := hj.1; have h2 := E1.size; (try simp at h1); omega, hj.2⟩))
  clear O3 hb3 RD RV
  go_wp2
  go_ret
  exact ⟨_, rfl, HO3.out.cast HT.out.symm, E3⟩
set_option maxRecDepth 100000 in
set_option maxHeartbeats 2000000 in
theorem implIsAnchor1_c {w : World} {ca : List Value} {a : LName} (ha : RName.raw w ca a) {n : LName} {nc0 : Value} {Bn : Nat} (nr : RName.raw w [nc0] n) (An0 : w.cell? ⟨Bn, 0, none⟩ = some nc0) :
    Calls Tryz.prog 212 (#[.agg ca.toArray] ++ #[.pointer (some ⟨Bn, 0, none⟩)]) w fun e w' => e = .returned (.bool (isAn n a)) ∧ Below w.heap.size w w' := by
  have Ha := Lib.hid ha
  obtain ⟨fav0, rfl, fa_0⟩ := RName_raw ha
  obtain ⟨faa0, fap0, fah0, fal0⟩ := Rep.len_raw fa_0; obtain rfl : fav0 = _ := by simpa using fah0
  clear fah0
  obtain ⟨nv0, nhe, n_0⟩ := RName_raw nr
  simp only [List.cons.injEq, and_true] at nhe
  obtain rfl := nhe
  obtain ⟨na0, np0, nh0, nl0⟩ := Rep.len_raw n_0; obtain rfl : nc0 = _ := by simpa using nh0
  clear nh0
  show Calls Tryz.prog 212 #[_, _] w _
  go_enter Tryz.func212, Tryz.ntmps212
  go_upto_region 1 with fail
  generalize hwB : World.alloc w _ = wB
  have EB : Below w.heap.size w wB := by rw [← hwB]; exact (by repeat (first | (with_reducible exact Below.refl _ _) | refine Below.alloc ?_ (by simp; try omega) _ | refine Below.drew ?_ | refine Below.setCell ?_ (by simp; try omega) _))
  have K2_0 : wB.cell? ⟨w.heap.size, 0, none⟩ = some (.slice faa0 (a).length fap0) := by rw [← hwB]; simp [go_sem]
  clear hwB
  replace An0 := cell_later EB An0
  refine wp_region_soft_plain (fun W => Below wB.heap.size wB W) [true, true, false, true] (Below.refl _ _) ?_
  intro wS HS
  all_goals first | (refine soft_pass rfl HS ?_) | (refine soft_read (v := ?_) rfl (fun W hW => ?_) ?_; rotate_left; (· have A_K2_0 := cell_later hW K2_0; have A_An0 := cell_later hW An0; clear hW; go_simp; try with_reducible rfl))
  all_goals try simp only [Act.put, List.setIfInBounds_toArray, List.set_cons_zero, List.set_cons_succ]
  all_goals first | (refine soft_pass rfl HS ?_) | (refine soft_read (v := ?_) rfl (fun W hW => ?_) ?_; rotate_left; (· have A_K2_0 := cell_later hW K2_0; have A_An0 := cell_later hW An0; clear hW; go_simp; try with_reducible rfl))
  all_goals try simp only [Act.put, List.setIfInBounds_toArray, List.set_cons_zero, List.set_cons_succ]
  all_goals first | (refine soft_pass rfl HS ?_) | (refine soft_do rfl (fun K hK => ?_); go_simp; refine (implEqualNames_c (Rep.raw.below Ha.out (EB.trans (HS.mono EB.size))) (Rep.raw.below nr (EB.trans (HS.mono EB.size)))).mono ?_; rintro e wS1 ⟨rfl, hbS⟩; replace HS := HS.trans (hbS.mono HS.size); refine hK _ _ HS ?_; clear hK K hbS)
  all_goals try simp only [Act.put, List.setIfInBounds_toArray, List.set_cons_zero, List.set_cons_succ]
  all_goals first | (refine soft_pass rfl HS ?_; have hg3 := True.intro) | (refine soft_part (v := ?_) (b := ?_) rfl (fun W hW => ?_) ?_ (fun b hg3 => ?_); rotate_left; rotate_left; (· go_simp; try with_reducible rfl); (· with_reducible rfl); cases b; all_goals first | (exact Bool.noConfusion hg3) | (simp only [Bool.not_eq_true', Bool.not_eq_false'] at hg3) | skip)
  all_goals try simp only [Act.put, List.setIfInBounds_toArray, List.set_cons_zero, List.set_cons_succ]
  all_goals refine soft_nil ?_
  all_goals have EG := EB.trans (HS.mono EB.size)
  all_goals first
    | (have HT := Lib.hid (show (isAn n a) = false by simp only [isAn, Bool.not_true, Bool.not_false, Bool.and_true, Bool.true_and, Bool.and_false, Bool.false_and, Bool.or_true, Bool.true_or, Bool.or_false, Bool.false_or, Bool.not_not, hg3]); go_wp2; go_ret; exact ⟨ret_bool HT.out.symm, EG⟩)
    | (have HT := Lib.hid (show (isAn n a) = true by simp only [isAn, Bool.not_true, Bool.not_false, Bool.and_true, Bool.true_and, Bool.and_false, Bool.false_and, Bool.or_true, Bool.true_or, Bool.or_false, Bool.false_or, Bool.not_not, hg3]); go_wp2; go_ret; exact ⟨ret_bool HT.out.symm, EG⟩)
theorem callable_implIsAnchor1_c : Callable Tryz.prog 212 := callable_of Tryz.func212 (by kernel_rfl) (by kernel_rfl)
set_option maxRecDepth 100000 in
set_option maxHeartbeats 1000000 in
theorem implIsAnchor_c {w : World} {ct : List Value} {t : LTrustPolicy} (ht : RTrustPolicy.raw w ct t) {cn : List Value} {n : LName} (hn : RName.raw w cn n) :
    Calls Tryz.prog 181 #[.agg ct.toArray, .agg cn.toArray] w fun e w' => e = .returned (.bool (isAnc t n)) ∧ Below w.heap.size w w' := by
  obtain ⟨tv0, tv1, tv2, tv3, rfl, t_0, t_1, t_2, t_3⟩ := RTrustPolicy_raw ht
  obtain ⟨ta0, tp0, th0, tl0⟩ := Rep.len_raw t_0; obtain rfl : tv0 = _ := by simpa using th0
  clear th0
  obtain ⟨ta1, tp1, th1, tl1⟩ := Rep.len_raw t_1; obtain rfl : tv1 = _ := by simpa using th1
  clear th1
  obtain ⟨ta2, tp2, th2, tl2⟩ := Rep.len_raw t_2; obtain rfl : tv2 = _ := by simpa using th2
  clear th2
  obtain ⟨ta3, tp3, th3, tl3⟩ := Rep.len_raw t_3; obtain rfl : tv3 = _ := by simpa using th3
  clear th3
  have HTK := Lib.hid t_0; have HTR := Lib.hid t_1; have HTA := Lib.hid t_2; have HTC := Lib.hid t_3
  obtain ⟨nv, rfl, n_0⟩ := RName_raw hn
  obtain ⟨an, capn, hvn, ln⟩ := Rep.len_raw n_0; obtain rfl : nv = _ := by simpa using hvn
  have HN := Lib.hid hn
  clear ht hn hvn n_0 t_0 t_1 t_2 t_3
  go_enter Tryz.func181, Tryz.ntmps181
  go_upto_region 1 with fail
  generalize hwB : World.alloc (World.alloc w _) _ = wB
  have EB : Below w.heap.size w wB := by rw [← hwB]; exact (by repeat (first | (with_reducible exact Below.refl _ _) | refine Below.alloc ?_ (by simp; try omega) _ | refine Below.drew ?_ | refine Below.setCell ?_ (by simp; try omega) _))
  have K0 : wB.cell? ⟨w.heap.size, 0, none⟩ = some (.slice ta0 t.1.length tp0) := by rw [← hwB]; simp [go_sem]
  have K1 : wB.cell? ⟨w.heap.size, 1, none⟩ = some (.slice ta1 t.2.1.length tp1) := by rw [← hwB]; simp [go_sem]
  have K2 : wB.cell? ⟨w.heap.size, 2, none⟩ = some (.slice ta2 t.2.2.1.length tp2) := by rw [← hwB]; simp [go_sem]
  have K3 : wB.cell? ⟨w.heap.size, 3, none⟩ = some (.slice ta3 t.2.2.2.length tp3) := by rw [← hwB]; simp [go_sem]
  have K4 : wB.cell? ⟨w.heap.size + 1, 0, none⟩ = some (.slice an n.length capn) := by rw [← hwB]; simp [go_sem]
  clear hwB
  go_wp2_with fail
  refine (ContainsFunc_Name_c (isAn n) callable_implIsAnchor1_c (HTA.out.below EB) ?_).mono ?_
  · intro wr hb i h cs hr
    exact implIsAnchor1_c hr (Rep.raw.below HN.out (EB.trans (hb.mono EB.size))) (cell_later hb K4)
  rintro e w1 ⟨rfl, hb1⟩
  have E1 := EB.trans (hb1.mono EB.size)
  clear hb1
  go_wp2
  go_ret
  exact ⟨ret_bool rfl, E1⟩
set_option maxRecDepth 100000 in
set_option maxHeartbeats 1000000 in
theorem specIsAnchor_c {w : World} {ct : List Value} {t : LTrustPolicy} (ht : RTrustPolicy.raw w ct t) {cn : List Value} {n : LName} (hn : RName.raw w cn n) :
    Calls Tryz.prog 170 #[.agg ct.toArray, .agg cn.toArray] w fun e w' => e = .returned (.bool (isAnc t n)) ∧ Below w.heap.size w w' := by
  obtain ⟨tv0, tv1, tv2, tv3, rfl, t_0, t_1, t_2, t_3⟩ := RTrustPolicy_raw ht
  obtain ⟨ta0, tp0, th0, tl0⟩ := Rep.len_raw t_0; obtain rfl : tv0 = _ := by simpa using th0
  clear th0
  obtain ⟨ta1, tp1, th1, tl1⟩ := Rep.len_raw t_1; obtain rfl : tv1 = _ := by simpa using th1
  clear th1
  obtain ⟨ta2, tp2, th2, tl2⟩ := Rep.len_raw t_2; obtain rfl : tv2 = _ := by simpa using th2
  clear th2
  obtain ⟨ta3, tp3, th3, tl3⟩ := Rep.len_raw t_3; obtain rfl : tv3 = _ := by simpa using th3
  clear th3
  have HTK := Lib.hid t_0; have HTR := Lib.hid t_1; have HTA := Lib.hid t_2; have HTC := Lib.hid t_3
  obtain ⟨nv, rfl, n_0⟩ := RName_raw hn
  obtain ⟨an, capn, hvn, ln⟩ := Rep.len_raw n_0; obtain rfl : nv = _ := by simpa using hvn
  have HN := Lib.hid hn
  have HV := Lib.hid (show isAnc t n = decide (0 ≤ idxOf (isAn n) t.2.2.1) from rfl)
  clear ht hn hvn n_0 t_0 t_1 t_2 t_3
  go_enter Tryz.func170, Tryz.ntmps170
  go_upto_region 1 with fail
  generalize hwB : World.alloc (World.alloc w _) _ = wB
  have EB : Below w.heap.size w wB := by rw [← hwB]; exact (by repeat (first | (with_reducible exact Below.refl _ _) | refine Below.alloc ?_ (by simp; try omega) _ | refine Below.drew ?_ | refine Below.setCell ?_ (by simp; try omega) _))
  have K0 : wB.cell? ⟨w.heap.size, 0, none⟩ = some (.slice ta0 t.1.length tp0) := by rw [← hwB]; simp [go_sem]
  have K1 : wB.cell? ⟨w.heap.size, 1, none⟩ = some (.slice ta1 t.2.1.length tp1) := by rw [← hwB]; simp [go_sem]
  have K2 : wB.cell? ⟨w.heap.size, 2, none⟩ = some (.slice ta2 t.2.2.1.length tp2) := by rw [← hwB]; simp [go_sem]
  have K3 : wB.cell? ⟨w.heap.size, 3, none⟩ = some (.slice ta3 t.2.2.2.length tp3) := by rw [← hwB]; simp [go_sem]
  have K4 : wB.cell? ⟨w.heap.size + 1, 0, none⟩ = some (.slice an n.length capn) := by rw [← hwB]; simp [go_sem]
  clear hwB
  generalize t.2.2.1 = l at *
  go_wp2
  go_loopw [5] (fun i wr => ∃ k : Nat, k ≤ l.length ∧ i = .int .i64 k ∧ Hid (∀ j, (h : j < k) → (h2 : j < l.length) → isAn n l[j] = false) ∧ Below wB.heap.size wB wr) (fun i _ => l.length - (intOf i).toNat)
  case atStart => exact ⟨0, Nat.zero_le _, rfl, Lib.hid (fun _ h => by omega), Below.refl _ _⟩
  case round =>
    obtain ⟨k, hk, rfl, HW, hbel⟩ := hrel
    have EG := EB.trans (hbel.mono EB.size)
    replace K2 := cell_later hbel K2
    replace K4 := cell_later hbel K4
    by_cases hlt : k < l.length
    · obtain ⟨qb, qo, rfl, qc0, qr, Aq0⟩ := Rep.get1 (HTA.out.below EG) hlt rfl
      have hhit := fun q => idxOf_hit (p := isAn n) hlt q HW.out
      have hmis := fun q => no_succ (p := isAn n) hlt q HW.out
      generalize l[k] = x at *
      have HD := Lib.hid hhit; have HX := Lib.hid hmis; clear hhit hmis
      go_upto_region 4 with fail
      refine wp_region_soft (fun W => Below wr.heap.size wr W) [true, true, true, true, true, true, false] (by kernel_rfl) (by kernel_rfl) (fun c a d v w h => by cases d <;> exact h) ((Below.refl _ _).drew) ?_
      intro wS HS
      all_goals first | (refine soft_pass rfl HS ?_) | (refine soft_read (v := ?_) rfl (fun W hW => ?_) ?_; rotate_left; (· go_simp; try with_reducible rfl))
      all_goals try simp only [Act.put, List.setIfInBounds_toArray, List.set_cons_zero, List.set_cons_succ]
      all_goals first | (refine soft_pass rfl HS ?_) | (refine soft_read (v := ?_) rfl (fun W hW => ?_) ?_; rotate_left; (· have A_K2 := cell_later hW K2; have A_K4 := cell_later hW K4; have A_Aq0 := cell_later hW Aq0; clear hW; go_simp; try with_reducible rfl))
      all_goals try simp only [Act.put, List.setIfInBounds_toArray, List.set_cons_zero, List.set_cons_succ]
      all_goals first | (refine soft_pass rfl HS ?_) | (refine soft_read (v := ?_) rfl (fun W hW => ?_) ?_; rotate_left; (· go_simp; try with_reducible rfl))
      all_goals try simp only [Act.put, List.setIfInBounds_toArray, List.set_cons_zero, List.set_cons_succ]
      all_goals first | (refine soft_pass rfl HS ?_) | (refine soft_read (v := ?_) rfl (fun W hW => ?_) ?_; rotate_left; (· go_simp; try with_reducible rfl))
      all_goals try simp only [Act.put, List.setIfInBounds_toArray, List.set_cons_zero, List.set_cons_succ]
      all_goals first | (refine soft_pass rfl HS ?_) | (refine soft_read (v := ?_) rfl (fun W hW => ?_) ?_; rotate_left; (· have A_K2 := cell_later hW K2; have A_K4 := cell_later hW K4; have A_Aq0 := cell_later hW Aq0; clear hW; go_simp; try with_reducible rfl))
      all_goals try simp only [Act.put, List.setIfInBounds_toArray, List.set_cons_zero, List.set_cons_succ]
      all_goals first | (refine soft_pass rfl HS ?_) | (refine soft_read (v := ?_) rfl (fun W hW => ?_) ?_; rotate_left; (· have A_K2 := cell_later hW K2; have A_K4 := cell_later hW K4; have A_Aq0 := cell_later hW Aq0; clear hW; go_simp; try with_reducible rfl))
      all_goals try simp only [Act.put, List.setIfInBounds_toArray, List.set_cons_zero, List.set_cons_succ]
      all_goals first | (refine soft_pass rfl HS ?_) | (refine soft_do rfl (fun K hK => ?_); go_simp; refine (specEqualNames_c (Rep.raw.below qr HS) (HN.out.below (EG.trans (HS.mono EG.size))) (cb := [.slice an n.length capn])).mono ?_; rintro e wS1 ⟨rfl, hbS⟩; replace HS := HS.trans (hbS.mono HS.size); refine hK _ _ HS ?_; clear hK K hbS)
      all_goals try simp only [Act.put, List.setIfInBounds_toArray, List.set_cons_zero, List.set_cons_succ]
      all_goals refine soft_nil ?_
      all_goals have ER := hbel.trans (HS.mono hbel.size)
      all_goals have EF := EG.trans (HS.mono EG.size)
      all_goals cases hv : eqN x n
      · have HT := Lib.hid (HX.out hv)
        clear HD HX hv
        go_wp2
        go_roundw
        case rel => exact ⟨k + 1, by omega, by go_num, HT, ER⟩
        case measure => simp [intOf]; omega
      · have HT := Lib.hid (HD.out hv)
        clear HD HX hv
        go_wp2
        go_ret
        exact ⟨ret_bool (by rw [HV.out, HT.out]; simp), EF⟩
    · have HT := Lib.hid (idxOf_miss hlt HW.out)
      go_wp2
      go_ret
      exact ⟨ret_bool (by rw [HV.out, HT.out]; rfl), EG⟩
set_option maxRecDepth 100000 in
set_option maxHeartbeats 4000000 in
theorem specFindCertificate_c {w : World} {ct : List Value} {t : LTrustPolicy} (ht0 : RTrustPolicy.rd w ct t) (hB : ∀ k (h : k < t.2.2.2.length), t.2.2.2[k].2.1.length ≤ 2000000) {cn : List Value} {n : LName} (hn : RName.raw w cn n) {now : Int} :
    Calls Tryz.prog 171 #[.agg ct.toArray, .agg cn.toArray, .int .i64 now] w fun e w' => e = .returned (.int .i64 (findCert t n now)) ∧ Below w.heap.size w w' := by
  have ht := ht0.1
  have HBD := Lib.hid (show ∀ k (h : k < t.2.2.2.length), RData.bdd Big t.2.2.2[k] from fun k h => ht0.2.2.2.2.2 _ (List.getElem_mem h))
  have HBC := Lib.hid hB
  obtain ⟨tv0, tv1, tv2, tv3, rfl, t_0, t_1, t_2, t_3⟩ := RTrustPolicy_raw ht
  obtain ⟨ta0, tp0, th0, tl0⟩ := Rep.len_raw t_0; obtain rfl : tv0 = _ := by simpa using th0
  clear th0
  obtain ⟨ta1, tp1, th1, tl1⟩ := Rep.len_raw t_1; obtain rfl : tv1 = _ := by simpa using th1
  clear th1
  obtain ⟨ta2, tp2, th2, tl2⟩ := Rep.len_raw t_2; obtain rfl : tv2 = _ := by simpa using th2
  clear th2
  obtain ⟨ta3, tp3, th3, tl3⟩ := Rep.len_raw t_3; obtain rfl : tv3 = _ := by simpa using th3
  clear th3
  have HTK := Lib.hid t_0; have HTR := Lib.hid t_1; have HTA := Lib.hid t_2; have HTC := Lib.hid t_3
  obtain ⟨nv, rfl, n_0⟩ := RName_raw hn
  obtain ⟨an, capn, hvn, ln⟩ := Rep.len_raw n_0; obtain rfl : nv = _ := by simpa using hvn
  have HN := Lib.hid hn
  clear ht ht0 hB hn hvn n_0 t_0 t_1 t_2 t_3
  go_enter Tryz.func171, Tryz.ntmps171
  go_upto_region 1 with fail
  generalize hwB : World.alloc (World.alloc w _) _ = wB
  have EB : Below w.heap.size w wB := by rw [← hwB]; exact (by repeat (first | (with_reducible exact Below.refl _ _) | refine Below.alloc ?_ (by simp; try omega) _ | refine Below.drew ?_ | refine Below.setCell ?_ (by simp; try omega) _))
  have K0 : wB.cell? ⟨w.heap.size, 0, none⟩ = some (.slice ta0 t.1.length tp0) := by rw [← hwB]; simp [go_sem]
  have K1 : wB.cell? ⟨w.heap.size, 1, none⟩ = some (.slice ta1 t.2.1.length tp1) := by rw [← hwB]; simp [go_sem]
  have K2 : wB.cell? ⟨w.heap.size, 2, none⟩ = some (.slice ta2 t.2.2.1.length tp2) := by rw [← hwB]; simp [go_sem]
  have K3 : wB.cell? ⟨w.heap.size, 3, none⟩ = some (.slice ta3 t.2.2.2.length tp3) := by rw [← hwB]; simp [go_sem]
  have K4 : wB.cell? ⟨w.heap.size + 1, 0, none⟩ = some (.slice an n.length capn) := by rw [← hwB]; simp [go_sem]
  clear hwB
  go_wp2_with fail
  refine (specSecretOf_c (HTK.out.below EB) (HN.out.below EB) (cn := [.slice an n.length capn])).mono ?_
  rintro e w1 ⟨rfl, hb⟩
  have E1 := EB.trans (hb.mono EB.size)
  replace K0 := cell_later hb K0
  replace K1 := cell_later hb K1
  replace K2 := cell_later hb K2
  replace K3 := cell_later hb K3
  replace K4 := cell_later hb K4
  clear hb EB
  by_cases h0 : secOf t.1 n = 0
  · have HT := Lib.hid (fc_no (now := now) h0)
    have h0b : (secOf t.1 n == 0) = true := by simpa using h0
    go_wp2
    go_ret
    exact ⟨ret_int HT.out.symm, E1⟩
  have HFC := Lib.hid (fc_yes (now := now) h0)
  have h0b : (secOf t.1 n == 0) = false := by simpa using h0
  clear h0
  go_wp2
  clear h0b
  go_loopw [7] (fun i wr => ∃ k : Nat, k ≤ t.2.2.2.length ∧ i = .int .i64 k ∧ Hid (∀ j, (h : j < k) → (h2 : j < t.2.2.2.length) → certOk t.1 n now t.2.2.2[j] = false) ∧ Below w1.heap.size w1 wr) (fun i _ => t.2.2.2.length - (intOf i).toNat)
  case atStart => exact ⟨0, Nat.zero_le _, rfl, Lib.hid (fun _ h => by omega), Below.refl _ _⟩
  case round =>
    obtain ⟨k, hk, rfl, HW, hbel⟩ := hrel
    have EG := E1.trans (hbel.mono E1.size)
    replace K0 := cell_later hbel K0
    replace K1 := cell_later hbel K1
    replace K2 := cell_later hbel K2
    replace K3 := cell_later hbel K3
    replace K4 := cell_later hbel K4
    by_cases hlt : k < t.2.2.2.length
    · obtain ⟨qb, qo, rfl, qc0, qc1, qc2, qc3, qc4, qr, Aq0, Aq1, Aq2, Aq3, Aq4⟩ := Rep.get5 (HTC.out.below EG) hlt rfl
      have hhit := fun q => idxOf_hit (p := certOk t.1 n now) hlt q HW.out
      have hmis := fun q => no_succ (p := certOk t.1 n now) hlt q HW.out
      have hxb := HBD.out k hlt
      have hxc := HBC.out k hlt
      generalize t.2.2.2[k] = x at *
      have HD := Lib.hid hhit; have HX := Lib.hid hmis; clear hhit hmis
      have HXR := Lib.hid (show RData.rd wr _ x from ⟨qr, hxb⟩)
      obtain ⟨qv0, qv1, qv2, qhe, q_0, q_1, q_2, q_3, q_4, q_5, q_6⟩ := RData_raw qr
      simp only [List.cons.injEq, and_true] at qhe
      obtain ⟨rfl, rfl, rfl, rfl, rfl⟩ := qhe
      obtain ⟨qa0, qp0, qh0, ql0⟩ := Rep.len_raw q_1; obtain rfl : qc0 = _ := by simpa using qh0
      obtain ⟨qa1, qp1, qh1, ql1⟩ := Rep.len_raw q_2; obtain rfl : qc1 = _ := by simpa using qh1
      obtain ⟨qa2, qp2, qh2, ql2⟩ := Rep.len_raw q_4; obtain rfl : qc2 = _ := by simpa using qh2
      clear qh0 qh1 qh2
      clear hxb
      go_upto_region 7 with fail
      generalize hwC : World.alloc wr _ = wC
      have EC : Below wr.heap.size wr wC := by rw [← hwC]; exact (Below.refl _ _).alloc (Nat.le_refl _) _
      have M0 : wC.cell? ⟨wr.heap.size, 0, none⟩ = some (.slice qa0 x.1.length qp0) := by rw [← hwC]; simp [go_sem]
      have M1 : wC.cell? ⟨wr.heap.size, 1, none⟩ = some (.slice qa1 x.2.1.length qp1) := by rw [← hwC]; simp [go_sem]
      have M2 : wC.cell? ⟨wr.heap.size, 2, none⟩ = some (.slice qa2 x.2.2.1.length qp2) := by rw [← hwC]; simp [go_sem]
      have M3 : wC.cell? ⟨wr.heap.size, 3, none⟩ = some (.int .i64 x.2.2.2.1) := by rw [← hwC]; simp [go_sem]
      have M4 : wC.cell? ⟨wr.heap.size, 4, none⟩ = some (.int .i64 x.2.2.2.2) := by rw [← hwC]; simp [go_sem]
      replace K0 := cell_later EC K0
      replace K1 := cell_later EC K1
      replace K2 := cell_later EC K2
      replace K3 := cell_later EC K3
      replace K4 := cell_later EC K4
      clear hwC
      have EE := EG.trans (EC.mono EG.size)
      have hbelC := hbel.trans (EC.mono hbel.size)
      refine wp_region_soft (fun W => Below wC.heap.size wC W) [true, true, true, false, true, true, true, false, true, true, true, true, true, false, true, true, true, true, true, true, true, false, false, true] (by kernel_rfl) (by kernel_rfl) (fun c a d v w h => by cases d <;> exact h) ((Below.refl _ _).drew) ?_
      intro wS HS
      all_goals first | (refine soft_pass rfl HS ?_) | (refine soft_read (v := ?_) rfl (fun W hW => ?_) ?_; rotate_left; (· go_simp; try with_reducible rfl))
      all_goals try simp only [Act.put, List.setIfInBounds_toArray, List.set_cons_zero, List.set_cons_succ]
      all_goals first | (refine soft_pass rfl HS ?_) | (refine soft_read (v := ?_) rfl (fun W hW => ?_) ?_; rotate_left; (· have A_K0 := cell_later hW K0; have A_K1 := cell_later hW K1; have A_K2 := cell_later hW K2; have A_K3 := cell_later hW K3; have A_K4 := cell_later hW K4; have A_M0 := cell_later hW M0; have A_M1 := cell_later hW M1; have A_M2 := cell_later hW M2; have A_M3 := cell_later hW M3; have A_M4 := cell_later hW M4; clear hW; go_simp; try with_reducible rfl))
      all_goals try simp only [Act.put, List.setIfInBounds_toArray, List.set_cons_zero, List.set_cons_succ]
      all_goals first | (refine soft_pass rfl HS ?_) | (refine soft_read (v := ?_) rfl (fun W hW => ?_) ?_; rotate_left; (· have A_K0 := cell_later hW K0; have A_K1 := cell_later hW K1; have A_K2 := cell_later hW K2; have A_K3 := cell_later hW K3; have A_K4 := cell_later hW K4; have A_M0 := cell_later hW M0; have A_M1 := cell_later hW M1; have A_M2 := cell_later hW M2; have A_M3 := cell_later hW M3; have A_M4 := cell_later hW M4; clear hW; go_simp; try with_reducible rfl))
      all_goals try simp only [Act.put, List.setIfInBounds_toArray, List.set_cons_zero, List.set_cons_succ]
      all_goals first | (refine soft_pass rfl HS ?_) | (refine soft_do rfl (fun K hK => ?_); go_simp; refine (specEqualNames_c (Rep.raw.below q_0 (EC.trans (HS.mono EC.size))) (HN.out.below (EE.trans (HS.mono EE.size))) (ca := [.slice qa0 x.1.length qp0]) (cb := [.slice an n.length capn])).mono ?_; rintro e wS1 ⟨rfl, hbS⟩; replace HS := HS.trans (hbS.mono HS.size); refine hK _ _ HS ?_; clear hK K hbS)
      all_goals try simp only [Act.put, List.setIfInBounds_toArray, List.set_cons_zero, List.set_cons_succ]
      all_goals first | (refine soft_pass rfl HS ?_; have hg4 := True.intro) | (refine soft_part (v := ?_) (b := ?_) rfl (fun W hW => ?_) ?_ (fun b hg4 => ?_); rotate_left; rotate_left; (· go_simp; try with_reducible rfl); (· with_reducible rfl); cases b; all_goals first | (exact Bool.noConfusion hg4) | (simp only [Bool.not_eq_true', Bool.not_eq_false'] at hg4) | skip)
      all_goals try simp only [Act.put, List.setIfInBounds_toArray, List.set_cons_zero, List.set_cons_succ]
      all_goals first | (refine soft_pass rfl HS ?_) | (refine soft_read (v := ?_) rfl (fun W hW => ?_) ?_; rotate_left; (· have A_K0 := cell_later hW K0; have A_K1 := cell_later hW K1; have A_K2 := cell_later hW K2; have A_K3 := cell_later hW K3; have A_K4 := cell_later hW K4; have A_M0 := cell_later hW M0; have A_M1 := cell_later hW M1; have A_M2 := cell_later hW M2; have A_M3 := cell_later hW M3; have A_M4 := cell_later hW M4; clear hW; go_simp; try with_reducible rfl))
      all_goals try simp only [Act.put, List.setIfInBounds_toArray, List.set_cons_zero, List.set_cons_succ]
      all_goals first | (refine soft_pass rfl HS ?_) | (refine soft_read (v := ?_) rfl (fun W hW => ?_) ?_; rotate_left; (· go_simp; try with_reducible rfl))
      all_goals try simp only [Act.put, List.setIfInBounds_toArray, List.set_cons_zero, List.set_cons_succ]
      all_goals first | (refine soft_pass rfl HS ?_) | (refine soft_do rfl (fun K hK => ?_); go_simp; refine (specFreshAt_c (HXR.out.below (EC.trans (HS.mono EC.size))).1 (cx := [.slice qa0 x.1.length qp0, .slice qa1 x.2.1.length qp1, .slice qa2 x.2.2.1.length qp2, .int .i64 x.2.2.2.1, .int .i64 x.2.2.2.2])).mono ?_; rintro e wS1 ⟨rfl, hbS⟩; replace HS := HS.trans (hbS.mono HS.size); refine hK _ _ HS ?_; clear hK K hbS)
      all_goals try simp only [Act.put, List.setIfInBounds_toArray, List.set_cons_zero, List.set_cons_succ]
      all_goals first | (refine soft_pass rfl HS ?_) | (refine soft_read (v := ?_) rfl (fun W hW => ?_) ?_; rotate_left; (· go_simp; try with_reducible rfl))
      all_goals try simp only [Act.put, List.setIfInBounds_toArray, List.set_cons_zero, List.set_cons_succ]
      all_goals first | (refine soft_pass rfl HS ?_; have hg9 := True.intro) | (refine soft_part (v := ?_) (b := ?_) rfl (fun W hW => ?_) ?_ (fun b hg9 => ?_); rotate_left; rotate_left; (· go_simp; try with_reducible rfl); (· with_reducible rfl); cases b; all_goals first | (exact Bool.noConfusion hg9) | (simp only [Bool.not_eq_true', Bool.not_eq_false'] at hg9) | skip)
      all_goals try simp only [Act.put, List.setIfInBounds_toArray, List.set_cons_zero, List.set_cons_succ]
      all_goals first | (refine soft_pass rfl HS ?_) | (refine soft_read (v := ?_) rfl (fun W hW => ?_) ?_; rotate_left; (· go_simp; try with_reducible rfl))
      all_goals try simp only [Act.put, List.setIfInBounds_toArray, List.set_cons_zero, List.set_cons_succ]
      all_goals first | (refine soft_pass rfl HS ?_) | (refine soft_read (v := ?_) rfl (fun W hW => ?_) ?_; rotate_left; (· have A_K0 := cell_later hW K0; have A_K1 := cell_later hW K1; have A_K2 := cell_later hW K2; have A_K3 := cell_later hW K3; have A_K4 := cell_later hW K4; have A_M0 := cell_later hW M0; have A_M1 := cell_later hW M1; have A_M2 := cell_later hW M2; have A_M3 := cell_later hW M3; have A_M4 := cell_later hW M4; clear hW; go_simp; try with_reducible rfl))
      all_goals try simp only [Act.put, List.setIfInBounds_toArray, List.set_cons_zero, List.set_cons_succ]
      all_goals first | (refine soft_pass rfl HS ?_) | (refine soft_read (v := ?_) rfl (fun W hW => ?_) ?_; rotate_left; (· have A_K0 := cell_later hW K0; have A_K1 := cell_later hW K1; have A_K2 := cell_later hW K2; have A_K3 := cell_later hW K3; have A_K4 := cell_later hW K4; have A_M0 := cell_later hW M0; have A_M1 := cell_later hW M1; have A_M2 := cell_later hW M2; have A_M3 := cell_later hW M3; have A_M4 := cell_later hW M4; clear hW; go_simp; try with_reducible rfl))
      all_goals try simp only [Act.put, List.setIfInBounds_toArray, List.set_cons_zero, List.set_cons_succ]
      all_goals first | (refine soft_pass rfl HS ?_) | (refine soft_do rfl (fun K hK => ?_); go_simp; refine (specVerifySignature_c (HTK.out.below (EE.trans (HS.mono EE.size))) (HXR.out.below (EC.trans (HS.mono EC.size))) hxc (cx := [.slice qa0 x.1.length qp0, .slice qa1 x.2.1.length qp1, .slice qa2 x.2.2.1.length qp2, .int .i64 x.2.2.2.1, .int .i64 x.2.2.2.2])).mono ?_; rintro e wS1 ⟨rfl, hbS⟩; replace HS := HS.trans (hbS.mono HS.size); refine hK _ _ HS ?_; clear hK K hbS)
      all_goals try simp only [Act.put, List.setIfInBounds_toArray, List.set_cons_zero, List.set_cons_succ]
      all_goals first | (refine soft_pass rfl HS ?_) | (refine soft_read (v := ?_) rfl (fun W hW => ?_) ?_; rotate_left; (· go_simp; try with_reducible rfl))
      all_goals try simp only [Act.put, List.setIfInBounds_toArray, List.set_cons_zero, List.set_cons_succ]
      all_goals first | (refine soft_pass rfl HS ?_; have hg15 := True.intro) | (refine soft_part (v := ?_) (b := ?_) rfl (fun W hW => ?_) ?_ (fun b hg15 => ?_); rotate_left; rotate_left; (· go_simp; try with_reducible rfl); (· with_reducible rfl); cases b; all_goals first | (exact Bool.noConfusion hg15) | (simp only [Bool.not_eq_true', Bool.not_eq_false'] at hg15) | skip)
      all_goals try simp only [Act.put, List.setIfInBounds_toArray, List.set_cons_zero, List.set_cons_succ]
      all_goals first | (refine soft_pass rfl HS ?_) | (refine soft_read (v := ?_) rfl (fun W hW => ?_) ?_; rotate_left; (· go_simp; try with_reducible rfl))
      all_goals try simp only [Act.put, List.setIfInBounds_toArray, List.set_cons_zero, List.set_cons_succ]
      all_goals first | (refine soft_pass rfl HS ?_) | (refine soft_read (v := ?_) rfl (fun W hW => ?_) ?_; rotate_left; (· have A_K0 := cell_later hW K0; have A_K1 := cell_later hW K1; have A_K2 := cell_later hW K2; have A_K3 := cell_later hW K3; have A_K4 := cell_later hW K4; have A_M0 := cell_later hW M0; have A_M1 := cell_later hW M1; have A_M2 := cell_later hW M2; have A_M3 := cell_later hW M3; have A_M4 := cell_later hW M4; clear hW; go_simp; try with_reducible rfl))
      all_goals try simp only [Act.put, List.setIfInBounds_toArray, List.set_cons_zero, List.set_cons_succ]
      all_goals first | (refine soft_pass rfl HS ?_) | (refine soft_read (v := ?_) rfl (fun W hW => ?_) ?_; rotate_left; (· go_simp; try with_reducible rfl))
      all_goals try simp only [Act.put, List.setIfInBounds_toArray, List.set_cons_zero, List.set_cons_succ]
      all_goals first | (refine soft_pass rfl HS ?_) | (refine soft_read (v := ?_) rfl (fun W hW => ?_) ?_; rotate_left; (· have A_K0 := cell_later hW K0; have A_K1 := cell_later hW K1; have A_K2 := cell_later hW K2; have A_K3 := cell_later hW K3; have A_K4 := cell_later hW K4; have A_M0 := cell_later hW M0; have A_M1 := cell_later hW M1; have A_M2 := cell_later hW M2; have A_M3 := cell_later hW M3; have A_M4 := cell_later hW M4; clear hW; go_simp; try with_reducible rfl))
      all_goals try simp only [Act.put, List.setIfInBounds_toArray, List.set_cons_zero, List.set_cons_succ]
      all_goals first | (refine soft_pass rfl HS ?_) | (refine soft_read (v := ?_) rfl (fun W hW => ?_) ?_; rotate_left; (· have A_K0 := cell_later hW K0; have A_K1 := cell_later hW K1; have A_K2 := cell_later hW K2; have A_K3 := cell_later hW K3; have A_K4 := cell_later hW K4; have A_M0 := cell_later hW M0; have A_M1 := cell_later hW M1; have A_M2 := cell_later hW M2; have A_M3 := cell_later hW M3; have A_M4 := cell_later hW M4; clear hW; go_simp; try with_reducible rfl))
      all_goals try simp only [Act.put, List.setIfInBounds_toArray, List.set_cons_zero, List.set_cons_succ]
      all_goals first | (refine soft_pass rfl HS ?_) | (refine soft_do rfl (fun K hK => ?_); go_simp; refine (specKeyDigest_c (HTK.out.below (EE.trans (HS.mono EE.size))) (HN.out.below (EE.trans (HS.mono EE.size))) (cn := [.slice an n.length capn])).mono ?_; rintro e wS1 ⟨vk, rfl, OK, hbS⟩; obtain ⟨ak, nk, ck, hvk, HNk⟩ := OK.parts; obtain rfl := hvk; have RK := (OK.own (by have := keyDig_len (l := t.1) (n := n); unfold Big; omega)).raw; clear OK; replace HS := HS.trans (hbS.mono HS.size); refine hK _ _ HS ?_; clear hK K hbS)
      all_goals try simp only [Act.put, List.setIfInBounds_toArray, List.set_cons_zero, List.set_cons_succ]
      all_goals first | (refine soft_pass rfl HS ?_) | (refine soft_do rfl (fun K hK => ?_); go_simp; refine (specEqualBytes_c (Rep.raw.below q_2 (EC.trans (HS.mono EC.size))) RK).mono ?_; rintro e wS2 ⟨rfl, hbS⟩; replace HS := HS.trans (hbS.mono HS.size); refine hK _ _ HS ?_; clear hK K hbS RK)
      all_goals try simp only [Act.put, List.setIfInBounds_toArray, List.set_cons_zero, List.set_cons_succ]
      all_goals first | (refine soft_pass rfl HS ?_; have hg23 := True.intro) | (refine soft_part (v := ?_) (b := ?_) rfl (fun W hW => ?_) ?_ (fun b hg23 => ?_); rotate_left; rotate_left; (· go_simp; try with_reducible rfl); (· with_reducible rfl); cases b; all_goals first | (exact Bool.noConfusion hg23) | (simp only [Bool.not_eq_true', Bool.not_eq_false'] at hg23) | skip)
      all_goals try simp only [Act.put, List.setIfInBounds_toArray, List.set_cons_zero, List.set_cons_succ]
      all_goals refine soft_nil ?_
      all_goals have EF := EE.trans (HS.mono EE.size)
      all_goals have ER := hbelC.trans (HS.mono hbelC.size)
      all_goals clear EC
      all_goals first
        | (have HT := Lib.hid (HD.out (show certOk t.1 n now x = true by simp only [certOk, Bool.not_true, Bool.not_false, Bool.and_true, Bool.true_and, Bool.and_false, Bool.false_and, Bool.or_true, Bool.true_or, Bool.or_false, Bool.false_or, Bool.not_not, hg4, hg9, hg15, hg23])); clear HD HX; go_wp2; go_ret; exact ⟨ret_int (by rw [HFC.out, HT.out]), EF⟩)
        | (have HT := Lib.hid (HX.out (show certOk t.1 n now x = false by simp only [certOk, Bool.not_true, Bool.not_false, Bool.and_true, Bool.true_and, Bool.and_false, Bool.false_and, Bool.or_true, Bool.true_or, Bool.or_false, Bool.false_or, Bool.not_not, hg4, hg9, hg15, hg23])); clear HD HX; go_wp2; go_roundw; (case rel => exact ⟨k + 1, by omega, by go_num, HT, ER⟩); (case measure => simp [intOf]; omega))
    · have HT := Lib.hid (idxOf_miss hlt HW.out)
      go_wp2
      go_ret
      exact ⟨ret_int (by rw [HFC.out, HT.out]), EG⟩
set_option maxRecDepth 100000 in
set_option maxHeartbeats 4000000 in
theorem implFindCertificate1_c {w : World} {cx : List Value} {x : LData} (hx : RData.rd w cx x) (hxc : x.2.1.length ≤ 2000000) {n : LName} {an : Option Addr} {capn Bn : Nat} (hn : RName.raw w [.slice an n.length capn] n) (An : w.cell? ⟨Bn, 0, none⟩ = some (.slice an n.length capn))
    {now : Int} {Bw : Nat} (Aw : w.cell? ⟨Bw, 0, none⟩ = some (.int .i64 now)) {t : LTrustPolicy} {ta0 : Option Addr} {tp0 Bt : Nat} (hk : (Rep.slice 187 RKey).raw w [.slice ta0 t.1.length tp0] t.1) (At : w.cell? ⟨Bt, 0, none⟩ = some (.slice ta0 t.1.length tp0)) :
    Calls Tryz.prog 213 (#[.agg cx.toArray] ++ #[.pointer (some ⟨Bn, 0, none⟩), .pointer (some ⟨Bw, 0, none⟩), .pointer (some ⟨Bt, 0, none⟩)]) w fun e w' => e = .returned (.bool (certOk t.1 n now x)) ∧ Below w.heap.size w w' := by
  have hy := hx.1
  obtain ⟨qv0, qv1, qv2, rfl, q_0, q_1, q_2, q_3, q_4, q_5, q_6⟩ := RData_raw hy
  obtain ⟨qa0, qp0, qh0, ql0⟩ := Rep.len_raw q_1; obtain rfl : qv0 = _ := by simpa using qh0
  clear qh0
  obtain ⟨qa1, qp1, qh1, ql1⟩ := Rep.len_raw q_2; obtain rfl : qv1 = _ := by simpa using qh1
  clear qh1
  obtain ⟨qa2, qp2, qh2, ql2⟩ := Rep.len_raw q_4; obtain rfl : qv2 = _ := by simpa using qh2
  clear qh2
  have HXR := Lib.hid hx; have HN := Lib.hid hn; have HTK := Lib.hid hk; have HQ0 := Lib.hid q_0; have HQ2 := Lib.hid q_2
  clear hx hn hk q_0 q_1 q_2 q_3 q_4 q_5 q_6
  show Calls Tryz.prog 213 #[_, _, _, _] w _
  go_enter Tryz.func213, Tryz.ntmps213
  go_upto_region 1 with fail
  generalize hwB : World.alloc w _ = wB
  have EB : Below w.heap.size w wB := by rw [← hwB]; exact (by repeat (first | (with_reducible exact Below.refl _ _) | refine Below.alloc ?_ (by simp; try omega) _ | refine Below.drew ?_ | refine Below.setCell ?_ (by simp; try omega) _))
  have M0 : wB.cell? ⟨w.heap.size, 0, none⟩ = some (.slice qa0 x.1.length qp0) := by rw [← hwB]; simp [go_sem]
  have M1 : wB.cell? ⟨w.heap.size, 1, none⟩ = some (.slice qa1 x.2.1.length qp1) := by rw [← hwB]; simp [go_sem]
  have M2 : wB.cell? ⟨w.heap.size, 2, none⟩ = some (.slice qa2 x.2.2.1.length qp2) := by rw [← hwB]; simp [go_sem]
  have M3 : wB.cell? ⟨w.heap.size, 3, none⟩ = some (.int .i64 x.2.2.2.1) := by rw [← hwB]; simp [go_sem]
  have M4 : wB.cell? ⟨w.heap.size, 4, none⟩ = some (.int .i64 x.2.2.2.2) := by rw [← hwB]; simp [go_sem]
  clear hwB
  replace An := cell_later EB An
  replace Aw := cell_later EB Aw
  replace At := cell_later EB At
  refine wp_region_soft (fun W => Below wB.heap.size wB W) [true, true, true, false, true, true, true, false, true, true, true, true, true, false, true, true, true, true, true, true, true, false, false, true, true] (by kernel_rfl) (by kernel_rfl) (fun c a d v w h => by cases d <;> exact h) ((Below.refl _ _).drew) ?_
  intro wS HS
  all_goals first | (refine soft_pass rfl HS ?_) | (refine soft_read (v := ?_) rfl (fun W hW => ?_) ?_; rotate_left; (· go_simp; try with_reducible rfl))
  all_goals try simp only [Act.put, List.setIfInBounds_toArray, List.set_cons_zero, List.set_cons_succ]
  all_goals first | (refine soft_pass rfl HS ?_) | (refine soft_read (v := ?_) rfl (fun W hW => ?_) ?_; rotate_left; (· have A_An := cell_later hW An; have A_Aw := cell_later hW Aw; have A_At := cell_later hW At; have A_M0 := cell_later hW M0; have A_M1 := cell_later hW M1; have A_M2 := cell_later hW M2; have A_M3 := cell_later hW M3; have A_M4 := cell_later hW M4; clear hW; go_simp; try with_reducible rfl))
  all_goals try simp only [Act.put, List.setIfInBounds_toArray, List.set_cons_zero, List.set_cons_succ]
  all_goals first | (refine soft_pass rfl HS ?_) | (refine soft_read (v := ?_) rfl (fun W hW => ?_) ?_; rotate_left; (· have A_An := cell_later hW An; have A_Aw := cell_later hW Aw; have A_At := cell_later hW At; have A_M0 := cell_later hW M0; have A_M1 := cell_later hW M1; have A_M2 := cell_later hW M2; have A_M3 := cell_later hW M3; have A_M4 := cell_later hW M4; clear hW; go_simp; try with_reducible rfl))
  all_goals try simp only [Act.put, List.setIfInBounds_toArray, List.set_cons_zero, List.set_cons_succ]
  all_goals first | (refine soft_pass rfl HS ?_) | (refine soft_do rfl (fun K hK => ?_); go_simp; refine (implEqualNames_c (HQ0.out.below (EB.trans (HS.mono EB.size))) (HN.out.below (EB.trans (HS.mono EB.size))) (ca := [.slice qa0 x.1.length qp0]) (cb := [.slice an n.length capn])).mono ?_; rintro e wS1 ⟨rfl, hbS⟩; replace HS := HS.trans (hbS.mono HS.size); refine hK _ _ HS ?_; clear hK K hbS)
  all_goals try simp only [Act.put, List.setIfInBounds_toArray, List.set_cons_zero, List.set_cons_succ]
  all_goals first | (refine soft_pass rfl HS ?_; have hg4 := True.intro) | (refine soft_part (v := ?_) (b := ?_) rfl (fun W hW => ?_) ?_ (fun b hg4 => ?_); rotate_left; rotate_left; (· go_simp; try with_reducible rfl); (· with_reducible rfl); cases b; all_goals first | (exact Bool.noConfusion hg4) | (simp only [Bool.not_eq_true', Bool.not_eq_false'] at hg4) | skip)
  all_goals try simp only [Act.put, List.setIfInBounds_toArray, List.set_cons_zero, List.set_cons_succ]
  all_goals first | (refine soft_pass rfl HS ?_) | (refine soft_read (v := ?_) rfl (fun W hW => ?_) ?_; rotate_left; (· have A_An := cell_later hW An; have A_Aw := cell_later hW Aw; have A_At := cell_later hW At; have A_M0 := cell_later hW M0; have A_M1 := cell_later hW M1; have A_M2 := cell_later hW M2; have A_M3 := cell_later hW M3; have A_M4 := cell_later hW M4; clear hW; go_simp; try with_reducible rfl))
  all_goals try simp only [Act.put, List.setIfInBounds_toArray, List.set_cons_zero, List.set_cons_succ]
  all_goals first | (refine soft_pass rfl HS ?_) | (refine soft_read (v := ?_) rfl (fun W hW => ?_) ?_; rotate_left; (· have A_An := cell_later hW An; have A_Aw := cell_later hW Aw; have A_At := cell_later hW At; have A_M0 := cell_later hW M0; have A_M1 := cell_later hW M1; have A_M2 := cell_later hW M2; have A_M3 := cell_later hW M3; have A_M4 := cell_later hW M4; clear hW; go_simp; try with_reducible rfl))
  all_goals try simp only [Act.put, List.setIfInBounds_toArray, List.set_cons_zero, List.set_cons_succ]
  all_goals first | (refine soft_pass rfl HS ?_) | (refine soft_do rfl (fun K hK => ?_); go_simp; refine (implFreshAt_c (HXR.out.below (EB.trans (HS.mono EB.size))).1 (cx := [.slice qa0 x.1.length qp0, .slice qa1 x.2.1.length qp1, .slice qa2 x.2.2.1.length qp2, .int .i64 x.2.2.2.1, .int .i64 x.2.2.2.2])).mono ?_; rintro e wS1 ⟨rfl, hbS⟩; replace HS := HS.trans (hbS.mono HS.size); refine hK _ _ HS ?_; clear hK K hbS)
  all_goals try simp only [Act.put, List.setIfInBounds_toArray, List.set_cons_zero, List.set_cons_succ]
  all_goals first | (refine soft_pass rfl HS ?_) | (refine soft_read (v := ?_) rfl (fun W hW => ?_) ?_; rotate_left; (· go_simp; try with_reducible rfl))
  all_goals try simp only [Act.put, List.setIfInBounds_toArray, List.set_cons_zero, List.set_cons_succ]
  all_goals first | (refine soft_pass rfl HS ?_; have hg9 := True.intro) | (refine soft_part (v := ?_) (b := ?_) rfl (fun W hW => ?_) ?_ (fun b hg9 => ?_); rotate_left; rotate_left; (· go_simp; try with_reducible rfl); (· with_reducible rfl); cases b; all_goals first | (exact Bool.noConfusion hg9) | (simp only [Bool.not_eq_true', Bool.not_eq_false'] at hg9) | skip)
  all_goals try simp only [Act.put, List.setIfInBounds_toArray, List.set_cons_zero, List.set_cons_succ]
  all_goals first | (refine soft_pass rfl HS ?_) | (refine soft_read (v := ?_) rfl (fun W hW => ?_) ?_; rotate_left; (· go_simp; try with_reducible rfl))
  all_goals try simp only [Act.put, List.setIfInBounds_toArray, List.set_cons_zero, List.set_cons_succ]
  all_goals first | (refine soft_pass rfl HS ?_) | (refine soft_read (v := ?_) rfl (fun W hW => ?_) ?_; rotate_left; (· have A_An := cell_later hW An; have A_Aw := cell_later hW Aw; have A_At := cell_later hW At; have A_M0 := cell_later hW M0; have A_M1 := cell_later hW M1; have A_M2 := cell_later hW M2; have A_M3 := cell_later hW M3; have A_M4 := cell_later hW M4; clear hW; go_simp; try with_reducible rfl))
  all_goals try simp only [Act.put, List.setIfInBounds_toArray, List.set_cons_zero, List.set_cons_succ]
  all_goals first | (refine soft_pass rfl HS ?_) | (refine soft_read (v := ?_) rfl (fun W hW => ?_) ?_; rotate_left; (· have A_An := cell_later hW An; have A_Aw := cell_later hW Aw; have A_At := cell_later hW At; have A_M0 := cell_later hW M0; have A_M1 := cell_later hW M1; have A_M2 := cell_later hW M2; have A_M3 := cell_later hW M3; have A_M4 := cell_later hW M4; clear hW; go_simp; try with_reducible rfl))
  all_goals try simp only [Act.put, List.setIfInBounds_toArray, List.set_cons_zero, List.set_cons_succ]
  all_goals first | (refine soft_pass rfl HS ?_) | (refine soft_do rfl (fun K hK => ?_); go_simp; refine (implVerifySignature_c (HTK.out.below (EB.trans (HS.mono EB.size))) (HXR.out.below (EB.trans (HS.mono EB.size))) hxc (cx := [.slice qa0 x.1.length qp0, .slice qa1 x.2.1.length qp1, .slice qa2 x.2.2.1.length qp2, .int .i64 x.2.2.2.1, .int .i64 x.2.2.2.2])).mono ?_; rintro e wS1 ⟨rfl, hbS⟩; replace HS := HS.trans (hbS.mono HS.size); refine hK _ _ HS ?_; clear hK K hbS)
  all_goals try simp only [Act.put, List.setIfInBounds_toArray, List.set_cons_zero, List.set_cons_succ]
  all_goals first | (refine soft_pass rfl HS ?_) | (refine soft_read (v := ?_) rfl (fun W hW => ?_) ?_; rotate_left; (· go_simp; try with_reducible rfl))
  all_goals try simp only [Act.put, List.setIfInBounds_toArray, List.set_cons_zero, List.set_cons_succ]
  all_goals first | (refine soft_pass rfl HS ?_; have hg15 := True.intro) | (refine soft_part (v := ?_) (b := ?_) rfl (fun W hW => ?_) ?_ (fun b hg15 => ?_); rotate_left; rotate_left; (· go_simp; try with_reducible rfl); (· with_reducible rfl); cases b; all_goals first | (exact Bool.noConfusion hg15) | (simp only [Bool.not_eq_true', Bool.not_eq_false'] at hg15) | skip)
  all_goals try simp only [Act.put, List.setIfInBounds_toArray, List.set_cons_zero, List.set_cons_succ]
  all_goals first | (refine soft_pass rfl HS ?_) | (refine soft_read (v := ?_) rfl (fun W hW => ?_) ?_; rotate_left; (· go_simp; try with_reducible rfl))
  all_goals try simp only [Act.put, List.setIfInBounds_toArray, List.set_cons_zero, List.set_cons_succ]
  all_goals first | (refine soft_pass rfl HS ?_) | (refine soft_read (v := ?_) rfl (fun W hW => ?_) ?_; rotate_left; (· have A_An := cell_later hW An; have A_Aw := cell_later hW Aw; have A_At := cell_later hW At; have A_M0 := cell_later hW M0; have A_M1 := cell_later hW M1; have A_M2 := cell_later hW M2; have A_M3 := cell_later hW M3; have A_M4 := cell_later hW M4; clear hW; go_simp; try with_reducible rfl))
  all_goals try simp only [Act.put, List.setIfInBounds_toArray, List.set_cons_zero, List.set_cons_succ]
  all_goals first | (refine soft_pass rfl HS ?_) | (refine soft_read (v := ?_) rfl (fun W hW => ?_) ?_; rotate_left; (· go_simp; try with_reducible rfl))
  all_goals try simp only [Act.put, List.setIfInBounds_toArray, List.set_cons_zero, List.set_cons_succ]
  all_goals first | (refine soft_pass rfl HS ?_) | (refine soft_read (v := ?_) rfl (fun W hW => ?_) ?_; rotate_left; (· have A_An := cell_later hW An; have A_Aw := cell_later hW Aw; have A_At := cell_later hW At; have A_M0 := cell_later hW M0; have A_M1 := cell_later hW M1; have A_M2 := cell_later hW M2; have A_M3 := cell_later hW M3; have A_M4 := cell_later hW M4; clear hW; go_simp; try with_reducible rfl))
  all_goals try simp only [Act.put, List.setIfInBounds_toArray, List.set_cons_zero, List.set_cons_succ]
  all_goals first | (refine soft_pass rfl HS ?_) | (refine soft_read (v := ?_) rfl (fun W hW => ?_) ?_; rotate_left; (· have A_An := cell_later hW An; have A_Aw := cell_later hW Aw; have A_At := cell_later hW At; have A_M0 := cell_later hW M0; have A_M1 := cell_later hW M1; have A_M2 := cell_later hW M2; have A_M3 := cell_later hW M3; have A_M4 := cell_later hW M4; clear hW; go_simp; try with_reducible rfl))
  all_goals try simp only [Act.put, List.setIfInBounds_toArray, List.set_cons_zero, List.set_cons_succ]
  all_goals first | (refine soft_pass rfl HS ?_) | (refine soft_do rfl (fun K hK => ?_); go_simp; refine (implKeyDigest_c (HTK.out.below (EB.trans (HS.mono EB.size))) (HN.out.below (EB.trans (HS.mono EB.size))) (cn := [.slice an n.length capn])).mono ?_; rintro e wS1 ⟨vk, rfl, OK, hbS⟩; obtain ⟨ak, nk, ck, hvk, HNk⟩ := OK.parts; obtain rfl := hvk; have RK := (OK.own (by have := keyDig_len (l := t.1) (n := n); unfold Big; omega)).raw; clear OK; replace HS := HS.trans (hbS.mono HS.size); refine hK _ _ HS ?_; clear hK K hbS)
  all_goals try simp only [Act.put, List.setIfInBounds_toArray, List.set_cons_zero, List.set_cons_succ]
  all_goals first | (refine soft_pass rfl HS ?_) | (refine soft_do rfl (fun K hK => ?_); go_simp; refine (Equal_byte_c (HQ2.out.below (EB.trans (HS.mono EB.size))) RK).mono ?_; rintro e wS2 ⟨rfl, hbS⟩; replace HS := HS.trans (hbS.mono HS.size); refine hK _ _ HS ?_; clear hK K hbS RK)
  all_goals try simp only [Act.put, List.setIfInBounds_toArray, List.set_cons_zero, List.set_cons_succ]
  all_goals first | (refine soft_pass rfl HS ?_) | (refine soft_read (v := ?_) rfl (fun W hW => ?_) ?_; rotate_left; (· go_simp; try with_reducible rfl))
  all_goals try simp only [Act.put, List.setIfInBounds_toArray, List.set_cons_zero, List.set_cons_succ]
  all_goals first | (refine soft_pass rfl HS ?_) | (refine soft_read (v := ?_) rfl (fun W hW => ?_) ?_; rotate_left; (· go_simp; try with_reducible rfl))
  all_goals try simp only [Act.put, List.setIfInBounds_toArray, List.set_cons_zero, List.set_cons_succ]
  all_goals refine soft_nil ?_
  all_goals have EF := EB.trans (HS.mono EB.size)
  all_goals first
    | (have HT := Lib.hid (show certOk t.1 n now x = false by simp only [certOk, Bool.not_true, Bool.not_false, Bool.and_true, Bool.true_and, Bool.and_false, Bool.false_and, Bool.or_true, Bool.true_or, Bool.or_false, Bool.false_or, Bool.not_not, hg4, hg9, hg15]); go_wp2; go_ret; exact ⟨ret_bool HT.out.symm, EF⟩)
    | (have HT := Lib.hid (show certOk t.1 n now x = decide (x.2.1 = keyDig t.1 n) by simp only [certOk, Bool.not_true, Bool.not_false, Bool.and_true, Bool.true_and, Bool.and_false, Bool.false_and, Bool.or_true, Bool.true_or, Bool.or_false, Bool.false_or, Bool.not_not, hg4, hg9, hg15]); go_wp2; go_ret; exact ⟨ret_bool HT.out.symm, EF⟩)
theorem callable_implFindCertificate1_c : Callable Tryz.prog 213 := callable_of Tryz.func213 (by kernel_rfl) (by kernel_rfl)
set_option maxRecDepth 100000 in
set_option maxHeartbeats 2000000 in
theorem implFindCertificate_c {w : World} {ct : List Value} {t : LTrustPolicy} (ht0 : RTrustPolicy.rd w ct t) (hB : ∀ k (h : k < t.2.2.2.length), t.2.2.2[k].2.1.length ≤ 2000000) {cn : List Value} {n : LName} (hn : RName.raw w cn n) {now : Int} :
    Calls Tryz.prog 182 #[.agg ct.toArray, .agg cn.toArray, .int .i64 now] w fun e w' => e = .returned (.int .i64 (findCert t n now)) ∧ Below w.heap.size w w' := by
  have ht := ht0.1
  have HBD := Lib.hid (show ∀ k (h : k < t.2.2.2.length), RData.bdd Big t.2.2.2[k] from fun k h => ht0.2.2.2.2.2 _ (List.getElem_mem h))
  have HBC := Lib.hid hB
  obtain ⟨tv0, tv1, tv2, tv3, rfl, t_0, t_1, t_2, t_3⟩ := RTrustPolicy_raw ht
  obtain ⟨ta0, tp0, th0, tl0⟩ := Rep.len_raw t_0; obtain rfl : tv0 = _ := by simpa using th0
  clear th0
  obtain ⟨ta1, tp1, th1, tl1⟩ := Rep.len_raw t_1; obtain rfl : tv1 = _ := by simpa using th1
  clear th1
  obtain ⟨ta2, tp2, th2, tl2⟩ := Rep.len_raw t_2; obtain rfl : tv2 = _ := by simpa using th2
  clear th2
  obtain ⟨ta3, tp3, th3, tl3⟩ := Rep.len_raw t_3; obtain rfl : tv3 = _ := by simpa using th3
  clear th3
  have HTK := Lib.hid t_0; have HTR := Lib.hid t_1; have HTA := Lib.hid t_2; have HTC := Lib.hid t_3
  obtain ⟨nv, rfl, n_0⟩ := RName_raw hn
  obtain ⟨an, capn, hvn, ln⟩ := Rep.len_raw n_0; obtain rfl : nv = _ := by simpa using hvn
  have HN := Lib.hid hn
  clear ht ht0 hB hn hvn n_0 t_0 t_1 t_2 t_3
  go_enter Tryz.func182, Tryz.ntmps182
  go_upto_region 1 with fail
  generalize hwB : World.alloc (World.alloc (World.alloc w _) _) _ = wB
  have EB : Below w.heap.size w wB := by rw [← hwB]; exact (by repeat (first | (with_reducible exact Below.refl _ _) | refine Below.alloc ?_ (by simp; try omega) _ | refine Below.drew ?_ | refine Below.setCell ?_ (by simp; try omega) _))
  have K0 : wB.cell? ⟨w.heap.size, 0, none⟩ = some (.slice ta0 t.1.length tp0) := by rw [← hwB]; simp [go_sem]
  have K1 : wB.cell? ⟨w.heap.size, 1, none⟩ = some (.slice ta1 t.2.1.length tp1) := by rw [← hwB]; simp [go_sem]
  have K2 : wB.cell? ⟨w.heap.size, 2, none⟩ = some (.slice ta2 t.2.2.1.length tp2) := by rw [← hwB]; simp [go_sem]
  have K3 : wB.cell? ⟨w.heap.size, 3, none⟩ = some (.slice ta3 t.2.2.2.length tp3) := by rw [← hwB]; simp [go_sem]
  have K4 : wB.cell? ⟨w.heap.size + 1, 0, none⟩ = some (.slice an n.length capn) := by rw [← hwB]; simp [go_sem]
  have K5 : wB.cell? ⟨w.heap.size + 1 + 1, 0, none⟩ = some (.int .i64 now) := by rw [← hwB]; simp [go_sem]
  clear hwB
  go_wp2_with fail
  refine (implSecretOf_c (HTK.out.below EB) (HN.out.below EB) (cn := [.slice an n.length capn])).mono ?_
  rintro e w1 ⟨rfl, hb⟩
  have E1 := EB.trans (hb.mono EB.size)
  replace K0 := cell_later hb K0
  replace K1 := cell_later hb K1
  replace K2 := cell_later hb K2
  replace K3 := cell_later hb K3
  replace K4 := cell_later hb K4
  replace K5 := cell_later hb K5
  clear hb EB
  by_cases h0 : secOf t.1 n = 0
  · have HT := Lib.hid (fc_no (now := now) h0)
    have h0b : (secOf t.1 n == 0) = true := by simpa using h0
    go_wp2
    go_ret
    exact ⟨ret_int HT.out.symm, E1⟩
  have HFC := Lib.hid (fc_yes (now := now) h0)
  have h0b : (secOf t.1 n == 0) = false := by simpa using h0
  clear h0
  go_wp2_with fail
  refine (IndexFunc_Data_c (certOk t.1 n now) callable_implFindCertificate1_c (HTC.out.below E1) ?_).mono ?_
  · intro wr hb i h cs hr
    exact implFindCertificate1_c ⟨hr, HBD.out i h⟩ (HBC.out i h) (Rep.raw.below HN.out (E1.trans (hb.mono E1.size))) (cell_later hb K4) (cell_later hb K5) (Rep.raw.below HTK.out (E1.trans (hb.mono E1.size))) (cell_later hb K0)
  rintro e w2 ⟨rfl, hb2⟩
  have E2 := E1.trans (hb2.mono E1.size)
  clear hb2
  go_wp2
  go_ret
  exact ⟨ret_int HFC.out.symm, E2⟩
end Go.Proofs.YtlfblpgkegeaeaaGreat

/-
  Chains of trust; whether data are awaited and trusted.
-/
import Derived.Test.YtlfblpgkegeaeaaGreatTrust
import Derived.Test.YtlfblpgkegeaeaaGreatDrawB
import Derived.Test.YtlfblpgkegeaeaaGreatHasP
import Derived.Test.YtlfblpgkegeaeaaGreatVData
import Derived.IntWalk
import Derived.Deep.Cut
import Derived.WalkSpells
import Derived.WalkLawsBesides
namespace Go.Proofs.YtlfblpgkegeaeaaGreat
open Go.RowKit
set_option linter.unusedVariables false
set_option linter.unusedSimpArgs false
set_option linter.unnecessarySimpa false
def chainOk (t : LTrustPolicy) (now : Int) : Nat → LData → Bool
  | 0, _ => false
  | f + 1, x => if (verS t.1 x && allowedR t.2.1 x.1 x.2.2.1) = true then (if isAnc t x.2.2.1 = true then true else if findCert t x.2.2.1 now < 0 then false else chainOk t now f (t.2.2.2.getD (findCert t x.2.2.1 now).toNat voidD)) else false
def trusted (t : LTrustPolicy) (x : LData) (now : Int) : Bool := okData x && chainOk t now 4 x
def hasP (l : List LPendingInterest) (n : LName) : Bool := decide (0 ≤ idxOf (isPend n) l)
def solicited (x : LNode) (t : LTrustPolicy) (y : LData) (now : Int) : Bool := hasP x.2.2.1 y.1 && trusted t y now
def slen : Value → Nat
  | .slice _ n _ => n
  | _ => 0
section
variable {t : LTrustPolicy} {now : Int} {f : Nat} {x : LData}
theorem ch_ver (h : verS t.1 x = false) : chainOk t now (f + 1) x = false := by unfold chainOk; rw [h]; rfl
theorem ch_all (h : allowedR t.2.1 x.1 x.2.2.1 = false) : chainOk t now (f + 1) x = false := by unfold chainOk; rw [h, Bool.and_false]; rfl
theorem ch_anc (h : verS t.1 x = true) (h2 : allowedR t.2.1 x.1 x.2.2.1 = true) (h3 : isAnc t x.2.2.1 = true) : chainOk t now (f + 1) x = true := by unfold chainOk; rw [h, h2, h3]; rfl
theorem ch_none (h3 : isAnc t x.2.2.1 = false) (h4 : findCert t x.2.2.1 now < 0) : chainOk t now (f + 1) x = false := by
  unfold chainOk
  rw [h3, if_pos h4]
  split <;> rfl
theorem ch_next (h : verS t.1 x = true) (h2 : allowedR t.2.1 x.1 x.2.2.1 = true) (h3 : isAnc t x.2.2.1 = false) {j : Nat} (hj : j < t.2.2.2.length) (h4 : findCert t x.2.2.1 now = j) : chainOk t now (f + 1) x = chainOk t now f t.2.2.2[j] := by
  show (if (verS t.1 x && allowedR t.2.1 x.1 x.2.2.1) = true then _ else _) = _
  rw [h, h2, h3, h4, Int.toNat_natCast, getD_get hj]
  simp
theorem fc_ge {n : LName} (h : ¬ findCert t n now < 0) : ∃ j : Nat, j < t.2.2.2.length ∧ findCert t n now = (j : Int) := by
  by_cases h0 : secOf t.1 n = 0
  · rw [fc_no h0] at h; omega
  · rw [fc_yes h0] at h ⊢; exact idxOf_ge h
end
set_option maxRecDepth 100000 in
set_option maxHeartbeats 4000000 in
theorem specTrustChain_c {w : World} {ct : List Value} {t : LTrustPolicy} (ht0 : RTrustPolicy.rd w ct t) (hB : ∀ k (h : k < t.2.2.2.length), t.2.2.2[k].2.1.length ≤ 2000000) {cx : List Value} {x0 : LData} (hx : RData.rd w cx x0) (hxc : x0.2.1.length ≤ 2000000) {now : Int} :
    Calls Tryz.prog 102 #[.agg ct.toArray, .agg cx.toArray, .int .i64 now] w fun e w' => ∃ v, e = .returned (.tuple #[v, .bool (chainOk t now 4 x0)]) ∧ Below w.heap.size w w' := by
  have ht := ht0.1
  have hy := hx.1
  have HBD := Lib.hid (show ∀ k (h : k < t.2.2.2.length), RData.bdd Big t.2.2.2[k] from fun k h => ht0.2.2.2.2.2 _ (List.getElem_mem h))
  have HBC := Lib.hid hB
  obtain ⟨tv0, tv1, tv2, tv3, rfl, t_0, t_1, t_2, t_3⟩ := RTrustPolicy_raw ht
  obtain ⟨ta0, tp0, th0, tl0⟩ := Rep.len_raw t_0; obtain rfl : tv0 = _ := by simpa using th0
  clear th0
  obtain ⟨ta1, tp1, th1, tl1⟩ := Rep.len_raw t_1; obtain rfl : tv1 = _ := by simpa using th1
  clear th1
  obtain ⟨ta2, tp2, th2, tl2⟩ := Rep.len_raw t_2; obtain rfl : tv2 = _ := by simpa using th2
  clear th2
  obtain ⟨ta3, tp3, th3, tl3⟩ := Rep.len_raw t_3; obtain rfl : tv3 = _ := by simpa using th3
  clear th3
  obtain ⟨xv0, xv1, xv2, rfl, x_0, x_1, x_2, x_3, x_4, x_5, x_6⟩ := RData_raw hy
  obtain ⟨xa0, xp0, xh0, xl0⟩ := Rep.len_raw x_1; obtain rfl : xv0 = _ := by simpa using xh0
  clear xh0
  obtain ⟨xa1, xp1, xh1, xl1⟩ := Rep.len_raw x_2; obtain rfl : xv1 = _ := by simpa using xh1
  clear xh1
  obtain ⟨xa2, xp2, xh2, xl2⟩ := Rep.len_raw x_4; obtain rfl : xv2 = _ := by simpa using xh2
  clear xh2
  have HTP := Lib.hid ht0; have HXR0 := Lib.hid hx; have HTK := Lib.hid t_0; have HTR := Lib.hid t_1; have HTC := Lib.hid t_3
  clear ht0 hB hx ht hy t_0 t_1 t_2 t_3 x_0 x_1 x_2 x_3 x_4 x_5 x_6
  go_enter Tryz.func102, Tryz.ntmps102
  go_upto_region 1 with fail
  generalize hwB : World.alloc (World.alloc w _) _ = wB
  have EB : Below w.heap.size w wB := by rw [← hwB]; exact (by repeat (first | (with_reducible exact Below.refl _ _) | refine Below.alloc ?_ (by simp; try omega) _ | refine Below.drew ?_ | refine Below.setCell ?_ (by simp; try omega) _))
  have zB : wB.heap.size = w.heap.size + 2 := by rw [← hwB]; simp
  have BT : wB.heap[w.heap.size]? = some (.cells #[.slice ta0 t.1.length tp0, .slice ta1 t.2.1.length tp1, .slice ta2 t.2.2.1.length tp2, .slice ta3 t.2.2.2.length tp3] 62 (0, 0)) := by rw [← hwB]; exact heap_keep (heap_new_at rfl)
  have BX : wB.heap[w.heap.size + 1]? = some (.cells #[.slice xa0 x0.1.length xp0, .slice xa1 x0.2.1.length xp1, .slice xa2 x0.2.2.1.length xp2, .int .i64 x0.2.2.2.1, .int .i64 x0.2.2.2.2] 66 (0, 0)) := by rw [← hwB]; exact heap_new_at (by simp)
  clear hwB
  go_wp2
  go_loopw [8] (fun v wr => ∃ (n : Nat) (out : List LName) (x : LData) (oa : Option Addr) (oc : Nat) (xa0 xa1 xa2 : Option Addr) (xp0 xp1 xp2 : Nat), v = .slice oa n oc ∧ n ≤ 4 ∧ Hid (n = out.length) ∧ Hid (chainOk t now 4 x0 = chainOk t now (4 - n) x) ∧ Hid (Rep.own0 64 RName wr (.slice oa n oc) out (Btw (w.heap.size + 2) wr.heap.size)) ∧ wr.heap[w.heap.size]? = some (.cells #[.slice ta0 t.1.length tp0, .slice ta1 t.2.1.length tp1, .slice ta2 t.2.2.1.length tp2, .slice ta3 t.2.2.2.length tp3] 62 (0, 0)) ∧ wr.heap[w.heap.size + 1]? = some (.cells #[.slice xa0 x.1.length xp0, .slice xa1 x.2.1.length xp1, .slice xa2 x.2.2.1.length xp2, .int .i64 x.2.2.2.1, .int .i64 x.2.2.2.2] 66 (0, 0)) ∧ Hid (RData.rd w [.slice xa0 x.1.length xp0, .slice xa1 x.2.1.length xp1, .slice xa2 x.2.2.1.length xp2, .int .i64 x.2.2.2.1, .int .i64 x.2.2.2.2] x) ∧ x.2.1.length ≤ 2000000 ∧ w.heap.size + 2 ≤ wr.heap.size ∧ Below w.heap.size w wr) (fun v _ => 5 - slen v)
  case atStart => exact ⟨0, [], x0, _, 0, xa0, xa1, xa2, xp0, xp1, xp2, rfl, by omega, Lib.hid rfl, Lib.hid rfl, Lib.hid Rep.own0.void, heap_keep BT, heap_keep BX, HXR0, hxc, by simp; omega, EB.trans ((Below.refl _ _).alloc EB.size _)⟩
  case round =>
    clear BT BX EB zB HXR0 hxc
    obtain ⟨n, out, x, oa, oc, xa0, xa1, xa2, xp0, xp1, xp2, rfl, hn4, HON, HCH, HO, BT, BX, HXR, hxc, zr, EE⟩ := hrel
    obtain ⟨yv0, yv1, yv2, yhe, y_0, y_1, y_2, y_3, y_4, y_5, y_6⟩ := RData_raw HXR.out.1
    simp only [List.cons.injEq, and_true] at yhe
    obtain ⟨rfl, rfl, rfl⟩ := yhe
    have HX0 := Lib.hid y_0; have HX2 := Lib.hid y_3
    have HXK := Lib.hid (show RName.rd w _ x.2.2.1 from ⟨y_3, HXR.out.2.2.2.1⟩)
    clear y_0 y_1 y_2 y_3 y_4 y_5 y_6
    by_cases hlt : n < 4
    · have hltI : (n : Int) < 4 := by omega
      have hneI : ((n : Int) == 4) = false := by simp; omega
      have hneN : (n == 4) = false := by simp; omega
      replace HCH := Lib.hid (HCH.out.trans (by rw [show 4 - n = (3 - n) + 1 by omega]))
      have KBT_0 : wr.cell? ⟨w.heap.size, 0, none⟩ = some (.slice ta0 t.1.length tp0) := boxCell BT rfl
      have KBT_1 : wr.cell? ⟨w.heap.size, 1, none⟩ = some (.slice ta1 t.2.1.length tp1) := boxCell BT rfl
      have KBT_2 : wr.cell? ⟨w.heap.size, 2, none⟩ = some (.slice ta2 t.2.2.1.length tp2) := boxCell BT rfl
      have KBT_3 : wr.cell? ⟨w.heap.size, 3, none⟩ = some (.slice ta3 t.2.2.2.length tp3) := boxCell BT rfl
      have KBX_0 : wr.cell? ⟨w.heap.size + 1, 0, none⟩ = some (.slice xa0 x.1.length xp0) := boxCell BX rfl
      have KBX_1 : wr.cell? ⟨w.heap.size + 1, 1, none⟩ = some (.slice xa1 x.2.1.length xp1) := boxCell BX rfl
      have KBX_2 : wr.cell? ⟨w.heap.size + 1, 2, none⟩ = some (.slice xa2 x.2.2.1.length xp2) := boxCell BX rfl
      have KBX_3 : wr.cell? ⟨w.heap.size + 1, 3, none⟩ = some (.int .i64 x.2.2.2.1) := boxCell BX rfl
      have KBX_4 : wr.cell? ⟨w.heap.size + 1, 4, none⟩ = some (.int .i64 x.2.2.2.2) := boxCell BX rfl
      go_wp2_with fail
      refine (specVerifySignature_c (HTK.out.below EE) (HXR.out.below EE) hxc (cx := [.slice xa0 x.1.length xp0, .slice xa1 x.2.1.length xp1, .slice xa2 x.2.2.1.length xp2, .int .i64 x.2.2.2.1, .int .i64 x.2.2.2.2])).mono ?_
      rintro e w1 ⟨rfl, hb⟩
      have z_w1 := hb.size
      replace BT := keepBox BT hb
      replace BX := keepBox BX hb
      replace HO := Lib.hid (HO.out.below hb)
      replace EE := EE.trans (hb.mono EE.size)
      clear KBT_0 KBT_1 KBT_2 KBT_3 KBX_0 KBX_1 KBX_2 KBX_3 KBX_4
      clear hb
      have KBT_0 : w1.cell? ⟨w.heap.size, 0, none⟩ = some (.slice ta0 t.1.length tp0) := boxCell BT rfl
      have KBT_1 : w1.cell? ⟨w.heap.size, 1, none⟩ = some (.slice ta1 t.2.1.length tp1) := boxCell BT rfl
      have KBT_2 : w1.cell? ⟨w.heap.size, 2, none⟩ = some (.slice ta2 t.2.2.1.length tp2) := boxCell BT rfl
      have KBT_3 : w1.cell? ⟨w.heap.size, 3, none⟩ = some (.slice ta3 t.2.2.2.length tp3) := boxCell BT rfl
      have KBX_0 : w1.cell? ⟨w.heap.size + 1, 0, none⟩ = some (.slice xa0 x.1.length xp0) := boxCell BX rfl
      have KBX_1 : w1.cell? ⟨w.heap.size + 1, 1, none⟩ = some (.slice xa1 x.2.1.length xp1) := boxCell BX rfl
      have KBX_2 : w1.cell? ⟨w.heap.size + 1, 2, none⟩ = some (.slice xa2 x.2.2.1.length xp2) := boxCell BX rfl
      have KBX_3 : w1.cell? ⟨w.heap.size + 1, 3, none⟩ = some (.int .i64 x.2.2.2.1) := boxCell BX rfl
      have KBX_4 : w1.cell? ⟨w.heap.size + 1, 4, none⟩ = some (.int .i64 x.2.2.2.2) := boxCell BX rfl
      cases hv : verS t.1 x
      · have HF : Hid (chainOk t now 4 x0 = false) := Lib.hid (HCH.out.trans (ch_ver hv))
        clear hv
        go_wp2
        refine bodyPost_ret (v := .tuple #[.slice (some ⟨w1.heap.size, 0, none⟩) 0 0, .bool false]) (by simp [results, Tryz.results102, go_sem]) rfl ?_
        exact ⟨_, by rw [HF.out], EE.trans ((Below.refl _ _).alloc EE.size _)⟩

      have HV := Lib.hid hv
      clear hv
      go_wp2_with fail
      refine (specAllowed_w (HTR.out.below EE) (HX0.out.below EE) (HX2.out.below EE) (cn := [.slice xa0 x.1.length xp0]) (cm := [.slice xa2 x.2.2.1.length xp2])).mono ?_
      rintro e w2 ⟨rfl, hb⟩
      have z_w2 := hb.size
      replace BT := keepBox BT hb
      replace BX := keepBox BX hb
      replace HO := Lib.hid (HO.out.below hb)
      replace EE := EE.trans (hb.mono EE.size)
      clear KBT_0 KBT_1 KBT_2 KBT_3 KBX_0 KBX_1 KBX_2 KBX_3 KBX_4
      clear hb
      cases ha : allowedR t.2.1 x.1 x.2.2.1
      · have HF : Hid (chainOk t now 4 x0 = false) := Lib.hid (HCH.out.trans (ch_all ha))
        clear ha
        go_wp2
        refine bodyPost_ret (v := .tuple #[.slice (some ⟨w2.heap.size, 0, none⟩) 0 0, .bool false]) (by simp [results, Tryz.results102, go_sem]) rfl ?_
        exact ⟨_, by rw [HF.out], EE.trans ((Below.refl _ _).alloc EE.size _)⟩

      have HA := Lib.hid ha
      clear ha
      have KBX_0 : w2.cell? ⟨w.heap.size + 1, 0, none⟩ = some (.slice xa0 x.1.length xp0) := boxCell BX rfl
      have KBX_1 : w2.cell? ⟨w.heap.size + 1, 1, none⟩ = some (.slice xa1 x.2.1.length xp1) := boxCell BX rfl
      have KBX_2 : w2.cell? ⟨w.heap.size + 1, 2, none⟩ = some (.slice xa2 x.2.2.1.length xp2) := boxCell BX rfl
      have KBX_3 : w2.cell? ⟨w.heap.size + 1, 3, none⟩ = some (.int .i64 x.2.2.2.1) := boxCell BX rfl
      have KBX_4 : w2.cell? ⟨w.heap.size + 1, 4, none⟩ = some (.int .i64 x.2.2.2.2) := boxCell BX rfl
      go_wp2_with fail
      refine (specl4Copy_c (HXK.out.below EE) (ca := [.slice xa2 x.2.2.1.length xp2])).mono ?_
      rintro e w3 ⟨cs, rfl, O, hb⟩
      have z_w3 := hb.size
      replace BT := keepBox BT hb
      replace BX := keepBox BX hb
      replace HO := Lib.hid (HO.out.below hb)
      replace EE := EE.trans (hb.mono EE.size)
      clear KBX_0 KBX_1 KBX_2 KBX_3 KBX_4
      clear hb
      obtain ⟨v0, rfl, o_0⟩ := RName_raw O.raw
      obtain ⟨na, nc, hv0, _⟩ := Rep.len_raw o_0; obtain rfl : v0 = _ := by simpa using hv0
      clear hv0 o_0
      have HN := Lib.hid O
      clear O
      go_upto_region 6 with fail
      generalize hw_ : World.alloc w3 _ = w4
      have E_w4 : Below w3.heap.size w3 w4 := by rw [← hw_]; exact (Below.refl _ _).alloc (Nat.le_refl _) _
      have BN : w4.heap[w3.heap.size]? = some (.cells #[.slice na x.2.2.1.length nc] 64 (0, 0)) := by rw [← hw_]; exact heap_new_at rfl
      have z_w4 : w3.heap.size + 1 ≤ w4.heap.size := by rw [← hw_]; simp
      clear hw_
      replace BT := keepBox BT E_w4
      replace BX := keepBox BX E_w4
      replace HO := Lib.hid (HO.out.below E_w4)
      replace HN := Lib.hid (HN.out.below E_w4)
      replace EE := EE.trans (E_w4.mono EE.size)
      clear E_w4
      have RB := Lib.hid HN.out.rdB
      have KBT_0 : w4.cell? ⟨w.heap.size, 0, none⟩ = some (.slice ta0 t.1.length tp0) := boxCell BT rfl
      have KBT_1 : w4.cell? ⟨w.heap.size, 1, none⟩ = some (.slice ta1 t.2.1.length tp1) := boxCell BT rfl
      have KBT_2 : w4.cell? ⟨w.heap.size, 2, none⟩ = some (.slice ta2 t.2.2.1.length tp2) := boxCell BT rfl
      have KBT_3 : w4.cell? ⟨w.heap.size, 3, none⟩ = some (.slice ta3 t.2.2.2.length tp3) := boxCell BT rfl
      have KBX_0 : w4.cell? ⟨w.heap.size + 1, 0, none⟩ = some (.slice xa0 x.1.length xp0) := boxCell BX rfl
      have KBX_1 : w4.cell? ⟨w.heap.size + 1, 1, none⟩ = some (.slice xa1 x.2.1.length xp1) := boxCell BX rfl
      have KBX_2 : w4.cell? ⟨w.heap.size + 1, 2, none⟩ = some (.slice xa2 x.2.2.1.length xp2) := boxCell BX rfl
      have KBX_3 : w4.cell? ⟨w.heap.size + 1, 3, none⟩ = some (.int .i64 x.2.2.2.1) := boxCell BX rfl
      have KBX_4 : w4.cell? ⟨w.heap.size + 1, 4, none⟩ = some (.int .i64 x.2.2.2.2) := boxCell BX rfl
      have KBN_0 : w4.cell? ⟨w3.heap.size, 0, none⟩ = some (.slice na x.2.2.1.length nc) := boxCell BN rfl
      go_wp2_with (at_builtin; refine Rep.wpList_push1 rfl _ _ 60 rfl (r := RName) (e := 64) Tryz.underlying60 infName rfl (by decide) (by decide) (w := w4) HO.out (by rfl) (by rfl) rfl HN.out rfl (fun k h1 h2 => by have := h1.2; have := h2.1; omega) (by have := HON.out; omega) ?_)
      intro v5 w5 hQ hTQ
      have hT : Touch (fun k => w.heap.size + 2 ≤ k ∧ k < wr.heap.size) w4 w5 := (Touch.of_below ((Below.refl _ _).alloc (Nat.le_refl _) _)).trans (hTQ.wide (fun j q => q.2))
      have z_w5 := hT.size
      obtain ⟨oa5, n5, oc5, hv5, HN5⟩ := hQ.parts
      obtain rfl := hv5
      have hn5 : n5 = n + 1 := by have h1 := HN5.out; have h2 := HON.out; simp at h1; omega
      have HON5 := Lib.hid HN5.out
      clear HN5
      have HQ := Lib.hid (hQ.wide (T := Btw (w.heap.size + 2) w5.heap.size) (fun j q => by rcases q with q | q | q <;> (have := q.1; have := q.2; exact ⟨by omega, by omega⟩)))
      clear hQ hTQ HO HN
      replace BT := hT.keepBox BT (by omega)
      replace BX := hT.keepBox BX (by omega)
      replace BN := hT.keepBox BN (by omega)
      replace RB := Lib.hid (RB.out.touch hT (fun k hk => by have := hk.1; have := hk.2; omega))
      replace EE := EE.trans (hT.below EE.size (fun k hk => by omega))
      clear KBT_0 KBT_1 KBT_2 KBT_3 KBX_0 KBX_1 KBX_2 KBX_3 KBX_4 KBN_0
      clear hT
      subst hn5
      have KBT_0 : w5.cell? ⟨w.heap.size, 0, none⟩ = some (.slice ta0 t.1.length tp0) := boxCell BT rfl
      have KBT_1 : w5.cell? ⟨w.heap.size, 1, none⟩ = some (.slice ta1 t.2.1.length tp1) := boxCell BT rfl
      have KBT_2 : w5.cell? ⟨w.heap.size, 2, none⟩ = some (.slice ta2 t.2.2.1.length tp2) := boxCell BT rfl
      have KBT_3 : w5.cell? ⟨w.heap.size, 3, none⟩ = some (.slice ta3 t.2.2.2.length tp3) := boxCell BT rfl
      have KBX_0 : w5.cell? ⟨w.heap.size + 1, 0, none⟩ = some (.slice xa0 x.1.length xp0) := boxCell BX rfl
      have KBX_1 : w5.cell? ⟨w.heap.size + 1, 1, none⟩ = some (.slice xa1 x.2.1.length xp1) := boxCell BX rfl
      have KBX_2 : w5.cell? ⟨w.heap.size + 1, 2, none⟩ = some (.slice xa2 x.2.2.1.length xp2) := boxCell BX rfl
      have KBX_3 : w5.cell? ⟨w.heap.size + 1, 3, none⟩ = some (.int .i64 x.2.2.2.1) := boxCell BX rfl
      have KBX_4 : w5.cell? ⟨w.heap.size + 1, 4, none⟩ = some (.int .i64 x.2.2.2.2) := boxCell BX rfl
      have KBN_0 : w5.cell? ⟨w3.heap.size, 0, none⟩ = some (.slice na x.2.2.1.length nc) := boxCell BN rfl
      go_wp2_with fail
      refine (specIsAnchor_c (HTP.out.1.below EE) (RB.out.rd.1) (cn := [.slice na x.2.2.1.length nc]) (ct := [.slice ta0 t.1.length tp0, .slice ta1 t.2.1.length tp1, .slice ta2 t.2.2.1.length tp2, .slice ta3 t.2.2.2.length tp3])).mono ?_
      rintro e w6 ⟨rfl, hb⟩
      have z_w6 := hb.size
      replace BT := keepBox BT hb
      replace BX := keepBox BX hb
      replace BN := keepBox BN hb
      replace RB := Lib.hid (RB.out.below hb)
      replace HQ := Lib.hid (HQ.out.below hb)
      replace EE := EE.trans (hb.mono EE.size)
      clear KBT_0 KBT_1 KBT_2 KBT_3 KBX_0 KBX_1 KBX_2 KBX_3 KBX_4 KBN_0
      clear hb
      cases han : isAnc t x.2.2.1
      case true =>
        have HF : Hid (chainOk t now 4 x0 = true) := Lib.hid (HCH.out.trans (ch_anc HV.out HA.out han))
        clear han
        go_wp2
        refine bodyPost_ret (v := .tuple #[.slice oa5 (n + 1) oc5, .bool true]) (by simp [results, Tryz.results102, go_sem]) rfl ?_
        exact ⟨_, by rw [HF.out], EE⟩

      have HAN := Lib.hid han
      clear han
      have KBT_0 : w6.cell? ⟨w.heap.size, 0, none⟩ = some (.slice ta0 t.1.length tp0) := boxCell BT rfl
      have KBT_1 : w6.cell? ⟨w.heap.size, 1, none⟩ = some (.slice ta1 t.2.1.length tp1) := boxCell BT rfl
      have KBT_2 : w6.cell? ⟨w.heap.size, 2, none⟩ = some (.slice ta2 t.2.2.1.length tp2) := boxCell BT rfl
      have KBT_3 : w6.cell? ⟨w.heap.size, 3, none⟩ = some (.slice ta3 t.2.2.2.length tp3) := boxCell BT rfl
      have KBX_0 : w6.cell? ⟨w.heap.size + 1, 0, none⟩ = some (.slice xa0 x.1.length xp0) := boxCell BX rfl
      have KBX_1 : w6.cell? ⟨w.heap.size + 1, 1, none⟩ = some (.slice xa1 x.2.1.length xp1) := boxCell BX rfl
      have KBX_2 : w6.cell? ⟨w.heap.size + 1, 2, none⟩ = some (.slice xa2 x.2.2.1.length xp2) := boxCell BX rfl
      have KBX_3 : w6.cell? ⟨w.heap.size + 1, 3, none⟩ = some (.int .i64 x.2.2.2.1) := boxCell BX rfl
      have KBX_4 : w6.cell? ⟨w.heap.size + 1, 4, none⟩ = some (.int .i64 x.2.2.2.2) := boxCell BX rfl
      have KBN_0 : w6.cell? ⟨w3.heap.size, 0, none⟩ = some (.slice na x.2.2.1.length nc) := boxCell BN rfl
      go_wp2_with fail
      refine (specFindCertificate_c (HTP.out.below EE) HBC.out (RB.out.rd.1) (cn := [.slice na x.2.2.1.length nc]) (ct := [.slice ta0 t.1.length tp0, .slice ta1 t.2.1.length tp1, .slice ta2 t.2.2.1.length tp2, .slice ta3 t.2.2.2.length tp3])).mono ?_
      rintro e w7 ⟨rfl, hb⟩
      have z_w7 := hb.size
      replace BT := keepBox BT hb
      replace BX := keepBox BX hb
      replace BN := keepBox BN hb
      replace RB := Lib.hid (RB.out.below hb)
      replace HQ := Lib.hid (HQ.out.below hb)
      replace EE := EE.trans (hb.mono EE.size)
      clear KBT_0 KBT_1 KBT_2 KBT_3 KBX_0 KBX_1 KBX_2 KBX_3 KBX_4 KBN_0
      clear hb
      by_cases hi : findCert t x.2.2.1 now < 0
      · have HF : Hid (chainOk t now 4 x0 = false) := Lib.hid (HCH.out.trans (ch_none HAN.out hi))
        go_wp2
        refine bodyPost_ret (v := .tuple #[.slice (some ⟨w7.heap.size, 0, none⟩) 0 0, .bool false]) (by simp [results, Tryz.results102, go_sem]) rfl ?_
        exact ⟨_, by rw [HF.out], EE.trans ((Below.refl _ _).alloc EE.size _)⟩

      obtain ⟨j, hj, hji⟩ := fc_ge hi
      have HCN := Lib.hid (HCH.out.trans (ch_next HV.out HA.out HAN.out hj hji))
      have hbd := HBD.out j hj
      have hbc := HBC.out j hj
      obtain ⟨qb, qo, hqe, qc0, qc1, qc2, qc3, qc4, qr, Aq0, Aq1, Aq2, Aq3, Aq4⟩ := Rep.get5 HTC.out hj rfl
      obtain rfl := hqe
      rw [hji]
      clear hji hi
      generalize t.2.2.2[j] = y at *
      have HYR := Lib.hid (show RData.rd w _ y from ⟨qr, hbd⟩)
      obtain ⟨qv0, qv1, qv2, qhe, q_0, q_1, q_2, q_3, q_4, q_5, q_6⟩ := RData_raw qr
      simp only [List.cons.injEq, and_true] at qhe
      obtain ⟨rfl, rfl, rfl, rfl, rfl⟩ := qhe
      obtain ⟨qa0, qp0, qh0, _⟩ := Rep.len_raw q_1; obtain rfl : qc0 = _ := by simpa using qh0
      obtain ⟨qa1, qp1, qh1, _⟩ := Rep.len_raw q_2; obtain rfl : qc1 = _ := by simpa using qh1
      obtain ⟨qa2, qp2, qh2, _⟩ := Rep.len_raw q_4; obtain rfl : qc2 = _ := by simpa using qh2
      clear qh0 qh1 qh2 q_0 q_1 q_2 q_3 q_4 q_5 q_6 qr hbd
      replace Aq0 := cell_later EE Aq0
      replace Aq1 := cell_later EE Aq1
      replace Aq2 := cell_later EE Aq2
      replace Aq3 := cell_later EE Aq3
      replace Aq4 := cell_later EE Aq4
      have hjI : (j : Int) < t.2.2.2.length := by omega
      have hjz := Int.natCast_nonneg j
      have hj0 : ¬ ((j : Int) < 0) := by omega
      have KBT_0 : w7.cell? ⟨w.heap.size, 0, none⟩ = some (.slice ta0 t.1.length tp0) := boxCell BT rfl
      have KBT_1 : w7.cell? ⟨w.heap.size, 1, none⟩ = some (.slice ta1 t.2.1.length tp1) := boxCell BT rfl
      have KBT_2 : w7.cell? ⟨w.heap.size, 2, none⟩ = some (.slice ta2 t.2.2.1.length tp2) := boxCell BT rfl
      have KBT_3 : w7.cell? ⟨w.heap.size, 3, none⟩ = some (.slice (some ⟨qb, qo, none⟩) t.2.2.2.length tp3) := boxCell BT rfl
      have KBX_0 : w7.cell? ⟨w.heap.size + 1, 0, none⟩ = some (.slice xa0 x.1.length xp0) := boxCell BX rfl
      have KBX_1 : w7.cell? ⟨w.heap.size + 1, 1, none⟩ = some (.slice xa1 x.2.1.length xp1) := boxCell BX rfl
      have KBX_2 : w7.cell? ⟨w.heap.size + 1, 2, none⟩ = some (.slice xa2 x.2.2.1.length xp2) := boxCell BX rfl
      have KBX_3 : w7.cell? ⟨w.heap.size + 1, 3, none⟩ = some (.int .i64 x.2.2.2.1) := boxCell BX rfl
      have KBX_4 : w7.cell? ⟨w.heap.size + 1, 4, none⟩ = some (.int .i64 x.2.2.2.2) := boxCell BX rfl
      have FBX_0 : w7.frozen? ⟨w.heap.size + 1, 0, none⟩ = false := frozen_of_row w7 (w.heap.size + 1) 0 _ _ BX
      have FBX_1 : w7.frozen? ⟨w.heap.size + 1, 1, none⟩ = false := frozen_of_row w7 (w.heap.size + 1) 1 _ _ BX
      have FBX_2 : w7.frozen? ⟨w.heap.size + 1, 2, none⟩ = false := frozen_of_row w7 (w.heap.size + 1) 2 _ _ BX
      have FBX_3 : w7.frozen? ⟨w.heap.size + 1, 3, none⟩ = false := frozen_of_row w7 (w.heap.size + 1) 3 _ _ BX
      have FBX_4 : w7.frozen? ⟨w.heap.size + 1, 4, none⟩ = false := frozen_of_row w7 (w.heap.size + 1) 4 _ _ BX
      go_wp2
      generalize hw_ : World.setCell (World.setCell (World.setCell (World.setCell (World.setCell w7 _ _) _ _) _ _) _ _) _ _ = w8
      have T_w8 : Touch (fun k => k = w.heap.size + 1) w7 w8 := by rw [← hw_]; exact ((((setCell_touch _ _ _ _).trans (setCell_touch _ _ _ _)).trans (setCell_touch _ _ _ _)).trans (setCell_touch _ _ _ _)).trans (setCell_touch _ _ _ _)
      have BY : w8.heap[w.heap.size + 1]? = some (.cells #[.slice qa0 y.1.length qp0, .slice qa1 y.2.1.length qp1, .slice qa2 y.2.2.1.length qp2, .int .i64 y.2.2.2.1, .int .i64 y.2.2.2.2] 66 (0, 0)) := by rw [← hw_]; exact setCell_row (setCell_row (setCell_row (setCell_row (setCell_row (BX) 0) 1) 2) 3) 4
      have z_w8 := T_w8.size
      clear hw_ Aq0 Aq1 Aq2 Aq3 Aq4
      replace BT := T_w8.keepBox BT (by omega)
      replace BN := T_w8.keepBox BN (by omega)
      replace RB := Lib.hid (RB.out.touch T_w8 (fun k hk => by have := hk.1; have := hk.2; omega))
      replace HQ := Lib.hid (HQ.out.touch T_w8 (fun k hk => by have := hk.1; have := hk.2; omega))
      replace EE := EE.trans (T_w8.below EE.size (fun k hk => by omega))
      clear KBT_0 KBT_1 KBT_2 KBT_3 KBX_0 KBX_1 KBX_2 KBX_3 KBX_4 FBX_0 FBX_1 FBX_2 FBX_3 FBX_4
      go_roundw
      case rel => exact ⟨n + 1, _, y, oa5, oc5, qa0, qa1, qa2, qp0, qp1, qp2, rfl, by omega, HON5, Lib.hid (HCN.out.trans (by rw [show 3 - n = 4 - (n + 1) by omega])), Lib.hid (HQ.out.wide (fun j hj => ⟨hj.1, by have := hj.2; omega⟩)), BT, BY, HYR, hbc, by omega, EE⟩
      case measure => simp [slen]; omega

    · obtain rfl : n = 4 := by omega
      skip
      replace HCH := Lib.hid (show chainOk t now 4 x0 = false from HCH.out)
      go_wp2
      refine bodyPost_ret (v := .tuple #[.slice (some ⟨wr.heap.size, 0, none⟩) 0 0, .bool false]) (by simp [results, Tryz.results102, go_sem]) rfl ?_
      exact ⟨_, by rw [HCH.out], EE.trans ((Below.refl _ _).alloc EE.size _)⟩
set_option maxRecDepth 100000 in
set_option maxHeartbeats 4000000 in
theorem implTrustChain_c {w : World} {ct : List Value} {t : LTrustPolicy} (ht0 : RTrustPolicy.rd w ct t) (hB : ∀ k (h : k < t.2.2.2.length), t.2.2.2[k].2.1.length ≤ 2000000) {cx : List Value} {x0 : LData} (hx : RData.rd w cx x0) (hxc : x0.2.1.length ≤ 2000000) {now : Int} :
    Calls Tryz.prog 113 #[.agg ct.toArray, .agg cx.toArray, .int .i64 now] w fun e w' => ∃ v, e = .returned (.tuple #[v, .bool (chainOk t now 4 x0)]) ∧ Below w.heap.size w w' := by
  have ht := ht0.1
  have hy := hx.1
  have HBD := Lib.hid (show ∀ k (h : k < t.2.2.2.length), RData.bdd Big t.2.2.2[k] from fun k h => ht0.2.2.2.2.2 _ (List.getElem_mem h))
  have HBC := Lib.hid hB
  obtain ⟨tv0, tv1, tv2, tv3, rfl, t_0, t_1, t_2, t_3⟩ := RTrustPolicy_raw ht
  obtain ⟨ta0, tp0, th0, tl0⟩ := Rep.len_raw t_0; obtain rfl : tv0 = _ := by simpa using th0
  clear th0
  obtain ⟨ta1, tp1, th1, tl1⟩ := Rep.len_raw t_1; obtain rfl : tv1 = _ := by simpa using th1
  clear th1
  obtain ⟨ta2, tp2, th2, tl2⟩ := Rep.len_raw t_2; obtain rfl : tv2 = _ := by simpa using th2
  clear th2
  obtain ⟨ta3, tp3, th3, tl3⟩ := Rep.len_raw t_3; obtain rfl : tv3 = _ := by simpa using th3
  clear th3
  obtain ⟨xv0, xv1, xv2, rfl, x_0, x_1, x_2, x_3, x_4, x_5, x_6⟩ := RData_raw hy
  obtain ⟨xa0, xp0, xh0, xl0⟩ := Rep.len_raw x_1; obtain rfl : xv0 = _ := by simpa using xh0
  clear xh0
  obtain ⟨xa1, xp1, xh1, xl1⟩ := Rep.len_raw x_2; obtain rfl : xv1 = _ := by simpa using xh1
  clear xh1
  obtain ⟨xa2, xp2, xh2, xl2⟩ := Rep.len_raw x_4; obtain rfl : xv2 = _ := by simpa using xh2
  clear xh2
  have HTP := Lib.hid ht0; have HXR0 := Lib.hid hx; have HTK := Lib.hid t_0; have HTR := Lib.hid t_1; have HTC := Lib.hid t_3
  clear ht0 hB hx ht hy t_0 t_1 t_2 t_3 x_0 x_1 x_2 x_3 x_4 x_5 x_6
  go_enter Tryz.func113, Tryz.ntmps113
  go_upto_region 1 with fail
  generalize hwB : World.alloc (World.alloc w _) _ = wB
  have EB : Below w.heap.size w wB := by rw [← hwB]; exact (by repeat (first | (with_reducible exact Below.refl _ _) | refine Below.alloc ?_ (by simp; try omega) _ | refine Below.drew ?_ | refine Below.setCell ?_ (by simp; try omega) _))
  have zB : wB.heap.size = w.heap.size + 2 := by rw [← hwB]; simp
  have BT : wB.heap[w.heap.size]? = some (.cells #[.slice ta0 t.1.length tp0, .slice ta1 t.2.1.length tp1, .slice ta2 t.2.2.1.length tp2, .slice ta3 t.2.2.2.length tp3] 62 (0, 0)) := by rw [← hwB]; exact heap_keep (heap_new_at rfl)
  have BX : wB.heap[w.heap.size + 1]? = some (.cells #[.slice xa0 x0.1.length xp0, .slice xa1 x0.2.1.length xp1, .slice xa2 x0.2.2.1.length xp2, .int .i64 x0.2.2.2.1, .int .i64 x0.2.2.2.2] 66 (0, 0)) := by rw [← hwB]; exact heap_new_at (by simp)
  clear hwB
  go_wp2
  go_loopw [8] (fun v wr => ∃ (n : Nat) (out : List LName) (x : LData) (oa : Option Addr) (oc : Nat) (xa0 xa1 xa2 : Option Addr) (xp0 xp1 xp2 : Nat), v = .slice oa n oc ∧ n ≤ 4 ∧ Hid (n = out.length) ∧ Hid (chainOk t now 4 x0 = chainOk t now (4 - n) x) ∧ Hid (Rep.own0 64 RName wr (.slice oa n oc) out (Btw (w.heap.size + 2) wr.heap.size)) ∧ wr.heap[w.heap.size]? = some (.cells #[.slice ta0 t.1.length tp0, .slice ta1 t.2.1.length tp1, .slice ta2 t.2.2.1.length tp2, .slice ta3 t.2.2.2.length tp3] 62 (0, 0)) ∧ wr.heap[w.heap.size + 1]? = some (.cells #[.slice xa0 x.1.length xp0, .slice xa1 x.2.1.length xp1, .slice xa2 x.2.2.1.length xp2, .int .i64 x.2.2.2.1, .int .i64 x.2.2.2.2] 66 (0, 0)) ∧ Hid (RData.rd w [.slice xa0 x.1.length xp0, .slice xa1 x.2.1.length xp1, .slice xa2 x.2.2.1.length xp2, .int .i64 x.2.2.2.1, .int .i64 x.2.2.2.2] x) ∧ x.2.1.length ≤ 2000000 ∧ w.heap.size + 2 ≤ wr.heap.size ∧ Below w.heap.size w wr) (fun v _ => 5 - slen v)
  case atStart => exact ⟨0, [], x0, _, 0, xa0, xa1, xa2, xp0, xp1, xp2, rfl, by omega, Lib.hid rfl, Lib.hid rfl, Lib.hid Rep.own0.void, heap_keep BT, heap_keep BX, HXR0, hxc, by simp; omega, EB.trans ((Below.refl _ _).alloc EB.size _)⟩
  case round =>
    clear BT BX EB zB HXR0 hxc
    obtain ⟨n, out, x, oa, oc, xa0, xa1, xa2, xp0, xp1, xp2, rfl, hn4, HON, HCH, HO, BT, BX, HXR, hxc, zr, EE⟩ := hrel
    obtain ⟨yv0, yv1, yv2, yhe, y_0, y_1, y_2, y_3, y_4, y_5, y_6⟩ := RData_raw HXR.out.1
    simp only [List.cons.injEq, and_true] at yhe
    obtain ⟨rfl, rfl, rfl⟩ := yhe
    have HX0 := Lib.hid y_0; have HX2 := Lib.hid y_3
    have HXK := Lib.hid (show RName.rd w _ x.2.2.1 from ⟨y_3, HXR.out.2.2.2.1⟩)
    clear y_0 y_1 y_2 y_3 y_4 y_5 y_6
    by_cases hlt : n < 4
    · have hltI : (n : Int) < 4 := by omega
      have hneI : ((n : Int) == 4) = false := by simp; omega
      have hneN : (n == 4) = false := by simp; omega
      replace HCH := Lib.hid (HCH.out.trans (by rw [show 4 - n = (3 - n) + 1 by omega]))
      have KBT_0 : wr.cell? ⟨w.heap.size, 0, none⟩ = some (.slice ta0 t.1.length tp0) := boxCell BT rfl
      have KBT_1 : wr.cell? ⟨w.heap.size, 1, none⟩ = some (.slice ta1 t.2.1.length tp1) := boxCell BT rfl
      have KBT_2 : wr.cell? ⟨w.heap.size, 2, none⟩ = some (.slice ta2 t.2.2.1.length tp2) := boxCell BT rfl
      have KBT_3 : wr.cell? ⟨w.heap.size, 3, none⟩ = some (.slice ta3 t.2.2.2.length tp3) := boxCell BT rfl
      have KBX_0 : wr.cell? ⟨w.heap.size + 1, 0, none⟩ = some (.slice xa0 x.1.length xp0) := boxCell BX rfl
      have KBX_1 : wr.cell? ⟨w.heap.size + 1, 1, none⟩ = some (.slice xa1 x.2.1.length xp1) := boxCell BX rfl
      have KBX_2 : wr.cell? ⟨w.heap.size + 1, 2, none⟩ = some (.slice xa2 x.2.2.1.length xp2) := boxCell BX rfl
      have KBX_3 : wr.cell? ⟨w.heap.size + 1, 3, none⟩ = some (.int .i64 x.2.2.2.1) := boxCell BX rfl
      have KBX_4 : wr.cell? ⟨w.heap.size + 1, 4, none⟩ = some (.int .i64 x.2.2.2.2) := boxCell BX rfl
      go_wp2_with fail
      refine (implVerifySignature_c (HTK.out.below EE) (HXR.out.below EE) hxc (cx := [.slice xa0 x.1.length xp0, .slice xa1 x.2.1.length xp1, .slice xa2 x.2.2.1.length xp2, .int .i64 x.2.2.2.1, .int .i64 x.2.2.2.2])).mono ?_
      rintro e w1 ⟨rfl, hb⟩
      have z_w1 := hb.size
      replace BT := keepBox BT hb
      replace BX := keepBox BX hb
      replace HO := Lib.hid (HO.out.below hb)
      replace EE := EE.trans (hb.mono EE.size)
      clear KBT_0 KBT_1 KBT_2 KBT_3 KBX_0 KBX_1 KBX_2 KBX_3 KBX_4
      clear hb
      have KBT_0 : w1.cell? ⟨w.heap.size, 0, none⟩ = some (.slice ta0 t.1.length tp0) := boxCell BT rfl
      have KBT_1 : w1.cell? ⟨w.heap.size, 1, none⟩ = some (.slice ta1 t.2.1.length tp1) := boxCell BT rfl
      have KBT_2 : w1.cell? ⟨w.heap.size, 2, none⟩ = some (.slice ta2 t.2.2.1.length tp2) := boxCell BT rfl
      have KBT_3 : w1.cell? ⟨w.heap.size, 3, none⟩ = some (.slice ta3 t.2.2.2.length tp3) := boxCell BT rfl
      have KBX_0 : w1.cell? ⟨w.heap.size + 1, 0, none⟩ = some (.slice xa0 x.1.length xp0) := boxCell BX rfl
      have KBX_1 : w1.cell? ⟨w.heap.size + 1, 1, none⟩ = some (.slice xa1 x.2.1.length xp1) := boxCell BX rfl
      have KBX_2 : w1.cell? ⟨w.heap.size + 1, 2, none⟩ = some (.slice xa2 x.2.2.1.length xp2) := boxCell BX rfl
      have KBX_3 : w1.cell? ⟨w.heap.size + 1, 3, none⟩ = some (.int .i64 x.2.2.2.1) := boxCell BX rfl
      have KBX_4 : w1.cell? ⟨w.heap.size + 1, 4, none⟩ = some (.int .i64 x.2.2.2.2) := boxCell BX rfl
      cases hv : verS t.1 x
      · have HF : Hid (chainOk t now 4 x0 = false) := Lib.hid (HCH.out.trans (ch_ver hv))
        clear hv
        go_wp2
        refine bodyPost_ret (v := .tuple #[.slice none 0 0, .bool false]) (by simp [results, Tryz.results113, go_sem]) rfl ?_
        exact ⟨_, by rw [HF.out], EE⟩

      have HV := Lib.hid hv
      clear hv
      go_wp2_with fail
      refine (implAllowed_w (HTR.out.below EE) (HX0.out.below EE) (HX2.out.below EE) (cn := [.slice xa0 x.1.length xp0]) (cm := [.slice xa2 x.2.2.1.length xp2])).mono ?_
      rintro e w2 ⟨rfl, hb⟩
      have z_w2 := hb.size
      replace BT := keepBox BT hb
      replace BX := keepBox BX hb
      replace HO := Lib.hid (HO.out.below hb)
      replace EE := EE.trans (hb.mono EE.size)
      clear KBT_0 KBT_1 KBT_2 KBT_3 KBX_0 KBX_1 KBX_2 KBX_3 KBX_4
      clear hb
      cases ha : allowedR t.2.1 x.1 x.2.2.1
      · have HF : Hid (chainOk t now 4 x0 = false) := Lib.hid (HCH.out.trans (ch_all ha))
        clear ha
        go_wp2
        refine bodyPost_ret (v := .tuple #[.slice none 0 0, .bool false]) (by simp [results, Tryz.results113, go_sem]) rfl ?_
        exact ⟨_, by rw [HF.out], EE⟩

      have HA := Lib.hid ha
      clear ha
      have KBX_0 : w2.cell? ⟨w.heap.size + 1, 0, none⟩ = some (.slice xa0 x.1.length xp0) := boxCell BX rfl
      have KBX_1 : w2.cell? ⟨w.heap.size + 1, 1, none⟩ = some (.slice xa1 x.2.1.length xp1) := boxCell BX rfl
      have KBX_2 : w2.cell? ⟨w.heap.size + 1, 2, none⟩ = some (.slice xa2 x.2.2.1.length xp2) := boxCell BX rfl
      have KBX_3 : w2.cell? ⟨w.heap.size + 1, 3, none⟩ = some (.int .i64 x.2.2.2.1) := boxCell BX rfl
      have KBX_4 : w2.cell? ⟨w.heap.size + 1, 4, none⟩ = some (.int .i64 x.2.2.2.2) := boxCell BX rfl
      go_wp2_with fail
      refine (implcopyName_c (HXK.out.below EE) (ca := [.slice xa2 x.2.2.1.length xp2])).mono ?_
      rintro e w3 ⟨cs, rfl, O, hb⟩
      have z_w3 := hb.size
      replace BT := keepBox BT hb
      replace BX := keepBox BX hb
      replace HO := Lib.hid (HO.out.below hb)
      replace EE := EE.trans (hb.mono EE.size)
      clear KBX_0 KBX_1 KBX_2 KBX_3 KBX_4
      clear hb
      obtain ⟨v0, rfl, o_0⟩ := RName_raw O.raw
      obtain ⟨na, nc, hv0, _⟩ := Rep.len_raw o_0; obtain rfl : v0 = _ := by simpa using hv0
      clear hv0 o_0
      have HN := Lib.hid O
      clear O
      have RB := Lib.hid HN.out.rdB
      have KBT_0 : w3.cell? ⟨w.heap.size, 0, none⟩ = some (.slice ta0 t.1.length tp0) := boxCell BT rfl
      have KBT_1 : w3.cell? ⟨w.heap.size, 1, none⟩ = some (.slice ta1 t.2.1.length tp1) := boxCell BT rfl
      have KBT_2 : w3.cell? ⟨w.heap.size, 2, none⟩ = some (.slice ta2 t.2.2.1.length tp2) := boxCell BT rfl
      have KBT_3 : w3.cell? ⟨w.heap.size, 3, none⟩ = some (.slice ta3 t.2.2.2.length tp3) := boxCell BT rfl
      have KBX_0 : w3.cell? ⟨w.heap.size + 1, 0, none⟩ = some (.slice xa0 x.1.length xp0) := boxCell BX rfl
      have KBX_1 : w3.cell? ⟨w.heap.size + 1, 1, none⟩ = some (.slice xa1 x.2.1.length xp1) := boxCell BX rfl
      have KBX_2 : w3.cell? ⟨w.heap.size + 1, 2, none⟩ = some (.slice xa2 x.2.2.1.length xp2) := boxCell BX rfl
      have KBX_3 : w3.cell? ⟨w.heap.size + 1, 3, none⟩ = some (.int .i64 x.2.2.2.1) := boxCell BX rfl
      have KBX_4 : w3.cell? ⟨w.heap.size + 1, 4, none⟩ = some (.int .i64 x.2.2.2.2) := boxCell BX rfl
      go_wp2_with (at_builtin; refine Rep.wpList_push1 rfl _ _ 60 rfl (r := RName) (e := 64) Tryz.underlying60 infName rfl (by decide) (by decide) (w := w3) HO.out (by rfl) (by rfl) rfl HN.out rfl (fun k h1 h2 => by have := h1.2; have := h2.1; omega) (by have := HON.out; omega) ?_)
      intro v5 w4 hQ hTQ
      have hT : Touch (fun k => w.heap.size + 2 ≤ k ∧ k < wr.heap.size) w3 w4 := (Touch.of_below ((Below.refl _ _).alloc (Nat.le_refl _) _)).trans (hTQ.wide (fun j q => q.2))
      have z_w4 := hT.size
      obtain ⟨oa5, n5, oc5, hv5, HN5⟩ := hQ.parts
      obtain rfl := hv5
      have hn5 : n5 = n + 1 := by have h1 := HN5.out; have h2 := HON.out; simp at h1; omega
      have HON5 := Lib.hid HN5.out
      clear HN5
      have HQ := Lib.hid (hQ.wide (T := Btw (w.heap.size + 2) w4.heap.size) (fun j q => by rcases q with q | q | q <;> (have := q.1; have := q.2; exact ⟨by omega, by omega⟩)))
      clear hQ hTQ HO HN
      replace BT := hT.keepBox BT (by omega)
      replace BX := hT.keepBox BX (by omega)
      replace RB := Lib.hid (RB.out.touch hT (fun k hk => by have := hk.1; have := hk.2; omega))
      replace EE := EE.trans (hT.below EE.size (fun k hk => by omega))
      clear KBT_0 KBT_1 KBT_2 KBT_3 KBX_0 KBX_1 KBX_2 KBX_3 KBX_4
      clear hT
      subst hn5
      have KBT_0 : w4.cell? ⟨w.heap.size, 0, none⟩ = some (.slice ta0 t.1.length tp0) := boxCell BT rfl
      have KBT_1 : w4.cell? ⟨w.heap.size, 1, none⟩ = some (.slice ta1 t.2.1.length tp1) := boxCell BT rfl
      have KBT_2 : w4.cell? ⟨w.heap.size, 2, none⟩ = some (.slice ta2 t.2.2.1.length tp2) := boxCell BT rfl
      have KBT_3 : w4.cell? ⟨w.heap.size, 3, none⟩ = some (.slice ta3 t.2.2.2.length tp3) := boxCell BT rfl
      have KBX_0 : w4.cell? ⟨w.heap.size + 1, 0, none⟩ = some (.slice xa0 x.1.length xp0) := boxCell BX rfl
      have KBX_1 : w4.cell? ⟨w.heap.size + 1, 1, none⟩ = some (.slice xa1 x.2.1.length xp1) := boxCell BX rfl
      have KBX_2 : w4.cell? ⟨w.heap.size + 1, 2, none⟩ = some (.slice xa2 x.2.2.1.length xp2) := boxCell BX rfl
      have KBX_3 : w4.cell? ⟨w.heap.size + 1, 3, none⟩ = some (.int .i64 x.2.2.2.1) := boxCell BX rfl
      have KBX_4 : w4.cell? ⟨w.heap.size + 1, 4, none⟩ = some (.int .i64 x.2.2.2.2) := boxCell BX rfl
      go_wp2_with fail
      refine (implIsAnchor_c (HTP.out.1.below EE) (HX2.out.below EE) (cn := [.slice xa2 x.2.2.1.length xp2]) (ct := [.slice ta0 t.1.length tp0, .slice ta1 t.2.1.length tp1, .slice ta2 t.2.2.1.length tp2, .slice ta3 t.2.2.2.length tp3])).mono ?_
      rintro e w5 ⟨rfl, hb⟩
      have z_w5 := hb.size
      replace BT := keepBox BT hb
      replace BX := keepBox BX hb
      replace RB := Lib.hid (RB.out.below hb)
      replace HQ := Lib.hid (HQ.out.below hb)
      replace EE := EE.trans (hb.mono EE.size)
      clear KBT_0 KBT_1 KBT_2 KBT_3 KBX_0 KBX_1 KBX_2 KBX_3 KBX_4
      clear hb
      cases han : isAnc t x.2.2.1
      case true =>
        have HF : Hid (chainOk t now 4 x0 = true) := Lib.hid (HCH.out.trans (ch_anc HV.out HA.out han))
        clear han
        go_wp2
        refine bodyPost_ret (v := .tuple #[.slice oa5 (n + 1) oc5, .bool true]) (by simp [results, Tryz.results113, go_sem]) rfl ?_
        exact ⟨_, by rw [HF.out], EE⟩

      have HAN := Lib.hid han
      clear han
      have KBT_0 : w5.cell? ⟨w.heap.size, 0, none⟩ = some (.slice ta0 t.1.length tp0) := boxCell BT rfl
      have KBT_1 : w5.cell? ⟨w.heap.size, 1, none⟩ = some (.slice ta1 t.2.1.length tp1) := boxCell BT rfl
      have KBT_2 : w5.cell? ⟨w.heap.size, 2, none⟩ = some (.slice ta2 t.2.2.1.length tp2) := boxCell BT rfl
      have KBT_3 : w5.cell? ⟨w.heap.size, 3, none⟩ = some (.slice ta3 t.2.2.2.length tp3) := boxCell BT rfl
      have KBX_0 : w5.cell? ⟨w.heap.size + 1, 0, none⟩ = some (.slice xa0 x.1.length xp0) := boxCell BX rfl
      have KBX_1 : w5.cell? ⟨w.heap.size + 1, 1, none⟩ = some (.slice xa1 x.2.1.length xp1) := boxCell BX rfl
      have KBX_2 : w5.cell? ⟨w.heap.size + 1, 2, none⟩ = some (.slice xa2 x.2.2.1.length xp2) := boxCell BX rfl
      have KBX_3 : w5.cell? ⟨w.heap.size + 1, 3, none⟩ = some (.int .i64 x.2.2.2.1) := boxCell BX rfl
      have KBX_4 : w5.cell? ⟨w.heap.size + 1, 4, none⟩ = some (.int .i64 x.2.2.2.2) := boxCell BX rfl
      go_wp2_with fail
      refine (implFindCertificate_c (HTP.out.below EE) HBC.out (HX2.out.below EE) (cn := [.slice xa2 x.2.2.1.length xp2]) (ct := [.slice ta0 t.1.length tp0, .slice ta1 t.2.1.length tp1, .slice ta2 t.2.2.1.length tp2, .slice ta3 t.2.2.2.length tp3])).mono ?_
      rintro e w6 ⟨rfl, hb⟩
      have z_w6 := hb.size
      replace BT := keepBox BT hb
      replace BX := keepBox BX hb
      replace RB := Lib.hid (RB.out.below hb)
      replace HQ := Lib.hid (HQ.out.below hb)
      replace EE := EE.trans (hb.mono EE.size)
      clear KBT_0 KBT_1 KBT_2 KBT_3 KBX_0 KBX_1 KBX_2 KBX_3 KBX_4
      clear hb
      by_cases hi : findCert t x.2.2.1 now < 0
      · have HF : Hid (chainOk t now 4 x0 = false) := Lib.hid (HCH.out.trans (ch_none HAN.out hi))
        go_wp2
        refine bodyPost_ret (v := .tuple #[.slice none 0 0, .bool false]) (by simp [results, Tryz.results113, go_sem]) rfl ?_
        exact ⟨_, by rw [HF.out], EE⟩

      obtain ⟨j, hj, hji⟩ := fc_ge hi
      have HCN := Lib.hid (HCH.out.trans (ch_next HV.out HA.out HAN.out hj hji))
      have hbd := HBD.out j hj
      have hbc := HBC.out j hj
      obtain ⟨qb, qo, hqe, qc0, qc1, qc2, qc3, qc4, qr, Aq0, Aq1, Aq2, Aq3, Aq4⟩ := Rep.get5 HTC.out hj rfl
      obtain rfl := hqe
      rw [hji]
      clear hji hi
      generalize t.2.2.2[j] = y at *
      have HYR := Lib.hid (show RData.rd w _ y from ⟨qr, hbd⟩)
      obtain ⟨qv0, qv1, qv2, qhe, q_0, q_1, q_2, q_3, q_4, q_5, q_6⟩ := RData_raw qr
      simp only [List.cons.injEq, and_true] at qhe
      obtain ⟨rfl, rfl, rfl, rfl, rfl⟩ := qhe
      obtain ⟨qa0, qp0, qh0, _⟩ := Rep.len_raw q_1; obtain rfl : qc0 = _ := by simpa using qh0
      obtain ⟨qa1, qp1, qh1, _⟩ := Rep.len_raw q_2; obtain rfl : qc1 = _ := by simpa using qh1
      obtain ⟨qa2, qp2, qh2, _⟩ := Rep.len_raw q_4; obtain rfl : qc2 = _ := by simpa using qh2
      clear qh0 qh1 qh2 q_0 q_1 q_2 q_3 q_4 q_5 q_6 qr hbd
      replace Aq0 := cell_later EE Aq0
      replace Aq1 := cell_later EE Aq1
      replace Aq2 := cell_later EE Aq2
      replace Aq3 := cell_later EE Aq3
      replace Aq4 := cell_later EE Aq4
      have hjI : (j : Int) < t.2.2.2.length := by omega
      have hjz := Int.natCast_nonneg j
      have hj0 : ¬ ((j : Int) < 0) := by omega
      have KBT_0 : w6.cell? ⟨w.heap.size, 0, none⟩ = some (.slice ta0 t.1.length tp0) := boxCell BT rfl
      have KBT_1 : w6.cell? ⟨w.heap.size, 1, none⟩ = some (.slice ta1 t.2.1.length tp1) := boxCell BT rfl
      have KBT_2 : w6.cell? ⟨w.heap.size, 2, none⟩ = some (.slice ta2 t.2.2.1.length tp2) := boxCell BT rfl
      have KBT_3 : w6.cell? ⟨w.heap.size, 3, none⟩ = some (.slice (some ⟨qb, qo, none⟩) t.2.2.2.length tp3) := boxCell BT rfl
      have KBX_0 : w6.cell? ⟨w.heap.size + 1, 0, none⟩ = some (.slice xa0 x.1.length xp0) := boxCell BX rfl
      have KBX_1 : w6.cell? ⟨w.heap.size + 1, 1, none⟩ = some (.slice xa1 x.2.1.length xp1) := boxCell BX rfl
      have KBX_2 : w6.cell? ⟨w.heap.size + 1, 2, none⟩ = some (.slice xa2 x.2.2.1.length xp2) := boxCell BX rfl
      have KBX_3 : w6.cell? ⟨w.heap.size + 1, 3, none⟩ = some (.int .i64 x.2.2.2.1) := boxCell BX rfl
      have KBX_4 : w6.cell? ⟨w.heap.size + 1, 4, none⟩ = some (.int .i64 x.2.2.2.2) := boxCell BX rfl
      have FBX_0 : w6.frozen? ⟨w.heap.size + 1, 0, none⟩ = false := frozen_of_row w6 (w.heap.size + 1) 0 _ _ BX
      have FBX_1 : w6.frozen? ⟨w.heap.size + 1, 1, none⟩ = false := frozen_of_row w6 (w.heap.size + 1) 1 _ _ BX
      have FBX_2 : w6.frozen? ⟨w.heap.size + 1, 2, none⟩ = false := frozen_of_row w6 (w.heap.size + 1) 2 _ _ BX
      have FBX_3 : w6.frozen? ⟨w.heap.size + 1, 3, none⟩ = false := frozen_of_row w6 (w.heap.size + 1) 3 _ _ BX
      have FBX_4 : w6.frozen? ⟨w.heap.size + 1, 4, none⟩ = false := frozen_of_row w6 (w.heap.size + 1) 4 _ _ BX
      go_wp2
      generalize hw_ : World.setCell (World.setCell (World.setCell (World.setCell (World.setCell w6 _ _) _ _) _ _) _ _) _ _ = w7
      have T_w7 : Touch (fun k => k = w.heap.size + 1) w6 w7 := by rw [← hw_]; exact ((((setCell_touch _ _ _ _).trans (setCell_touch _ _ _ _)).trans (setCell_touch _ _ _ _)).trans (setCell_touch _ _ _ _)).trans (setCell_touch _ _ _ _)
      have BY : w7.heap[w.heap.size + 1]? = some (.cells #[.slice qa0 y.1.length qp0, .slice qa1 y.2.1.length qp1, .slice qa2 y.2.2.1.length qp2, .int .i64 y.2.2.2.1, .int .i64 y.2.2.2.2] 66 (0, 0)) := by rw [← hw_]; exact setCell_row (setCell_row (setCell_row (setCell_row (setCell_row (BX) 0) 1) 2) 3) 4
      have z_w7 := T_w7.size
      clear hw_ Aq0 Aq1 Aq2 Aq3 Aq4
      replace BT := T_w7.keepBox BT (by omega)
      replace RB := Lib.hid (RB.out.touch T_w7 (fun k hk => by have := hk.1; have := hk.2; omega))
      replace HQ := Lib.hid (HQ.out.touch T_w7 (fun k hk => by have := hk.1; have := hk.2; omega))
      replace EE := EE.trans (T_w7.below EE.size (fun k hk => by omega))
      clear KBT_0 KBT_1 KBT_2 KBT_3 KBX_0 KBX_1 KBX_2 KBX_3 KBX_4 FBX_0 FBX_1 FBX_2 FBX_3 FBX_4
      go_roundw
      case rel => exact ⟨n + 1, _, y, oa5, oc5, qa0, qa1, qa2, qp0, qp1, qp2, rfl, by omega, HON5, Lib.hid (HCN.out.trans (by rw [show 3 - n = 4 - (n + 1) by omega])), Lib.hid (HQ.out.wide (fun j hj => ⟨hj.1, by have := hj.2; omega⟩)), BT, BY, HYR, hbc, by omega, EE⟩
      case measure => simp [slen]; omega

    · obtain rfl : n = 4 := by omega
      skip
      replace HCH := Lib.hid (show chainOk t now 4 x0 = false from HCH.out)
      have KBT_0 : wr.cell? ⟨w.heap.size, 0, none⟩ = some (.slice ta0 t.1.length tp0) := boxCell BT rfl
      have KBT_1 : wr.cell? ⟨w.heap.size, 1, none⟩ = some (.slice ta1 t.2.1.length tp1) := boxCell BT rfl
      have KBT_2 : wr.cell? ⟨w.heap.size, 2, none⟩ = some (.slice ta2 t.2.2.1.length tp2) := boxCell BT rfl
      have KBT_3 : wr.cell? ⟨w.heap.size, 3, none⟩ = some (.slice ta3 t.2.2.2.length tp3) := boxCell BT rfl
      have KBX_0 : wr.cell? ⟨w.heap.size + 1, 0, none⟩ = some (.slice xa0 x.1.length xp0) := boxCell BX rfl
      have KBX_1 : wr.cell? ⟨w.heap.size + 1, 1, none⟩ = some (.slice xa1 x.2.1.length xp1) := boxCell BX rfl
      have KBX_2 : wr.cell? ⟨w.heap.size + 1, 2, none⟩ = some (.slice xa2 x.2.2.1.length xp2) := boxCell BX rfl
      have KBX_3 : wr.cell? ⟨w.heap.size + 1, 3, none⟩ = some (.int .i64 x.2.2.2.1) := boxCell BX rfl
      have KBX_4 : wr.cell? ⟨w.heap.size + 1, 4, none⟩ = some (.int .i64 x.2.2.2.2) := boxCell BX rfl
      go_wp2_with fail
      refine (implVerifySignature_c (HTK.out.below EE) (HXR.out.below EE) hxc (cx := [.slice xa0 x.1.length xp0, .slice xa1 x.2.1.length xp1, .slice xa2 x.2.2.1.length xp2, .int .i64 x.2.2.2.1, .int .i64 x.2.2.2.2])).mono ?_
      rintro e w1 ⟨rfl, hb⟩
      have z_w1 := hb.size
      replace BT := keepBox BT hb
      replace BX := keepBox BX hb
      replace HO := Lib.hid (HO.out.below hb)
      replace EE := EE.trans (hb.mono EE.size)
      clear KBT_0 KBT_1 KBT_2 KBT_3 KBX_0 KBX_1 KBX_2 KBX_3 KBX_4
      clear hb
      have KBT_0 : w1.cell? ⟨w.heap.size, 0, none⟩ = some (.slice ta0 t.1.length tp0) := boxCell BT rfl
      have KBT_1 : w1.cell? ⟨w.heap.size, 1, none⟩ = some (.slice ta1 t.2.1.length tp1) := boxCell BT rfl
      have KBT_2 : w1.cell? ⟨w.heap.size, 2, none⟩ = some (.slice ta2 t.2.2.1.length tp2) := boxCell BT rfl
      have KBT_3 : w1.cell? ⟨w.heap.size, 3, none⟩ = some (.slice ta3 t.2.2.2.length tp3) := boxCell BT rfl
      have KBX_0 : w1.cell? ⟨w.heap.size + 1, 0, none⟩ = some (.slice xa0 x.1.length xp0) := boxCell BX rfl
      have KBX_1 : w1.cell? ⟨w.heap.size + 1, 1, none⟩ = some (.slice xa1 x.2.1.length xp1) := boxCell BX rfl
      have KBX_2 : w1.cell? ⟨w.heap.size + 1, 2, none⟩ = some (.slice xa2 x.2.2.1.length xp2) := boxCell BX rfl
      have KBX_3 : w1.cell? ⟨w.heap.size + 1, 3, none⟩ = some (.int .i64 x.2.2.2.1) := boxCell BX rfl
      have KBX_4 : w1.cell? ⟨w.heap.size + 1, 4, none⟩ = some (.int .i64 x.2.2.2.2) := boxCell BX rfl
      cases hv : verS t.1 x
      · have HF : Hid (chainOk t now 4 x0 = false) := Lib.hid (HCH.out)
        clear hv
        go_wp2
        refine bodyPost_ret (v := .tuple #[.slice none 0 0, .bool false]) (by simp [results, Tryz.results113, go_sem]) rfl ?_
        exact ⟨_, by rw [HF.out], EE⟩

      have HV := Lib.hid hv
      clear hv
      go_wp2_with fail
      refine (implAllowed_w (HTR.out.below EE) (HX0.out.below EE) (HX2.out.below EE) (cn := [.slice xa0 x.1.length xp0]) (cm := [.slice xa2 x.2.2.1.length xp2])).mono ?_
      rintro e w2 ⟨rfl, hb⟩
      have z_w2 := hb.size
      replace BT := keepBox BT hb
      replace BX := keepBox BX hb
      replace HO := Lib.hid (HO.out.below hb)
      replace EE := EE.trans (hb.mono EE.size)
      clear KBT_0 KBT_1 KBT_2 KBT_3 KBX_0 KBX_1 KBX_2 KBX_3 KBX_4
      clear hb
      cases ha : allowedR t.2.1 x.1 x.2.2.1
      · have HF : Hid (chainOk t now 4 x0 = false) := Lib.hid (HCH.out)
        clear ha
        go_wp2
        refine bodyPost_ret (v := .tuple #[.slice none 0 0, .bool false]) (by simp [results, Tryz.results113, go_sem]) rfl ?_
        exact ⟨_, by rw [HF.out], EE⟩

      have HA := Lib.hid ha
      clear ha
      go_wp2
      refine bodyPost_ret (v := .tuple #[.slice none 0 0, .bool false]) (by simp [results, Tryz.results113, go_sem]) rfl ?_
      exact ⟨_, by rw [HCH.out], EE⟩
set_option maxRecDepth 100000 in
set_option maxHeartbeats 2000000 in
theorem specIsTrusted_c {w : World} {ct : List Value} {t : LTrustPolicy} (ht0 : RTrustPolicy.rd w ct t) (hB : ∀ k (h : k < t.2.2.2.length), t.2.2.2[k].2.1.length ≤ 2000000) {cx : List Value} {x : LData} (hx : RData.rd w cx x) (hxc : x.2.1.length ≤ 2000000) {now : Int} :
    Calls Tryz.prog 36 #[.agg ct.toArray, .agg cx.toArray, .int .i64 now] w fun e w' => e = .returned (.bool (trusted t x now)) ∧ Below w.heap.size w w' := by
  have ht := ht0.1
  have hy := hx.1
  obtain ⟨tv0, tv1, tv2, tv3, rfl, t_0, t_1, t_2, t_3⟩ := RTrustPolicy_raw ht
  obtain ⟨ta0, tp0, th0, tl0⟩ := Rep.len_raw t_0; obtain rfl : tv0 = _ := by simpa using th0
  clear th0
  obtain ⟨ta1, tp1, th1, tl1⟩ := Rep.len_raw t_1; obtain rfl : tv1 = _ := by simpa using th1
  clear th1
  obtain ⟨ta2, tp2, th2, tl2⟩ := Rep.len_raw t_2; obtain rfl : tv2 = _ := by simpa using th2
  clear th2
  obtain ⟨ta3, tp3, th3, tl3⟩ := Rep.len_raw t_3; obtain rfl : tv3 = _ := by simpa using th3
  clear th3
  obtain ⟨xv0, xv1, xv2, rfl, x_0, x_1, x_2, x_3, x_4, x_5, x_6⟩ := RData_raw hy
  obtain ⟨xa0, xp0, xh0, xl0⟩ := Rep.len_raw x_1; obtain rfl : xv0 = _ := by simpa using xh0
  clear xh0
  obtain ⟨xa1, xp1, xh1, xl1⟩ := Rep.len_raw x_2; obtain rfl : xv1 = _ := by simpa using xh1
  clear xh1
  obtain ⟨xa2, xp2, xh2, xl2⟩ := Rep.len_raw x_4; obtain rfl : xv2 = _ := by simpa using xh2
  clear xh2
  have HTP := Lib.hid ht0; have HXR := Lib.hid hx; have HBC := Lib.hid hB
  have HT := Lib.hid (show trusted t x now = (okData x && chainOk t now 4 x) from rfl)
  clear ht0 hB hx ht hy t_0 t_1 t_2 t_3 x_0 x_1 x_2 x_3 x_4 x_5 x_6
  go_enter Tryz.func36, Tryz.ntmps36
  go_upto_region 1 with fail
  generalize hwB : World.alloc (World.alloc w _) _ = wB
  have EE : Below w.heap.size w wB := by rw [← hwB]; exact (by repeat (first | (with_reducible exact Below.refl _ _) | refine Below.alloc ?_ (by simp; try omega) _ | refine Below.drew ?_ | refine Below.setCell ?_ (by simp; try omega) _))
  have BT : wB.heap[w.heap.size]? = some (.cells #[.slice ta0 t.1.length tp0, .slice ta1 t.2.1.length tp1, .slice ta2 t.2.2.1.length tp2, .slice ta3 t.2.2.2.length tp3] 62 (0, 0)) := by rw [← hwB]; exact heap_keep (heap_new_at rfl)
  have BX : wB.heap[w.heap.size + 1]? = some (.cells #[.slice xa0 x.1.length xp0, .slice xa1 x.2.1.length xp1, .slice xa2 x.2.2.1.length xp2, .int .i64 x.2.2.2.1, .int .i64 x.2.2.2.2] 66 (0, 0)) := by rw [← hwB]; exact heap_new_at (by simp)
  clear hwB
  have KBT_0 : wB.cell? ⟨w.heap.size, 0, none⟩ = some (.slice ta0 t.1.length tp0) := boxCell BT rfl
  have KBT_1 : wB.cell? ⟨w.heap.size, 1, none⟩ = some (.slice ta1 t.2.1.length tp1) := boxCell BT rfl
  have KBT_2 : wB.cell? ⟨w.heap.size, 2, none⟩ = some (.slice ta2 t.2.2.1.length tp2) := boxCell BT rfl
  have KBT_3 : wB.cell? ⟨w.heap.size, 3, none⟩ = some (.slice ta3 t.2.2.2.length tp3) := boxCell BT rfl
  have KBX_0 : wB.cell? ⟨w.heap.size + 1, 0, none⟩ = some (.slice xa0 x.1.length xp0) := boxCell BX rfl
  have KBX_1 : wB.cell? ⟨w.heap.size + 1, 1, none⟩ = some (.slice xa1 x.2.1.length xp1) := boxCell BX rfl
  have KBX_2 : wB.cell? ⟨w.heap.size + 1, 2, none⟩ = some (.slice xa2 x.2.2.1.length xp2) := boxCell BX rfl
  have KBX_3 : wB.cell? ⟨w.heap.size + 1, 3, none⟩ = some (.int .i64 x.2.2.2.1) := boxCell BX rfl
  have KBX_4 : wB.cell? ⟨w.heap.size + 1, 4, none⟩ = some (.int .i64 x.2.2.2.2) := boxCell BX rfl
  go_wp2_with fail
  refine (specTrustChain_c (HTP.out.below EE) HBC.out (HXR.out.below EE) hxc (ct := [.slice ta0 t.1.length tp0, .slice ta1 t.2.1.length tp1, .slice ta2 t.2.2.1.length tp2, .slice ta3 t.2.2.2.length tp3]) (cx := [.slice xa0 x.1.length xp0, .slice xa1 x.2.1.length xp1, .slice xa2 x.2.2.1.length xp2, .int .i64 x.2.2.2.1, .int .i64 x.2.2.2.2])).mono ?_
  rintro e w1 ⟨v_, rfl, hb⟩
  have z_w1 := hb.size
  replace BT := keepBox BT hb
  replace BX := keepBox BX hb
  replace EE := EE.trans (hb.mono EE.size)
  clear KBT_0 KBT_1 KBT_2 KBT_3 KBX_0 KBX_1 KBX_2 KBX_3 KBX_4
  clear hb
  generalize chainOk t now 4 x = ch at *
  have KBT_0 : w1.cell? ⟨w.heap.size, 0, none⟩ = some (.slice ta0 t.1.length tp0) := boxCell BT rfl
  have KBT_1 : w1.cell? ⟨w.heap.size, 1, none⟩ = some (.slice ta1 t.2.1.length tp1) := boxCell BT rfl
  have KBT_2 : w1.cell? ⟨w.heap.size, 2, none⟩ = some (.slice ta2 t.2.2.1.length tp2) := boxCell BT rfl
  have KBT_3 : w1.cell? ⟨w.heap.size, 3, none⟩ = some (.slice ta3 t.2.2.2.length tp3) := boxCell BT rfl
  have KBX_0 : w1.cell? ⟨w.heap.size + 1, 0, none⟩ = some (.slice xa0 x.1.length xp0) := boxCell BX rfl
  have KBX_1 : w1.cell? ⟨w.heap.size + 1, 1, none⟩ = some (.slice xa1 x.2.1.length xp1) := boxCell BX rfl
  have KBX_2 : w1.cell? ⟨w.heap.size + 1, 2, none⟩ = some (.slice xa2 x.2.2.1.length xp2) := boxCell BX rfl
  have KBX_3 : w1.cell? ⟨w.heap.size + 1, 3, none⟩ = some (.int .i64 x.2.2.2.1) := boxCell BX rfl
  have KBX_4 : w1.cell? ⟨w.heap.size + 1, 4, none⟩ = some (.int .i64 x.2.2.2.2) := boxCell BX rfl
  go_wp2_with fail
  refine (specValidData_w (HXR.out.1.below EE) (cx := [.slice xa0 x.1.length xp0, .slice xa1 x.2.1.length xp1, .slice xa2 x.2.2.1.length xp2, .int .i64 x.2.2.2.1, .int .i64 x.2.2.2.2])).mono ?_
  rintro e w2 ⟨rfl, hb⟩
  have z_w2 := hb.size
  replace BT := keepBox BT hb
  replace BX := keepBox BX hb
  replace EE := EE.trans (hb.mono EE.size)
  clear KBT_0 KBT_1 KBT_2 KBT_3 KBX_0 KBX_1 KBX_2 KBX_3 KBX_4
  clear hb
  cases hv : okData x
  · have HU : Hid (trusted t x now = false) := Lib.hid (by rw [HT.out, hv]; rfl)
    clear hv
    go_wp2
    go_ret
    exact ⟨ret_bool HU.out.symm, EE⟩
  have HU : Hid (trusted t x now = ch) := Lib.hid (by rw [HT.out, hv]; rfl)
  clear hv
  go_wp2
  go_ret
  exact ⟨ret_bool HU.out.symm, EE⟩
set_option maxRecDepth 100000 in
set_option maxHeartbeats 2000000 in
theorem specIsSolicited_w {w : World} {cx : List Value} {x : LNode} (hx : RNode.rd w cx x) {ct : List Value} {t : LTrustPolicy} (ht0 : RTrustPolicy.rd w ct t) (hB : ∀ k (h : k < t.2.2.2.length), t.2.2.2[k].2.1.length ≤ 2000000) {cy : List Value} {y : LData} (hy0 : RData.rd w cy y) (hyc : y.2.1.length ≤ 2000000) {now : Int} :
    Calls Tryz.prog 8 #[.agg cx.toArray, .agg ct.toArray, .agg cy.toArray, .int .i64 now] w fun e w' => e = .returned (.bool (solicited x t y now)) ∧ Below w.heap.size w w' := by
  have ht := ht0.1
  have hy := hy0.1
  have hn := hx.1
  obtain ⟨xv0, xv2, xv3, xv4, xv5, xv6, rfl, x_0, x_1, x_2, x_3, x_4, x_5, x_6, x_7, x_8⟩ := RNode_raw hn
  obtain ⟨xa0, xp0, xh0, xl0⟩ := Rep.len_raw x_0; obtain rfl : xv0 = _ := by simpa using xh0
  clear xh0
  obtain ⟨xa2, xp2, xh2, xl2⟩ := Rep.len_raw x_3; obtain rfl : xv2 = _ := by simpa using xh2
  clear xh2
  obtain ⟨xa3, xp3, xh3, xl3⟩ := Rep.len_raw x_4; obtain rfl : xv3 = _ := by simpa using xh3
  clear xh3
  obtain ⟨xa4, xp4, xh4, xl4⟩ := Rep.len_raw x_5; obtain rfl : xv4 = _ := by simpa using xh4
  clear xh4
  obtain ⟨xa5, xp5, xh5, xl5⟩ := Rep.len_raw x_6; obtain rfl : xv5 = _ := by simpa using xh5
  clear xh5
  obtain ⟨xa6, xp6, xh6, xl6⟩ := Rep.len_raw x_7; obtain rfl : xv6 = _ := by simpa using xh6
  clear xh6
  obtain ⟨tv0, tv1, tv2, tv3, rfl, t_0, t_1, t_2, t_3⟩ := RTrustPolicy_raw ht
  obtain ⟨ta0, tp0, th0, tl0⟩ := Rep.len_raw t_0; obtain rfl : tv0 = _ := by simpa using th0
  clear th0
  obtain ⟨ta1, tp1, th1, tl1⟩ := Rep.len_raw t_1; obtain rfl : tv1 = _ := by simpa using th1
  clear th1
  obtain ⟨ta2, tp2, th2, tl2⟩ := Rep.len_raw t_2; obtain rfl : tv2 = _ := by simpa using th2
  clear th2
  obtain ⟨ta3, tp3, th3, tl3⟩ := Rep.len_raw t_3; obtain rfl : tv3 = _ := by simpa using th3
  clear th3
  obtain ⟨yv0, yv1, yv2, rfl, y_0, y_1, y_2, y_3, y_4, y_5, y_6⟩ := RData_raw hy
  obtain ⟨ya0, yp0, yh0, yl0⟩ := Rep.len_raw y_1; obtain rfl : yv0 = _ := by simpa using yh0
  clear yh0
  obtain ⟨ya1, yp1, yh1, yl1⟩ := Rep.len_raw y_2; obtain rfl : yv1 = _ := by simpa using yh1
  clear yh1
  obtain ⟨ya2, yp2, yh2, yl2⟩ := Rep.len_raw y_4; obtain rfl : yv2 = _ := by simpa using yh2
  clear yh2
  have HTP := Lib.hid ht0; have HYR := Lib.hid hy0; have HBC := Lib.hid hB; have HP := Lib.hid x_4; have HY0 := Lib.hid y_0
  have HT := Lib.hid (show solicited x t y now = (hasP x.2.2.1 y.1 && trusted t y now) from rfl)
  clear ht0 hB hx ht hy hn hy0 x_0 x_1 x_2 x_3 x_4 x_5 x_6 x_7 x_8 t_0 t_1 t_2 t_3 y_0 y_1 y_2 y_3 y_4 y_5 y_6
  go_enter Tryz.func8, Tryz.ntmps8
  go_upto_region 1 with fail
  generalize hwB : World.alloc (World.alloc (World.alloc w _) _) _ = wB
  have EE : Below w.heap.size w wB := by rw [← hwB]; exact (by repeat (first | (with_reducible exact Below.refl _ _) | refine Below.alloc ?_ (by simp; try omega) _ | refine Below.drew ?_ | refine Below.setCell ?_ (by simp; try omega) _))
  have BN : wB.heap[w.heap.size]? = some (.cells #[.slice xa0 (x.1).length xp0, .int .i64 x.2.1.1, .slice xa2 (x.2.1.2).length xp2, .slice xa3 (x.2.2.1).length xp3, .slice xa4 (x.2.2.2.1).length xp4, .slice xa5 (x.2.2.2.2.1).length xp5, .slice xa6 (x.2.2.2.2.2.1).length xp6, .int .i64 x.2.2.2.2.2.2] 56 (0, 0)) := by rw [← hwB]; exact heap_keep (heap_keep (heap_new_at rfl))
  have BT : wB.heap[w.heap.size + 1]? = some (.cells #[.slice ta0 t.1.length tp0, .slice ta1 t.2.1.length tp1, .slice ta2 t.2.2.1.length tp2, .slice ta3 t.2.2.2.length tp3] 62 (0, 0)) := by rw [← hwB]; exact heap_keep (heap_new_at (by simp))
  have BX : wB.heap[w.heap.size + 1 + 1]? = some (.cells #[.slice ya0 y.1.length yp0, .slice ya1 y.2.1.length yp1, .slice ya2 y.2.2.1.length yp2, .int .i64 y.2.2.2.1, .int .i64 y.2.2.2.2] 66 (0, 0)) := by rw [← hwB]; exact heap_new_at (by simp)
  clear hwB
  have KBN_0 : wB.cell? ⟨w.heap.size, 0, none⟩ = some (.slice xa0 (x.1).length xp0) := boxCell BN rfl
  have KBN_1 : wB.cell? ⟨w.heap.size, 1, none⟩ = some (.int .i64 x.2.1.1) := boxCell BN rfl
  have KBN_2 : wB.cell? ⟨w.heap.size, 2, none⟩ = some (.slice xa2 (x.2.1.2).length xp2) := boxCell BN rfl
  have KBN_3 : wB.cell? ⟨w.heap.size, 3, none⟩ = some (.slice xa3 (x.2.2.1).length xp3) := boxCell BN rfl
  have KBN_4 : wB.cell? ⟨w.heap.size, 4, none⟩ = some (.slice xa4 (x.2.2.2.1).length xp4) := boxCell BN rfl
  have KBN_5 : wB.cell? ⟨w.heap.size, 5, none⟩ = some (.slice xa5 (x.2.2.2.2.1).length xp5) := boxCell BN rfl
  have KBN_6 : wB.cell? ⟨w.heap.size, 6, none⟩ = some (.slice xa6 (x.2.2.2.2.2.1).length xp6) := boxCell BN rfl
  have KBN_7 : wB.cell? ⟨w.heap.size, 7, none⟩ = some (.int .i64 x.2.2.2.2.2.2) := boxCell BN rfl
  have KBT_0 : wB.cell? ⟨w.heap.size + 1, 0, none⟩ = some (.slice ta0 t.1.length tp0) := boxCell BT rfl
  have KBT_1 : wB.cell? ⟨w.heap.size + 1, 1, none⟩ = some (.slice ta1 t.2.1.length tp1) := boxCell BT rfl
  have KBT_2 : wB.cell? ⟨w.heap.size + 1, 2, none⟩ = some (.slice ta2 t.2.2.1.length tp2) := boxCell BT rfl
  have KBT_3 : wB.cell? ⟨w.heap.size + 1, 3, none⟩ = some (.slice ta3 t.2.2.2.length tp3) := boxCell BT rfl
  have KBX_0 : wB.cell? ⟨w.heap.size + 1 + 1, 0, none⟩ = some (.slice ya0 y.1.length yp0) := boxCell BX rfl
  have KBX_1 : wB.cell? ⟨w.heap.size + 1 + 1, 1, none⟩ = some (.slice ya1 y.2.1.length yp1) := boxCell BX rfl
  have KBX_2 : wB.cell? ⟨w.heap.size + 1 + 1, 2, none⟩ = some (.slice ya2 y.2.2.1.length yp2) := boxCell BX rfl
  have KBX_3 : wB.cell? ⟨w.heap.size + 1 + 1, 3, none⟩ = some (.int .i64 y.2.2.2.1) := boxCell BX rfl
  have KBX_4 : wB.cell? ⟨w.heap.size + 1 + 1, 4, none⟩ = some (.int .i64 y.2.2.2.2) := boxCell BX rfl
  go_wp2_with fail
  refine (specHasPending_c (HP.out.below EE) (HY0.out.below EE) (cn := [.slice ya0 y.1.length yp0])).mono ?_
  rintro e w1 ⟨rfl, hb⟩
  have z_w1 := hb.size
  replace BN := keepBox BN hb
  replace BT := keepBox BT hb
  replace BX := keepBox BX hb
  replace EE := EE.trans (hb.mono EE.size)
  clear KBN_0 KBN_1 KBN_2 KBN_3 KBN_4 KBN_5 KBN_6 KBN_7 KBT_0 KBT_1 KBT_2 KBT_3 KBX_0 KBX_1 KBX_2 KBX_3 KBX_4
  clear hb
  cases hh : hasP x.2.2.1 y.1
  · have HU : Hid (solicited x t y now = false) := Lib.hid (by rw [HT.out, hh]; rfl)
    have hh2 : decide (0 ≤ idxOf (isPend y.1) x.2.2.1) = false := hh
    clear hh
    go_wp2
    go_ret
    exact ⟨ret_bool HU.out.symm, EE⟩
  have HU : Hid (solicited x t y now = trusted t y now) := Lib.hid (by rw [HT.out, hh]; rfl)
  have hh2 : decide (0 ≤ idxOf (isPend y.1) x.2.2.1) = true := hh
  clear hh
  have KBT_0 : w1.cell? ⟨w.heap.size + 1, 0, none⟩ = some (.slice ta0 t.1.length tp0) := boxCell BT rfl
  have KBT_1 : w1.cell? ⟨w.heap.size + 1, 1, none⟩ = some (.slice ta1 t.2.1.length tp1) := boxCell BT rfl
  have KBT_2 : w1.cell? ⟨w.heap.size + 1, 2, none⟩ = some (.slice ta2 t.2.2.1.length tp2) := boxCell BT rfl
  have KBT_3 : w1.cell? ⟨w.heap.size + 1, 3, none⟩ = some (.slice ta3 t.2.2.2.length tp3) := boxCell BT rfl
  have KBX_0 : w1.cell? ⟨w.heap.size + 1 + 1, 0, none⟩ = some (.slice ya0 y.1.length yp0) := boxCell BX rfl
  have KBX_1 : w1.cell? ⟨w.heap.size + 1 + 1, 1, none⟩ = some (.slice ya1 y.2.1.length yp1) := boxCell BX rfl
  have KBX_2 : w1.cell? ⟨w.heap.size + 1 + 1, 2, none⟩ = some (.slice ya2 y.2.2.1.length yp2) := boxCell BX rfl
  have KBX_3 : w1.cell? ⟨w.heap.size + 1 + 1, 3, none⟩ = some (.int .i64 y.2.2.2.1) := boxCell BX rfl
  have KBX_4 : w1.cell? ⟨w.heap.size + 1 + 1, 4, none⟩ = some (.int .i64 y.2.2.2.2) := boxCell BX rfl
  go_wp2_with fail
  refine (specIsTrusted_c (HTP.out.below EE) HBC.out (HYR.out.below EE) hyc (ct := [.slice ta0 t.1.length tp0, .slice ta1 t.2.1.length tp1, .slice ta2 t.2.2.1.length tp2, .slice ta3 t.2.2.2.length tp3]) (cx := [.slice ya0 y.1.length yp0, .slice ya1 y.2.1.length yp1, .slice ya2 y.2.2.1.length yp2, .int .i64 y.2.2.2.1, .int .i64 y.2.2.2.2])).mono ?_
  rintro e w2 ⟨rfl, hb⟩
  have z_w2 := hb.size
  replace BN := keepBox BN hb
  replace BT := keepBox BT hb
  replace BX := keepBox BX hb
  replace EE := EE.trans (hb.mono EE.size)
  clear KBT_0 KBT_1 KBT_2 KBT_3 KBX_0 KBX_1 KBX_2 KBX_3 KBX_4
  clear hb
  go_wp2
  go_ret
  exact ⟨ret_bool HU.out.symm, EE⟩
set_option maxRecDepth 100000 in
set_option maxHeartbeats 2000000 in
theorem implIsTrusted_c {w : World} {ct : List Value} {t : LTrustPolicy} (ht0 : RTrustPolicy.rd w ct t) (hB : ∀ k (h : k < t.2.2.2.length), t.2.2.2[k].2.1.length ≤ 2000000) {cx : List Value} {x : LData} (hx : RData.rd w cx x) (hxc : x.2.1.length ≤ 2000000) {now : Int} :
    Calls Tryz.prog 49 #[.agg ct.toArray, .agg cx.toArray, .int .i64 now] w fun e w' => e = .returned (.bool (trusted t x now)) ∧ Below w.heap.size w w' := by
  have ht := ht0.1
  have hy := hx.1
  obtain ⟨tv0, tv1, tv2, tv3, rfl, t_0, t_1, t_2, t_3⟩ := RTrustPolicy_raw ht
  obtain ⟨ta0, tp0, th0, tl0⟩ := Rep.len_raw t_0; obtain rfl : tv0 = _ := by simpa using th0
  clear th0
  obtain ⟨ta1, tp1, th1, tl1⟩ := Rep.len_raw t_1; obtain rfl : tv1 = _ := by simpa using th1
  clear th1
  obtain ⟨ta2, tp2, th2, tl2⟩ := Rep.len_raw t_2; obtain rfl : tv2 = _ := by simpa using th2
  clear th2
  obtain ⟨ta3, tp3, th3, tl3⟩ := Rep.len_raw t_3; obtain rfl : tv3 = _ := by simpa using th3
  clear th3
  obtain ⟨xv0, xv1, xv2, rfl, x_0, x_1, x_2, x_3, x_4, x_5, x_6⟩ := RData_raw hy
  obtain ⟨xa0, xp0, xh0, xl0⟩ := Rep.len_raw x_1; obtain rfl : xv0 = _ := by simpa using xh0
  clear xh0
  obtain ⟨xa1, xp1, xh1, xl1⟩ := Rep.len_raw x_2; obtain rfl : xv1 = _ := by simpa using xh1
  clear xh1
  obtain ⟨xa2, xp2, xh2, xl2⟩ := Rep.len_raw x_4; obtain rfl : xv2 = _ := by simpa using xh2
  clear xh2
  have HTP := Lib.hid ht0; have HXR := Lib.hid hx; have HBC := Lib.hid hB
  have HT := Lib.hid (show trusted t x now = (okData x && chainOk t now 4 x) from rfl)
  clear ht0 hB hx ht hy t_0 t_1 t_2 t_3 x_0 x_1 x_2 x_3 x_4 x_5 x_6
  go_enter Tryz.func49, Tryz.ntmps49
  go_upto_region 1 with fail
  generalize hwB : World.alloc (World.alloc w _) _ = wB
  have EE : Below w.heap.size w wB := by rw [← hwB]; exact (by repeat (first | (with_reducible exact Below.refl _ _) | refine Below.alloc ?_ (by simp; try omega) _ | refine Below.drew ?_ | refine Below.setCell ?_ (by simp; try omega) _))
  have BT : wB.heap[w.heap.size]? = some (.cells #[.slice ta0 t.1.length tp0, .slice ta1 t.2.1.length tp1, .slice ta2 t.2.2.1.length tp2, .slice ta3 t.2.2.2.length tp3] 62 (0, 0)) := by rw [← hwB]; exact heap_keep (heap_new_at rfl)
  have BX : wB.heap[w.heap.size + 1]? = some (.cells #[.slice xa0 x.1.length xp0, .slice xa1 x.2.1.length xp1, .slice xa2 x.2.2.1.length xp2, .int .i64 x.2.2.2.1, .int .i64 x.2.2.2.2] 66 (0, 0)) := by rw [← hwB]; exact heap_new_at (by simp)
  clear hwB
  have KBT_0 : wB.cell? ⟨w.heap.size, 0, none⟩ = some (.slice ta0 t.1.length tp0) := boxCell BT rfl
  have KBT_1 : wB.cell? ⟨w.heap.size, 1, none⟩ = some (.slice ta1 t.2.1.length tp1) := boxCell BT rfl
  have KBT_2 : wB.cell? ⟨w.heap.size, 2, none⟩ = some (.slice ta2 t.2.2.1.length tp2) := boxCell BT rfl
  have KBT_3 : wB.cell? ⟨w.heap.size, 3, none⟩ = some (.slice ta3 t.2.2.2.length tp3) := boxCell BT rfl
  have KBX_0 : wB.cell? ⟨w.heap.size + 1, 0, none⟩ = some (.slice xa0 x.1.length xp0) := boxCell BX rfl
  have KBX_1 : wB.cell? ⟨w.heap.size + 1, 1, none⟩ = some (.slice xa1 x.2.1.length xp1) := boxCell BX rfl
  have KBX_2 : wB.cell? ⟨w.heap.size + 1, 2, none⟩ = some (.slice xa2 x.2.2.1.length xp2) := boxCell BX rfl
  have KBX_3 : wB.cell? ⟨w.heap.size + 1, 3, none⟩ = some (.int .i64 x.2.2.2.1) := boxCell BX rfl
  have KBX_4 : wB.cell? ⟨w.heap.size + 1, 4, none⟩ = some (.int .i64 x.2.2.2.2) := boxCell BX rfl
  go_wp2_with fail
  refine (implTrustChain_c (HTP.out.below EE) HBC.out (HXR.out.below EE) hxc (ct := [.slice ta0 t.1.length tp0, .slice ta1 t.2.1.length tp1, .slice ta2 t.2.2.1.length tp2, .slice ta3 t.2.2.2.length tp3]) (cx := [.slice xa0 x.1.length xp0, .slice xa1 x.2.1.length xp1, .slice xa2 x.2.2.1.length xp2, .int .i64 x.2.2.2.1, .int .i64 x.2.2.2.2])).mono ?_
  rintro e w1 ⟨v_, rfl, hb⟩
  have z_w1 := hb.size
  replace BT := keepBox BT hb
  replace BX := keepBox BX hb
  replace EE := EE.trans (hb.mono EE.size)
  clear KBT_0 KBT_1 KBT_2 KBT_3 KBX_0 KBX_1 KBX_2 KBX_3 KBX_4
  clear hb
  generalize chainOk t now 4 x = ch at *
  have KBT_0 : w1.cell? ⟨w.heap.size, 0, none⟩ = some (.slice ta0 t.1.length tp0) := boxCell BT rfl
  have KBT_1 : w1.cell? ⟨w.heap.size, 1, none⟩ = some (.slice ta1 t.2.1.length tp1) := boxCell BT rfl
  have KBT_2 : w1.cell? ⟨w.heap.size, 2, none⟩ = some (.slice ta2 t.2.2.1.length tp2) := boxCell BT rfl
  have KBT_3 : w1.cell? ⟨w.heap.size, 3, none⟩ = some (.slice ta3 t.2.2.2.length tp3) := boxCell BT rfl
  have KBX_0 : w1.cell? ⟨w.heap.size + 1, 0, none⟩ = some (.slice xa0 x.1.length xp0) := boxCell BX rfl
  have KBX_1 : w1.cell? ⟨w.heap.size + 1, 1, none⟩ = some (.slice xa1 x.2.1.length xp1) := boxCell BX rfl
  have KBX_2 : w1.cell? ⟨w.heap.size + 1, 2, none⟩ = some (.slice xa2 x.2.2.1.length xp2) := boxCell BX rfl
  have KBX_3 : w1.cell? ⟨w.heap.size + 1, 3, none⟩ = some (.int .i64 x.2.2.2.1) := boxCell BX rfl
  have KBX_4 : w1.cell? ⟨w.heap.size + 1, 4, none⟩ = some (.int .i64 x.2.2.2.2) := boxCell BX rfl
  cases ch
  · have HU : Hid (trusted t x now = false) := Lib.hid (by rw [HT.out]; simp)
    go_wp2
    go_ret
    exact ⟨ret_bool HU.out.symm, EE⟩
  have HU : Hid (trusted t x now = okData x) := Lib.hid (by rw [HT.out]; simp)
  go_wp2_with fail
  refine (implValidData_w (HXR.out.1.below EE) (cx := [.slice xa0 x.1.length xp0, .slice xa1 x.2.1.length xp1, .slice xa2 x.2.2.1.length xp2, .int .i64 x.2.2.2.1, .int .i64 x.2.2.2.2])).mono ?_
  rintro e w2 ⟨rfl, hb⟩
  have z_w2 := hb.size
  replace BT := keepBox BT hb
  replace BX := keepBox BX hb
  replace EE := EE.trans (hb.mono EE.size)
  clear KBT_0 KBT_1 KBT_2 KBT_3 KBX_0 KBX_1 KBX_2 KBX_3 KBX_4
  clear hb
  go_wp2
  go_ret
  exact ⟨ret_bool HU.out.symm, EE⟩
set_option maxRecDepth 100000 in
set_option maxHeartbeats 2000000 in
theorem implIsSolicited_w {w : World} {cx : List Value} {x : LNode} (hx : RNode.rd w cx x) {ct : List Value} {t : LTrustPolicy} (ht0 : RTrustPolicy.rd w ct t) (hB : ∀ k (h : k < t.2.2.2.length), t.2.2.2[k].2.1.length ≤ 2000000) {cy : List Value} {y : LData} (hy0 : RData.rd w cy y) (hyc : y.2.1.length ≤ 2000000) {now : Int} :
    Calls Tryz.prog 12 #[.agg cx.toArray, .agg ct.toArray, .agg cy.toArray, .int .i64 now] w fun e w' => e = .returned (.bool (solicited x t y now)) ∧ Below w.heap.size w w' := by
  have ht := ht0.1
  have hy := hy0.1
  have hn := hx.1
  obtain ⟨xv0, xv2, xv3, xv4, xv5, xv6, rfl, x_0, x_1, x_2, x_3, x_4, x_5, x_6, x_7, x_8⟩ := RNode_raw hn
  obtain ⟨xa0, xp0, xh0, xl0⟩ := Rep.len_raw x_0; obtain rfl : xv0 = _ := by simpa using xh0
  clear xh0
  obtain ⟨xa2, xp2, xh2, xl2⟩ := Rep.len_raw x_3; obtain rfl : xv2 = _ := by simpa using xh2
  clear xh2
  obtain ⟨xa3, xp3, xh3, xl3⟩ := Rep.len_raw x_4; obtain rfl : xv3 = _ := by simpa using xh3
  clear xh3
  obtain ⟨xa4, xp4, xh4, xl4⟩ := Rep.len_raw x_5; obtain rfl : xv4 = _ := by simpa using xh4
  clear xh4
  obtain ⟨xa5, xp5, xh5, xl5⟩ := Rep.len_raw x_6; obtain rfl : xv5 = _ := by simpa using xh5
  clear xh5
  obtain ⟨xa6, xp6, xh6, xl6⟩ := Rep.len_raw x_7; obtain rfl : xv6 = _ := by simpa using xh6
  clear xh6
  obtain ⟨tv0, tv1, tv2, tv3, rfl, t_0, t_1, t_2, t_3⟩ := RTrustPolicy_raw ht
  obtain ⟨ta0, tp0, th0, tl0⟩ := Rep.len_raw t_0; obtain rfl : tv0 = _ := by simpa using th0
  clear th0
  obtain ⟨ta1, tp1, th1, tl1⟩ := Rep.len_raw t_1; obtain rfl : tv1 = _ := by simpa using th1
  clear th1
  obtain ⟨ta2, tp2, th2, tl2⟩ := Rep.len_raw t_2; obtain rfl : tv2 = _ := by simpa using th2
  clear th2
  obtain ⟨ta3, tp3, th3, tl3⟩ := Rep.len_raw t_3; obtain rfl : tv3 = _ := by simpa using th3
  clear th3
  obtain ⟨yv0, yv1, yv2, rfl, y_0, y_1, y_2, y_3, y_4, y_5, y_6⟩ := RData_raw hy
  obtain ⟨ya0, yp0, yh0, yl0⟩ := Rep.len_raw y_1; obtain rfl : yv0 = _ := by simpa using yh0
  clear yh0
  obtain ⟨ya1, yp1, yh1, yl1⟩ := Rep.len_raw y_2; obtain rfl : yv1 = _ := by simpa using yh1
  clear yh1
  obtain ⟨ya2, yp2, yh2, yl2⟩ := Rep.len_raw y_4; obtain rfl : yv2 = _ := by simpa using yh2
  clear yh2
  have HTP := Lib.hid ht0; have HYR := Lib.hid hy0; have HBC := Lib.hid hB; have HP := Lib.hid x_4; have HY0 := Lib.hid y_0
  have HT := Lib.hid (show solicited x t y now = (hasP x.2.2.1 y.1 && trusted t y now) from rfl)
  clear ht0 hB hx ht hy hn hy0 x_0 x_1 x_2 x_3 x_4 x_5 x_6 x_7 x_8 t_0 t_1 t_2 t_3 y_0 y_1 y_2 y_3 y_4 y_5 y_6
  go_enter Tryz.func12, Tryz.ntmps12
  go_upto_region 1 with fail
  generalize hwB : World.alloc (World.alloc (World.alloc w _) _) _ = wB
  have EE : Below w.heap.size w wB := by rw [← hwB]; exact (by repeat (first | (with_reducible exact Below.refl _ _) | refine Below.alloc ?_ (by simp; try omega) _ | refine Below.drew ?_ | refine Below.setCell ?_ (by simp; try omega) _))
  have BN : wB.heap[w.heap.size]? = some (.cells #[.slice xa0 (x.1).length xp0, .int .i64 x.2.1.1, .slice xa2 (x.2.1.2).length xp2, .slice xa3 (x.2.2.1).length xp3, .slice xa4 (x.2.2.2.1).length xp4, .slice xa5 (x.2.2.2.2.1).length xp5, .slice xa6 (x.2.2.2.2.2.1).length xp6, .int .i64 x.2.2.2.2.2.2] 56 (0, 0)) := by rw [← hwB]; exact heap_keep (heap_keep (heap_new_at rfl))
  have BT : wB.heap[w.heap.size + 1]? = some (.cells #[.slice ta0 t.1.length tp0, .slice ta1 t.2.1.length tp1, .slice ta2 t.2.2.1.length tp2, .slice ta3 t.2.2.2.length tp3] 62 (0, 0)) := by rw [← hwB]; exact heap_keep (heap_new_at (by simp))
  have BX : wB.heap[w.heap.size + 1 + 1]? = some (.cells #[.slice ya0 y.1.length yp0, .slice ya1 y.2.1.length yp1, .slice ya2 y.2.2.1.length yp2, .int .i64 y.2.2.2.1, .int .i64 y.2.2.2.2] 66 (0, 0)) := by rw [← hwB]; exact heap_new_at (by simp)
  clear hwB
  have KBN_0 : wB.cell? ⟨w.heap.size, 0, none⟩ = some (.slice xa0 (x.1).length xp0) := boxCell BN rfl
  have KBN_1 : wB.cell? ⟨w.heap.size, 1, none⟩ = some (.int .i64 x.2.1.1) := boxCell BN rfl
  have KBN_2 : wB.cell? ⟨w.heap.size, 2, none⟩ = some (.slice xa2 (x.2.1.2).length xp2) := boxCell BN rfl
  have KBN_3 : wB.cell? ⟨w.heap.size, 3, none⟩ = some (.slice xa3 (x.2.2.1).length xp3) := boxCell BN rfl
  have KBN_4 : wB.cell? ⟨w.heap.size, 4, none⟩ = some (.slice xa4 (x.2.2.2.1).length xp4) := boxCell BN rfl
  have KBN_5 : wB.cell? ⟨w.heap.size, 5, none⟩ = some (.slice xa5 (x.2.2.2.2.1).length xp5) := boxCell BN rfl
  have KBN_6 : wB.cell? ⟨w.heap.size, 6, none⟩ = some (.slice xa6 (x.2.2.2.2.2.1).length xp6) := boxCell BN rfl
  have KBN_7 : wB.cell? ⟨w.heap.size, 7, none⟩ = some (.int .i64 x.2.2.2.2.2.2) := boxCell BN rfl
  have KBT_0 : wB.cell? ⟨w.heap.size + 1, 0, none⟩ = some (.slice ta0 t.1.length tp0) := boxCell BT rfl
  have KBT_1 : wB.cell? ⟨w.heap.size + 1, 1, none⟩ = some (.slice ta1 t.2.1.length tp1) := boxCell BT rfl
  have KBT_2 : wB.cell? ⟨w.heap.size + 1, 2, none⟩ = some (.slice ta2 t.2.2.1.length tp2) := boxCell BT rfl
  have KBT_3 : wB.cell? ⟨w.heap.size + 1, 3, none⟩ = some (.slice ta3 t.2.2.2.length tp3) := boxCell BT rfl
  have KBX_0 : wB.cell? ⟨w.heap.size + 1 + 1, 0, none⟩ = some (.slice ya0 y.1.length yp0) := boxCell BX rfl
  have KBX_1 : wB.cell? ⟨w.heap.size + 1 + 1, 1, none⟩ = some (.slice ya1 y.2.1.length yp1) := boxCell BX rfl
  have KBX_2 : wB.cell? ⟨w.heap.size + 1 + 1, 2, none⟩ = some (.slice ya2 y.2.2.1.length yp2) := boxCell BX rfl
  have KBX_3 : wB.cell? ⟨w.heap.size + 1 + 1, 3, none⟩ = some (.int .i64 y.2.2.2.1) := boxCell BX rfl
  have KBX_4 : wB.cell? ⟨w.heap.size + 1 + 1, 4, none⟩ = some (.int .i64 y.2.2.2.2) := boxCell BX rfl
  go_wp2_with fail
  refine (implHasPending_c (HP.out.below EE) (HY0.out.below EE) (cn := [.slice ya0 y.1.length yp0])).mono ?_
  rintro e w1 ⟨rfl, hb⟩
  have z_w1 := hb.size
  replace BN := keepBox BN hb
  replace BT := keepBox BT hb
  replace BX := keepBox BX hb
  replace EE := EE.trans (hb.mono EE.size)
  clear KBN_0 KBN_1 KBN_2 KBN_3 KBN_4 KBN_5 KBN_6 KBN_7 KBT_0 KBT_1 KBT_2 KBT_3 KBX_0 KBX_1 KBX_2 KBX_3 KBX_4
  clear hb
  cases hh : hasP x.2.2.1 y.1
  · have HU : Hid (solicited x t y now = false) := Lib.hid (by rw [HT.out, hh]; rfl)
    have hh2 : decide (0 ≤ idxOf (isPend y.1) x.2.2.1) = false := hh
    clear hh
    go_wp2
    go_ret
    exact ⟨ret_bool HU.out.symm, EE⟩
  have HU : Hid (solicited x t y now = trusted t y now) := Lib.hid (by rw [HT.out, hh]; rfl)
  have hh2 : decide (0 ≤ idxOf (isPend y.1) x.2.2.1) = true := hh
  clear hh
  have KBT_0 : w1.cell? ⟨w.heap.size + 1, 0, none⟩ = some (.slice ta0 t.1.length tp0) := boxCell BT rfl
  have KBT_1 : w1.cell? ⟨w.heap.size + 1, 1, none⟩ = some (.slice ta1 t.2.1.length tp1) := boxCell BT rfl
  have KBT_2 : w1.cell? ⟨w.heap.size + 1, 2, none⟩ = some (.slice ta2 t.2.2.1.length tp2) := boxCell BT rfl
  have KBT_3 : w1.cell? ⟨w.heap.size + 1, 3, none⟩ = some (.slice ta3 t.2.2.2.length tp3) := boxCell BT rfl
  have KBX_0 : w1.cell? ⟨w.heap.size + 1 + 1, 0, none⟩ = some (.slice ya0 y.1.length yp0) := boxCell BX rfl
  have KBX_1 : w1.cell? ⟨w.heap.size + 1 + 1, 1, none⟩ = some (.slice ya1 y.2.1.length yp1) := boxCell BX rfl
  have KBX_2 : w1.cell? ⟨w.heap.size + 1 + 1, 2, none⟩ = some (.slice ya2 y.2.2.1.length yp2) := boxCell BX rfl
  have KBX_3 : w1.cell? ⟨w.heap.size + 1 + 1, 3, none⟩ = some (.int .i64 y.2.2.2.1) := boxCell BX rfl
  have KBX_4 : w1.cell? ⟨w.heap.size + 1 + 1, 4, none⟩ = some (.int .i64 y.2.2.2.2) := boxCell BX rfl
  go_wp2_with fail
  refine (implIsTrusted_c (HTP.out.below EE) HBC.out (HYR.out.below EE) hyc (ct := [.slice ta0 t.1.length tp0, .slice ta1 t.2.1.length tp1, .slice ta2 t.2.2.1.length tp2, .slice ta3 t.2.2.2.length tp3]) (cx := [.slice ya0 y.1.length yp0, .slice ya1 y.2.1.length yp1, .slice ya2 y.2.2.1.length yp2, .int .i64 y.2.2.2.1, .int .i64 y.2.2.2.2])).mono ?_
  rintro e w2 ⟨rfl, hb⟩
  have z_w2 := hb.size
  replace BN := keepBox BN hb
  replace BT := keepBox BT hb
  replace BX := keepBox BX hb
  replace EE := EE.trans (hb.mono EE.size)
  clear KBT_0 KBT_1 KBT_2 KBT_3 KBX_0 KBX_1 KBX_2 KBX_3 KBX_4
  clear hb
  go_wp2
  go_ret
  exact ⟨ret_bool HU.out.symm, EE⟩
theorem specIsSolicited_c {w : World} {cx : List Value} {x : LNode} (hx : RNode.rd w cx x) {ct : List Value} {t : LTrustPolicy} (ht : RTrustPolicy.rd w ct t) {cy : List Value} {y : LData} (hy : RData.rd w cy y) {now : Int} (hn : -9223372036854775808 ≤ now ∧ now ≤ 9223372036854775807) (hT : RTrustPolicy.bdd 1048576 t) (hY : RData.bdd 1048576 y) :
    Calls Tryz.prog 8 #[.agg cx.toArray, .agg ct.toArray, .agg cy.toArray, .int .i64 now] w fun e w' => e = .returned (.bool (solicited x t y now)) ∧ Below w.heap.size w w' :=
  specIsSolicited_w hx ht (fun k h => Nat.le_trans (hT.2.2.2.2 _ (List.getElem_mem h)).2.1.1 (by decide)) hy (Nat.le_trans hY.2.1.1 (by decide))
theorem implIsSolicited_c {w : World} {cx : List Value} {x : LNode} (hx : RNode.rd w cx x) {ct : List Value} {t : LTrustPolicy} (ht : RTrustPolicy.rd w ct t) {cy : List Value} {y : LData} (hy : RData.rd w cy y) {now : Int} (hn : -9223372036854775808 ≤ now ∧ now ≤ 9223372036854775807) (hT : RTrustPolicy.bdd 1048576 t) (hY : RData.bdd 1048576 y) :
    Calls Tryz.prog 12 #[.agg cx.toArray, .agg ct.toArray, .agg cy.toArray, .int .i64 now] w fun e w' => e = .returned (.bool (solicited x t y now)) ∧ Below w.heap.size w w' :=
  implIsSolicited_w hx ht (fun k h => Nat.le_trans (hT.2.2.2.2 _ (List.getElem_mem h)).2.1.1 (by decide)) hy (Nat.le_trans hY.2.1.1 (by decide))
end Go.Proofs.YtlfblpgkegeaeaaGreat

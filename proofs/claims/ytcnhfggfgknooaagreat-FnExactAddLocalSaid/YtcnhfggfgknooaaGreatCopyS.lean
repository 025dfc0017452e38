/-
  Content stores, copied.
-/
import Derived.Test.YtcnhfggfgknooaaGreatCopyD
import Derived.Test.YtcnhfggfgknooaaGreatMade
import Derived.Test.YtcnhfggfgknooaaGreatLib
import Derived.Test.YtcnhfggfgknooaaGreatInfo
import Derived.Test.YtcnhfggfgknooaaGreatSoft2
import Derived.IntWalk
import Derived.Deep.Cut
import Derived.WalkSpells
import Derived.WalkLawsBesides
namespace Go.Proofs.YtcnhfggfgknooaaGreat
open Go.RowKit
set_option linter.unusedVariables false
set_option linter.unusedSimpArgs false
set_option linter.unnecessarySimpa false
set_option maxRecDepth 100000 in
set_option maxHeartbeats 4000000 in
theorem specl12Copy_c {w : World} {cs : List Value} {x : LContentStore} (hx : RContentStore.rd w cs x) : Calls Tryz.prog 66 #[.agg cs.toArray] w (MadeAgg RContentStore x w) := by
  obtain ⟨hx, hbd⟩ := hx
  obtain ⟨sv, rfl, s_r, hl⟩ := RContentStore_raw hx
  obtain ⟨la, lp, hva, _⟩ := Rep.len_raw hl; obtain rfl : sv = _ := by simpa using hva
  obtain ⟨c, l⟩ := x
  have HL : Hid ((Rep.slice 152 RCacheEntry).rd w [.slice la l.length lp] l) := Lib.hid ⟨hl, hbd.2⟩
  have hlb : l.length ≤ 16777216 := hbd.2.1
  have HCR := Lib.hid s_r
  clear hva hx s_r hl hbd
  go_enter Tryz.func66, Tryz.ntmps66
  go_wp2
  generalize hwA : World.alloc (World.alloc (World.alloc w _) _) _ = wA
  have HZ : Hid (wA.heap.size = w.heap.size + 3) := Lib.hid (by rw [← hwA]; simp)
  have EA : Below w.heap.size w wA := by rw [← hwA]; exact (by repeat (first | (with_reducible exact Below.refl _ _) | refine Below.alloc ?_ (by simp; try omega) _ | refine Below.drew ?_ | refine Below.setCell ?_ (by simp; try omega) _))
  have XB : Hid (wA.heap[w.heap.size]? = some (.cells #[.int .i64 c, .slice la l.length lp] 43 (0, 0))) := Lib.hid (by rw [← hwA]; exact heap_keep (heap_keep (heap_new_at rfl)))
  have XR : Hid (wA.heap[w.heap.size + 1]? = some (.cells #[.int .i64 0, .slice none 0 0] 43 (0, 0))) := Lib.hid (by rw [← hwA]; exact heap_keep (heap_new_at (by simp)))
  have XO : Hid (wA.heap[w.heap.size + 1 + 1]? = some (.cells #[.int .i64 c, .slice none 0 0] 43 (0, 0))) := Lib.hid (by rw [← hwA]; exact heap_new_at (by simp))
  clear hwA
  go_loopw [4] (fun i wr => ∃ (k : Nat) (v : Value), k ≤ l.length ∧ i = .int .i64 k ∧ Hid (wr.heap[w.heap.size + 1 + 1]? = some (.cells #[.int .i64 c, v] 43 (0, 0))) ∧ Hid (Rep.own0 152 RCacheEntry wr v (l.take k) (Btw (w.heap.size + 3) wr.heap.size)) ∧ Below (w.heap.size + 1 + 1) wA wr ∧ w.heap.size + 3 ≤ wr.heap.size) (fun i _ => l.length - (intOf i).toNat)
  case atStart => exact ⟨0, _, Nat.zero_le _, rfl, XO, Lib.hid Rep.own0.nil, Below.refl _ _, by have := HZ.out; omega⟩
  case round =>
    obtain ⟨k, v, hk, rfl, XV, HO, hbel, hge⟩ := hrel
    obtain ⟨oa, on, oc, ho, HON⟩ := HO.out.parts; obtain rfl := ho
    have L0 := boxCell ((hbel.block _ (show w.heap.size < w.heap.size + 1 + 1 by omega)).trans XB.out) (j := 0) (v := .int .i64 c) rfl
    have L1 := boxCell ((hbel.block _ (show w.heap.size < w.heap.size + 1 + 1 by omega)).trans XB.out) (j := 1) (v := .slice la l.length lp) rfl
    have EW : Below w.heap.size w wr := EA.trans (hbel.mono (by omega))
    have hkn := Int.natCast_nonneg k
    by_cases hlt : k < l.length
    · obtain ⟨qb, qo, rfl, qc0, qc1, qc2, qc3, qc4, qc5, qr, Aq0, Aq1, Aq2, Aq3, Aq4, Aq5⟩ := Rep.get6 (HL.out.1.below EW) hlt rfl
      have hbd := Rep.raw_bdd HL.out hlt
      have HSN := Lib.hid (List.take_succ_eq_append_getElem hlt)
      generalize l[k] = x at *
      obtain ⟨qv0, qv1, qv2, qhe, q_0, q_1, q_2, q_3, q_4, q_5, q_6, q_7, q_8⟩ := RCacheEntry_raw qr
      simp only [List.cons.injEq, and_true] at qhe
      obtain ⟨rfl, rfl, rfl, rfl, rfl, rfl⟩ := qhe
      obtain ⟨qa0, qp0, qh0, ql0⟩ := Rep.len_raw q_2; obtain rfl : qc0 = _ := by simpa using qh0
      clear qh0
      obtain ⟨qa1, qp1, qh1, ql1⟩ := Rep.len_raw q_3; obtain rfl : qc1 = _ := by simpa using qh1
      clear qh1
      obtain ⟨qa2, qp2, qh2, ql2⟩ := Rep.len_raw q_5; obtain rfl : qc2 = _ := by simpa using qh2
      clear qh2
      have PX : RData.rd wr _ x.1 := ⟨q_0, hbd.1⟩
      have HU := Lib.hid q_8
      go_wp2_with fail
      refine (specl8Copy_c PX).mono ?_
      rintro e wT ⟨tc, rfl, OT, hbT⟩
      obtain ⟨tv0, tv1, tv2, rfl, t_0, t_1, t_2, t_3, t_4, t_5, t_6⟩ := RData_raw OT.raw
      obtain ⟨ta0, tp0, th0, tl0⟩ := Rep.len_raw t_1; obtain rfl : tv0 = _ := by simpa using th0
      clear th0
      obtain ⟨ta1, tp1, th1, tl1⟩ := Rep.len_raw t_2; obtain rfl : tv1 = _ := by simpa using th1
      clear th1
      obtain ⟨ta2, tp2, th2, tl2⟩ := Rep.len_raw t_4; obtain rfl : tv2 = _ := by simpa using th2
      clear th2
      clear t_0 t_1 t_2 t_3 t_4 t_5 t_6
      have hsT := hbT.size
      go_upto_region 6 with fail
      generalize hwD : World.alloc wT _ = wD
      have ED : Below wT.heap.size wT wD := by rw [← hwD]; exact (Below.refl _ _).alloc (Nat.le_refl _) _
      have hsD := ED.size
      have D0 : wD.cell? ⟨wT.heap.size, 0, none⟩ = some (.slice ta0 x.1.1.length tp0) := by rw [← hwD]; simp [go_sem]
      have D1 : wD.cell? ⟨wT.heap.size, 1, none⟩ = some (.slice ta1 x.1.2.1.length tp1) := by rw [← hwD]; simp [go_sem]
      have D2 : wD.cell? ⟨wT.heap.size, 2, none⟩ = some (.slice ta2 x.1.2.2.1.length tp2) := by rw [← hwD]; simp [go_sem]
      have D3 : wD.cell? ⟨wT.heap.size, 3, none⟩ = some (.int .i64 x.1.2.2.2.1) := by rw [← hwD]; simp [go_sem]
      have D4 : wD.cell? ⟨wT.heap.size, 4, none⟩ = some (.int .i64 x.1.2.2.2.2) := by rw [← hwD]; simp [go_sem]
      clear hwD
      have hbS := hbT.trans (ED.mono hbT.size)
      have XS := keepBox XV.out hbS
      have M0 := boxCell XS (j := 0) (v := .int .i64 c) rfl
      have M1 := boxCell XS (j := 1) rfl
      replace L0 := cell_later hbS L0
      replace L1 := cell_later hbS L1
      replace Aq5 := cell_later hbS Aq5
      refine wp_region_soft_tail (fun W => Below wD.heap.size wD W) [true, true, true, true, true, true, true, true, true, true, false] (by kernel_rfl) (by kernel_rfl) (fun c a d v w h => by cases d <;> exact h) ((Below.refl _ _).drew) ?_
      intro wS HS
      all_goals first | (refine soft_pass rfl HS ?_) | (refine soft_read (v := ?_) rfl (fun W hW => ?_) ?_; rotate_left; (· go_simp; try with_reducible rfl))
      iterate 2
       all_goals try simp only [Act.put, List.setIfInBounds_toArray, List.set_cons_zero, List.set_cons_succ]
       all_goals first | (refine soft_pass rfl HS ?_) | (refine soft_read (v := ?_) rfl (fun W hW => ?_) ?_; rotate_left; (· have A_L0 := cell_later hW L0; have A_L1 := cell_later hW L1; have A_M0 := cell_later hW M0; have A_M1 := cell_later hW M1; have A_Aq5 := cell_later hW Aq5; have A_D0 := cell_later hW D0; have A_D1 := cell_later hW D1; have A_D2 := cell_later hW D2; have A_D3 := cell_later hW D3; have A_D4 := cell_later hW D4; clear hW; go_simp; try with_reducible rfl))
      all_goals try simp only [Act.put, List.setIfInBounds_toArray, List.set_cons_zero, List.set_cons_succ]
      all_goals first | (refine soft_pass rfl HS ?_) | (refine soft_read (v := ?_) rfl (fun W hW => ?_) ?_; rotate_left; (· go_simp; try with_reducible rfl))
      all_goals try simp only [Act.put, List.setIfInBounds_toArray, List.set_cons_zero, List.set_cons_succ]
      all_goals first | (refine soft_pass rfl HS ?_) | (refine soft_read (v := ?_) rfl (fun W hW => ?_) ?_; rotate_left; (· have A_L0 := cell_later hW L0; have A_L1 := cell_later hW L1; have A_M0 := cell_later hW M0; have A_M1 := cell_later hW M1; have A_Aq5 := cell_later hW Aq5; have A_D0 := cell_later hW D0; have A_D1 := cell_later hW D1; have A_D2 := cell_later hW D2; have A_D3 := cell_later hW D3; have A_D4 := cell_later hW D4; clear hW; go_simp; try with_reducible rfl))
      iterate 3
       all_goals try simp only [Act.put, List.setIfInBounds_toArray, List.set_cons_zero, List.set_cons_succ]
       all_goals first | (refine soft_pass rfl HS ?_) | (refine soft_read (v := ?_) rfl (fun W hW => ?_) ?_; rotate_left; (· go_simp; try with_reducible rfl))
      all_goals try simp only [Act.put, List.setIfInBounds_toArray, List.set_cons_zero, List.set_cons_succ]
      all_goals first | (refine soft_pass rfl HS ?_) | (refine soft_read (v := ?_) rfl (fun W hW => ?_) ?_; rotate_left; (· have A_L0 := cell_later hW L0; have A_L1 := cell_later hW L1; have A_M0 := cell_later hW M0; have A_M1 := cell_later hW M1; have A_Aq5 := cell_later hW Aq5; have A_D0 := cell_later hW D0; have A_D1 := cell_later hW D1; have A_D2 := cell_later hW D2; have A_D3 := cell_later hW D3; have A_D4 := cell_later hW D4; clear hW; go_simp; try with_reducible rfl))
      all_goals try simp only [Act.put, List.setIfInBounds_toArray, List.set_cons_zero, List.set_cons_succ]
      all_goals first | (refine soft_pass rfl HS ?_) | (refine soft_read (v := ?_) rfl (fun W hW => ?_) ?_; rotate_left; (· go_simp; try with_reducible rfl))
      all_goals try simp only [Act.put, List.setIfInBounds_toArray, List.set_cons_zero, List.set_cons_succ]
      all_goals first | (refine soft_pass rfl HS ?_) | (refine soft_do rfl (fun K hK => ?_); go_simp; refine hK _ _ (HS.alloc HS.size _) ?_; clear hK K)
      all_goals try simp only [Act.put, List.setIfInBounds_toArray, List.set_cons_zero, List.set_cons_succ]
      all_goals refine soft_rest ?_
      have hsW := HS.size
      have hbSW := hbS.trans (HS.mono hbS.size)
      have XW := keepBox XV.out hbSW
      have hbelW := hbel.trans (hbSW.mono (by omega))
      replace HO := Lib.hid (HO.out.below hbSW)
      have hol : (l.take k).length ≤ 16777216 := by simp; omega
      go_wp2_with (at_builtin; refine Rep.wpList_pushB rfl _ _ 41 rfl (r := RCacheEntry) (e := 152) Tryz.underlying41 infCacheEntry rfl (by decide) (by decide) (B := w.heap.size + 3) HO.out (by rfl) (by rfl) rfl (Rep.own.wide (T := Btw wr.heap.size wT.heap.size) (Rep.own_flat (r := RData) (q := Rep.int) (cs := [.slice ta0 x.1.1.length tp0, .slice ta1 x.1.2.1.length tp1, .slice ta2 x.1.2.2.1.length tp2, .int .i64 x.1.2.2.2.1, .int .i64 x.1.2.2.2.2]) (ds := [.int .i64 x.2]) (x := x.1) (y := x.2) (OT.below (ED.trans (HS.mono ED.size))) (Rep.flat_int HU.out)) (fun j hj => hj)) rfl (fun j h1 h2 => by have p := h1.2; have q := h2.1; omega) (fun j hj => ⟨hj.1, by have := hj.2; omega⟩) (fun j hj => ⟨by have := hj.1; omega, by have := hj.2; omega⟩) (by omega) (by omega) ?_)
      intro v2 w2 hown2 hbel2 hz2
      obtain ⟨va2, vn2, vc2, hv2, HV2N⟩ := hown2.parts; obtain rfl := hv2
      have XV2 := (hbel2.block _ (by omega)).trans XW
      have N1 := boxCell XV2 (j := 1) rfl
      have NF := frozen_of_row w2 (w.heap.size + 1 + 1) 1 _ _ XV2
      have hbel3 := hbelW.trans (hbel2.mono (by omega))
      have HX2 := Lib.hid XV2
      have HO2 := Lib.hid (Rep.own0.cast hown2 (HSN.out.symm))
      clear XV2 hown2 HO hbel2 hbel
      go_wp2
      go_roundw
      case rel => exact ⟨k + 1, _, by omega, by go_num, Lib.hid (heap_setCell_same w2 _ 1 _ _ _ HX2.out), Lib.hid ((HO2.out.setCell (by intro q; have := q.1; first | omega | (simp at this; omega) | (simp at this))).wide (fun j hj => ⟨hj.1, by simpa [World.setCell] using hj.2⟩)), hbel3.setCell (by simp) _, by simp [World.setCell]; omega⟩
      case measure => simp [intOf]; omega
    · obtain rfl : k = l.length := by omega
      skip
      have M0 := boxCell XV.out (j := 0) (v := .int .i64 c) rfl
      have M1 := boxCell XV.out (j := 1) rfl
      have R0 := boxCell ((hbel.block _ (show w.heap.size + 1 < w.heap.size + 1 + 1 by omega)).trans XR.out) (j := 0) (v := .int .i64 0) rfl
      have R1 := boxCell ((hbel.block _ (show w.heap.size + 1 < w.heap.size + 1 + 1 by omega)).trans XR.out) (j := 1) (v := .slice none 0 0) rfl
      have F0 := fun j => frozen_of_row wr (w.heap.size + 1) j _ _ ((hbel.block _ (show w.heap.size + 1 < w.heap.size + 1 + 1 by omega)).trans XR.out)
      have F00 := F0 0
      have F01 := F0 1
      clear F0
      have HF := Lib.hid (HO.out.cast (by rw [List.take_length]))
      have HFL : Hid (l.length ≤ Big) := Lib.hid (by unfold Big; omega)
      go_wp2
      refine bodyPost_ret (v := .agg #[.int .i64 c, .slice oa on oc]) (by simp [results, Tryz.results66, go_sem, R0, R1, F00, F01]) rfl ⟨[_, _], rfl, ?_, ?_⟩
      · exact Rep.flat_own (r := Rep.int) (q := Rep.slice 152 RCacheEntry) (cs := [_]) (Rep.flat_int HCR.out) ((((HF.out.own HFL.out).setCell (by intro q; have := q.1; first | omega | (simp at this; omega) | (simp at this))).setCell (by intro q; have := q.1; first | omega | (simp at this; omega) | (simp at this))).wide (fun j hj => ⟨by have := hj.1; omega, by simpa [World.setCell] using hj.2⟩))
      · exact (EW.setCell (by simp) _).setCell (by simp) _
set_option maxRecDepth 100000 in
set_option maxHeartbeats 4000000 in
theorem implkeepStore_c {w : World} {cs : List Value} {x : LContentStore} {g : FuncId} {cp : Array Value} (p : LCacheEntry → Bool) (hg : Callable Tryz.prog g) (hx : RContentStore.rd w cs x)
    (hcl : ∀ wr, Below w.heap.size w wr → ∀ y ds, RCacheEntry.raw wr ds y → Calls Tryz.prog g (#[.agg ds.toArray] ++ cp) wr (fun e w' => e = .returned (.bool (p y)) ∧ Below wr.heap.size wr w')) :
    Calls Tryz.prog 123 #[.agg cs.toArray, .func (.func g) #[] cp] w (MadeAgg RContentStore (x.1, x.2.filter p) w) := by
  have HCL := Lib.hid hcl
  unfold Callable at hg
  clear hcl
  obtain ⟨hx, hbd⟩ := hx
  obtain ⟨sv, rfl, s_r, hl⟩ := RContentStore_raw hx
  obtain ⟨la, lp, hva, _⟩ := Rep.len_raw hl; obtain rfl : sv = _ := by simpa using hva
  obtain ⟨c, l⟩ := x
  have HL : Hid ((Rep.slice 152 RCacheEntry).rd w [.slice la l.length lp] l) := Lib.hid ⟨hl, hbd.2⟩
  have hlb : l.length ≤ 16777216 := hbd.2.1
  have HCR := Lib.hid s_r
  clear hva hx s_r hl hbd
  go_enter Tryz.func123, Tryz.ntmps123
  go_wp2
  generalize hwA : World.alloc (World.alloc (World.alloc w _) _) _ = wA
  have HZ : Hid (wA.heap.size = w.heap.size + 3) := Lib.hid (by rw [← hwA]; simp)
  have EA : Below w.heap.size w wA := by rw [← hwA]; exact (by repeat (first | (with_reducible exact Below.refl _ _) | refine Below.alloc ?_ (by simp; try omega) _ | refine Below.drew ?_ | refine Below.setCell ?_ (by simp; try omega) _))
  have XB : Hid (wA.heap[w.heap.size]? = some (.cells #[.int .i64 c, .slice la l.length lp] 43 (0, 0))) := Lib.hid (by rw [← hwA]; exact heap_keep (heap_keep (heap_new_at rfl)))
  have XR : Hid (wA.heap[w.heap.size + 1]? = some (.cells #[.int .i64 0, .slice none 0 0] 43 (0, 0))) := Lib.hid (by rw [← hwA]; exact heap_keep (heap_new_at (by simp)))
  have XO : Hid (wA.heap[w.heap.size + 1 + 1]? = some (.cells #[.int .i64 c, .slice none 0 0] 43 (0, 0))) := Lib.hid (by rw [← hwA]; exact heap_new_at (by simp))
  clear hwA
  go_loopw [14] (fun i wr => ∃ (k : Nat) (v : Value), k ≤ l.length ∧ i = .int .i64 k ∧ Hid (wr.heap[w.heap.size + 1 + 1]? = some (.cells #[.int .i64 c, v] 43 (0, 0))) ∧ Hid (Rep.own0 152 RCacheEntry wr v ((l.take k).filter p) (Btw (w.heap.size + 3) wr.heap.size)) ∧ Below (w.heap.size + 1 + 1) wA wr ∧ w.heap.size + 3 ≤ wr.heap.size) (fun i _ => l.length - (intOf i).toNat)
  case atStart => exact ⟨0, _, Nat.zero_le _, rfl, XO, Lib.hid Rep.own0.nil, Below.refl _ _, by have := HZ.out; omega⟩
  case round =>
    obtain ⟨k, v, hk, rfl, XV, HO, hbel, hge⟩ := hrel
    obtain ⟨oa, on, oc, ho, HON⟩ := HO.out.parts; obtain rfl := ho
    have L0 := boxCell ((hbel.block _ (show w.heap.size < w.heap.size + 1 + 1 by omega)).trans XB.out) (j := 0) (v := .int .i64 c) rfl
    have L1 := boxCell ((hbel.block _ (show w.heap.size < w.heap.size + 1 + 1 by omega)).trans XB.out) (j := 1) (v := .slice la l.length lp) rfl
    have EW : Below w.heap.size w wr := EA.trans (hbel.mono (by omega))
    have hkn := Int.natCast_nonneg k
    by_cases hlt : k < l.length
    · obtain ⟨qb, qo, rfl, qc0, qc1, qc2, qc3, qc4, qc5, qr, Aq0, Aq1, Aq2, Aq3, Aq4, Aq5⟩ := Rep.get6 (HL.out.1.below EW) hlt rfl
      have hbd := Rep.raw_bdd HL.out hlt
      have hfy := fun q => filter_yes (p := p) hlt q
      have hfn := fun q => filter_no (p := p) hlt q
      have hol : ((l.take k).filter p).length ≤ 16777216 := by have h2 := filter_take_le (p := p) (l := l) (k := k) (by omega); omega
      generalize l[k] = x at *
      have HFY := Lib.hid hfy; have HFN := Lib.hid hfn; clear hfy hfn
      have HXR := Lib.hid qr
      obtain ⟨qv0, qv1, qv2, qhe, q_0, q_1, q_2, q_3, q_4, q_5, q_6, q_7, q_8⟩ := RCacheEntry_raw qr
      simp only [List.cons.injEq, and_true] at qhe
      obtain ⟨rfl, rfl, rfl, rfl, rfl, rfl⟩ := qhe
      obtain ⟨qa0, qp0, qh0, ql0⟩ := Rep.len_raw q_2; obtain rfl : qc0 = _ := by simpa using qh0
      clear qh0
      obtain ⟨qa1, qp1, qh1, ql1⟩ := Rep.len_raw q_3; obtain rfl : qc1 = _ := by simpa using qh1
      clear qh1
      obtain ⟨qa2, qp2, qh2, ql2⟩ := Rep.len_raw q_5; obtain rfl : qc2 = _ := by simpa using qh2
      clear qh2
      have PX : Hid (RData.rd wr _ x.1) := Lib.hid ⟨q_0, hbd.1⟩
      have HU := Lib.hid q_8
      go_wp2_with fail
      generalize hwC : World.alloc wr _ = wC
      have EC : Below wr.heap.size wr wC := by rw [← hwC]; exact (Below.refl _ _).alloc (Nat.le_refl _) _
      have M0 : wC.cell? ⟨wr.heap.size, 0, none⟩ = some (.slice qa0 x.1.1.length qp0) := by rw [← hwC]; simp [go_sem]
      have M1 : wC.cell? ⟨wr.heap.size, 1, none⟩ = some (.slice qa1 x.1.2.1.length qp1) := by rw [← hwC]; simp [go_sem]
      have M2 : wC.cell? ⟨wr.heap.size, 2, none⟩ = some (.slice qa2 x.1.2.2.1.length qp2) := by rw [← hwC]; simp [go_sem]
      have M3 : wC.cell? ⟨wr.heap.size, 3, none⟩ = some (.int .i64 x.1.2.2.2.1) := by rw [← hwC]; simp [go_sem]
      have M4 : wC.cell? ⟨wr.heap.size, 4, none⟩ = some (.int .i64 x.1.2.2.2.2) := by rw [← hwC]; simp [go_sem]
      have M5 : wC.cell? ⟨wr.heap.size, 5, none⟩ = some (.int .i64 x.2) := by rw [← hwC]; simp [go_sem]
      clear hwC
      have hsC := EC.size
      refine (HCL.out wC (EW.trans (EC.mono EW.size)) _ _ (HXR.out.below EC)).mono ?_
      rintro e wD ⟨rfl, hbD⟩
      replace M0 := cell_later hbD M0
      replace M1 := cell_later hbD M1
      replace M2 := cell_later hbD M2
      replace M3 := cell_later hbD M3
      replace M4 := cell_later hbD M4
      replace M5 := cell_later hbD M5
      have hbS := EC.trans (hbD.mono EC.size)
      have hsD := hbD.size
      have XS := keepBox XV.out hbS
      have hbelS := hbel.trans (hbS.mono (by omega))
      have HOS := Lib.hid (HO.out.below hbS)
      clear hbD
      cases hp : p x
      · have HT := Lib.hid (HFN.out hp)
        clear HFY HFN hp
        have HX2 := Lib.hid XS
        clear XS
        go_wp2
        go_roundw
        case rel => exact ⟨k + 1, _, by omega, by go_num, HX2, Lib.hid ((HOS.out.cast HT.out.symm).wide (fun j hj => ⟨hj.1, by have := hj.2; omega⟩)), hbelS, by omega⟩
        case measure => simp [intOf]; omega
      · have HSN := Lib.hid (HFY.out hp)
        clear HFY HFN hp
        have B0 := boxCell XS (j := 0) (v := .int .i64 c) rfl
        have B1 := boxCell XS (j := 1) rfl
        go_upto_region 6 with fail
        refine wp_region_softP_tail (fun W => Below wD.heap.size wD W) [(0, true), (1, true), (2, true), (3, true), (5, true), (6, true), (4, false), (7, true), (8, false)] (by kernel_rfl) (by kernel_rfl) (fun c a d v w h => by cases d <;> exact h) ((Below.refl _ _).drew) ?_
        intro wS HS
        simp only [pickOps, List.length_cons, List.length_nil, List.getElem?_cons_succ, List.getElem?_cons_zero, List.map_cons, List.map_nil, List.cons_append, List.nil_append, List.drop_succ_cons, List.drop_zero]
        iterate 3
         all_goals first | (refine soft_pass rfl HS ?_) | (refine soft_read (v := ?_) rfl (fun W hW => ?_) ?_; rotate_left; (· go_simp; try with_reducible rfl))
         all_goals try simp only [Act.put, List.setIfInBounds_toArray, List.set_cons_zero, List.set_cons_succ]
         all_goals first | (refine soft_pass rfl HS ?_) | (refine soft_read (v := ?_) rfl (fun W hW => ?_) ?_; rotate_left; (· have A_B0 := cell_later hW B0; have A_B1 := cell_later hW B1; have A_M0 := cell_later hW M0; have A_M1 := cell_later hW M1; have A_M2 := cell_later hW M2; have A_M3 := cell_later hW M3; have A_M4 := cell_later hW M4; have A_M5 := cell_later hW M5; clear hW; go_simp; try with_reducible rfl))
         all_goals try simp only [Act.put, List.setIfInBounds_toArray, List.set_cons_zero, List.set_cons_succ]
        all_goals first | (refine soft_pass rfl HS ?_) | (refine soft_do rfl (fun K hK => ?_); go_simp; refine (implcopyData_c (PX.out.below (hbS.trans (HS.mono hbS.size)))).mono ?_; rintro e wT ⟨tc, rfl, OT, hbT⟩; obtain ⟨tv0, tv1, tv2, rfl, t_0, t_1, t_2, t_3, t_4, t_5, t_6⟩ := RData_raw OT.raw; obtain ⟨ta0, tp0, th0, tl0⟩ := Rep.len_raw t_1; obtain rfl : tv0 = _ := (by simpa using th0); clear th0; obtain ⟨ta1, tp1, th1, tl1⟩ := Rep.len_raw t_2; obtain rfl : tv1 = _ := (by simpa using th1); clear th1; obtain ⟨ta2, tp2, th2, tl2⟩ := Rep.len_raw t_4; obtain rfl : tv2 = _ := (by simpa using th2); clear th2; clear t_0 t_1 t_2 t_3 t_4 t_5 t_6; have hsT := hbT.size; have hrS := HS.size; have HOT := Lib.hid OT; replace HS := HS.trans (hbT.mono HS.size); refine hK _ _ HS ?_; clear hK K hbT OT)
        all_goals try simp only [Act.put, List.setIfInBounds_toArray, List.set_cons_zero, List.set_cons_succ]
        all_goals first | (refine soft_pass rfl HS ?_) | (refine soft_read (v := ?_) rfl (fun W hW => ?_) ?_; rotate_left; (· go_simp; try with_reducible rfl))
        all_goals try simp only [Act.put, List.setIfInBounds_toArray, List.set_cons_zero, List.set_cons_succ]
        all_goals first | (refine soft_pass rfl HS ?_) | (refine soft_do rfl (fun K hK => ?_); go_simp; refine hK _ _ (HS.alloc HS.size _) ?_; clear hK K)
        all_goals try simp only [Act.put, List.setIfInBounds_toArray, List.set_cons_zero, List.set_cons_succ]
        all_goals refine soft_rest ?_
        have hsW := HS.size
        have hbSW := hbS.trans (HS.mono hbS.size)
        have XW := keepBox XV.out hbSW
        have hbelW := hbel.trans (hbSW.mono (by omega))
        replace HO := Lib.hid (HO.out.below hbSW)
        go_wp2_with (at_builtin; refine Rep.wpList_pushB rfl _ _ 41 rfl (r := RCacheEntry) (e := 152) Tryz.underlying41 infCacheEntry rfl (by decide) (by decide) (B := w.heap.size + 3) HO.out (by rfl) (by rfl) rfl (Rep.own.wide (T := Btw wr.heap.size wT.heap.size) (Rep.own_flat (r := RData) (q := Rep.int) (cs := [.slice ta0 x.1.1.length tp0, .slice ta1 x.1.2.1.length tp1, .slice ta2 x.1.2.2.1.length tp2, .int .i64 x.1.2.2.2.1, .int .i64 x.1.2.2.2.2]) (ds := [.int .i64 x.2]) (x := x.1) (y := x.2) (HOT.out) (Rep.flat_int HU.out)) (fun j hj => ⟨by have := hj.1; omega, hj.2⟩)) rfl (fun j h1 h2 => by have p := h1.2; have q := h2.1; omega) (fun j hj => ⟨hj.1, by have := hj.2; omega⟩) (fun j hj => ⟨by have := hj.1; omega, by have := hj.2; omega⟩) (by omega) (by omega) ?_)
        intro v2 w2 hown2 hbel2 hz2
        obtain ⟨va2, vn2, vc2, hv2, HV2N⟩ := hown2.parts; obtain rfl := hv2
        have XV2 := (hbel2.block _ (by omega)).trans XW
        have N1 := boxCell XV2 (j := 1) rfl
        have NF := frozen_of_row w2 (w.heap.size + 1 + 1) 1 _ _ XV2
        have hbel3 := hbelW.trans (hbel2.mono (by omega))
        have HX2 := Lib.hid XV2
        have HO2 := Lib.hid (Rep.own0.cast hown2 (HSN.out.symm))
        clear XV2 hown2 HO hbel2 hbel
        go_wp2
        go_roundw
        case rel => exact ⟨k + 1, _, by omega, by go_num, Lib.hid (heap_setCell_same w2 _ 1 _ _ _ HX2.out), Lib.hid ((HO2.out.setCell (by intro q; have := q.1; first | omega | (simp at this; omega) | (simp at this))).wide (fun j hj => ⟨hj.1, by simpa [World.setCell] using hj.2⟩)), hbel3.setCell (by simp) _, by simp [World.setCell]; omega⟩
        case measure => simp [intOf]; omega
    · obtain rfl : k = l.length := by omega
      skip
      have M0 := boxCell XV.out (j := 0) (v := .int .i64 c) rfl
      have M1 := boxCell XV.out (j := 1) rfl
      have R0 := boxCell ((hbel.block _ (show w.heap.size + 1 < w.heap.size + 1 + 1 by omega)).trans XR.out) (j := 0) (v := .int .i64 0) rfl
      have R1 := boxCell ((hbel.block _ (show w.heap.size + 1 < w.heap.size + 1 + 1 by omega)).trans XR.out) (j := 1) (v := .slice none 0 0) rfl
      have F0 := fun j => frozen_of_row wr (w.heap.size + 1) j _ _ ((hbel.block _ (show w.heap.size + 1 < w.heap.size + 1 + 1 by omega)).trans XR.out)
      have F00 := F0 0
      have F01 := F0 1
      clear F0
      have HF := Lib.hid (HO.out.cast (by rw [List.take_length]))
      have HFL : Hid ((l.filter p).length ≤ Big) := Lib.hid (by have := List.length_filter_le p l; unfold Big; omega)
      go_wp2
      refine bodyPost_ret (v := .agg #[.int .i64 c, .slice oa on oc]) (by simp [results, Tryz.results123, go_sem, R0, R1, F00, F01]) rfl ⟨[_, _], rfl, ?_, ?_⟩
      · exact Rep.flat_own (r := Rep.int) (q := Rep.slice 152 RCacheEntry) (cs := [_]) (Rep.flat_int HCR.out) ((((HF.out.own HFL.out).setCell (by intro q; have := q.1; first | omega | (simp at this; omega) | (simp at this))).setCell (by intro q; have := q.1; first | omega | (simp at this; omega) | (simp at this))).wide (fun j hj => ⟨by have := hj.1; omega, by simpa [World.setCell] using hj.2⟩))
      · exact (EW.setCell (by simp) _).setCell (by simp) _
set_option maxHeartbeats 400000 in
theorem implcopyStore1_c {w : World} {ds : List Value} {y : LCacheEntry} (hy : RCacheEntry.raw w ds y) : Calls Tryz.prog 124 (#[.agg ds.toArray] ++ #[]) w fun e w' => e = .returned (.bool true) ∧ Below w.heap.size w w' := by
  obtain ⟨av0, av1, av2, rfl, a_0, a_1, a_2, a_3, a_4, a_5, a_6, a_7, a_8⟩ := RCacheEntry_raw hy
  obtain ⟨aa0, ap0, ah0, al0⟩ := Rep.len_raw a_2; obtain rfl : av0 = _ := by simpa using ah0
  clear ah0
  obtain ⟨aa1, ap1, ah1, al1⟩ := Rep.len_raw a_3; obtain rfl : av1 = _ := by simpa using ah1
  clear ah1
  obtain ⟨aa2, ap2, ah2, al2⟩ := Rep.len_raw a_5; obtain rfl : av2 = _ := by simpa using ah2
  clear ah2
  clear hy a_0 a_1 a_2 a_3 a_4 a_5 a_6 a_7 a_8
  show Calls Tryz.prog 124 #[_] w _
  go_enter Tryz.func124, Tryz.ntmps124
  go_wp2
  go_ret
  exact ⟨rfl, (by repeat (first | (with_reducible exact Below.refl _ _) | refine Below.alloc ?_ (by simp; try omega) _ | refine Below.drew ?_ | refine Below.setCell ?_ (by simp; try omega) _))⟩
theorem callable_copyStore1 : Callable Tryz.prog 124 := callable_of Tryz.func124 (by kernel_rfl) (by kernel_rfl)
set_option maxHeartbeats 1000000 in
theorem implcopyStore_c {w : World} {cs : List Value} {x : LContentStore} (hx : RContentStore.rd w cs x) : Calls Tryz.prog 85 #[.agg cs.toArray] w (MadeAgg RContentStore x w) := by
  have HX := Lib.hid hx
  obtain ⟨hx, hbd⟩ := hx
  obtain ⟨sv, rfl, s_r, hl⟩ := RContentStore_raw hx
  obtain ⟨la, lp, hva, _⟩ := Rep.len_raw hl; obtain rfl : sv = _ := by simpa using hva
  obtain ⟨c, l⟩ := x
  have HL : Hid ((Rep.slice 152 RCacheEntry).rd w [.slice la l.length lp] l) := Lib.hid ⟨hl, hbd.2⟩
  have hlb : l.length ≤ 16777216 := hbd.2.1
  have HCR := Lib.hid s_r
  clear hva hx s_r hl hbd
  have HFT : Hid (l.filter (fun _ => true) = l) := Lib.hid (by simp)
  go_enter Tryz.func85, Tryz.ntmps85
  go_wp2_with fail
  generalize hwB : World.alloc (World.alloc w _) _ = wB
  have EB : Below w.heap.size w wB := by rw [← hwB]; exact (by repeat (first | (with_reducible exact Below.refl _ _) | refine Below.alloc ?_ (by simp; try omega) _ | refine Below.drew ?_ | refine Below.setCell ?_ (by simp; try omega) _))
  have XR : Hid (wB.heap[w.heap.size + 1]? = some (.cells #[.int .i64 0, .slice none 0 0] 43 (0, 0))) := Lib.hid (by rw [← hwB]; exact heap_new_at (by simp))
  clear hwB
  have hzB := EB.size
  refine (implkeepStore_c (fun _ => true) callable_copyStore1 (HX.out.below EB) (fun wr _ y ds hy => implcopyStore1_c hy)).mono ?_
  rintro e w1 ⟨oc, rfl, O1, hb1⟩
  replace O1 := show RContentStore.own w1 oc (c, l) _ from HFT.out ▸ O1
  obtain ⟨ov, rfl, o_r, o_l⟩ := RContentStore_raw O1.raw
  obtain ⟨oa, op, hov, _⟩ := Rep.len_raw o_l; obtain rfl : ov = _ := by simpa using hov
  have X1 := keepBox XR.out hb1
  have M0 := boxCell (b := w.heap.size + 1) X1 (j := 0) rfl
  have M1 := boxCell (b := w.heap.size + 1) X1 (j := 1) rfl
  have F0 := frozen_of_row w1 (w.heap.size + 1) 0 _ _ X1
  have F1 := frozen_of_row w1 (w.heap.size + 1) 1 _ _ X1
  have HO1 := Lib.hid O1
  have E1 := EB.trans (hb1.mono EB.size)
  have hbz : w.heap.size + 2 ≤ wB.heap.size := by have := (Array.getElem?_eq_some_iff.1 XR.out).1; omega
  clear hov o_r o_l O1 hb1
  go_wp2
  refine bodyPost_ret (v := .agg #[.int .i64 c, .slice oa l.length op]) (by simp [results, Tryz.results85, go_sem, M0, M1, F0, F1]) rfl ⟨[_, _], rfl, ?_, ?_⟩
  · exact ((HO1.out.setCell (by intro q; have := q.1; first | omega | (simp at this; omega) | (simp at this))).setCell (by intro q; have := q.1; first | omega | (simp at this; omega) | (simp at this))).wide (fun j hj => ⟨by have := hj.1; omega, by simpa [World.setCell] using hj.2⟩)
  · exact (E1.setCell (by simp) _).setCell (by simp) _
end Go.Proofs.YtcnhfggfgknooaaGreat

/-
  What is delivered here.
-/
import Derived.Test.YtjobmdnggfjkhaaCopyD
import Derived.IntWalk
import Derived.Deep.Cut
import Derived.WalkSpells
import Derived.WalkLawsBesides
namespace Go.Proofs.Ytjobmdnggfjkhaa
open Go.RowKit
set_option linter.unusedVariables false
set_option linter.unusedSimpArgs false
set_option linter.unnecessarySimpa false
def isLoc (x : LOutgoing) : Bool := !x.2.1 && (x.1 == 0)
def locD (l : List LOutgoing) : List LData := (l.filter isLoc).map (fun x => x.2.2.2)
theorem locD_len (l : List LOutgoing) : (locD l).length ≤ l.length := by unfold locD; rw [List.length_map]; exact List.length_filter_le _ _
set_option maxRecDepth 100000 in
set_option maxHeartbeats 4000000 in
theorem specLocalDeliveries_o {w : World} {vl : Value} {l : List LOutgoing} (hl : (Rep.slice 128 ROutgoing).rd w [vl] l) :
    Calls Try.prog 44 #[vl] w (Made0 126 RData ((l.filter isLoc).map (fun x : LOutgoing => x.2.2.2)) w) := by
  have HL := Lib.hid hl
  obtain ⟨la, lp, lh, ll⟩ := Rep.len_raw hl.1; obtain rfl : vl = _ := by simpa using lh
  have hlb : l.length ≤ 16777216 := hl.2.1
  clear lh hl
  go_enter Try.func44, Try.ntmps44
  go_wp2
  go_loopw [3, 4] (fun v i wr => ∃ k : Nat, k ≤ l.length ∧ i = .int .i64 k ∧ Hid (Rep.own0 126 RData wr v (((l.take k).filter isLoc).map (fun x : LOutgoing => x.2.2.2)) (Btw w.heap.size wr.heap.size)) ∧ Below w.heap.size w wr) (fun _ i _ => l.length - (intOf i).toNat)
  case atStart => exact ⟨0, Nat.zero_le _, rfl, Lib.hid Rep.own0.void, (Below.refl _ _).alloc (Nat.le_refl _) _⟩
  case round =>
    obtain ⟨k, hk, rfl, HO, hbel⟩ := hrel
    obtain ⟨oa, on, oc, ho, HON⟩ := HO.out.parts; obtain rfl := ho
    have hlk : (((l.take k).filter isLoc).map (fun x : LOutgoing => x.2.2.2)).length ≤ k := by exact fm_le hk
    have hrC := hbel.size
    by_cases hlt : k < l.length
    · obtain ⟨qb, qo, rfl, qc0, qc1, qc2, qc3, qc4, qc5, qc6, qc7, qc8, qc9, qc10, qr, Aq0, Aq1, Aq2, Aq3, Aq4, Aq5, Aq6, Aq7, Aq8, Aq9, Aq10⟩ := Rep.get11 (HL.out.1.below hbel) hlt rfl
      have hbd := Rep.raw_bdd HL.out hlt
      have hfy := fun q => fm_yes (p := isLoc) (g := (fun x : LOutgoing => x.2.2.2)) hlt q
      have hfn := fun q => fm_no (p := isLoc) (g := (fun x : LOutgoing => x.2.2.2)) hlt q
      generalize l[k] = x at *
      have HFY := Lib.hid hfy; have HFN := Lib.hid hfn; clear hfy hfn
      obtain ⟨x0, x1, x2, x3⟩ := x
      obtain ⟨qv2, qv6, qv7, qv8, qhe, q_0, q_1, q_2, q_3, q_4, q_5, q_6, q_7, q_8, q_9, q_10, q_11, q_12, q_13, q_14⟩ := ROutgoing_raw qr
      simp only [List.cons.injEq, and_true] at qhe
      obtain ⟨rfl, rfl, rfl, rfl, rfl, rfl, rfl, rfl, rfl, rfl, rfl⟩ := qhe
      obtain ⟨qa2, qp2, qh2, ql2⟩ := Rep.len_raw q_3; obtain rfl : qc2 = _ := by simpa using qh2
      clear qh2
      obtain ⟨qa6, qp6, qh6, ql6⟩ := Rep.len_raw q_9; obtain rfl : qc6 = _ := by simpa using qh6
      clear qh6
      obtain ⟨qa7, qp7, qh7, ql7⟩ := Rep.len_raw q_10; obtain rfl : qc7 = _ := by simpa using qh7
      clear qh7
      obtain ⟨qa8, qp8, qh8, ql8⟩ := Rep.len_raw q_12; obtain rfl : qc8 = _ := by simpa using qh8
      clear qh8
      have px : RData.rd wr _ x3 := ⟨q_7, hbd.2.2.2⟩
      cases x1
      · cases hq : (x0 == 0)
        · have HT := Lib.hid (HFN.out (by simp [isLoc, hq]))
          clear HFY HFN
          go_wp2
          go_roundw
          case rel => exact ⟨k + 1, by omega, by go_num, Lib.hid (HO.out.cast HT.out.symm), hbel⟩
          case measure => simp [intOf]; omega
        · have HSN := Lib.hid (HFY.out (by simp [isLoc, hq]))
          clear HFY HFN
          go_wp2_with fail
          refine (specl8Copy_c px).mono ?_
          rintro e wT ⟨tc, rfl, OT, hbT⟩
          obtain ⟨tv0, tv1, tv2, rfl, t_0, t_1, t_2, t_3, t_4, t_5, t_6⟩ := RData_raw OT.raw
          obtain ⟨ta0, tp0, th0, tl0⟩ := Rep.len_raw t_1; obtain rfl : tv0 = _ := by simpa using th0
          clear th0
          obtain ⟨ta1, tp1, th1, tl1⟩ := Rep.len_raw t_2; obtain rfl : tv1 = _ := by simpa using th1
          clear th1
          obtain ⟨ta2, tp2, th2, tl2⟩ := Rep.len_raw t_4; obtain rfl : tv2 = _ := by simpa using th2
          clear th2
          clear t_0 t_1 t_2 t_3 t_4 t_5 t_6
          have hsT := hbT.size
          go_upto_region 7 with fail
          generalize hwD : World.alloc wT _ = wD
          have ED : Below wT.heap.size wT wD := by rw [← hwD]; exact (Below.refl _ _).alloc (Nat.le_refl _) _
          have hsD := ED.size
          have D0 : wD.cell? ⟨wT.heap.size, 0, none⟩ = some (.slice ta0 (x3.1).length tp0) := by rw [← hwD]; simp [go_sem]
          have D1 : wD.cell? ⟨wT.heap.size, 1, none⟩ = some (.slice ta1 (x3.2.1).length tp1) := by rw [← hwD]; simp [go_sem]
          have D2 : wD.cell? ⟨wT.heap.size, 2, none⟩ = some (.slice ta2 (x3.2.2.1).length tp2) := by rw [← hwD]; simp [go_sem]
          have D3 : wD.cell? ⟨wT.heap.size, 3, none⟩ = some (.int .i64 x3.2.2.2.1) := by rw [← hwD]; simp [go_sem]
          have D4 : wD.cell? ⟨wT.heap.size, 4, none⟩ = some (.int .i64 x3.2.2.2.2) := by rw [← hwD]; simp [go_sem]
          clear hwD
          have hbS := hbT.trans (ED.mono hbT.size)
          replace HO := Lib.hid (HO.out.below hbS)
          have hbW := hbel.trans (hbS.mono hbel.size)
          go_wp2_with (at_builtin; refine Rep.wpList_pushB rfl _ _ 71 rfl (r := RData) (e := 126) Try.underlying71 infData rfl (by decide) (by decide) (B := w.heap.size) HO.out (by rfl) (by rfl) rfl (Rep.own.wide (T := Btw wr.heap.size wT.heap.size) (OT.below ED) (fun j hj => ⟨by have := hj.1; omega, by have := hj.2; omega⟩)) rfl (fun j h1 h2 => by have p := h1.2; have q := h2.1; omega) (fun j hj => ⟨hj.1, by have := hj.2; omega⟩) (fun j hj => ⟨by have := hj.1; omega, by have := hj.2; omega⟩) (by omega) (by omega) ?_)
          intro v2 w2 hown2 hbel2 hz2
          replace hown2 := Rep.own0.cast hown2 (HSN.out.symm)
          have HO2 := Lib.hid hown2
          have hbel3 := hbW.trans hbel2
          clear hown2 HO hbel2
          go_wp2
          go_roundw
          case rel => exact ⟨k + 1, by omega, by go_num, HO2, hbel3⟩
          case measure => simp [intOf]; omega
      · have HT := Lib.hid (HFN.out (by simp [isLoc]))
        clear HFY HFN
        go_wp2
        go_roundw
        case rel => exact ⟨k + 1, by omega, by go_num, Lib.hid (HO.out.cast HT.out.symm), hbel⟩
        case measure => simp [intOf]; omega
    · obtain rfl : k = l.length := by omega
      go_wp2
      go_ret
      exact ⟨_, rfl, Rep.own0.cast HO.out (by rw [List.take_length]), hbel⟩
set_option maxRecDepth 100000 in
set_option maxHeartbeats 4000000 in
theorem implLocalDeliveries_o {w : World} {vl : Value} {l : List LOutgoing} (hl : (Rep.slice 128 ROutgoing).rd w [vl] l) :
    Calls Try.prog 46 #[vl] w (Made0 126 RData ((l.filter isLoc).map (fun x : LOutgoing => x.2.2.2)) w) := by
  have HL := Lib.hid hl
  obtain ⟨la, lp, lh, ll⟩ := Rep.len_raw hl.1; obtain rfl : vl = _ := by simpa using lh
  have hlb : l.length ≤ 16777216 := hl.2.1
  clear lh hl
  go_enter Try.func46, Try.ntmps46
  go_wp2
  go_loopw [3, 9] (fun v i wr => ∃ k : Nat, k ≤ l.length ∧ i = .int .i64 k ∧ Hid (Rep.own0 126 RData wr v (((l.take k).filter isLoc).map (fun x : LOutgoing => x.2.2.2)) (Btw w.heap.size wr.heap.size)) ∧ Below w.heap.size w wr) (fun _ i _ => l.length - (intOf i).toNat)
  case atStart => exact ⟨0, Nat.zero_le _, rfl, Lib.hid Rep.own0.void, (Below.refl _ _).alloc (Nat.le_refl _) _⟩
  case round =>
    obtain ⟨k, hk, rfl, HO, hbel⟩ := hrel
    obtain ⟨oa, on, oc, ho, HON⟩ := HO.out.parts; obtain rfl := ho
    have hlk : (((l.take k).filter isLoc).map (fun x : LOutgoing => x.2.2.2)).length ≤ k := by exact fm_le hk
    have hrC := hbel.size
    by_cases hlt : k < l.length
    · obtain ⟨qb, qo, rfl, qc0, qc1, qc2, qc3, qc4, qc5, qc6, qc7, qc8, qc9, qc10, qr, Aq0, Aq1, Aq2, Aq3, Aq4, Aq5, Aq6, Aq7, Aq8, Aq9, Aq10⟩ := Rep.get11 (HL.out.1.below hbel) hlt rfl
      have hbd := Rep.raw_bdd HL.out hlt
      have hfy := fun q => fm_yes (p := isLoc) (g := (fun x : LOutgoing => x.2.2.2)) hlt q
      have hfn := fun q => fm_no (p := isLoc) (g := (fun x : LOutgoing => x.2.2.2)) hlt q
      generalize l[k] = x at *
      have HFY := Lib.hid hfy; have HFN := Lib.hid hfn; clear hfy hfn
      obtain ⟨x0, x1, x2, x3⟩ := x
      obtain ⟨qv2, qv6, qv7, qv8, qhe, q_0, q_1, q_2, q_3, q_4, q_5, q_6, q_7, q_8, q_9, q_10, q_11, q_12, q_13, q_14⟩ := ROutgoing_raw qr
      simp only [List.cons.injEq, and_true] at qhe
      obtain ⟨rfl, rfl, rfl, rfl, rfl, rfl, rfl, rfl, rfl, rfl, rfl⟩ := qhe
      obtain ⟨qa2, qp2, qh2, ql2⟩ := Rep.len_raw q_3; obtain rfl : qc2 = _ := by simpa using qh2
      clear qh2
      obtain ⟨qa6, qp6, qh6, ql6⟩ := Rep.len_raw q_9; obtain rfl : qc6 = _ := by simpa using qh6
      clear qh6
      obtain ⟨qa7, qp7, qh7, ql7⟩ := Rep.len_raw q_10; obtain rfl : qc7 = _ := by simpa using qh7
      clear qh7
      obtain ⟨qa8, qp8, qh8, ql8⟩ := Rep.len_raw q_12; obtain rfl : qc8 = _ := by simpa using qh8
      clear qh8
      have px : RData.rd wr _ x3 := ⟨q_7, hbd.2.2.2⟩
      go_upto_region 5 with fail
      generalize hwC : World.alloc wr _ = wC
      have EC : Below wr.heap.size wr wC := by rw [← hwC]; exact (Below.refl _ _).alloc (Nat.le_refl _) _
      have hsC := EC.size
      have M0 : wC.cell? ⟨wr.heap.size, 0, none⟩ = some (.int .i64 x0) := by rw [← hwC]; simp [go_sem]
      have M1 : wC.cell? ⟨wr.heap.size, 1, none⟩ = some (.bool x1) := by rw [← hwC]; simp [go_sem]
      have M2 : wC.cell? ⟨wr.heap.size, 2, none⟩ = some (.slice qa2 (x2.1).length qp2) := by rw [← hwC]; simp [go_sem]
      have M3 : wC.cell? ⟨wr.heap.size, 3, none⟩ = some (.int .i64 x2.2.1) := by rw [← hwC]; simp [go_sem]
      have M4 : wC.cell? ⟨wr.heap.size, 4, none⟩ = some (.int .i64 x2.2.2.1) := by rw [← hwC]; simp [go_sem]
      have M5 : wC.cell? ⟨wr.heap.size, 5, none⟩ = some (.int .i64 x2.2.2.2) := by rw [← hwC]; simp [go_sem]
      have M6 : wC.cell? ⟨wr.heap.size, 6, none⟩ = some (.slice qa6 (x3.1).length qp6) := by rw [← hwC]; simp [go_sem]
      have M7 : wC.cell? ⟨wr.heap.size, 7, none⟩ = some (.slice qa7 (x3.2.1).length qp7) := by rw [← hwC]; simp [go_sem]
      have M8 : wC.cell? ⟨wr.heap.size, 8, none⟩ = some (.slice qa8 (x3.2.2.1).length qp8) := by rw [← hwC]; simp [go_sem]
      have M9 : wC.cell? ⟨wr.heap.size, 9, none⟩ = some (.int .i64 x3.2.2.2.1) := by rw [← hwC]; simp [go_sem]
      have M10 : wC.cell? ⟨wr.heap.size, 10, none⟩ = some (.int .i64 x3.2.2.2.2) := by rw [← hwC]; simp [go_sem]
      clear hwC
      replace HO := Lib.hid ((HO.out.below EC).wide (T := Btw w.heap.size wC.heap.size) (fun j hj => ⟨hj.1, by have := hj.2; omega⟩))
      have hbC := hbel.trans (EC.mono hbel.size)
      cases x1
      · cases hq : (x0 == 0)
        · have HT := Lib.hid (HFN.out (by simp [isLoc, hq]))
          clear HFY HFN
          go_wp2
          go_roundw
          case rel => exact ⟨k + 1, by omega, by go_num, Lib.hid (HO.out.cast HT.out.symm), hbC⟩
          case measure => simp [intOf]; omega
        · have HSN := Lib.hid (HFY.out (by simp [isLoc, hq]))
          clear HFY HFN
          go_wp2_with fail
          refine (implcopyData_c (px.below EC)).mono ?_
          rintro e wT ⟨tc, rfl, OT, hbT⟩
          obtain ⟨tv0, tv1, tv2, rfl, t_0, t_1, t_2, t_3, t_4, t_5, t_6⟩ := RData_raw OT.raw
          obtain ⟨ta0, tp0, th0, tl0⟩ := Rep.len_raw t_1; obtain rfl : tv0 = _ := by simpa using th0
          clear th0
          obtain ⟨ta1, tp1, th1, tl1⟩ := Rep.len_raw t_2; obtain rfl : tv1 = _ := by simpa using th1
          clear th1
          obtain ⟨ta2, tp2, th2, tl2⟩ := Rep.len_raw t_4; obtain rfl : tv2 = _ := by simpa using th2
          clear th2
          clear t_0 t_1 t_2 t_3 t_4 t_5 t_6
          have hsT := hbT.size
          have hbS := hbT
          replace HO := Lib.hid (HO.out.below hbS)
          have hbW := hbC.trans (hbS.mono hbC.size)
          go_wp2_with (at_builtin; refine Rep.wpList_pushB rfl _ _ 71 rfl (r := RData) (e := 126) Try.underlying71 infData rfl (by decide) (by decide) (B := w.heap.size) HO.out (by rfl) (by rfl) rfl (Rep.own.wide (T := Btw wC.heap.size wT.heap.size) (OT) (fun j hj => ⟨by have := hj.1; omega, by have := hj.2; omega⟩)) rfl (fun j h1 h2 => by have p := h1.2; have q := h2.1; omega) (fun j hj => ⟨hj.1, by have := hj.2; omega⟩) (fun j hj => ⟨by have := hj.1; omega, by have := hj.2; omega⟩) (by omega) (by omega) ?_)
          intro v2 w2 hown2 hbel2 hz2
          replace hown2 := Rep.own0.cast hown2 (HSN.out.symm)
          have HO2 := Lib.hid hown2
          have hbel3 := hbW.trans hbel2
          clear hown2 HO hbel2
          go_wp2
          go_roundw
          case rel => exact ⟨k + 1, by omega, by go_num, HO2, hbel3⟩
          case measure => simp [intOf]; omega
      · have HT := Lib.hid (HFN.out (by simp [isLoc]))
        clear HFY HFN
        go_wp2
        go_roundw
        case rel => exact ⟨k + 1, by omega, by go_num, Lib.hid (HO.out.cast HT.out.symm), hbC⟩
        case measure => simp [intOf]; omega
    · obtain rfl : k = l.length := by omega
      go_wp2
      go_ret
      exact ⟨_, rfl, Rep.own0.cast HO.out (by rw [List.take_length]), hbel⟩
theorem specLocalDeliveries_c {w : World} {vl : Value} {l : List LOutgoing} (hl : (Rep.slice 128 ROutgoing).rd w [vl] l) :
    Calls Try.prog 44 #[vl] w (MadePost (Rep.slice 126 RData) (locD l) w) :=
  (specLocalDeliveries_o hl).mono fun e w1 h => h.post (Nat.le_trans (locD_len l) hl.2.1)
theorem implLocalDeliveries_c {w : World} {vl : Value} {l : List LOutgoing} (hl : (Rep.slice 128 ROutgoing).rd w [vl] l) :
    Calls Try.prog 46 #[vl] w (MadePost (Rep.slice 126 RData) (locD l) w) :=
  (implLocalDeliveries_o hl).mono fun e w1 h => h.post (Nat.le_trans (locD_len l) hl.2.1)
end Go.Proofs.Ytjobmdnggfjkhaa

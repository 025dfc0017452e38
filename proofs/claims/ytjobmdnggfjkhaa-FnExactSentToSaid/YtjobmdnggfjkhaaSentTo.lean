/-
  What is sent to a face.
-/
import Derived.Test.YtjobmdnggfjkhaaCopyD
import Derived.IntWalk
import Derived.Deep.Cut
import Derived.WalkSpells
import Derived.WalkLawsBesides
namespace Go.Proofs.Ytjobmdnggfjkhaa
open Go.RowKit
set_option linter.unusedVariables false
set_option linter.unusedSimpArgs false
set_option linter.unnecessarySimpa false
def toFace (f : Int) (x : LOutgoing) : Bool := x.1 == f
def sentT (f : Int) (l : List LOutgoing) : List LOutgoing := l.filter (toFace f)
theorem sentT_len (f : Int) (l : List LOutgoing) : (sentT f l).length ≤ l.length := List.length_filter_le _ _
set_option maxRecDepth 100000 in
set_option maxHeartbeats 8000000 in
theorem specl17Copy_c {w : World} {cx : List Value} {x : LOutgoing} (hx : ROutgoing.rd w cx x) : Calls Try.prog 97 #[.agg cx.toArray] w (MadeAgg ROutgoing x w) := by
  obtain ⟨q1, q2, q3, q4⟩ := hx.2
  obtain ⟨av2, av6, av7, av8, rfl, a_0, a_1, a_2, a_3, a_4, a_5, a_6, a_7, a_8, a_9, a_10, a_11, a_12, a_13, a_14⟩ := ROutgoing_raw hx.1
  obtain ⟨aa2, ap2, ah2, al2⟩ := Rep.len_raw a_3; obtain rfl : av2 = _ := by simpa using ah2
  clear ah2
  obtain ⟨aa6, ap6, ah6, al6⟩ := Rep.len_raw a_9; obtain rfl : av6 = _ := by simpa using ah6
  clear ah6
  obtain ⟨aa7, ap7, ah7, al7⟩ := Rep.len_raw a_10; obtain rfl : av7 = _ := by simpa using ah7
  clear ah7
  obtain ⟨aa8, ap8, ah8, al8⟩ := Rep.len_raw a_12; obtain rfl : av8 = _ := by simpa using ah8
  clear ah8
  have HI := Lib.hid a_0
  have RI : Hid (RInterest.rd w _ x.2.2.1) := Lib.hid ⟨a_1, q3⟩
  have RD : Hid (RData.rd w _ x.2.2.2) := Lib.hid ⟨a_7, q4⟩
  clear hx q1 q2 q3 q4 a_0 a_1 a_2 a_3 a_4 a_5 a_6 a_7 a_8 a_9 a_10 a_11 a_12 a_13 a_14
  go_enter Try.func97, Try.ntmps97
  go_upto_region 1 with fail
  generalize hwB : World.alloc (World.alloc w _) _ = wB
  have EB : Below w.heap.size w wB := by rw [← hwB]; exact (by repeat (first | (with_reducible exact Below.refl _ _) | refine Below.alloc ?_ (by simp; try omega) _ | refine Below.drew ?_ | refine Below.setCell ?_ (by simp; try omega) _))
  have K0 : wB.cell? ⟨w.heap.size, 0, none⟩ = some (.int .i64 x.1) := by rw [← hwB]; simp [go_sem]
  have K1 : wB.cell? ⟨w.heap.size, 1, none⟩ = some (.bool x.2.1) := by rw [← hwB]; simp [go_sem]
  have K2 : wB.cell? ⟨w.heap.size, 2, none⟩ = some (.slice aa2 x.2.2.1.1.length ap2) := by rw [← hwB]; simp [go_sem]
  have K3 : wB.cell? ⟨w.heap.size, 3, none⟩ = some (.int .i64 x.2.2.1.2.1) := by rw [← hwB]; simp [go_sem]
  have K4 : wB.cell? ⟨w.heap.size, 4, none⟩ = some (.int .i64 x.2.2.1.2.2.1) := by rw [← hwB]; simp [go_sem]
  have K5 : wB.cell? ⟨w.heap.size, 5, none⟩ = some (.int .i64 x.2.2.1.2.2.2) := by rw [← hwB]; simp [go_sem]
  have K6 : wB.cell? ⟨w.heap.size, 6, none⟩ = some (.slice aa6 x.2.2.2.1.length ap6) := by rw [← hwB]; simp [go_sem]
  have K7 : wB.cell? ⟨w.heap.size, 7, none⟩ = some (.slice aa7 x.2.2.2.2.1.length ap7) := by rw [← hwB]; simp [go_sem]
  have K8 : wB.cell? ⟨w.heap.size, 8, none⟩ = some (.slice aa8 x.2.2.2.2.2.1.length ap8) := by rw [← hwB]; simp [go_sem]
  have K9 : wB.cell? ⟨w.heap.size, 9, none⟩ = some (.int .i64 x.2.2.2.2.2.2.1) := by rw [← hwB]; simp [go_sem]
  have K10 : wB.cell? ⟨w.heap.size, 10, none⟩ = some (.int .i64 x.2.2.2.2.2.2.2) := by rw [← hwB]; simp [go_sem]
  have XR : wB.heap[w.heap.size + 1]? = some (.cells #[.int .i64 0, .bool false, .slice none 0 0, .int .i64 0, .int .i64 0, .int .i64 0, .slice none 0 0, .slice none 0 0, .slice none 0 0, .int .i64 0, .int .i64 0] 128 (0, 0)) := by rw [← hwB]; exact heap_new_at (by simp)
  have hzB : wB.heap.size = w.heap.size + 2 := by rw [← hwB]; simp
  clear hwB
  refine wp_region_softP_tail (fun W => Below wB.heap.size wB W) [(0, true), (1, true), (2, true), (3, true), (4, true), (5, true), (7, true), (8, true), (6, false), (9, false), (10, true)] (by kernel_rfl) (by kernel_rfl) (fun c a d v w h => by cases d <;> exact h) ((Below.refl _ _).drew) ?_
  intro wS HS
  simp only [pickOps, List.length_cons, List.length_nil, List.getElem?_cons_succ, List.getElem?_cons_zero, List.map_cons, List.map_nil, List.cons_append, List.nil_append, List.drop_succ_cons, List.drop_zero]
  all_goals first | (refine soft_pass rfl HS ?_) | (refine soft_read (v := ?_) rfl (fun W hW => ?_) ?_; rotate_left; (· go_simp; try with_reducible rfl))
  all_goals try simp only [Act.put, List.setIfInBounds_toArray, List.set_cons_zero, List.set_cons_succ]
  all_goals first | (refine soft_pass rfl HS ?_) | (refine soft_read (v := ?_) rfl (fun W hW => ?_) ?_; rotate_left; (· have A_K0 := cell_later hW K0; have A_K1 := cell_later hW K1; have A_K2 := cell_later hW K2; have A_K3 := cell_later hW K3; have A_K4 := cell_later hW K4; have A_K5 := cell_later hW K5; have A_K6 := cell_later hW K6; have A_K7 := cell_later hW K7; have A_K8 := cell_later hW K8; have A_K9 := cell_later hW K9; have A_K10 := cell_later hW K10; clear hW; go_simp; try with_reducible rfl))
  all_goals try simp only [Act.put, List.setIfInBounds_toArray, List.set_cons_zero, List.set_cons_succ]
  all_goals first | (refine soft_pass rfl HS ?_) | (refine soft_read (v := ?_) rfl (fun W hW => ?_) ?_; rotate_left; (· go_simp; try with_reducible rfl))
  all_goals try simp only [Act.put, List.setIfInBounds_toArray, List.set_cons_zero, List.set_cons_succ]
  all_goals first | (refine soft_pass rfl HS ?_) | (refine soft_read (v := ?_) rfl (fun W hW => ?_) ?_; rotate_left; (· have A_K0 := cell_later hW K0; have A_K1 := cell_later hW K1; have A_K2 := cell_later hW K2; have A_K3 := cell_later hW K3; have A_K4 := cell_later hW K4; have A_K5 := cell_later hW K5; have A_K6 := cell_later hW K6; have A_K7 := cell_later hW K7; have A_K8 := cell_later hW K8; have A_K9 := cell_later hW K9; have A_K10 := cell_later hW K10; clear hW; go_simp; try with_reducible rfl))
  all_goals try simp only [Act.put, List.setIfInBounds_toArray, List.set_cons_zero, List.set_cons_succ]
  all_goals first | (refine soft_pass rfl HS ?_) | (refine soft_read (v := ?_) rfl (fun W hW => ?_) ?_; rotate_left; (· go_simp; try with_reducible rfl))
  all_goals try simp only [Act.put, List.setIfInBounds_toArray, List.set_cons_zero, List.set_cons_succ]
  all_goals first | (refine soft_pass rfl HS ?_) | (refine soft_read (v := ?_) rfl (fun W hW => ?_) ?_; rotate_left; (· have A_K0 := cell_later hW K0; have A_K1 := cell_later hW K1; have A_K2 := cell_later hW K2; have A_K3 := cell_later hW K3; have A_K4 := cell_later hW K4; have A_K5 := cell_later hW K5; have A_K6 := cell_later hW K6; have A_K7 := cell_later hW K7; have A_K8 := cell_later hW K8; have A_K9 := cell_later hW K9; have A_K10 := cell_later hW K10; clear hW; go_simp; try with_reducible rfl))
  all_goals try simp only [Act.put, List.setIfInBounds_toArray, List.set_cons_zero, List.set_cons_succ]
  all_goals first | (refine soft_pass rfl HS ?_) | (refine soft_read (v := ?_) rfl (fun W hW => ?_) ?_; rotate_left; (· go_simp; try with_reducible rfl))
  all_goals try simp only [Act.put, List.setIfInBounds_toArray, List.set_cons_zero, List.set_cons_succ]
  all_goals first | (refine soft_pass rfl HS ?_) | (refine soft_read (v := ?_) rfl (fun W hW => ?_) ?_; rotate_left; (· have A_K0 := cell_later hW K0; have A_K1 := cell_later hW K1; have A_K2 := cell_later hW K2; have A_K3 := cell_later hW K3; have A_K4 := cell_later hW K4; have A_K5 := cell_later hW K5; have A_K6 := cell_later hW K6; have A_K7 := cell_later hW K7; have A_K8 := cell_later hW K8; have A_K9 := cell_later hW K9; have A_K10 := cell_later hW K10; clear hW; go_simp; try with_reducible rfl))
  all_goals try simp only [Act.put, List.setIfInBounds_toArray, List.set_cons_zero, List.set_cons_succ]
  all_goals first | (refine soft_pass rfl HS ?_) | (refine soft_do rfl (fun K hK => ?_); go_simp; refine (specl7Copy_c (RI.out.below (EB.trans (HS.mono EB.size)))).mono ?_; rintro e wT1 ⟨tc, rfl, O, hbT⟩; obtain ⟨t1v0, rfl, t1_0, t1_1, t1_2, t1_3, t1_4⟩ := RInterest_raw O.raw; obtain ⟨t1a0, t1p0, t1h0, t1l0⟩ := Rep.len_raw t1_1; obtain rfl : t1v0 = _ := (by simpa using t1h0); clear t1h0; clear t1_0 t1_1 t1_2 t1_3 t1_4; have HO1 := Lib.hid O; have hz1 := hbT.size; have hs1 := HS.size; replace HS := HS.trans (hbT.mono HS.size); refine hK _ _ HS ?_; clear hK K hbT O)
  all_goals try simp only [Act.put, List.setIfInBounds_toArray, List.set_cons_zero, List.set_cons_succ]
  all_goals first | (refine soft_pass rfl HS ?_) | (refine soft_do rfl (fun K hK => ?_); go_simp; refine (specl8Copy_c (RD.out.below (EB.trans (HS.mono EB.size)))).mono ?_; rintro e wT2 ⟨tc, rfl, O, hbT⟩; obtain ⟨t2v0, t2v1, t2v2, rfl, t2_0, t2_1, t2_2, t2_3, t2_4, t2_5, t2_6⟩ := RData_raw O.raw; obtain ⟨t2a0, t2p0, t2h0, t2l0⟩ := Rep.len_raw t2_1; obtain rfl : t2v0 = _ := (by simpa using t2h0); clear t2h0; obtain ⟨t2a1, t2p1, t2h1, t2l1⟩ := Rep.len_raw t2_2; obtain rfl : t2v1 = _ := (by simpa using t2h1); clear t2h1; obtain ⟨t2a2, t2p2, t2h2, t2l2⟩ := Rep.len_raw t2_4; obtain rfl : t2v2 = _ := (by simpa using t2h2); clear t2h2; clear t2_0 t2_1 t2_2 t2_3 t2_4 t2_5 t2_6; have HO2 := Lib.hid O; replace HO1 := Lib.hid (HO1.out.below hbT); have hz2 := hbT.size; have hs2 := HS.size; replace HS := HS.trans (hbT.mono HS.size); refine hK _ _ HS ?_; clear hK K hbT O)
  all_goals try simp only [Act.put, List.setIfInBounds_toArray, List.set_cons_zero, List.set_cons_succ]
  all_goals first | (refine soft_pass rfl HS ?_) | (refine soft_read (v := ?_) rfl (fun W hW => ?_) ?_; rotate_left; (· go_simp; try with_reducible rfl))
  all_goals try simp only [Act.put, List.setIfInBounds_toArray, List.set_cons_zero, List.set_cons_succ]
  all_goals refine soft_rest ?_
  have X1 := keepBox XR HS
  have E1 := EB.trans (HS.mono EB.size)
  have M0 := boxCell (b := w.heap.size + 1) X1 (j := 0) rfl
  have F0 := frozen_of_row wT2 (w.heap.size + 1) 0 _ _ X1
  have M1 := boxCell (b := w.heap.size + 1) X1 (j := 1) rfl
  have F1 := frozen_of_row wT2 (w.heap.size + 1) 1 _ _ X1
  have M2 := boxCell (b := w.heap.size + 1) X1 (j := 2) rfl
  have F2 := frozen_of_row wT2 (w.heap.size + 1) 2 _ _ X1
  have M3 := boxCell (b := w.heap.size + 1) X1 (j := 3) rfl
  have F3 := frozen_of_row wT2 (w.heap.size + 1) 3 _ _ X1
  have M4 := boxCell (b := w.heap.size + 1) X1 (j := 4) rfl
  have F4 := frozen_of_row wT2 (w.heap.size + 1) 4 _ _ X1
  have M5 := boxCell (b := w.heap.size + 1) X1 (j := 5) rfl
  have F5 := frozen_of_row wT2 (w.heap.size + 1) 5 _ _ X1
  have M6 := boxCell (b := w.heap.size + 1) X1 (j := 6) rfl
  have F6 := frozen_of_row wT2 (w.heap.size + 1) 6 _ _ X1
  have M7 := boxCell (b := w.heap.size + 1) X1 (j := 7) rfl
  have F7 := frozen_of_row wT2 (w.heap.size + 1) 7 _ _ X1
  have M8 := boxCell (b := w.heap.size + 1) X1 (j := 8) rfl
  have F8 := frozen_of_row wT2 (w.heap.size + 1) 8 _ _ X1
  have M9 := boxCell (b := w.heap.size + 1) X1 (j := 9) rfl
  have F9 := frozen_of_row wT2 (w.heap.size + 1) 9 _ _ X1
  have M10 := boxCell (b := w.heap.size + 1) X1 (j := 10) rfl
  have F10 := frozen_of_row wT2 (w.heap.size + 1) 10 _ _ X1
  go_wp2
  refine bodyPost_ret (v := .agg #[.int .i64 x.1, .bool x.2.1, .slice t1a0 (x.2.2.1.1).length t1p0, .int .i64 x.2.2.1.2.1, .int .i64 x.2.2.1.2.2.1, .int .i64 x.2.2.1.2.2.2, .slice t2a0 (x.2.2.2.1).length t2p0, .slice t2a1 (x.2.2.2.2.1).length t2p1, .slice t2a2 (x.2.2.2.2.2.1).length t2p2, .int .i64 x.2.2.2.2.2.2.1, .int .i64 x.2.2.2.2.2.2.2]) (by simp [results, Try.results97, go_sem, M0, F0, M1, F1, M2, F2, M3, F3, M4, F4, M5, F5, M6, F6, M7, F7, M8, F8, M9, F9, M10, F10]) rfl ⟨[_, _, _, _, _, _, _, _, _, _, _], rfl, ?_, ?_⟩
  · refine Rep.own.wide (S := Btw wS.heap.size wT2.heap.size) ?_ (fun j hj => ⟨by have := hj.1; omega, by have := hj.2; simp [World.setCell]; omega⟩)
    exact Rep.flat_own (r := Rep.int) (q := Rep.pair Rep.bool (Rep.pair RInterest RData)) (cs := [.int .i64 x.1]) (x := x.1) (y := (x.2.1, x.2.2.1, x.2.2.2)) (Rep.flat_int HI.out) (Rep.flat_own (r := Rep.bool) (q := Rep.pair RInterest RData) (cs := [.bool x.2.1]) (x := x.2.1) (y := (x.2.2.1, x.2.2.2)) (Rep.flat_bool x.2.1) (Rep.own_pair (A := Btw wS.heap.size wT1.heap.size) (B := Btw wT1.heap.size wT2.heap.size) (Rep.own.out HO1.out (fun j h1 h2 => by simp (discharger := (simp; omega)) only [heap_setCell_other])) (Rep.own.out HO2.out (fun j h1 h2 => by simp (discharger := (simp; omega)) only [heap_setCell_other])) (fun j hj => ⟨hj.1, by have := hj.2; omega⟩) (fun j hj => ⟨by have := hj.1; omega, hj.2⟩) (fun j h1 h2 => by have p := h1.2; have q := h2.1; omega)))
  · repeat (first | (with_reducible exact E1) | refine Below.setCell ?_ (by first | (simp; done) | (simp; omega)) _)
set_option maxRecDepth 100000 in
set_option maxHeartbeats 4000000 in
theorem specSentTo_o {w : World} {vl : Value} {l : List LOutgoing} (hl : (Rep.slice 128 ROutgoing).rd w [vl] l) {f : Int} :
    Calls Try.prog 52 #[vl, .int .i64 f] w (Made0 128 ROutgoing (l.filter (toFace f)) w) := by
  have HL := Lib.hid hl
  obtain ⟨la, lp, lh, ll⟩ := Rep.len_raw hl.1; obtain rfl : vl = _ := by simpa using lh
  have hlb : l.length ≤ 16777216 := hl.2.1
  clear lh hl
  go_enter Try.func52, Try.ntmps52
  go_wp2
  go_loopw [5, 6] (fun v i wr => ∃ k : Nat, k ≤ l.length ∧ i = .int .i64 k ∧ Hid (Rep.own0 128 ROutgoing wr v ((l.take k).filter (toFace f)) (Btw w.heap.size wr.heap.size)) ∧ Below w.heap.size w wr) (fun _ i _ => l.length - (intOf i).toNat)
  case atStart => exact ⟨0, Nat.zero_le _, rfl, Lib.hid Rep.own0.void, (Below.refl _ _).alloc (Nat.le_refl _) _⟩
  case round =>
    obtain ⟨k, hk, rfl, HO, hbel⟩ := hrel
    obtain ⟨oa, on, oc, ho, HON⟩ := HO.out.parts; obtain rfl := ho
    have hlk : ((l.take k).filter (toFace f)).length ≤ k := by exact filter_take_le hk
    have hrC := hbel.size
    by_cases hlt : k < l.length
    · obtain ⟨qb, qo, rfl, qc0, qc1, qc2, qc3, qc4, qc5, qc6, qc7, qc8, qc9, qc10, qr, Aq0, Aq1, Aq2, Aq3, Aq4, Aq5, Aq6, Aq7, Aq8, Aq9, Aq10⟩ := Rep.get11 (HL.out.1.below hbel) hlt rfl
      have hbd := Rep.raw_bdd HL.out hlt
      have hfy := fun q => filter_yes (p := (toFace f)) hlt q
      have hfn := fun q => filter_no (p := (toFace f)) hlt q
      generalize l[k] = x at *
      have HFY := Lib.hid hfy; have HFN := Lib.hid hfn; clear hfy hfn
      obtain ⟨x0, x1, x2, x3⟩ := x
      obtain ⟨qv2, qv6, qv7, qv8, qhe, q_0, q_1, q_2, q_3, q_4, q_5, q_6, q_7, q_8, q_9, q_10, q_11, q_12, q_13, q_14⟩ := ROutgoing_raw qr
      simp only [List.cons.injEq, and_true] at qhe
      obtain ⟨rfl, rfl, rfl, rfl, rfl, rfl, rfl, rfl, rfl, rfl, rfl⟩ := qhe
      obtain ⟨qa2, qp2, qh2, ql2⟩ := Rep.len_raw q_3; obtain rfl : qc2 = _ := by simpa using qh2
      clear qh2
      obtain ⟨qa6, qp6, qh6, ql6⟩ := Rep.len_raw q_9; obtain rfl : qc6 = _ := by simpa using qh6
      clear qh6
      obtain ⟨qa7, qp7, qh7, ql7⟩ := Rep.len_raw q_10; obtain rfl : qc7 = _ := by simpa using qh7
      clear qh7
      obtain ⟨qa8, qp8, qh8, ql8⟩ := Rep.len_raw q_12; obtain rfl : qc8 = _ := by simpa using qh8
      clear qh8
      have px : ROutgoing.rd wr _ (x0, x1, x2, x3) := ⟨qr, hbd⟩
      cases hq : x0 == f
      · have HT := Lib.hid (HFN.out hq)
        clear HFY HFN
        go_wp2
        go_roundw
        case rel => exact ⟨k + 1, by omega, by go_num, Lib.hid (HO.out.cast HT.out.symm), hbel⟩
        case measure => simp [intOf]; omega
      · have HSN := Lib.hid (HFY.out hq)
        clear HFY HFN
        go_wp2_with fail
        refine (specl17Copy_c px).mono ?_
        rintro e wT ⟨tc, rfl, OT, hbT⟩
        obtain ⟨tv2, tv6, tv7, tv8, rfl, t_0, t_1, t_2, t_3, t_4, t_5, t_6, t_7, t_8, t_9, t_10, t_11, t_12, t_13, t_14⟩ := ROutgoing_raw OT.raw
        obtain ⟨ta2, tp2, th2, tl2⟩ := Rep.len_raw t_3; obtain rfl : tv2 = _ := by simpa using th2
        clear th2
        obtain ⟨ta6, tp6, th6, tl6⟩ := Rep.len_raw t_9; obtain rfl : tv6 = _ := by simpa using th6
        clear th6
        obtain ⟨ta7, tp7, th7, tl7⟩ := Rep.len_raw t_10; obtain rfl : tv7 = _ := by simpa using th7
        clear th7
        obtain ⟨ta8, tp8, th8, tl8⟩ := Rep.len_raw t_12; obtain rfl : tv8 = _ := by simpa using th8
        clear th8
        clear t_0 t_1 t_2 t_3 t_4 t_5 t_6 t_7 t_8 t_9 t_10 t_11 t_12 t_13 t_14
        have hsT := hbT.size
        go_upto_region 7 with fail
        generalize hwD : World.alloc wT _ = wD
        have ED : Below wT.heap.size wT wD := by rw [← hwD]; exact (Below.refl _ _).alloc (Nat.le_refl _) _
        have hsD := ED.size
        have D0 : wD.cell? ⟨wT.heap.size, 0, none⟩ = some (.int .i64 x0) := by rw [← hwD]; simp [go_sem]
        have D1 : wD.cell? ⟨wT.heap.size, 1, none⟩ = some (.bool x1) := by rw [← hwD]; simp [go_sem]
        have D2 : wD.cell? ⟨wT.heap.size, 2, none⟩ = some (.slice ta2 (x2.1).length tp2) := by rw [← hwD]; simp [go_sem]
        have D3 : wD.cell? ⟨wT.heap.size, 3, none⟩ = some (.int .i64 x2.2.1) := by rw [← hwD]; simp [go_sem]
        have D4 : wD.cell? ⟨wT.heap.size, 4, none⟩ = some (.int .i64 x2.2.2.1) := by rw [← hwD]; simp [go_sem]
        have D5 : wD.cell? ⟨wT.heap.size, 5, none⟩ = some (.int .i64 x2.2.2.2) := by rw [← hwD]; simp [go_sem]
        have D6 : wD.cell? ⟨wT.heap.size, 6, none⟩ = some (.slice ta6 (x3.1).length tp6) := by rw [← hwD]; simp [go_sem]
        have D7 : wD.cell? ⟨wT.heap.size, 7, none⟩ = some (.slice ta7 (x3.2.1).length tp7) := by rw [← hwD]; simp [go_sem]
        have D8 : wD.cell? ⟨wT.heap.size, 8, none⟩ = some (.slice ta8 (x3.2.2.1).length tp8) := by rw [← hwD]; simp [go_sem]
        have D9 : wD.cell? ⟨wT.heap.size, 9, none⟩ = some (.int .i64 x3.2.2.2.1) := by rw [← hwD]; simp [go_sem]
        have D10 : wD.cell? ⟨wT.heap.size, 10, none⟩ = some (.int .i64 x3.2.2.2.2) := by rw [← hwD]; simp [go_sem]
        clear hwD
        have hbS := hbT.trans (ED.mono hbT.size)
        replace HO := Lib.hid (HO.out.below hbS)
        have hbW := hbel.trans (hbS.mono hbel.size)
        go_wp2_with (at_builtin; refine Rep.wpList_pushB rfl _ _ 73 rfl (r := ROutgoing) (e := 128) Try.underlying73 infOutgoing rfl (by decide) (by decide) (B := w.heap.size) HO.out (by rfl) (by rfl) rfl (Rep.own.wide (T := Btw wr.heap.size wT.heap.size) (OT.below ED) (fun j hj => ⟨by have := hj.1; omega, by have := hj.2; omega⟩)) rfl (fun j h1 h2 => by have p := h1.2; have q := h2.1; omega) (fun j hj => ⟨hj.1, by have := hj.2; omega⟩) (fun j hj => ⟨by have := hj.1; omega, by have := hj.2; omega⟩) (by omega) (by omega) ?_)
        intro v2 w2 hown2 hbel2 hz2
        replace hown2 := Rep.own0.cast hown2 (HSN.out.symm)
        have HO2 := Lib.hid hown2
        have hbel3 := hbW.trans hbel2
        clear hown2 HO hbel2
        go_wp2
        go_roundw
        case rel => exact ⟨k + 1, by omega, by go_num, HO2, hbel3⟩
        case measure => simp [intOf]; omega
    · obtain rfl : k = l.length := by omega
      go_wp2
      go_ret
      exact ⟨_, rfl, Rep.own0.cast HO.out (by rw [List.take_length]), hbel⟩
set_option maxRecDepth 100000 in
set_option maxHeartbeats 4000000 in
theorem implSentTo_o {w : World} {vl : Value} {l : List LOutgoing} (hl : (Rep.slice 128 ROutgoing).rd w [vl] l) {f : Int} :
    Calls Try.prog 53 #[vl, .int .i64 f] w (Made0 128 ROutgoing (l.filter (toFace f)) w) := by
  have HL := Lib.hid hl
  obtain ⟨la, lp, lh, ll⟩ := Rep.len_raw hl.1; obtain rfl : vl = _ := by simpa using lh
  have hlb : l.length ≤ 16777216 := hl.2.1
  clear lh hl
  go_enter Try.func53, Try.ntmps53
  go_wp2
  go_loopw [5, 11] (fun v i wr => ∃ k : Nat, k ≤ l.length ∧ i = .int .i64 k ∧ Hid (Rep.own0 128 ROutgoing wr v ((l.take k).filter (toFace f)) (Btw w.heap.size wr.heap.size)) ∧ Below w.heap.size w wr) (fun _ i _ => l.length - (intOf i).toNat)
  case atStart => exact ⟨0, Nat.zero_le _, rfl, Lib.hid Rep.own0.void, (Below.refl _ _).alloc (Nat.le_refl _) _⟩
  case round =>
    obtain ⟨k, hk, rfl, HO, hbel⟩ := hrel
    obtain ⟨oa, on, oc, ho, HON⟩ := HO.out.parts; obtain rfl := ho
    have hlk : ((l.take k).filter (toFace f)).length ≤ k := by exact filter_take_le hk
    have hrC := hbel.size
    by_cases hlt : k < l.length
    · obtain ⟨qb, qo, rfl, qc0, qc1, qc2, qc3, qc4, qc5, qc6, qc7, qc8, qc9, qc10, qr, Aq0, Aq1, Aq2, Aq3, Aq4, Aq5, Aq6, Aq7, Aq8, Aq9, Aq10⟩ := Rep.get11 (HL.out.1.below hbel) hlt rfl
      have hbd := Rep.raw_bdd HL.out hlt
      have hfy := fun q => filter_yes (p := (toFace f)) hlt q
      have hfn := fun q => filter_no (p := (toFace f)) hlt q
      generalize l[k] = x at *
      have HFY := Lib.hid hfy; have HFN := Lib.hid hfn; clear hfy hfn
      obtain ⟨x0, x1, x2, x3⟩ := x
      obtain ⟨qv2, qv6, qv7, qv8, qhe, q_0, q_1, q_2, q_3, q_4, q_5, q_6, q_7, q_8, q_9, q_10, q_11, q_12, q_13, q_14⟩ := ROutgoing_raw qr
      simp only [List.cons.injEq, and_true] at qhe
      obtain ⟨rfl, rfl, rfl, rfl, rfl, rfl, rfl, rfl, rfl, rfl, rfl⟩ := qhe
      obtain ⟨qa2, qp2, qh2, ql2⟩ := Rep.len_raw q_3; obtain rfl : qc2 = _ := by simpa using qh2
      clear qh2
      obtain ⟨qa6, qp6, qh6, ql6⟩ := Rep.len_raw q_9; obtain rfl : qc6 = _ := by simpa using qh6
      clear qh6
      obtain ⟨qa7, qp7, qh7, ql7⟩ := Rep.len_raw q_10; obtain rfl : qc7 = _ := by simpa using qh7
      clear qh7
      obtain ⟨qa8, qp8, qh8, ql8⟩ := Rep.len_raw q_12; obtain rfl : qc8 = _ := by simpa using qh8
      clear qh8
      have px : ROutgoing.rd wr _ (x0, x1, x2, x3) := ⟨qr, hbd⟩
      go_upto_region 5 with fail
      generalize hwC : World.alloc wr _ = wC
      have EC : Below wr.heap.size wr wC := by rw [← hwC]; exact (Below.refl _ _).alloc (Nat.le_refl _) _
      have hsC := EC.size
      have M0 : wC.cell? ⟨wr.heap.size, 0, none⟩ = some (.int .i64 x0) := by rw [← hwC]; simp [go_sem]
      have M1 : wC.cell? ⟨wr.heap.size, 1, none⟩ = some (.bool x1) := by rw [← hwC]; simp [go_sem]
      have M2 : wC.cell? ⟨wr.heap.size, 2, none⟩ = some (.slice qa2 (x2.1).length qp2) := by rw [← hwC]; simp [go_sem]
      have M3 : wC.cell? ⟨wr.heap.size, 3, none⟩ = some (.int .i64 x2.2.1) := by rw [← hwC]; simp [go_sem]
      have M4 : wC.cell? ⟨wr.heap.size, 4, none⟩ = some (.int .i64 x2.2.2.1) := by rw [← hwC]; simp [go_sem]
      have M5 : wC.cell? ⟨wr.heap.size, 5, none⟩ = some (.int .i64 x2.2.2.2) := by rw [← hwC]; simp [go_sem]
      have M6 : wC.cell? ⟨wr.heap.size, 6, none⟩ = some (.slice qa6 (x3.1).length qp6) := by rw [← hwC]; simp [go_sem]
      have M7 : wC.cell? ⟨wr.heap.size, 7, none⟩ = some (.slice qa7 (x3.2.1).length qp7) := by rw [← hwC]; simp [go_sem]
      have M8 : wC.cell? ⟨wr.heap.size, 8, none⟩ = some (.slice qa8 (x3.2.2.1).length qp8) := by rw [← hwC]; simp [go_sem]
      have M9 : wC.cell? ⟨wr.heap.size, 9, none⟩ = some (.int .i64 x3.2.2.2.1) := by rw [← hwC]; simp [go_sem]
      have M10 : wC.cell? ⟨wr.heap.size, 10, none⟩ = some (.int .i64 x3.2.2.2.2) := by rw [← hwC]; simp [go_sem]
      clear hwC
      replace HO := Lib.hid ((HO.out.below EC).wide (T := Btw w.heap.size wC.heap.size) (fun j hj => ⟨hj.1, by have := hj.2; omega⟩))
      have hbC := hbel.trans (EC.mono hbel.size)
      cases hq : x0 == f
      · have HT := Lib.hid (HFN.out hq)
        clear HFY HFN
        go_wp2
        go_roundw
        case rel => exact ⟨k + 1, by omega, by go_num, Lib.hid (HO.out.cast HT.out.symm), hbC⟩
        case measure => simp [intOf]; omega
      · have HSN := Lib.hid (HFY.out hq)
        clear HFY HFN
        go_upto_region 6 with fail
        have pI : RInterest.rd wr _ x2 := ⟨q_1, hbd.2.2.1⟩
        have pD : RData.rd wr _ x3 := ⟨q_7, hbd.2.2.2⟩
        refine wp_region_softP_tail (fun W => Below wC.heap.size wC W) [(0, true), (1, true), (2, true), (3, true), (4, true), (5, true), (6, true), (8, true), (9, true), (7, false), (10, false), (11, true), (12, false)] (by kernel_rfl) (by kernel_rfl) (fun c a d v w h => by cases d <;> exact h) ((Below.refl _ _).drew) ?_
        intro wS HS
        simp only [pickOps, List.length_cons, List.length_nil, List.getElem?_cons_succ, List.getElem?_cons_zero, List.map_cons, List.map_nil, List.cons_append, List.nil_append, List.drop_succ_cons, List.drop_zero]
        all_goals first | (refine soft_pass rfl HS ?_) | (refine soft_read (v := ?_) rfl (fun W hW => ?_) ?_; rotate_left; (· go_simp; try with_reducible rfl))
        all_goals try simp only [Act.put, List.setIfInBounds_toArray, List.set_cons_zero, List.set_cons_succ]
        all_goals first | (refine soft_pass rfl HS ?_) | (refine soft_read (v := ?_) rfl (fun W hW => ?_) ?_; rotate_left; (· go_simp; try with_reducible rfl))
        all_goals try simp only [Act.put, List.setIfInBounds_toArray, List.set_cons_zero, List.set_cons_succ]
        all_goals first | (refine soft_pass rfl HS ?_) | (refine soft_read (v := ?_) rfl (fun W hW => ?_) ?_; rotate_left; (· have A_M0 := cell_later hW M0; have A_M1 := cell_later hW M1; have A_M2 := cell_later hW M2; have A_M3 := cell_later hW M3; have A_M4 := cell_later hW M4; have A_M5 := cell_later hW M5; have A_M6 := cell_later hW M6; have A_M7 := cell_later hW M7; have A_M8 := cell_later hW M8; have A_M9 := cell_later hW M9; have A_M10 := cell_later hW M10; clear hW; go_simp; try with_reducible rfl))
        all_goals try simp only [Act.put, List.setIfInBounds_toArray, List.set_cons_zero, List.set_cons_succ]
        all_goals first | (refine soft_pass rfl HS ?_) | (refine soft_read (v := ?_) rfl (fun W hW => ?_) ?_; rotate_left; (· go_simp; try with_reducible rfl))
        all_goals try simp only [Act.put, List.setIfInBounds_toArray, List.set_cons_zero, List.set_cons_succ]
        all_goals first | (refine soft_pass rfl HS ?_) | (refine soft_read (v := ?_) rfl (fun W hW => ?_) ?_; rotate_left; (· have A_M0 := cell_later hW M0; have A_M1 := cell_later hW M1; have A_M2 := cell_later hW M2; have A_M3 := cell_later hW M3; have A_M4 := cell_later hW M4; have A_M5 := cell_later hW M5; have A_M6 := cell_later hW M6; have A_M7 := cell_later hW M7; have A_M8 := cell_later hW M8; have A_M9 := cell_later hW M9; have A_M10 := cell_later hW M10; clear hW; go_simp; try with_reducible rfl))
        all_goals try simp only [Act.put, List.setIfInBounds_toArray, List.set_cons_zero, List.set_cons_succ]
        all_goals first | (refine soft_pass rfl HS ?_) | (refine soft_read (v := ?_) rfl (fun W hW => ?_) ?_; rotate_left; (· go_simp; try with_reducible rfl))
        all_goals try simp only [Act.put, List.setIfInBounds_toArray, List.set_cons_zero, List.set_cons_succ]
        all_goals first | (refine soft_pass rfl HS ?_) | (refine soft_read (v := ?_) rfl (fun W hW => ?_) ?_; rotate_left; (· have A_M0 := cell_later hW M0; have A_M1 := cell_later hW M1; have A_M2 := cell_later hW M2; have A_M3 := cell_later hW M3; have A_M4 := cell_later hW M4; have A_M5 := cell_later hW M5; have A_M6 := cell_later hW M6; have A_M7 := cell_later hW M7; have A_M8 := cell_later hW M8; have A_M9 := cell_later hW M9; have A_M10 := cell_later hW M10; clear hW; go_simp; try with_reducible rfl))
        all_goals try simp only [Act.put, List.setIfInBounds_toArray, List.set_cons_zero, List.set_cons_succ]
        all_goals first | (refine soft_pass rfl HS ?_) | (refine soft_read (v := ?_) rfl (fun W hW => ?_) ?_; rotate_left; (· go_simp; try with_reducible rfl))
        all_goals try simp only [Act.put, List.setIfInBounds_toArray, List.set_cons_zero, List.set_cons_succ]
        all_goals first | (refine soft_pass rfl HS ?_) | (refine soft_read (v := ?_) rfl (fun W hW => ?_) ?_; rotate_left; (· have A_M0 := cell_later hW M0; have A_M1 := cell_later hW M1; have A_M2 := cell_later hW M2; have A_M3 := cell_later hW M3; have A_M4 := cell_later hW M4; have A_M5 := cell_later hW M5; have A_M6 := cell_later hW M6; have A_M7 := cell_later hW M7; have A_M8 := cell_later hW M8; have A_M9 := cell_later hW M9; have A_M10 := cell_later hW M10; clear hW; go_simp; try with_reducible rfl))
        all_goals try simp only [Act.put, List.setIfInBounds_toArray, List.set_cons_zero, List.set_cons_succ]
        all_goals first | (refine soft_pass rfl HS ?_) | (refine soft_do rfl (fun K hK => ?_); go_simp; refine (implcopyInterest_c (pI.below (EC.trans (HS.mono EC.size)))).mono ?_; rintro e wT1 ⟨tc, rfl, O, hbT⟩; obtain ⟨t1v0, rfl, t1_0, t1_1, t1_2, t1_3, t1_4⟩ := RInterest_raw O.raw; obtain ⟨t1a0, t1p0, t1h0, t1l0⟩ := Rep.len_raw t1_1; obtain rfl : t1v0 = _ := (by simpa using t1h0); clear t1h0; clear t1_0 t1_1 t1_2 t1_3 t1_4; have HO1 := Lib.hid O; have hz1 := hbT.size; have hs1 := HS.size; replace HS := HS.trans (hbT.mono HS.size); refine hK _ _ HS ?_; clear hK K hbT O)
        all_goals try simp only [Act.put, List.setIfInBounds_toArray, List.set_cons_zero, List.set_cons_succ]
        all_goals first | (refine soft_pass rfl HS ?_) | (refine soft_do rfl (fun K hK => ?_); go_simp; refine (implcopyData_c (pD.below (EC.trans (HS.mono EC.size)))).mono ?_; rintro e wT2 ⟨tc, rfl, O, hbT⟩; obtain ⟨t2v0, t2v1, t2v2, rfl, t2_0, t2_1, t2_2, t2_3, t2_4, t2_5, t2_6⟩ := RData_raw O.raw; obtain ⟨t2a0, t2p0, t2h0, t2l0⟩ := Rep.len_raw t2_1; obtain rfl : t2v0 = _ := (by simpa using t2h0); clear t2h0; obtain ⟨t2a1, t2p1, t2h1, t2l1⟩ := Rep.len_raw t2_2; obtain rfl : t2v1 = _ := (by simpa using t2h1); clear t2h1; obtain ⟨t2a2, t2p2, t2h2, t2l2⟩ := Rep.len_raw t2_4; obtain rfl : t2v2 = _ := (by simpa using t2h2); clear t2h2; clear t2_0 t2_1 t2_2 t2_3 t2_4 t2_5 t2_6; have HO2 := Lib.hid O; replace HO1 := Lib.hid (HO1.out.below hbT); have hz2 := hbT.size; have hs2 := HS.size; replace HS := HS.trans (hbT.mono HS.size); refine hK _ _ HS ?_; clear hK K hbT O)
        all_goals try simp only [Act.put, List.setIfInBounds_toArray, List.set_cons_zero, List.set_cons_succ]
        all_goals first | (refine soft_pass rfl HS ?_) | (refine soft_read (v := ?_) rfl (fun W hW => ?_) ?_; rotate_left; (· go_simp; try with_reducible rfl))
        all_goals try simp only [Act.put, List.setIfInBounds_toArray, List.set_cons_zero, List.set_cons_succ]
        all_goals first | (refine soft_pass rfl HS ?_) | (refine soft_do rfl (fun K hK => ?_); go_simp; refine hK _ _ (HS.alloc HS.size _) ?_; clear hK K)
        all_goals try simp only [Act.put, List.setIfInBounds_toArray, List.set_cons_zero, List.set_cons_succ]
        all_goals refine soft_rest ?_
        have hbS : Below wC.heap.size wC wT2 := HS
        replace HO := Lib.hid (HO.out.below HS)
        have hbW := hbC.trans (hbS.mono hbC.size)
        go_wp2_with (at_builtin; refine Rep.wpList_pushB rfl _ _ 73 rfl (r := ROutgoing) (e := 128) Try.underlying73 infOutgoing rfl (by decide) (by decide) (B := w.heap.size) HO.out (by rfl) (by rfl) rfl (Rep.own.wide (T := Btw wC.heap.size wT2.heap.size) (Rep.flat_own (r := Rep.int) (q := Rep.pair Rep.bool (Rep.pair RInterest RData)) (cs := [.int .i64 x0]) (x := x0) (y := (x1, x2, x3)) (Rep.flat_int q_0) (Rep.flat_own (r := Rep.bool) (q := Rep.pair RInterest RData) (cs := [.bool x1]) (x := x1) (y := (x2, x3)) (Rep.flat_bool x1) (Rep.own_pair (S := Btw wS.heap.size wT2.heap.size) (A := Btw wS.heap.size wT1.heap.size) (B := Btw wT1.heap.size wT2.heap.size) HO1.out HO2.out (fun j hj => ⟨hj.1, by have := hj.2; omega⟩) (fun j hj => ⟨by have := hj.1; omega, hj.2⟩) (fun j h1 h2 => by have p := h1.2; have q := h2.1; omega)))) (fun j hj => ⟨by have := hj.1; omega, by have := hj.2; omega⟩)) rfl (fun j h1 h2 => by have p := h1.2; have q := h2.1; omega) (fun j hj => ⟨hj.1, by have := hj.2; omega⟩) (fun j hj => ⟨by have := hj.1; omega, by have := hj.2; omega⟩) (by omega) (by omega) ?_)
        intro v2 w2 hown2 hbel2 hz2
        replace hown2 := Rep.own0.cast hown2 (HSN.out.symm)
        have HO2 := Lib.hid hown2
        have hbel3 := hbW.trans hbel2
        clear hown2 HO hbel2
        go_wp2
        go_roundw
        case rel => exact ⟨k + 1, by omega, by go_num, HO2, hbel3⟩
        case measure => simp [intOf]; omega
    · obtain rfl : k = l.length := by omega
      go_wp2
      go_ret
      exact ⟨_, rfl, Rep.own0.cast HO.out (by rw [List.take_length]), hbel⟩
theorem specSentTo_c {w : World} {vl : Value} {l : List LOutgoing} (hl : (Rep.slice 128 ROutgoing).rd w [vl] l) {f : Int} (hf : -9223372036854775808 ≤ f ∧ f ≤ 9223372036854775807) :
    Calls Try.prog 52 #[vl, .int .i64 f] w (MadePost (Rep.slice 128 ROutgoing) (sentT f l) w) :=
  (specSentTo_o hl).mono fun e w1 h => h.post (Nat.le_trans (sentT_len f l) hl.2.1)
theorem implSentTo_c {w : World} {vl : Value} {l : List LOutgoing} (hl : (Rep.slice 128 ROutgoing).rd w [vl] l) {f : Int} (hf : -9223372036854775808 ≤ f ∧ f ≤ 9223372036854775807) :
    Calls Try.prog 53 #[vl, .int .i64 f] w (MadePost (Rep.slice 128 ROutgoing) (sentT f l) w) :=
  (implSentTo_o hl).mono fun e w1 h => h.post (Nat.le_trans (sentT_len f l) hl.2.1)
end Go.Proofs.Ytjobmdnggfjkhaa

/-
  A node that produces data.
-/
import Derived.Test.YtcnhfggfgknooaaGreatCopyN
import Derived.Test.YtcnhfggfgknooaaGreatVNodeI
import Derived.Test.YtcnhfggfgknooaaGreatCut
import Derived.IntWalk
import Derived.Deep.Cut
import Derived.WalkSpells
import Derived.WalkLawsBesides
namespace Go.Proofs.YtcnhfggfgknooaaGreat
open Go.RowKit
set_option linter.unusedVariables false
set_option linter.unusedSimpArgs false
set_option linter.unnecessarySimpa false
theorem Touch.cellAt {S : Nat → Prop} {w w' : World} {b i : Nat} {v : Value} (h : Touch S w w') (hb : ¬ S b) (k : w.cell? ⟨b, i, none⟩ = some v) : w'.cell? ⟨b, i, none⟩ = some v := by
  have hlt : b < w.heap.size := by
    rcases Nat.lt_or_ge b w.heap.size with q | q
    · exact q
    · unfold World.cell? at k
      simp [Array.getElem?_eq_none q] at k
  have e := h.block b hlt hb
  unfold World.cell? at k ⊢
  simp only at k ⊢
  rw [e]; exact k
def addL1 (t : LData) (x : LNode) : LNode := (x.1 ++ [t], x.2)
def addLOk (t : LData) (x : LNode) : Bool := nodeOk (addL1 t x)
def addL (t : LData) (x : LNode) : LNode := if addLOk t x then addL1 t x else x
theorem addL_no {t : LData} {x : LNode} (h : nodeOk (addL1 t x) = false) : addL t x = x ∧ addLOk t x = false := by unfold addL addLOk; rw [h]; exact ⟨rfl, rfl⟩
theorem addL_yes {t : LData} {x : LNode} (h : nodeOk (addL1 t x) = true) : addL t x = addL1 t x ∧ addLOk t x = true := by unfold addL addLOk; rw [h]; exact ⟨rfl, rfl⟩
theorem nodeOk_len {x : LNode} (h : nodeOk x = true) : x.1.length ≤ 8 := by
  unfold nodeOk restN at h
  simp only [Bool.and_eq_true, decide_eq_true_eq] at h
  have := h.2.1.1.1.1.1.1
  omega
theorem raw_pairC {α β : Type} {r : Rep α} {q : Rep β} {w : World} {cs ds : List Value} {x : α} {y : β} (h : r.raw w cs x) (k : q.raw w ds y) : (Rep.pair r q).raw w (cs ++ ds) (x, y) :=
  ⟨cs, ds, fun _ => True, fun _ => True, rfl, h, k, fun _ _ => trivial, fun _ _ => trivial, fun h => Bool.noConfusion h⟩
set_option maxRecDepth 100000 in
set_option maxHeartbeats 4000000 in
theorem specAddLocal_c {w : World} {cx : List Value} {x : LNode} (hx : RNode.rd w cx x) {ct : List Value} {t : LData} (ht : RData.rd w ct t) :
    Calls Tryz.prog 6 #[.agg cx.toArray, .agg ct.toArray] w fun e w' => ∃ cs, e = .returned (.tuple #[.agg cs.toArray, .bool (addLOk t x)]) ∧ RNode.own w' cs (addL t x) (Btw w.heap.size w'.heap.size) ∧ Below w.heap.size w w' := by
  have HX := Lib.hid hx
  have HTD := Lib.hid ht
  have hlb : x.1.length ≤ 16777216 := hx.2.1.1
  obtain ⟨av0, av2, av3, av4, av5, av6, rfl, a_0, a_1, a_2, a_3, a_4, a_5, a_6, a_7, a_8⟩ := RNode_raw hx.1
  obtain ⟨aa0, ap0, ah0, al0⟩ := Rep.len_raw a_0; obtain rfl : av0 = _ := by simpa using ah0
  clear ah0
  obtain ⟨aa2, ap2, ah2, al2⟩ := Rep.len_raw a_3; obtain rfl : av2 = _ := by simpa using ah2
  clear ah2
  obtain ⟨aa3, ap3, ah3, al3⟩ := Rep.len_raw a_4; obtain rfl : av3 = _ := by simpa using ah3
  clear ah3
  obtain ⟨aa4, ap4, ah4, al4⟩ := Rep.len_raw a_5; obtain rfl : av4 = _ := by simpa using ah4
  clear ah4
  obtain ⟨aa5, ap5, ah5, al5⟩ := Rep.len_raw a_6; obtain rfl : av5 = _ := by simpa using ah5
  clear ah5
  obtain ⟨aa6, ap6, ah6, al6⟩ := Rep.len_raw a_7; obtain rfl : av6 = _ := by simpa using ah6
  clear ah6
  obtain ⟨dv0, dv1, dv2, rfl, d_0, d_1, d_2, d_3, d_4, d_5, d_6⟩ := RData_raw ht.1
  obtain ⟨da0, dp0, dh0, dl0⟩ := Rep.len_raw d_1; obtain rfl : dv0 = _ := by simpa using dh0
  clear dh0
  obtain ⟨da1, dp1, dh1, dl1⟩ := Rep.len_raw d_2; obtain rfl : dv1 = _ := by simpa using dh1
  clear dh1
  obtain ⟨da2, dp2, dh2, dl2⟩ := Rep.len_raw d_4; obtain rfl : dv2 = _ := by simpa using dh2
  clear dh2
  clear hx ht a_0 a_1 a_2 a_3 a_4 a_5 a_6 a_7 a_8 d_0 d_1 d_2 d_3 d_4 d_5 d_6
  go_enter Tryz.func6, Tryz.ntmps6
  go_wp2_with fail
  generalize hwB : World.alloc (World.alloc (World.alloc w _) _) _ = wB
  have EB : Below w.heap.size w wB := by rw [← hwB]; exact (by repeat (first | (with_reducible exact Below.refl _ _) | refine Below.alloc ?_ (by simp; try omega) _ | refine Below.drew ?_ | refine Below.setCell ?_ (by simp; try omega) _))
  have K0 : wB.cell? ⟨w.heap.size, 0, none⟩ = some (.slice aa0 x.1.length ap0) := by rw [← hwB]; simp [go_sem]
  have K1 : wB.cell? ⟨w.heap.size, 1, none⟩ = some (.int .i64 x.2.1.1) := by rw [← hwB]; simp [go_sem]
  have K2 : wB.cell? ⟨w.heap.size, 2, none⟩ = some (.slice aa2 x.2.1.2.length ap2) := by rw [← hwB]; simp [go_sem]
  have K3 : wB.cell? ⟨w.heap.size, 3, none⟩ = some (.slice aa3 x.2.2.1.length ap3) := by rw [← hwB]; simp [go_sem]
  have K4 : wB.cell? ⟨w.heap.size, 4, none⟩ = some (.slice aa4 x.2.2.2.1.length ap4) := by rw [← hwB]; simp [go_sem]
  have K5 : wB.cell? ⟨w.heap.size, 5, none⟩ = some (.slice aa5 x.2.2.2.2.1.length ap5) := by rw [← hwB]; simp [go_sem]
  have K6 : wB.cell? ⟨w.heap.size, 6, none⟩ = some (.slice aa6 x.2.2.2.2.2.1.length ap6) := by rw [← hwB]; simp [go_sem]
  have K7 : wB.cell? ⟨w.heap.size, 7, none⟩ = some (.int .i64 x.2.2.2.2.2.2) := by rw [← hwB]; simp [go_sem]
  have D0 : wB.cell? ⟨w.heap.size + 1, 0, none⟩ = some (.slice da0 t.1.length dp0) := by rw [← hwB]; simp [go_sem]
  have D1 : wB.cell? ⟨w.heap.size + 1, 1, none⟩ = some (.slice da1 t.2.1.length dp1) := by rw [← hwB]; simp [go_sem]
  have D2 : wB.cell? ⟨w.heap.size + 1, 2, none⟩ = some (.slice da2 t.2.2.1.length dp2) := by rw [← hwB]; simp [go_sem]
  have D3 : wB.cell? ⟨w.heap.size + 1, 3, none⟩ = some (.int .i64 t.2.2.2.1) := by rw [← hwB]; simp [go_sem]
  have D4 : wB.cell? ⟨w.heap.size + 1, 4, none⟩ = some (.int .i64 t.2.2.2.2) := by rw [← hwB]; simp [go_sem]
  have XR : Hid (wB.heap[w.heap.size + 1 + 1]? = some (.cells #[.slice none 0 0, .int .i64 0, .slice none 0 0, .slice none 0 0, .slice none 0 0, .slice none 0 0, .slice none 0 0, .int .i64 0] 49 (0, 0))) := Lib.hid (by rw [← hwB]; exact heap_new_at (by simp))
  have hzB : w.heap.size + 3 ≤ wB.heap.size := by rw [← hwB]; simp
  clear hwB
  refine (specCopyNode_0 (HX.out.below EB)).mono ?_
  rintro e w1 ⟨bv, ds, mid, rfl, O1, R1, hm1, hm2, hb1⟩
  have RW := raw_pairC O1.raw0 R1.raw
  obtain ⟨bv0, bv2, bv3, bv4, bv5, bv6, bhe, b_0, b_1, b_2, b_3, b_4, b_5, b_6, b_7, b_8⟩ := RNode_raw (show RNode.raw w1 _ x from RW)
  simp only [List.cons_append, List.nil_append, List.cons.injEq] at bhe
  obtain ⟨rfl, rfl⟩ := bhe
  obtain ⟨ba2, bp2, bh2, _⟩ := Rep.len_raw b_3; obtain rfl : bv2 = _ := by simpa using bh2
  clear bh2
  obtain ⟨ba3, bp3, bh3, _⟩ := Rep.len_raw b_4; obtain rfl : bv3 = _ := by simpa using bh3
  clear bh3
  obtain ⟨ba4, bp4, bh4, _⟩ := Rep.len_raw b_5; obtain rfl : bv4 = _ := by simpa using bh4
  clear bh4
  obtain ⟨ba5, bp5, bh5, _⟩ := Rep.len_raw b_6; obtain rfl : bv5 = _ := by simpa using bh5
  clear bh5
  obtain ⟨ba6, bp6, bh6, _⟩ := Rep.len_raw b_7; obtain rfl : bv6 = _ := by simpa using bh6
  clear bh6
  obtain ⟨oa, on, oc, ho, HON⟩ := O1.parts; obtain rfl := ho
  have HO := Lib.hid O1; have HR := Lib.hid R1
  have hz1 := hb1.size
  have E1 := EB.trans (hb1.mono EB.size)
  replace XR := Lib.hid (keepBox XR.out hb1)
  replace K0 := cell_later hb1 K0
  replace K1 := cell_later hb1 K1
  replace K2 := cell_later hb1 K2
  replace K3 := cell_later hb1 K3
  replace K4 := cell_later hb1 K4
  replace K5 := cell_later hb1 K5
  replace K6 := cell_later hb1 K6
  replace K7 := cell_later hb1 K7
  replace D0 := cell_later hb1 D0
  replace D1 := cell_later hb1 D1
  replace D2 := cell_later hb1 D2
  replace D3 := cell_later hb1 D3
  replace D4 := cell_later hb1 D4
  clear O1 R1 RW hb1 EB b_0 b_1 b_2 b_3 b_4 b_5 b_6 b_7 b_8
  go_upto_region 2 with fail
  generalize hwC : World.alloc w1 _ = wC
  have EC0 : Below w1.heap.size w1 wC := by rw [← hwC]; exact (Below.refl _ _).alloc (Nat.le_refl _) _
  have XM : Hid (wC.heap[w1.heap.size]? = some (.cells #[.slice oa on oc, .int .i64 x.2.1.1, .slice ba2 x.2.1.2.length bp2, .slice ba3 x.2.2.1.length bp3, .slice ba4 x.2.2.2.1.length bp4, .slice ba5 x.2.2.2.2.1.length bp5, .slice ba6 x.2.2.2.2.2.1.length bp6, .int .i64 x.2.2.2.2.2.2] 49 (0, 0))) := Lib.hid (by rw [← hwC]; exact heap_new_at rfl)
  have hzC : w1.heap.size + 1 ≤ wC.heap.size := by rw [← hwC]; simp
  clear hwC
  have EC := E1.trans (EC0.mono E1.size)
  replace XR := Lib.hid (keepBox XR.out EC0)
  replace HO := Lib.hid (HO.out.below EC0)
  replace HR := Lib.hid (HR.out.below EC0)
  have M0 := boxCell XM.out (j := 0) rfl
  replace K0 := cell_later EC0 K0
  replace K1 := cell_later EC0 K1
  replace K2 := cell_later EC0 K2
  replace K3 := cell_later EC0 K3
  replace K4 := cell_later EC0 K4
  replace K5 := cell_later EC0 K5
  replace K6 := cell_later EC0 K6
  replace K7 := cell_later EC0 K7
  replace D0 := cell_later EC0 D0
  replace D1 := cell_later EC0 D1
  replace D2 := cell_later EC0 D2
  replace D3 := cell_later EC0 D3
  replace D4 := cell_later EC0 D4
  refine wp_region_soft_tail (fun W => Below wC.heap.size wC W) [true, true, true, false, false] (by kernel_rfl) (by kernel_rfl) (fun c a d v w h => by cases d <;> exact h) ((Below.refl _ _).drew) ?_
  intro wS HS
  all_goals first | (refine soft_pass rfl HS ?_) | (refine soft_read (v := ?_) rfl (fun W hW => ?_) ?_; rotate_left; (· go_simp; try with_reducible rfl))
  iterate 2
   all_goals try simp only [Act.put, List.setIfInBounds_toArray, List.set_cons_zero, List.set_cons_succ]
   all_goals first | (refine soft_pass rfl HS ?_) | (refine soft_read (v := ?_) rfl (fun W hW => ?_) ?_; rotate_left; (· have A_M0 := cell_later hW M0; have A_D0 := cell_later hW D0; have A_D1 := cell_later hW D1; have A_D2 := cell_later hW D2; have A_D3 := cell_later hW D3; have A_D4 := cell_later hW D4; clear hW; go_simp; try with_reducible rfl))
  all_goals try simp only [Act.put, List.setIfInBounds_toArray, List.set_cons_zero, List.set_cons_succ]
  all_goals first | (refine soft_pass rfl HS ?_) | (refine soft_do rfl (fun K hK => ?_); go_simp; refine (specl8Copy_c (HTD.out.below (EC.trans (HS.mono EC.size)))).mono ?_; rintro e wT ⟨tc, rfl, OT, hbT⟩; obtain ⟨tv0, tv1, tv2, rfl, t_0, t_1, t_2, t_3, t_4, t_5, t_6⟩ := RData_raw OT.raw; obtain ⟨ta0, tp0, th0, tl0⟩ := Rep.len_raw t_1; obtain rfl : tv0 = _ := (by simpa using th0); clear th0; obtain ⟨ta1, tp1, th1, tl1⟩ := Rep.len_raw t_2; obtain rfl : tv1 = _ := (by simpa using th1); clear th1; obtain ⟨ta2, tp2, th2, tl2⟩ := Rep.len_raw t_4; obtain rfl : tv2 = _ := (by simpa using th2); clear th2; clear t_0 t_1 t_2 t_3 t_4 t_5 t_6; have hsT := hbT.size; have hrS := HS.size; have HOT := Lib.hid OT; replace HS := HS.trans (hbT.mono HS.size); refine hK _ _ HS ?_; clear hK K hbT OT)
  all_goals try simp only [Act.put, List.setIfInBounds_toArray, List.set_cons_zero, List.set_cons_succ]
  all_goals first | (refine soft_pass rfl HS ?_) | (refine soft_do rfl (fun K hK => ?_); go_simp; refine hK _ _ (HS.alloc HS.size _) ?_; clear hK K)
  all_goals try simp only [Act.put, List.setIfInBounds_toArray, List.set_cons_zero, List.set_cons_succ]
  all_goals refine soft_rest ?_
  replace XR := Lib.hid (keepBox XR.out HS)
  replace XM := Lib.hid (keepBox XM.out HS)
  replace HO := Lib.hid (HO.out.below HS)
  replace HR := Lib.hid (HR.out.below HS)
  have ET := EC.trans (HS.mono EC.size)
  have hsz := HS.size
  replace K0 := cell_later HS K0
  replace K1 := cell_later HS K1
  replace K2 := cell_later HS K2
  replace K3 := cell_later HS K3
  replace K4 := cell_later HS K4
  replace K5 := cell_later HS K5
  replace K6 := cell_later HS K6
  replace K7 := cell_later HS K7
  go_wp2_with (at_builtin; refine Rep.wpList_push1 rfl _ _ 40 rfl (r := RData) (e := 55) Tryz.underlying40 infData rfl (by decide) (by decide) HO.out (by rfl) (by rfl) rfl HOT.out rfl (fun j h1 h2 => by have p := h1.2; have q := h2.1; omega) (by omega) ?_)
  intro v2 w2 hown ht2
  have HO2 := Lib.hid hown; have HT2 := Lib.hid ht2
  obtain ⟨va, vn, vc, hv, HVN⟩ := hown.parts; obtain rfl := hv
  have hz2 := ht2.size
  simp at hz2
  clear hown ht2
  have TU : Touch (Btw wB.heap.size mid) wT w2 := (Touch.of_below ((Below.refl _ _).alloc (Nat.le_refl _) _)).trans (HT2.out.wide (fun k h => h.2))
  have XM2 := TU.keepBox XM.out (fun q => by have q1 := q.1; have q2 := q.2; omega)
  have N0 := boxCell XM2 (j := 0) rfl
  have NF := frozen_of_row w2 w1.heap.size 0 _ _ XM2
  have hvn : vn ≤ 16777217 := by have := HVN.out; simp at this; omega
  go_upto_region 3 with fail
  generalize hw3 : World.setCell w2 ⟨w1.heap.size, 0, none⟩ _ = w3
  have TW : Touch (fun k => k = w1.heap.size) w2 w3 := by rw [← hw3]; exact Rep.touch_setCells [_] w2 _ 0
  have XM3 : Hid (w3.heap[w1.heap.size]? = some (.cells #[.slice va vn vc, .int .i64 x.2.1.1, .slice ba2 x.2.1.2.length bp2, .slice ba3 x.2.2.1.length bp3, .slice ba4 x.2.2.2.1.length bp4, .slice ba5 x.2.2.2.2.1.length bp5, .slice ba6 x.2.2.2.2.2.1.length bp6, .int .i64 x.2.2.2.2.2.2] 49 (0, 0))) := Lib.hid (by
    rw [← hw3]
    have y0 := heap_setCell_same _ (w1.heap.size) 0 _ 49 (.slice va vn vc) XM2
    exact y0)
  clear hw3
  have TA : Touch (fun k => Btw wB.heap.size mid k ∨ k = w1.heap.size) wT w3 := (TU.wide (fun k h => .inl h)).trans (TW.wide (fun k h => .inr h))
  have hz3 := TW.size
  have XR3 := Lib.hid (TA.keepBox XR.out (fun q => by rcases q with q | q; (have q1 := q.1; omega); omega))
  have HR3 := Lib.hid (HR.out.touch TA (fun i p q => by have p1 := p.1; have p2 := p.2; rcases q with q | q; (have q2 := q.2; omega); omega))
  have HO3 := Lib.hid (HO2.out.touch TW (fun i p q => by rcases p with p | p | p; (have p2 := p.2; omega); (have p1 := p.1; omega); (have p1 := p.1; omega)))
  have E3 := ET.trans (TA.below (B := w.heap.size) (by have := ET.size; omega) (fun i q => by rcases q with q | q; (have q1 := q.1; omega); omega))
  replace K0 := TA.cellAt (by intro q; rcases q with q | q; (have q1 := q.1; omega); omega) K0
  replace K1 := TA.cellAt (by intro q; rcases q with q | q; (have q1 := q.1; omega); omega) K1
  replace K2 := TA.cellAt (by intro q; rcases q with q | q; (have q1 := q.1; omega); omega) K2
  replace K3 := TA.cellAt (by intro q; rcases q with q | q; (have q1 := q.1; omega); omega) K3
  replace K4 := TA.cellAt (by intro q; rcases q with q | q; (have q1 := q.1; omega); omega) K4
  replace K5 := TA.cellAt (by intro q; rcases q with q | q; (have q1 := q.1; omega); omega) K5
  replace K6 := TA.cellAt (by intro q; rcases q with q | q; (have q1 := q.1; omega); omega) K6
  replace K7 := TA.cellAt (by intro q; rcases q with q | q; (have q1 := q.1; omega); omega) K7
  clear TU XM2 N0 NF TW TA XR XM HO HR HO2 HT2 HS ET
  have HOWN : Hid (x.1.length < 16777216 → RNode.own w3 [.slice va vn vc, .int .i64 x.2.1.1, .slice ba2 x.2.1.2.length bp2, .slice ba3 x.2.2.1.length bp3, .slice ba4 x.2.2.2.1.length bp4, .slice ba5 x.2.2.2.2.1.length bp5, .slice ba6 x.2.2.2.2.2.1.length bp6, .int .i64 x.2.2.2.2.2.2] (addL1 t x) (Btw wB.heap.size w3.heap.size)) := Lib.hid (fun hl => Rep.own_pair (r := Rep.slice 55 RData) (q := (Rep.pair RContentStore (Rep.pair (Rep.slice 127 RPendingInterest) (Rep.pair (Rep.slice 130 RSeenNonce) (Rep.pair (Rep.slice 133 RRoute) (Rep.pair (Rep.slice 136 RMeasurement) Rep.int)))))) (cs := [.slice va vn vc]) (ds := [.int .i64 x.2.1.1, .slice ba2 x.2.1.2.length bp2, .slice ba3 x.2.2.1.length bp3, .slice ba4 x.2.2.2.1.length bp4, .slice ba5 x.2.2.2.2.1.length bp5, .slice ba6 x.2.2.2.2.2.1.length bp6, .int .i64 x.2.2.2.2.2.2]) (x := x.1 ++ [t]) (y := x.2) (S := Btw wB.heap.size w3.heap.size) (HO3.out.own (by simp; unfold Big; omega)) HR3.out (fun i p => by rcases p with p | p | p; exact ⟨p.1, by have := p.2; omega⟩; exact ⟨by have := p.1; omega, by have := p.2; omega⟩; exact ⟨by have := p.1; omega, by have := p.2; omega⟩) (fun i p => ⟨by have := p.1; omega, by have := p.2; omega⟩) (fun i p q => by have q1 := q.1; have q2 := q.2; rcases p with p | p | p; (have p2 := p.2; omega); (have p1 := p.1; omega); (have p1 := p.1; omega)))
  have HV : Hid (RNode.raw w3 [.slice va vn vc, .int .i64 x.2.1.1, .slice ba2 x.2.1.2.length bp2, .slice ba3 x.2.2.1.length bp3, .slice ba4 x.2.2.2.1.length bp4, .slice ba5 x.2.2.2.2.1.length bp5, .slice ba6 x.2.2.2.2.2.1.length bp6, .int .i64 x.2.2.2.2.2.2] (addL1 t x)) := Lib.hid (raw_pairC HO3.out.raw0 HR3.out.raw)
  clear HO3 HR3
  have M0 := boxCell XM3.out (j := 0) rfl
  have M1 := boxCell XM3.out (j := 1) rfl
  have M2 := boxCell XM3.out (j := 2) rfl
  have M3 := boxCell XM3.out (j := 3) rfl
  have M4 := boxCell XM3.out (j := 4) rfl
  have M5 := boxCell XM3.out (j := 5) rfl
  have M6 := boxCell XM3.out (j := 6) rfl
  have M7 := boxCell XM3.out (j := 7) rfl
  go_wp2_with fail
  refine (specValidNode_w HV.out).mono ?_
  rintro e w4 ⟨rfl, hb4⟩
  have E4 := E3.trans (hb4.mono E3.size)
  have hz4 := hb4.size
  replace XR3 := Lib.hid (keepBox XR3.out hb4)
  replace HOWN := Lib.hid (fun hl => (HOWN.out hl).below hb4)
  replace K0 := cell_later hb4 K0
  replace M0 := cell_later hb4 M0
  replace K1 := cell_later hb4 K1
  replace M1 := cell_later hb4 M1
  replace K2 := cell_later hb4 K2
  replace M2 := cell_later hb4 M2
  replace K3 := cell_later hb4 K3
  replace M3 := cell_later hb4 M3
  replace K4 := cell_later hb4 K4
  replace M4 := cell_later hb4 M4
  replace K5 := cell_later hb4 K5
  replace M5 := cell_later hb4 M5
  replace K6 := cell_later hb4 K6
  replace M6 := cell_later hb4 M6
  replace K7 := cell_later hb4 K7
  replace M7 := cell_later hb4 M7
  clear hb4 HV XM3 E3
  cases hv : nodeOk (addL1 t x)
  · have HQ := Lib.hid (addL_no hv)
    clear hv HOWN
    go_wp2_with fail
    refine (specCopyNode_c (HX.out.below E4)).mono ?_
    rintro e w8 ⟨tc, rfl, O8, hb8⟩
    obtain ⟨cv0, cv2, cv3, cv4, cv5, cv6, rfl, c_0, c_1, c_2, c_3, c_4, c_5, c_6, c_7, c_8⟩ := RNode_raw O8.raw
    obtain ⟨ca0, cp0, ch0, cl0⟩ := Rep.len_raw c_0; obtain rfl : cv0 = _ := by simpa using ch0
    clear ch0
    obtain ⟨ca2, cp2, ch2, cl2⟩ := Rep.len_raw c_3; obtain rfl : cv2 = _ := by simpa using ch2
    clear ch2
    obtain ⟨ca3, cp3, ch3, cl3⟩ := Rep.len_raw c_4; obtain rfl : cv3 = _ := by simpa using ch3
    clear ch3
    obtain ⟨ca4, cp4, ch4, cl4⟩ := Rep.len_raw c_5; obtain rfl : cv4 = _ := by simpa using ch4
    clear ch4
    obtain ⟨ca5, cp5, ch5, cl5⟩ := Rep.len_raw c_6; obtain rfl : cv5 = _ := by simpa using ch5
    clear ch5
    obtain ⟨ca6, cp6, ch6, cl6⟩ := Rep.len_raw c_7; obtain rfl : cv6 = _ := by simpa using ch6
    clear ch6
    clear c_0 c_1 c_2 c_3 c_4 c_5 c_6 c_7 c_8
    have HO8 := Lib.hid O8
    have E8 := E4.trans (hb8.mono E4.size)
    have hz8 := hb8.size
    have X8 := keepBox XR3.out hb8
    clear O8 hb8 XR3
    have R0 := boxCell (b := w.heap.size + 1 + 1) X8 (j := 0) rfl
    have F0 := frozen_of_row w8 (w.heap.size + 1 + 1) 0 _ _ X8
    have R1 := boxCell (b := w.heap.size + 1 + 1) X8 (j := 1) rfl
    have F1 := frozen_of_row w8 (w.heap.size + 1 + 1) 1 _ _ X8
    have R2 := boxCell (b := w.heap.size + 1 + 1) X8 (j := 2) rfl
    have F2 := frozen_of_row w8 (w.heap.size + 1 + 1) 2 _ _ X8
    have R3 := boxCell (b := w.heap.size + 1 + 1) X8 (j := 3) rfl
    have F3 := frozen_of_row w8 (w.heap.size + 1 + 1) 3 _ _ X8
    have R4 := boxCell (b := w.heap.size + 1 + 1) X8 (j := 4) rfl
    have F4 := frozen_of_row w8 (w.heap.size + 1 + 1) 4 _ _ X8
    have R5 := boxCell (b := w.heap.size + 1 + 1) X8 (j := 5) rfl
    have F5 := frozen_of_row w8 (w.heap.size + 1 + 1) 5 _ _ X8
    have R6 := boxCell (b := w.heap.size + 1 + 1) X8 (j := 6) rfl
    have F6 := frozen_of_row w8 (w.heap.size + 1 + 1) 6 _ _ X8
    have R7 := boxCell (b := w.heap.size + 1 + 1) X8 (j := 7) rfl
    have F7 := frozen_of_row w8 (w.heap.size + 1 + 1) 7 _ _ X8
    go_wp2
    refine bodyPost_ret (v := .tuple #[.agg #[.slice ca0 x.1.length cp0, .int .i64 x.2.1.1, .slice ca2 x.2.1.2.length cp2, .slice ca3 x.2.2.1.length cp3, .slice ca4 x.2.2.2.1.length cp4, .slice ca5 x.2.2.2.2.1.length cp5, .slice ca6 x.2.2.2.2.2.1.length cp6, .int .i64 x.2.2.2.2.2.2], .bool false]) (by simp [results, Tryz.results6, go_sem, R0, F0, R1, F1, R2, F2, R3, F3, R4, F4, R5, F5, R6, F6, R7, F7]) rfl ⟨[_, _, _, _, _, _, _, _], by rw [HQ.out.2], ?_, ?_⟩
    · rw [HQ.out.1]
      exact (Rep.own.out HO8.out (fun j h1 h2 => by simp (discharger := (simp; omega)) only [heap_setCell_other])).wide (fun j hj => ⟨by have := hj.1; omega, by simpa [World.setCell] using hj.2⟩)
    · repeat (first | (with_reducible exact E8) | refine Below.setCell ?_ (by first | omega | (simp; try omega)) _)
  · have HQ := Lib.hid (addL_yes hv)
    have HLN := Lib.hid (nodeOk_len hv)
    have HO9 := Lib.hid (HOWN.out (by have := HLN.out; simp [addL1] at this; omega))
    clear hv HOWN
    have R0 := boxCell (b := w.heap.size + 1 + 1) XR3.out (j := 0) rfl
    have F0 := frozen_of_row w4 (w.heap.size + 1 + 1) 0 _ _ XR3.out
    have R1 := boxCell (b := w.heap.size + 1 + 1) XR3.out (j := 1) rfl
    have F1 := frozen_of_row w4 (w.heap.size + 1 + 1) 1 _ _ XR3.out
    have R2 := boxCell (b := w.heap.size + 1 + 1) XR3.out (j := 2) rfl
    have F2 := frozen_of_row w4 (w.heap.size + 1 + 1) 2 _ _ XR3.out
    have R3 := boxCell (b := w.heap.size + 1 + 1) XR3.out (j := 3) rfl
    have F3 := frozen_of_row w4 (w.heap.size + 1 + 1) 3 _ _ XR3.out
    have R4 := boxCell (b := w.heap.size + 1 + 1) XR3.out (j := 4) rfl
    have F4 := frozen_of_row w4 (w.heap.size + 1 + 1) 4 _ _ XR3.out
    have R5 := boxCell (b := w.heap.size + 1 + 1) XR3.out (j := 5) rfl
    have F5 := frozen_of_row w4 (w.heap.size + 1 + 1) 5 _ _ XR3.out
    have R6 := boxCell (b := w.heap.size + 1 + 1) XR3.out (j := 6) rfl
    have F6 := frozen_of_row w4 (w.heap.size + 1 + 1) 6 _ _ XR3.out
    have R7 := boxCell (b := w.heap.size + 1 + 1) XR3.out (j := 7) rfl
    have F7 := frozen_of_row w4 (w.heap.size + 1 + 1) 7 _ _ XR3.out
    go_wp2
    refine bodyPost_ret (v := .tuple #[.agg #[.slice va vn vc, .int .i64 x.2.1.1, .slice ba2 x.2.1.2.length bp2, .slice ba3 x.2.2.1.length bp3, .slice ba4 x.2.2.2.1.length bp4, .slice ba5 x.2.2.2.2.1.length bp5, .slice ba6 x.2.2.2.2.2.1.length bp6, .int .i64 x.2.2.2.2.2.2], .bool true]) (by simp [results, Tryz.results6, go_sem, R0, F0, R1, F1, R2, F2, R3, F3, R4, F4, R5, F5, R6, F6, R7, F7]) rfl ⟨[_, _, _, _, _, _, _, _], by rw [HQ.out.2], ?_, ?_⟩
    · rw [HQ.out.1]
      exact (Rep.own.out HO9.out (fun j h1 h2 => by simp (discharger := (simp; omega)) only [heap_setCell_other])).wide (fun j hj => ⟨by have := hj.1; omega, by have := hj.2; simp [World.setCell]; omega⟩)
    · repeat (first | (with_reducible exact E4) | refine Below.setCell ?_ (by first | omega | (simp; try omega)) _)
set_option maxRecDepth 100000 in
set_option maxHeartbeats 4000000 in
theorem implAddLocal_c {w : World} {cx : List Value} {x : LNode} (hx : RNode.rd w cx x) {ct : List Value} {t : LData} (ht : RData.rd w ct t) :
    Calls Tryz.prog 9 #[.agg cx.toArray, .agg ct.toArray] w fun e w' => ∃ cs, e = .returned (.tuple #[.agg cs.toArray, .bool (addLOk t x)]) ∧ RNode.own w' cs (addL t x) (Btw w.heap.size w'.heap.size) ∧ Below w.heap.size w w' := by
  have HX := Lib.hid hx
  have HTD := Lib.hid ht
  have hlb : x.1.length ≤ 16777216 := hx.2.1.1
  obtain ⟨av0, av2, av3, av4, av5, av6, rfl, a_0, a_1, a_2, a_3, a_4, a_5, a_6, a_7, a_8⟩ := RNode_raw hx.1
  obtain ⟨aa0, ap0, ah0, al0⟩ := Rep.len_raw a_0; obtain rfl : av0 = _ := by simpa using ah0
  clear ah0
  obtain ⟨aa2, ap2, ah2, al2⟩ := Rep.len_raw a_3; obtain rfl : av2 = _ := by simpa using ah2
  clear ah2
  obtain ⟨aa3, ap3, ah3, al3⟩ := Rep.len_raw a_4; obtain rfl : av3 = _ := by simpa using ah3
  clear ah3
  obtain ⟨aa4, ap4, ah4, al4⟩ := Rep.len_raw a_5; obtain rfl : av4 = _ := by simpa using ah4
  clear ah4
  obtain ⟨aa5, ap5, ah5, al5⟩ := Rep.len_raw a_6; obtain rfl : av5 = _ := by simpa using ah5
  clear ah5
  obtain ⟨aa6, ap6, ah6, al6⟩ := Rep.len_raw a_7; obtain rfl : av6 = _ := by simpa using ah6
  clear ah6
  obtain ⟨dv0, dv1, dv2, rfl, d_0, d_1, d_2, d_3, d_4, d_5, d_6⟩ := RData_raw ht.1
  obtain ⟨da0, dp0, dh0, dl0⟩ := Rep.len_raw d_1; obtain rfl : dv0 = _ := by simpa using dh0
  clear dh0
  obtain ⟨da1, dp1, dh1, dl1⟩ := Rep.len_raw d_2; obtain rfl : dv1 = _ := by simpa using dh1
  clear dh1
  obtain ⟨da2, dp2, dh2, dl2⟩ := Rep.len_raw d_4; obtain rfl : dv2 = _ := by simpa using dh2
  clear dh2
  clear hx ht a_0 a_1 a_2 a_3 a_4 a_5 a_6 a_7 a_8 d_0 d_1 d_2 d_3 d_4 d_5 d_6
  go_enter Tryz.func9, Tryz.ntmps9
  go_wp2_with fail
  generalize hwB : World.alloc (World.alloc (World.alloc w _) _) _ = wB
  have EB : Below w.heap.size w wB := by rw [← hwB]; exact (by repeat (first | (with_reducible exact Below.refl _ _) | refine Below.alloc ?_ (by simp; try omega) _ | refine Below.drew ?_ | refine Below.setCell ?_ (by simp; try omega) _))
  have K0 : wB.cell? ⟨w.heap.size, 0, none⟩ = some (.slice aa0 x.1.length ap0) := by rw [← hwB]; simp [go_sem]
  have K1 : wB.cell? ⟨w.heap.size, 1, none⟩ = some (.int .i64 x.2.1.1) := by rw [← hwB]; simp [go_sem]
  have K2 : wB.cell? ⟨w.heap.size, 2, none⟩ = some (.slice aa2 x.2.1.2.length ap2) := by rw [← hwB]; simp [go_sem]
  have K3 : wB.cell? ⟨w.heap.size, 3, none⟩ = some (.slice aa3 x.2.2.1.length ap3) := by rw [← hwB]; simp [go_sem]
  have K4 : wB.cell? ⟨w.heap.size, 4, none⟩ = some (.slice aa4 x.2.2.2.1.length ap4) := by rw [← hwB]; simp [go_sem]
  have K5 : wB.cell? ⟨w.heap.size, 5, none⟩ = some (.slice aa5 x.2.2.2.2.1.length ap5) := by rw [← hwB]; simp [go_sem]
  have K6 : wB.cell? ⟨w.heap.size, 6, none⟩ = some (.slice aa6 x.2.2.2.2.2.1.length ap6) := by rw [← hwB]; simp [go_sem]
  have K7 : wB.cell? ⟨w.heap.size, 7, none⟩ = some (.int .i64 x.2.2.2.2.2.2) := by rw [← hwB]; simp [go_sem]
  have D0 : wB.cell? ⟨w.heap.size + 1, 0, none⟩ = some (.slice da0 t.1.length dp0) := by rw [← hwB]; simp [go_sem]
  have D1 : wB.cell? ⟨w.heap.size + 1, 1, none⟩ = some (.slice da1 t.2.1.length dp1) := by rw [← hwB]; simp [go_sem]
  have D2 : wB.cell? ⟨w.heap.size + 1, 2, none⟩ = some (.slice da2 t.2.2.1.length dp2) := by rw [← hwB]; simp [go_sem]
  have D3 : wB.cell? ⟨w.heap.size + 1, 3, none⟩ = some (.int .i64 t.2.2.2.1) := by rw [← hwB]; simp [go_sem]
  have D4 : wB.cell? ⟨w.heap.size + 1, 4, none⟩ = some (.int .i64 t.2.2.2.2) := by rw [← hwB]; simp [go_sem]
  have XR : Hid (wB.heap[w.heap.size + 1 + 1]? = some (.cells #[.slice none 0 0, .int .i64 0, .slice none 0 0, .slice none 0 0, .slice none 0 0, .slice none 0 0, .slice none 0 0, .int .i64 0] 49 (0, 0))) := Lib.hid (by rw [← hwB]; exact heap_new_at (by simp))
  have hzB : w.heap.size + 3 ≤ wB.heap.size := by rw [← hwB]; simp
  clear hwB
  refine (implCopyNode_0 (HX.out.below EB)).mono ?_
  rintro e w1 ⟨bv, ds, mid, rfl, O1, R1, hm1, hm2, hb1⟩
  have RW := raw_pairC O1.raw0 R1.raw
  obtain ⟨bv0, bv2, bv3, bv4, bv5, bv6, bhe, b_0, b_1, b_2, b_3, b_4, b_5, b_6, b_7, b_8⟩ := RNode_raw (show RNode.raw w1 _ x from RW)
  simp only [List.cons_append, List.nil_append, List.cons.injEq] at bhe
  obtain ⟨rfl, rfl⟩ := bhe
  obtain ⟨ba2, bp2, bh2, _⟩ := Rep.len_raw b_3; obtain rfl : bv2 = _ := by simpa using bh2
  clear bh2
  obtain ⟨ba3, bp3, bh3, _⟩ := Rep.len_raw b_4; obtain rfl : bv3 = _ := by simpa using bh3
  clear bh3
  obtain ⟨ba4, bp4, bh4, _⟩ := Rep.len_raw b_5; obtain rfl : bv4 = _ := by simpa using bh4
  clear bh4
  obtain ⟨ba5, bp5, bh5, _⟩ := Rep.len_raw b_6; obtain rfl : bv5 = _ := by simpa using bh5
  clear bh5
  obtain ⟨ba6, bp6, bh6, _⟩ := Rep.len_raw b_7; obtain rfl : bv6 = _ := by simpa using bh6
  clear bh6
  obtain ⟨oa, on, oc, ho, HON⟩ := O1.parts; obtain rfl := ho
  have HO := Lib.hid O1; have HR := Lib.hid R1
  have hz1 := hb1.size
  have E1 := EB.trans (hb1.mono EB.size)
  replace XR := Lib.hid (keepBox XR.out hb1)
  replace K0 := cell_later hb1 K0
  replace K1 := cell_later hb1 K1
  replace K2 := cell_later hb1 K2
  replace K3 := cell_later hb1 K3
  replace K4 := cell_later hb1 K4
  replace K5 := cell_later hb1 K5
  replace K6 := cell_later hb1 K6
  replace K7 := cell_later hb1 K7
  replace D0 := cell_later hb1 D0
  replace D1 := cell_later hb1 D1
  replace D2 := cell_later hb1 D2
  replace D3 := cell_later hb1 D3
  replace D4 := cell_later hb1 D4
  clear O1 R1 RW hb1 EB b_0 b_1 b_2 b_3 b_4 b_5 b_6 b_7 b_8
  go_upto_region 2 with fail
  generalize hwC : World.alloc w1 _ = wC
  have EC0 : Below w1.heap.size w1 wC := by rw [← hwC]; exact (Below.refl _ _).alloc (Nat.le_refl _) _
  have XM : Hid (wC.heap[w1.heap.size]? = some (.cells #[.slice oa on oc, .int .i64 x.2.1.1, .slice ba2 x.2.1.2.length bp2, .slice ba3 x.2.2.1.length bp3, .slice ba4 x.2.2.2.1.length bp4, .slice ba5 x.2.2.2.2.1.length bp5, .slice ba6 x.2.2.2.2.2.1.length bp6, .int .i64 x.2.2.2.2.2.2] 49 (0, 0))) := Lib.hid (by rw [← hwC]; exact heap_new_at rfl)
  have hzC : w1.heap.size + 1 ≤ wC.heap.size := by rw [← hwC]; simp
  clear hwC
  have EC := E1.trans (EC0.mono E1.size)
  replace XR := Lib.hid (keepBox XR.out EC0)
  replace HO := Lib.hid (HO.out.below EC0)
  replace HR := Lib.hid (HR.out.below EC0)
  have M0 := boxCell XM.out (j := 0) rfl
  replace K0 := cell_later EC0 K0
  replace K1 := cell_later EC0 K1
  replace K2 := cell_later EC0 K2
  replace K3 := cell_later EC0 K3
  replace K4 := cell_later EC0 K4
  replace K5 := cell_later EC0 K5
  replace K6 := cell_later EC0 K6
  replace K7 := cell_later EC0 K7
  replace D0 := cell_later EC0 D0
  replace D1 := cell_later EC0 D1
  replace D2 := cell_later EC0 D2
  replace D3 := cell_later EC0 D3
  replace D4 := cell_later EC0 D4
  refine wp_region_soft_tail (fun W => Below wC.heap.size wC W) [true, true, true, false, false] (by kernel_rfl) (by kernel_rfl) (fun c a d v w h => by cases d <;> exact h) ((Below.refl _ _).drew) ?_
  intro wS HS
  all_goals first | (refine soft_pass rfl HS ?_) | (refine soft_read (v := ?_) rfl (fun W hW => ?_) ?_; rotate_left; (· go_simp; try with_reducible rfl))
  iterate 2
   all_goals try simp only [Act.put, List.setIfInBounds_toArray, List.set_cons_zero, List.set_cons_succ]
   all_goals first | (refine soft_pass rfl HS ?_) | (refine soft_read (v := ?_) rfl (fun W hW => ?_) ?_; rotate_left; (· have A_M0 := cell_later hW M0; have A_D0 := cell_later hW D0; have A_D1 := cell_later hW D1; have A_D2 := cell_later hW D2; have A_D3 := cell_later hW D3; have A_D4 := cell_later hW D4; clear hW; go_simp; try with_reducible rfl))
  all_goals try simp only [Act.put, List.setIfInBounds_toArray, List.set_cons_zero, List.set_cons_succ]
  all_goals first | (refine soft_pass rfl HS ?_) | (refine soft_do rfl (fun K hK => ?_); go_simp; refine (implcopyData_c (HTD.out.below (EC.trans (HS.mono EC.size)))).mono ?_; rintro e wT ⟨tc, rfl, OT, hbT⟩; obtain ⟨tv0, tv1, tv2, rfl, t_0, t_1, t_2, t_3, t_4, t_5, t_6⟩ := RData_raw OT.raw; obtain ⟨ta0, tp0, th0, tl0⟩ := Rep.len_raw t_1; obtain rfl : tv0 = _ := (by simpa using th0); clear th0; obtain ⟨ta1, tp1, th1, tl1⟩ := Rep.len_raw t_2; obtain rfl : tv1 = _ := (by simpa using th1); clear th1; obtain ⟨ta2, tp2, th2, tl2⟩ := Rep.len_raw t_4; obtain rfl : tv2 = _ := (by simpa using th2); clear th2; clear t_0 t_1 t_2 t_3 t_4 t_5 t_6; have hsT := hbT.size; have hrS := HS.size; have HOT := Lib.hid OT; replace HS := HS.trans (hbT.mono HS.size); refine hK _ _ HS ?_; clear hK K hbT OT)
  all_goals try simp only [Act.put, List.setIfInBounds_toArray, List.set_cons_zero, List.set_cons_succ]
  all_goals first | (refine soft_pass rfl HS ?_) | (refine soft_do rfl (fun K hK => ?_); go_simp; refine hK _ _ (HS.alloc HS.size _) ?_; clear hK K)
  all_goals try simp only [Act.put, List.setIfInBounds_toArray, List.set_cons_zero, List.set_cons_succ]
  all_goals refine soft_rest ?_
  replace XR := Lib.hid (keepBox XR.out HS)
  replace XM := Lib.hid (keepBox XM.out HS)
  replace HO := Lib.hid (HO.out.below HS)
  replace HR := Lib.hid (HR.out.below HS)
  have ET := EC.trans (HS.mono EC.size)
  have hsz := HS.size
  replace K0 := cell_later HS K0
  replace K1 := cell_later HS K1
  replace K2 := cell_later HS K2
  replace K3 := cell_later HS K3
  replace K4 := cell_later HS K4
  replace K5 := cell_later HS K5
  replace K6 := cell_later HS K6
  replace K7 := cell_later HS K7
  go_wp2_with (at_builtin; refine Rep.wpList_push1 rfl _ _ 40 rfl (r := RData) (e := 55) Tryz.underlying40 infData rfl (by decide) (by decide) HO.out (by rfl) (by rfl) rfl HOT.out rfl (fun j h1 h2 => by have p := h1.2; have q := h2.1; omega) (by omega) ?_)
  intro v2 w2 hown ht2
  have HO2 := Lib.hid hown; have HT2 := Lib.hid ht2
  obtain ⟨va, vn, vc, hv, HVN⟩ := hown.parts; obtain rfl := hv
  have hz2 := ht2.size
  simp at hz2
  clear hown ht2
  have TU : Touch (Btw wB.heap.size mid) wT w2 := (Touch.of_below ((Below.refl _ _).alloc (Nat.le_refl _) _)).trans (HT2.out.wide (fun k h => h.2))
  have XM2 := TU.keepBox XM.out (fun q => by have q1 := q.1; have q2 := q.2; omega)
  have N0 := boxCell XM2 (j := 0) rfl
  have NF := frozen_of_row w2 w1.heap.size 0 _ _ XM2
  have hvn : vn ≤ 16777217 := by have := HVN.out; simp at this; omega
  go_upto_region 3 with fail
  generalize hw3 : World.setCell w2 ⟨w1.heap.size, 0, none⟩ _ = w3
  have TW : Touch (fun k => k = w1.heap.size) w2 w3 := by rw [← hw3]; exact Rep.touch_setCells [_] w2 _ 0
  have XM3 : Hid (w3.heap[w1.heap.size]? = some (.cells #[.slice va vn vc, .int .i64 x.2.1.1, .slice ba2 x.2.1.2.length bp2, .slice ba3 x.2.2.1.length bp3, .slice ba4 x.2.2.2.1.length bp4, .slice ba5 x.2.2.2.2.1.length bp5, .slice ba6 x.2.2.2.2.2.1.length bp6, .int .i64 x.2.2.2.2.2.2] 49 (0, 0))) := Lib.hid (by
    rw [← hw3]
    have y0 := heap_setCell_same _ (w1.heap.size) 0 _ 49 (.slice va vn vc) XM2
    exact y0)
  clear hw3
  have TA : Touch (fun k => Btw wB.heap.size mid k ∨ k = w1.heap.size) wT w3 := (TU.wide (fun k h => .inl h)).trans (TW.wide (fun k h => .inr h))
  have hz3 := TW.size
  have XR3 := Lib.hid (TA.keepBox XR.out (fun q => by rcases q with q | q; (have q1 := q.1; omega); omega))
  have HR3 := Lib.hid (HR.out.touch TA (fun i p q => by have p1 := p.1; have p2 := p.2; rcases q with q | q; (have q2 := q.2; omega); omega))
  have HO3 := Lib.hid (HO2.out.touch TW (fun i p q => by rcases p with p | p | p; (have p2 := p.2; omega); (have p1 := p.1; omega); (have p1 := p.1; omega)))
  have E3 := ET.trans (TA.below (B := w.heap.size) (by have := ET.size; omega) (fun i q => by rcases q with q | q; (have q1 := q.1; omega); omega))
  replace K0 := TA.cellAt (by intro q; rcases q with q | q; (have q1 := q.1; omega); omega) K0
  replace K1 := TA.cellAt (by intro q; rcases q with q | q; (have q1 := q.1; omega); omega) K1
  replace K2 := TA.cellAt (by intro q; rcases q with q | q; (have q1 := q.1; omega); omega) K2
  replace K3 := TA.cellAt (by intro q; rcases q with q | q; (have q1 := q.1; omega); omega) K3
  replace K4 := TA.cellAt (by intro q; rcases q with q | q; (have q1 := q.1; omega); omega) K4
  replace K5 := TA.cellAt (by intro q; rcases q with q | q; (have q1 := q.1; omega); omega) K5
  replace K6 := TA.cellAt (by intro q; rcases q with q | q; (have q1 := q.1; omega); omega) K6
  replace K7 := TA.cellAt (by intro q; rcases q with q | q; (have q1 := q.1; omega); omega) K7
  clear TU XM2 N0 NF TW TA XR XM HO HR HO2 HT2 HS ET
  have HOWN : Hid (x.1.length < 16777216 → RNode.own w3 [.slice va vn vc, .int .i64 x.2.1.1, .slice ba2 x.2.1.2.length bp2, .slice ba3 x.2.2.1.length bp3, .slice ba4 x.2.2.2.1.length bp4, .slice ba5 x.2.2.2.2.1.length bp5, .slice ba6 x.2.2.2.2.2.1.length bp6, .int .i64 x.2.2.2.2.2.2] (addL1 t x) (Btw wB.heap.size w3.heap.size)) := Lib.hid (fun hl => Rep.own_pair (r := Rep.slice 55 RData) (q := (Rep.pair RContentStore (Rep.pair (Rep.slice 127 RPendingInterest) (Rep.pair (Rep.slice 130 RSeenNonce) (Rep.pair (Rep.slice 133 RRoute) (Rep.pair (Rep.slice 136 RMeasurement) Rep.int)))))) (cs := [.slice va vn vc]) (ds := [.int .i64 x.2.1.1, .slice ba2 x.2.1.2.length bp2, .slice ba3 x.2.2.1.length bp3, .slice ba4 x.2.2.2.1.length bp4, .slice ba5 x.2.2.2.2.1.length bp5, .slice ba6 x.2.2.2.2.2.1.length bp6, .int .i64 x.2.2.2.2.2.2]) (x := x.1 ++ [t]) (y := x.2) (S := Btw wB.heap.size w3.heap.size) (HO3.out.own (by simp; unfold Big; omega)) HR3.out (fun i p => by rcases p with p | p | p; exact ⟨p.1, by have := p.2; omega⟩; exact ⟨by have := p.1; omega, by have := p.2; omega⟩; exact ⟨by have := p.1; omega, by have := p.2; omega⟩) (fun i p => ⟨by have := p.1; omega, by have := p.2; omega⟩) (fun i p q => by have q1 := q.1; have q2 := q.2; rcases p with p | p | p; (have p2 := p.2; omega); (have p1 := p.1; omega); (have p1 := p.1; omega)))
  have HV : Hid (RNode.raw w3 [.slice va vn vc, .int .i64 x.2.1.1, .slice ba2 x.2.1.2.length bp2, .slice ba3 x.2.2.1.length bp3, .slice ba4 x.2.2.2.1.length bp4, .slice ba5 x.2.2.2.2.1.length bp5, .slice ba6 x.2.2.2.2.2.1.length bp6, .int .i64 x.2.2.2.2.2.2] (addL1 t x)) := Lib.hid (raw_pairC HO3.out.raw0 HR3.out.raw)
  clear HO3 HR3
  have M0 := boxCell XM3.out (j := 0) rfl
  have M1 := boxCell XM3.out (j := 1) rfl
  have M2 := boxCell XM3.out (j := 2) rfl
  have M3 := boxCell XM3.out (j := 3) rfl
  have M4 := boxCell XM3.out (j := 4) rfl
  have M5 := boxCell XM3.out (j := 5) rfl
  have M6 := boxCell XM3.out (j := 6) rfl
  have M7 := boxCell XM3.out (j := 7) rfl
  go_wp2_with fail
  refine (implValidNode_w HV.out).mono ?_
  rintro e w4 ⟨rfl, hb4⟩
  have E4 := E3.trans (hb4.mono E3.size)
  have hz4 := hb4.size
  replace XR3 := Lib.hid (keepBox XR3.out hb4)
  replace HOWN := Lib.hid (fun hl => (HOWN.out hl).below hb4)
  replace K0 := cell_later hb4 K0
  replace M0 := cell_later hb4 M0
  replace K1 := cell_later hb4 K1
  replace M1 := cell_later hb4 M1
  replace K2 := cell_later hb4 K2
  replace M2 := cell_later hb4 M2
  replace K3 := cell_later hb4 K3
  replace M3 := cell_later hb4 M3
  replace K4 := cell_later hb4 K4
  replace M4 := cell_later hb4 M4
  replace K5 := cell_later hb4 K5
  replace M5 := cell_later hb4 M5
  replace K6 := cell_later hb4 K6
  replace M6 := cell_later hb4 M6
  replace K7 := cell_later hb4 K7
  replace M7 := cell_later hb4 M7
  clear hb4 HV XM3 E3
  cases hv : nodeOk (addL1 t x)
  · have HQ := Lib.hid (addL_no hv)
    clear hv HOWN
    go_wp2_with fail
    refine (implCopyNode_c (HX.out.below E4)).mono ?_
    rintro e w8 ⟨tc, rfl, O8, hb8⟩
    obtain ⟨cv0, cv2, cv3, cv4, cv5, cv6, rfl, c_0, c_1, c_2, c_3, c_4, c_5, c_6, c_7, c_8⟩ := RNode_raw O8.raw
    obtain ⟨ca0, cp0, ch0, cl0⟩ := Rep.len_raw c_0; obtain rfl : cv0 = _ := by simpa using ch0
    clear ch0
    obtain ⟨ca2, cp2, ch2, cl2⟩ := Rep.len_raw c_3; obtain rfl : cv2 = _ := by simpa using ch2
    clear ch2
    obtain ⟨ca3, cp3, ch3, cl3⟩ := Rep.len_raw c_4; obtain rfl : cv3 = _ := by simpa using ch3
    clear ch3
    obtain ⟨ca4, cp4, ch4, cl4⟩ := Rep.len_raw c_5; obtain rfl : cv4 = _ := by simpa using ch4
    clear ch4
    obtain ⟨ca5, cp5, ch5, cl5⟩ := Rep.len_raw c_6; obtain rfl : cv5 = _ := by simpa using ch5
    clear ch5
    obtain ⟨ca6, cp6, ch6, cl6⟩ := Rep.len_raw c_7; obtain rfl : cv6 = _ := by simpa using ch6
    clear ch6
    clear c_0 c_1 c_2 c_3 c_4 c_5 c_6 c_7 c_8
    have HO8 := Lib.hid O8
    have E8 := E4.trans (hb8.mono E4.size)
    have hz8 := hb8.size
    have X8 := keepBox XR3.out hb8
    clear O8 hb8 XR3
    have R0 := boxCell (b := w.heap.size + 1 + 1) X8 (j := 0) rfl
    have F0 := frozen_of_row w8 (w.heap.size + 1 + 1) 0 _ _ X8
    have R1 := boxCell (b := w.heap.size + 1 + 1) X8 (j := 1) rfl
    have F1 := frozen_of_row w8 (w.heap.size + 1 + 1) 1 _ _ X8
    have R2 := boxCell (b := w.heap.size + 1 + 1) X8 (j := 2) rfl
    have F2 := frozen_of_row w8 (w.heap.size + 1 + 1) 2 _ _ X8
    have R3 := boxCell (b := w.heap.size + 1 + 1) X8 (j := 3) rfl
    have F3 := frozen_of_row w8 (w.heap.size + 1 + 1) 3 _ _ X8
    have R4 := boxCell (b := w.heap.size + 1 + 1) X8 (j := 4) rfl
    have F4 := frozen_of_row w8 (w.heap.size + 1 + 1) 4 _ _ X8
    have R5 := boxCell (b := w.heap.size + 1 + 1) X8 (j := 5) rfl
    have F5 := frozen_of_row w8 (w.heap.size + 1 + 1) 5 _ _ X8
    have R6 := boxCell (b := w.heap.size + 1 + 1) X8 (j := 6) rfl
    have F6 := frozen_of_row w8 (w.heap.size + 1 + 1) 6 _ _ X8
    have R7 := boxCell (b := w.heap.size + 1 + 1) X8 (j := 7) rfl
    have F7 := frozen_of_row w8 (w.heap.size + 1 + 1) 7 _ _ X8
    go_wp2
    refine bodyPost_ret (v := .tuple #[.agg #[.slice ca0 x.1.length cp0, .int .i64 x.2.1.1, .slice ca2 x.2.1.2.length cp2, .slice ca3 x.2.2.1.length cp3, .slice ca4 x.2.2.2.1.length cp4, .slice ca5 x.2.2.2.2.1.length cp5, .slice ca6 x.2.2.2.2.2.1.length cp6, .int .i64 x.2.2.2.2.2.2], .bool false]) (by simp [results, Tryz.results9, go_sem, R0, F0, R1, F1, R2, F2, R3, F3, R4, F4, R5, F5, R6, F6, R7, F7]) rfl ⟨[_, _, _, _, _, _, _, _], by rw [HQ.out.2], ?_, ?_⟩
    · rw [HQ.out.1]
      exact (Rep.own.out HO8.out (fun j h1 h2 => by simp (discharger := (simp; omega)) only [heap_setCell_other])).wide (fun j hj => ⟨by have := hj.1; omega, by simpa [World.setCell] using hj.2⟩)
    · repeat (first | (with_reducible exact E8) | refine Below.setCell ?_ (by first | omega | (simp; try omega)) _)
  · have HQ := Lib.hid (addL_yes hv)
    have HLN := Lib.hid (nodeOk_len hv)
    have HO9 := Lib.hid (HOWN.out (by have := HLN.out; simp [addL1] at this; omega))
    clear hv HOWN
    have R0 := boxCell (b := w.heap.size + 1 + 1) XR3.out (j := 0) rfl
    have F0 := frozen_of_row w4 (w.heap.size + 1 + 1) 0 _ _ XR3.out
    have R1 := boxCell (b := w.heap.size + 1 + 1) XR3.out (j := 1) rfl
    have F1 := frozen_of_row w4 (w.heap.size + 1 + 1) 1 _ _ XR3.out
    have R2 := boxCell (b := w.heap.size + 1 + 1) XR3.out (j := 2) rfl
    have F2 := frozen_of_row w4 (w.heap.size + 1 + 1) 2 _ _ XR3.out
    have R3 := boxCell (b := w.heap.size + 1 + 1) XR3.out (j := 3) rfl
    have F3 := frozen_of_row w4 (w.heap.size + 1 + 1) 3 _ _ XR3.out
    have R4 := boxCell (b := w.heap.size + 1 + 1) XR3.out (j := 4) rfl
    have F4 := frozen_of_row w4 (w.heap.size + 1 + 1) 4 _ _ XR3.out
    have R5 := boxCell (b := w.heap.size + 1 + 1) XR3.out (j := 5) rfl
    have F5 := frozen_of_row w4 (w.heap.size + 1 + 1) 5 _ _ XR3.out
    have R6 := boxCell (b := w.heap.size + 1 + 1) XR3.out (j := 6) rfl
    have F6 := frozen_of_row w4 (w.heap.size + 1 + 1) 6 _ _ XR3.out
    have R7 := boxCell (b := w.heap.size + 1 + 1) XR3.out (j := 7) rfl
    have F7 := frozen_of_row w4 (w.heap.size + 1 + 1) 7 _ _ XR3.out
    go_wp2
    refine bodyPost_ret (v := .tuple #[.agg #[.slice va vn vc, .int .i64 x.2.1.1, .slice ba2 x.2.1.2.length bp2, .slice ba3 x.2.2.1.length bp3, .slice ba4 x.2.2.2.1.length bp4, .slice ba5 x.2.2.2.2.1.length bp5, .slice ba6 x.2.2.2.2.2.1.length bp6, .int .i64 x.2.2.2.2.2.2], .bool true]) (by simp [results, Tryz.results9, go_sem, R0, F0, R1, F1, R2, F2, R3, F3, R4, F4, R5, F5, R6, F6, R7, F7]) rfl ⟨[_, _, _, _, _, _, _, _], by rw [HQ.out.2], ?_, ?_⟩
    · rw [HQ.out.1]
      exact (Rep.own.out HO9.out (fun j h1 h2 => by simp (discharger := (simp; omega)) only [heap_setCell_other])).wide (fun j hj => ⟨by have := hj.1; omega, by have := hj.2; simp [World.setCell]; omega⟩)
    · repeat (first | (with_reducible exact E4) | refine Below.setCell ?_ (by first | omega | (simp; try omega)) _)
end Go.Proofs.YtcnhfggfgknooaaGreat

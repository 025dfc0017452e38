/-
  The law FnExactAddLocal, walked: it returns true, whatever its arguments; then its statement. Printed by genlaw.py.
-/
import Derived.Test.YtcnhfggfgknooaaGreatEq
import Derived.Test.YtcnhfggfgknooaaGreatSz
import Derived.Test.YtcnhfggfgknooaaGreatTo
import Derived.Test.YtcnhfggfgknooaaGreatBridge
import Derived.Test.YtcnhfggfgknooaaGreatMark
import Derived.Test.YtcnhfggfgknooaaGreatMarkD
import Derived.Test.YtcnhfggfgknooaaGreatMarkN
import Derived.Test.YtcnhfggfgknooaaGreatHeld
import Derived.Test.YtcnhfggfgknooaaGreatAddL
import Derived.Test.YtcnhfggfgknooaaGreatSoftT
import Derived.Deep.RegionHeld3
namespace Go.Proofs.YtcnhfggfgknooaaGreat
open Go.ChangeShapes Go.WideShapes Go.ChangeAt Go.RowKit
set_option linter.unusedVariables false
set_option linter.unusedSimpArgs false
set_option linter.unnecessarySimpa false
set_option maxRecDepth 100000 in
set_option maxHeartbeats 4000000 in
theorem lawAddLocal_c {w : World} {c0 : List Value} {x0 : LNode} (h0 : RNode.raw w c0 x0) {c1 : List Value} {x1 : LData} (h1 : RData.raw w c1 x1) :
    Calls Tryz.prog 3 #[.agg c0.toArray, .agg c1.toArray] w (LawPost w) := by
  obtain ⟨a0v0, a0v2, a0v3, a0v4, a0v5, a0v6, rfl, a0_0, a0_1, a0_2, a0_3, a0_4, a0_5, a0_6, a0_7, a0_8⟩ := RNode_raw h0
  clear a0_0 a0_1 a0_2 a0_3 a0_4 a0_5 a0_6 a0_7 a0_8
  obtain ⟨a1v0, a1v1, a1v2, rfl, a1_0, a1_1, a1_2, a1_3, a1_4, a1_5, a1_6⟩ := RData_raw h1
  clear a1_0 a1_1 a1_2 a1_3 a1_4 a1_5 a1_6
  go_enter Tryz.func3, Tryz.ntmps3
  go_wp2_with fail
  refine (szNode_c (h0.below (by repeat (first | (with_reducible exact Below.refl _ _) | refine Below.alloc ?_ (by simp; try omega) _ | refine Below.drew ?_))) (by omega) (by omega)).mono ?_
  rintro e w1 ⟨s1, rfl, p1, q1, g1, hb1⟩
  have G1 := Lib.hid g1; clear g1
  have D1 : Below w.heap.size w w1 := Below.trans (by repeat (first | (with_reducible exact Below.refl _ _) | refine Below.alloc ?_ (by simp; try omega) _ | refine Below.drew ?_)) (hb1.mono (by first | (simp; done) | (simp; omega)))
  have H1 := Lib.hid D1
  have L1 := Lib.hid (show w.heap.size + 2 ≤ w1.heap.size from by have h := hb1.size; (try simp at h); omega)
  have X_aX_1 : Hid (w1.heap[w.heap.size]? = some (.cells #[a0v0, .int .i64 x0.2.1.1, a0v2, a0v3, a0v4, a0v5, a0v6, .int .i64 x0.2.2.2.2.2.2] 31 (0, 0))) := Lib.hid ((hb1.block (w.heap.size) (by first | (simp; done) | (simp; omega))).trans (heap_keep (heap_new_at (by simp))))
  have X_aT_1 : Hid (w1.heap[w.heap.size + 1]? = some (.cells #[a1v0, a1v1, a1v2, .int .i64 x1.2.2.2.1, .int .i64 x1.2.2.2.2] 37 (0, 0))) := Lib.hid ((hb1.block (w.heap.size + 1) (by first | (simp; done) | (simp; omega))).trans (heap_new_at (by simp)))
  clear D1 hb1
  by_cases m1 : s1 < 0
  · go_wp2
    go_ret
    exact ⟨rfl, H1.out⟩
  have z1 : 0 ≤ s1 := by omega
  have r0 : RNode.rd w _ x0 := ⟨h0, RNode.bdd_mono (G1.out z1) (by decide)⟩
  have K_aT_0 := boxCell X_aT_1.out (j := 0) (v := a1v0) rfl
  have K_aT_1 := boxCell X_aT_1.out (j := 1) (v := a1v1) rfl
  have K_aT_2 := boxCell X_aT_1.out (j := 2) (v := a1v2) rfl
  have K_aT_3 := boxCell X_aT_1.out (j := 3) (v := .int .i64 x1.2.2.2.1) rfl
  have K_aT_4 := boxCell X_aT_1.out (j := 4) (v := .int .i64 x1.2.2.2.2) rfl
  go_wp2_with fail
  refine (szData_c (h1.below (by repeat (first | (with_reducible exact H1.out) | refine Below.alloc ?_ (by have := H1.out.size; simp; try omega) _ | refine Below.drew ?_))) z1 (by omega)).mono ?_
  rintro e w2 ⟨s2, rfl, p2, q2, g2, hb2⟩
  have G2 := Lib.hid g2; clear g2
  have D2 : Below w1.heap.size w1 w2 := Below.trans (by repeat (first | (with_reducible exact Below.refl _ _) | refine Below.alloc ?_ (by simp; try omega) _ | refine Below.drew ?_)) (hb2.mono (by first | (simp; done) | (simp; omega)))
  have H2 := Lib.hid (H1.out.trans (D2.mono H1.out.size))
  have L2 := Lib.hid (show w1.heap.size + 0 ≤ w2.heap.size from by have h := hb2.size; (try simp at h); omega)
  have X_aX_2 := Lib.hid (keepBox X_aX_1.out D2); clear X_aX_1
  have X_aT_2 := Lib.hid (keepBox X_aT_1.out D2); clear X_aT_1
  clear D2 K_aT_0 K_aT_1 K_aT_2 K_aT_3 K_aT_4 hb2
  by_cases m2 : s2 < 0
  · go_wp2
    go_ret
    exact ⟨rfl, H2.out⟩
  have z2 : 0 ≤ s2 := by omega
  have r1 : RData.rd w _ x1 := ⟨h1, RData.bdd_mono (G2.out z2) (by decide)⟩
  have K_aX_0 := boxCell X_aX_2.out (j := 0) (v := a0v0) rfl
  have K_aX_1 := boxCell X_aX_2.out (j := 1) (v := .int .i64 x0.2.1.1) rfl
  have K_aX_2 := boxCell X_aX_2.out (j := 2) (v := a0v2) rfl
  have K_aX_3 := boxCell X_aX_2.out (j := 3) (v := a0v3) rfl
  have K_aX_4 := boxCell X_aX_2.out (j := 4) (v := a0v4) rfl
  have K_aX_5 := boxCell X_aX_2.out (j := 5) (v := a0v5) rfl
  have K_aX_6 := boxCell X_aX_2.out (j := 6) (v := a0v6) rfl
  have K_aX_7 := boxCell X_aX_2.out (j := 7) (v := .int .i64 x0.2.2.2.2.2.2) rfl
  have K_aT_0 := boxCell X_aT_2.out (j := 0) (v := a1v0) rfl
  have K_aT_1 := boxCell X_aT_2.out (j := 1) (v := a1v1) rfl
  have K_aT_2 := boxCell X_aT_2.out (j := 2) (v := a1v2) rfl
  have K_aT_3 := boxCell X_aT_2.out (j := 3) (v := .int .i64 x1.2.2.2.1) rfl
  have K_aT_4 := boxCell X_aT_2.out (j := 4) (v := .int .i64 x1.2.2.2.2) rfl
  go_wp2_with fail
  apply share (fun b W => Below w2.heap.size w2 W ∧ w2.heap.size ≤ b ∧ b < W.heap.size ∧ ∃ cs : List Value, W.heap[b]? = some (.cells cs.toArray 49 (0, 0)) ∧ RNode.own W cs ((addL x1 x0)) (Btw w2.heap.size W.heap.size))
  case walk =>
    intro CONT
    refine wp_region_tree (fun W => Below w2.heap.size w2 W) (by kernel_rfl) ((Below.refl _ _).drew) ?_
    intro wS HS
    refine tree_read (k := 0) (v := ?_) rfl (by kernel_rfl) (fun c a d v w h => by cases d <;> exact h) rfl HS (fun W hW => ?_) ?_
    rotate_left
    · have A_K_aX_0 := cell_later hW K_aX_0; have A_K_aX_1 := cell_later hW K_aX_1; have A_K_aX_2 := cell_later hW K_aX_2; have A_K_aX_3 := cell_later hW K_aX_3; have A_K_aX_4 := cell_later hW K_aX_4; have A_K_aX_5 := cell_later hW K_aX_5; have A_K_aX_6 := cell_later hW K_aX_6; have A_K_aX_7 := cell_later hW K_aX_7; have A_K_aT_0 := cell_later hW K_aT_0; have A_K_aT_1 := cell_later hW K_aT_1; have A_K_aT_2 := cell_later hW K_aT_2; have A_K_aT_3 := cell_later hW K_aT_3; have A_K_aT_4 := cell_later hW K_aT_4; clear hW; go_simp; try with_reducible rfl
    try simp only [Act.put, List.setIfInBounds_toArray, List.set_cons_zero, List.set_cons_succ]
    refine tree_read (k := 2) (v := ?_) rfl (by kernel_rfl) (fun c a d v w h => by cases d <;> exact h) rfl HS (fun W hW => ?_) ?_
    rotate_left
    · have A_K_aX_0 := cell_later hW K_aX_0; have A_K_aX_1 := cell_later hW K_aX_1; have A_K_aX_2 := cell_later hW K_aX_2; have A_K_aX_3 := cell_later hW K_aX_3; have A_K_aX_4 := cell_later hW K_aX_4; have A_K_aX_5 := cell_later hW K_aX_5; have A_K_aX_6 := cell_later hW K_aX_6; have A_K_aX_7 := cell_later hW K_aX_7; have A_K_aT_0 := cell_later hW K_aT_0; have A_K_aT_1 := cell_later hW K_aT_1; have A_K_aT_2 := cell_later hW K_aT_2; have A_K_aT_3 := cell_later hW K_aT_3; have A_K_aT_4 := cell_later hW K_aT_4; clear hW; go_simp; try with_reducible rfl
    try simp only [Act.put, List.setIfInBounds_toArray, List.set_cons_zero, List.set_cons_succ]
    refine tree_two (i := 1) (j := 8) rfl rfl (by kernel_rfl) rfl rfl (fun K hK => ?_) (fun K hK => ?_)
    · go_simp
      refine (toNode_c (r0.below (H2.out.trans (HS.mono H2.out.size)))).mono ?_
      rintro e u3_0 ⟨cs3_0, rfl, O3_0, hc⟩
      obtain ⟨t3_0v0, t3_0v2, t3_0v3, t3_0v4, t3_0v5, t3_0v6, rfl, t3_0_0, t3_0_1, t3_0_2, t3_0_3, t3_0_4, t3_0_5, t3_0_6, t3_0_7, t3_0_8⟩ := RNode_raw O3_0.raw
      obtain ⟨t3_0a0, t3_0p0, t3_0h0, _⟩ := Rep.len_raw t3_0_0; obtain rfl : t3_0v0 = _ := (by simpa using t3_0h0)
      clear t3_0h0
      obtain ⟨t3_0a2, t3_0p2, t3_0h2, _⟩ := Rep.len_raw t3_0_3; obtain rfl : t3_0v2 = _ := (by simpa using t3_0h2)
      clear t3_0h2
      obtain ⟨t3_0a3, t3_0p3, t3_0h3, _⟩ := Rep.len_raw t3_0_4; obtain rfl : t3_0v3 = _ := (by simpa using t3_0h3)
      clear t3_0h3
      obtain ⟨t3_0a4, t3_0p4, t3_0h4, _⟩ := Rep.len_raw t3_0_5; obtain rfl : t3_0v4 = _ := (by simpa using t3_0h4)
      clear t3_0h4
      obtain ⟨t3_0a5, t3_0p5, t3_0h5, _⟩ := Rep.len_raw t3_0_6; obtain rfl : t3_0v5 = _ := (by simpa using t3_0h5)
      clear t3_0h5
      obtain ⟨t3_0a6, t3_0p6, t3_0h6, _⟩ := Rep.len_raw t3_0_7; obtain rfl : t3_0v6 = _ := (by simpa using t3_0h6)
      clear t3_0h6
      clear t3_0_0 t3_0_1 t3_0_2 t3_0_3 t3_0_4 t3_0_5 t3_0_6 t3_0_7 t3_0_8
      replace HS := HS.trans (hc.mono HS.size)
      refine hK _ _ HS ?_
      clear hK K hc
      try simp only [Act.put, List.setIfInBounds_toArray, List.set_cons_zero, List.set_cons_succ]
      refine tree_two (i := 3) (j := 8) rfl rfl (by kernel_rfl) rfl rfl (fun K hK => ?_) (fun K hK => ?_)
      · go_simp
        refine (toData_c (r1.below (H2.out.trans (HS.mono H2.out.size)))).mono ?_
        rintro e u3_1 ⟨cs3_1, rfl, O3_1, hc⟩
        obtain ⟨t3_1v0, t3_1v1, t3_1v2, rfl, t3_1_0, t3_1_1, t3_1_2, t3_1_3, t3_1_4, t3_1_5, t3_1_6⟩ := RData_raw O3_1.raw
        obtain ⟨t3_1a0, t3_1p0, t3_1h0, _⟩ := Rep.len_raw t3_1_1; obtain rfl : t3_1v0 = _ := (by simpa using t3_1h0)
        clear t3_1h0
        obtain ⟨t3_1a1, t3_1p1, t3_1h1, _⟩ := Rep.len_raw t3_1_2; obtain rfl : t3_1v1 = _ := (by simpa using t3_1h1)
        clear t3_1h1
        obtain ⟨t3_1a2, t3_1p2, t3_1h2, _⟩ := Rep.len_raw t3_1_4; obtain rfl : t3_1v2 = _ := (by simpa using t3_1h2)
        clear t3_1h2
        clear t3_1_0 t3_1_1 t3_1_2 t3_1_3 t3_1_4 t3_1_5 t3_1_6
        replace O3_0 := O3_0.below hc
        replace HS := HS.trans (hc.mono HS.size)
        refine hK _ _ HS ?_
        clear hK K hc
        try simp only [Act.put, List.setIfInBounds_toArray, List.set_cons_zero, List.set_cons_succ]
        refine tree_two (i := 4) (j := 8) rfl rfl (by kernel_rfl) rfl rfl (fun K hK => ?_) (fun K hK => ?_)
        · go_simp
          refine (specAddLocal_c O3_0.rd O3_1.rd).mono ?_
          rintro e u3 ⟨cs3, rfl, O3, hc⟩
          obtain ⟨t3v0, t3v2, t3v3, t3v4, t3v5, t3v6, rfl, t3_0, t3_1, t3_2, t3_3, t3_4, t3_5, t3_6, t3_7, t3_8⟩ := RNode_raw O3.raw
          obtain ⟨t3a0, t3p0, t3h0, _⟩ := Rep.len_raw t3_0; obtain rfl : t3v0 = _ := (by simpa using t3h0)
          clear t3h0
          obtain ⟨t3a2, t3p2, t3h2, _⟩ := Rep.len_raw t3_3; obtain rfl : t3v2 = _ := (by simpa using t3h2)
          clear t3h2
          obtain ⟨t3a3, t3p3, t3h3, _⟩ := Rep.len_raw t3_4; obtain rfl : t3v3 = _ := (by simpa using t3h3)
          clear t3h3
          obtain ⟨t3a4, t3p4, t3h4, _⟩ := Rep.len_raw t3_5; obtain rfl : t3v4 = _ := (by simpa using t3h4)
          clear t3h4
          obtain ⟨t3a5, t3p5, t3h5, _⟩ := Rep.len_raw t3_6; obtain rfl : t3v5 = _ := (by simpa using t3h5)
          clear t3h5
          obtain ⟨t3a6, t3p6, t3h6, _⟩ := Rep.len_raw t3_7; obtain rfl : t3v6 = _ := (by simpa using t3h6)
          clear t3h6
          clear t3_0 t3_1 t3_2 t3_3 t3_4 t3_5 t3_6 t3_7 t3_8
          have hzr := HS.size
          have hzc := hc.size
          replace HS := HS.trans (hc.mono HS.size)
          refine hK _ _ HS ?_
          clear hK K hc O3_0 O3_1
          try simp only [Act.put, List.setIfInBounds_toArray, List.set_cons_zero, List.set_cons_succ]
          refine tree_read (k := 5) (v := ?_) rfl (by kernel_rfl) (fun c a d v w h => by cases d <;> exact h) rfl HS (fun W hW => ?_) ?_
          rotate_left
          · go_simp; try with_reducible rfl
          try simp only [Act.put, List.setIfInBounds_toArray, List.set_cons_zero, List.set_cons_succ]
          refine tree_read (k := 6) (v := ?_) rfl (by kernel_rfl) (fun c a d v w h => by cases d <;> exact h) rfl HS (fun W hW => ?_) ?_
          rotate_left
          · go_simp; try with_reducible rfl
          try simp only [Act.put, List.setIfInBounds_toArray, List.set_cons_zero, List.set_cons_succ]
          refine tree_read (k := 7) (v := ?_) rfl (by kernel_rfl) (fun c a d v w h => by cases d <;> exact h) rfl HS (fun W hW => ?_) ?_
          rotate_left
          · go_simp; try with_reducible rfl
          try simp only [Act.put, List.setIfInBounds_toArray, List.set_cons_zero, List.set_cons_succ]
          refine tree_one (k := 8) rfl (by kernel_rfl) rfl (fun K hK => ?_)
          go_simp
          generalize hwZ : World.alloc u3 _ = wZ
          have hlt_ := HS.size
          have XZ : wZ.heap[u3.heap.size]? = some (.cells #[.slice none 0 0, .int .i64 0, .slice none 0 0, .slice none 0 0, .slice none 0 0, .slice none 0 0, .slice none 0 0, .int .i64 0] 49 (0, 0)) := (by rw [← hwZ]; exact heap_new_at rfl)
          have hbZ : Below u3.heap.size u3 wZ := (by rw [← hwZ]; exact (Below.refl _ _).alloc (Nat.le_refl _) _)
          replace O3 := O3.below hbZ
          have hzZ := hbZ.size
          replace HS := HS.trans (hbZ.mono HS.size)
          clear hwZ hbZ
          refine hK _ _ HS ?_
          clear hK K
          try simp only [Act.put, List.setIfInBounds_toArray, List.set_cons_zero, List.set_cons_succ]
          refine tree_one (k := 9) rfl (by kernel_rfl) rfl (fun K hK => ?_)
          have Y0 := boxCell XZ (j := 0) rfl
          have N0 := frozen_of_row wZ u3.heap.size 0 _ _ XZ
          have Y1 := boxCell XZ (j := 1) rfl
          have N1 := frozen_of_row wZ u3.heap.size 1 _ _ XZ
          have Y2 := boxCell XZ (j := 2) rfl
          have N2 := frozen_of_row wZ u3.heap.size 2 _ _ XZ
          have Y3 := boxCell XZ (j := 3) rfl
          have N3 := frozen_of_row wZ u3.heap.size 3 _ _ XZ
          have Y4 := boxCell XZ (j := 4) rfl
          have N4 := frozen_of_row wZ u3.heap.size 4 _ _ XZ
          have Y5 := boxCell XZ (j := 5) rfl
          have N5 := frozen_of_row wZ u3.heap.size 5 _ _ XZ
          have Y6 := boxCell XZ (j := 6) rfl
          have N6 := frozen_of_row wZ u3.heap.size 6 _ _ XZ
          have Y7 := boxCell XZ (j := 7) rfl
          have N7 := frozen_of_row wZ u3.heap.size 7 _ _ XZ
          go_simp
          have HSE := ((((((((HS.setCell (show w2.heap.size ≤ (⟨u3.heap.size, 0, none⟩ : Addr).block from hlt_) (.slice t3a0 (((addL x1 x0)).1).length t3p0)).setCell (show w2.heap.size ≤ (⟨u3.heap.size, 1, none⟩ : Addr).block from hlt_) (.int .i64 ((addL x1 x0)).2.1.1)).setCell (show w2.heap.size ≤ (⟨u3.heap.size, 2, none⟩ : Addr).block from hlt_) (.slice t3a2 (((addL x1 x0)).2.1.2).length t3p2)).setCell (show w2.heap.size ≤ (⟨u3.heap.size, 3, none⟩ : Addr).block from hlt_) (.slice t3a3 (((addL x1 x0)).2.2.1).length t3p3)).setCell (show w2.heap.size ≤ (⟨u3.heap.size, 4, none⟩ : Addr).block from hlt_) (.slice t3a4 (((addL x1 x0)).2.2.2.1).length t3p4)).setCell (show w2.heap.size ≤ (⟨u3.heap.size, 5, none⟩ : Addr).block from hlt_) (.slice t3a5 (((addL x1 x0)).2.2.2.2.1).length t3p5)).setCell (show w2.heap.size ≤ (⟨u3.heap.size, 6, none⟩ : Addr).block from hlt_) (.slice t3a6 (((addL x1 x0)).2.2.2.2.2.1).length t3p6)).setCell (show w2.heap.size ≤ (⟨u3.heap.size, 7, none⟩ : Addr).block from hlt_) (.int .i64 ((addL x1 x0)).2.2.2.2.2.2))
          have OW := (Rep.own.setCell (p := ⟨u3.heap.size, 7, none⟩) (v := .int .i64 ((addL x1 x0)).2.2.2.2.2.2) (Rep.own.setCell (p := ⟨u3.heap.size, 6, none⟩) (v := .slice t3a6 (((addL x1 x0)).2.2.2.2.2.1).length t3p6) (Rep.own.setCell (p := ⟨u3.heap.size, 5, none⟩) (v := .slice t3a5 (((addL x1 x0)).2.2.2.2.1).length t3p5) (Rep.own.setCell (p := ⟨u3.heap.size, 4, none⟩) (v := .slice t3a4 (((addL x1 x0)).2.2.2.1).length t3p4) (Rep.own.setCell (p := ⟨u3.heap.size, 3, none⟩) (v := .slice t3a3 (((addL x1 x0)).2.2.1).length t3p3) (Rep.own.setCell (p := ⟨u3.heap.size, 2, none⟩) (v := .slice t3a2 (((addL x1 x0)).2.1.2).length t3p2) (Rep.own.setCell (p := ⟨u3.heap.size, 1, none⟩) (v := .int .i64 ((addL x1 x0)).2.1.1) (Rep.own.setCell (p := ⟨u3.heap.size, 0, none⟩) (v := .slice t3a0 (((addL x1 x0)).1).length t3p0) O3 (by intro q; have p := q.1; have r := q.2; simp only at p r; omega)) (by intro q; have p := q.1; have r := q.2; simp only at p r; omega)) (by intro q; have p := q.1; have r := q.2; simp only at p r; omega)) (by intro q; have p := q.1; have r := q.2; simp only at p r; omega)) (by intro q; have p := q.1; have r := q.2; simp only at p r; omega)) (by intro q; have p := q.1; have r := q.2; simp only at p r; omega)) (by intro q; have p := q.1; have r := q.2; simp only at p r; omega)) (by intro q; have p := q.1; have r := q.2; simp only at p r; omega))
          have hzE : ((((((((wZ.setCell ⟨u3.heap.size, 0, none⟩ (.slice t3a0 (((addL x1 x0)).1).length t3p0)).setCell ⟨u3.heap.size, 1, none⟩ (.int .i64 ((addL x1 x0)).2.1.1)).setCell ⟨u3.heap.size, 2, none⟩ (.slice t3a2 (((addL x1 x0)).2.1.2).length t3p2)).setCell ⟨u3.heap.size, 3, none⟩ (.slice t3a3 (((addL x1 x0)).2.2.1).length t3p3)).setCell ⟨u3.heap.size, 4, none⟩ (.slice t3a4 (((addL x1 x0)).2.2.2.1).length t3p4)).setCell ⟨u3.heap.size, 5, none⟩ (.slice t3a5 (((addL x1 x0)).2.2.2.2.1).length t3p5)).setCell ⟨u3.heap.size, 6, none⟩ (.slice t3a6 (((addL x1 x0)).2.2.2.2.2.1).length t3p6)).setCell ⟨u3.heap.size, 7, none⟩ (.int .i64 ((addL x1 x0)).2.2.2.2.2.2)).heap.size = wZ.heap.size := by simp [World.setCell]
          generalize hws : ((((((((wZ.setCell ⟨u3.heap.size, 0, none⟩ (.slice t3a0 (((addL x1 x0)).1).length t3p0)).setCell ⟨u3.heap.size, 1, none⟩ (.int .i64 ((addL x1 x0)).2.1.1)).setCell ⟨u3.heap.size, 2, none⟩ (.slice t3a2 (((addL x1 x0)).2.1.2).length t3p2)).setCell ⟨u3.heap.size, 3, none⟩ (.slice t3a3 (((addL x1 x0)).2.2.1).length t3p3)).setCell ⟨u3.heap.size, 4, none⟩ (.slice t3a4 (((addL x1 x0)).2.2.2.1).length t3p4)).setCell ⟨u3.heap.size, 5, none⟩ (.slice t3a5 (((addL x1 x0)).2.2.2.2.1).length t3p5)).setCell ⟨u3.heap.size, 6, none⟩ (.slice t3a6 (((addL x1 x0)).2.2.2.2.2.1).length t3p6)).setCell ⟨u3.heap.size, 7, none⟩ (.int .i64 ((addL x1 x0)).2.2.2.2.2.2)) = wE at HSE OW hzE ⊢
          have XW : wE.heap[u3.heap.size]? = some (.cells #[.slice t3a0 (((addL x1 x0)).1).length t3p0, .int .i64 ((addL x1 x0)).2.1.1, .slice t3a2 (((addL x1 x0)).2.1.2).length t3p2, .slice t3a3 (((addL x1 x0)).2.2.1).length t3p3, .slice t3a4 (((addL x1 x0)).2.2.2.1).length t3p4, .slice t3a5 (((addL x1 x0)).2.2.2.2.1).length t3p5, .slice t3a6 (((addL x1 x0)).2.2.2.2.2.1).length t3p6, .int .i64 ((addL x1 x0)).2.2.2.2.2.2] 49 (0, 0)) := by
            rw [← hws]
            have y0 := heap_setCell_same _ (u3.heap.size) 0 _ 49 (.slice t3a0 (((addL x1 x0)).1).length t3p0) XZ
            have y1 := heap_setCell_same _ (u3.heap.size) 1 _ 49 (.int .i64 ((addL x1 x0)).2.1.1) y0
            have y2 := heap_setCell_same _ (u3.heap.size) 2 _ 49 (.slice t3a2 (((addL x1 x0)).2.1.2).length t3p2) y1
            have y3 := heap_setCell_same _ (u3.heap.size) 3 _ 49 (.slice t3a3 (((addL x1 x0)).2.2.1).length t3p3) y2
            have y4 := heap_setCell_same _ (u3.heap.size) 4 _ 49 (.slice t3a4 (((addL x1 x0)).2.2.2.1).length t3p4) y3
            have y5 := heap_setCell_same _ (u3.heap.size) 5 _ 49 (.slice t3a5 (((addL x1 x0)).2.2.2.2.1).length t3p5) y4
            have y6 := heap_setCell_same _ (u3.heap.size) 6 _ 49 (.slice t3a6 (((addL x1 x0)).2.2.2.2.2.1).length t3p6) y5
            have y7 := heap_setCell_same _ (u3.heap.size) 7 _ 49 (.int .i64 ((addL x1 x0)).2.2.2.2.2.2) y6
            exact y7
          clear hws Y0 N0 Y1 N1 Y2 N2 Y3 N3 Y4 N4 Y5 N5 Y6 N6 Y7 N7 XZ
          replace HS := HSE
          clear HSE
          refine hK _ _ HS ?_
          clear hK K
          try simp only [Act.put, List.setIfInBounds_toArray, List.set_cons_zero, List.set_cons_succ]
          refine tree_read (k := 10) (v := ?_) rfl (by kernel_rfl) (fun c a d v w h => by cases d <;> exact h) rfl HS (fun W hW => ?_) ?_
          rotate_left
          · go_simp; try with_reducible rfl
          try simp only [Act.put, List.setIfInBounds_toArray, List.set_cons_zero, List.set_cons_succ]
          refine tree_end (by kernel_rfl) ?_
          generalize (.tuple #[.agg #[.slice t3a0 (((addL x1 x0)).1).length t3p0, .int .i64 ((addL x1 x0)).2.1.1, .slice t3a2 (((addL x1 x0)).2.1.2).length t3p2, .slice t3a3 (((addL x1 x0)).2.2.1).length t3p3, .slice t3a4 (((addL x1 x0)).2.2.2.1).length t3p4, .slice t3a5 (((addL x1 x0)).2.2.2.2.1).length t3p5, .slice t3a6 (((addL x1 x0)).2.2.2.2.2.1).length t3p6, .int .i64 ((addL x1 x0)).2.2.2.2.2.2], .bool ((addLOk x1 x0))] : Value) = g3
          generalize (.agg #[.slice t3a0 (((addL x1 x0)).1).length t3p0, .int .i64 ((addL x1 x0)).2.1.1, .slice t3a2 (((addL x1 x0)).2.1.2).length t3p2, .slice t3a3 (((addL x1 x0)).2.2.1).length t3p3, .slice t3a4 (((addL x1 x0)).2.2.2.1).length t3p4, .slice t3a5 (((addL x1 x0)).2.2.2.2.1).length t3p5, .slice t3a6 (((addL x1 x0)).2.2.2.2.2.1).length t3p6, .int .i64 ((addL x1 x0)).2.2.2.2.2.2] : Value) = g4
          generalize (.agg #[.slice t3_0a0 (x0.1).length t3_0p0, .int .i64 x0.2.1.1, .slice t3_0a2 (x0.2.1.2).length t3_0p2, .slice t3_0a3 (x0.2.2.1).length t3_0p3, .slice t3_0a4 (x0.2.2.2.1).length t3_0p4, .slice t3_0a5 (x0.2.2.2.2.1).length t3_0p5, .slice t3_0a6 (x0.2.2.2.2.2.1).length t3_0p6, .int .i64 x0.2.2.2.2.2.2] : Value) = g1
          generalize (.agg #[.slice t3_1a0 (x1.1).length t3_1p0, .slice t3_1a1 (x1.2.1).length t3_1p1, .slice t3_1a2 (x1.2.2.1).length t3_1p2, .int .i64 x1.2.2.2.1, .int .i64 x1.2.2.2.2] : Value) = g2
          have hbl := (Array.getElem?_eq_some_iff.1 XW).1
          have OE := Rep.own.wide (T := Btw w2.heap.size wE.heap.size) OW (fun j hj => ⟨by have := hj.1; omega, by have := hj.2; omega⟩)
          clear OW
          generalize u3.heap.size = b at hbl XW hlt_ ⊢
          exact CONT b g1 g2 g3 g4 wE ⟨HS, hlt_, hbl, _, XW, OE⟩
        · go_simp
          generalize hwZ : World.alloc u3_1 _ = wZ
          have hlt_ := HS.size
          have XZ : wZ.heap[u3_1.heap.size]? = some (.cells #[.slice none 0 0, .int .i64 0, .slice none 0 0, .slice none 0 0, .slice none 0 0, .slice none 0 0, .slice none 0 0, .int .i64 0] 49 (0, 0)) := (by rw [← hwZ]; exact heap_new_at rfl)
          have hbZ : Below u3_1.heap.size u3_1 wZ := (by rw [← hwZ]; exact (Below.refl _ _).alloc (Nat.le_refl _) _)
          replace O3_0 := O3_0.below hbZ
          replace O3_1 := O3_1.below hbZ
          have hzZ := hbZ.size
          replace HS := HS.trans (hbZ.mono HS.size)
          clear hwZ hbZ
          refine hK _ _ HS ?_
          clear hK K
          try simp only [Act.put, List.setIfInBounds_toArray, List.set_cons_zero, List.set_cons_succ]
          refine tree_one (k := 4) rfl (by kernel_rfl) rfl (fun K hK => ?_)
          go_simp
          refine (specAddLocal_c O3_0.rd O3_1.rd).mono ?_
          rintro e u3 ⟨cs3, rfl, O3, hc⟩
          obtain ⟨t3v0, t3v2, t3v3, t3v4, t3v5, t3v6, rfl, t3_0, t3_1, t3_2, t3_3, t3_4, t3_5, t3_6, t3_7, t3_8⟩ := RNode_raw O3.raw
          obtain ⟨t3a0, t3p0, t3h0, _⟩ := Rep.len_raw t3_0; obtain rfl : t3v0 = _ := (by simpa using t3h0)
          clear t3h0
          obtain ⟨t3a2, t3p2, t3h2, _⟩ := Rep.len_raw t3_3; obtain rfl : t3v2 = _ := (by simpa using t3h2)
          clear t3h2
          obtain ⟨t3a3, t3p3, t3h3, _⟩ := Rep.len_raw t3_4; obtain rfl : t3v3 = _ := (by simpa using t3h3)
          clear t3h3
          obtain ⟨t3a4, t3p4, t3h4, _⟩ := Rep.len_raw t3_5; obtain rfl : t3v4 = _ := (by simpa using t3h4)
          clear t3h4
          obtain ⟨t3a5, t3p5, t3h5, _⟩ := Rep.len_raw t3_6; obtain rfl : t3v5 = _ := (by simpa using t3h5)
          clear t3h5
          obtain ⟨t3a6, t3p6, t3h6, _⟩ := Rep.len_raw t3_7; obtain rfl : t3v6 = _ := (by simpa using t3h6)
          clear t3h6
          clear t3_0 t3_1 t3_2 t3_3 t3_4 t3_5 t3_6 t3_7 t3_8
          have hfl := (Array.getElem?_eq_some_iff.1 XZ).1
          replace XZ := keepBox XZ hc
          have hzr := HS.size
          have hzc := hc.size
          replace HS := HS.trans (hc.mono HS.size)
          refine hK _ _ HS ?_
          clear hK K hc O3_0 O3_1
          try simp only [Act.put, List.setIfInBounds_toArray, List.set_cons_zero, List.set_cons_succ]
          refine tree_read (k := 5) (v := ?_) rfl (by kernel_rfl) (fun c a d v w h => by cases d <;> exact h) rfl HS (fun W hW => ?_) ?_
          rotate_left
          · go_simp; try with_reducible rfl
          try simp only [Act.put, List.setIfInBounds_toArray, List.set_cons_zero, List.set_cons_succ]
          refine tree_read (k := 6) (v := ?_) rfl (by kernel_rfl) (fun c a d v w h => by cases d <;> exact h) rfl HS (fun W hW => ?_) ?_
          rotate_left
          · go_simp; try with_reducible rfl
          try simp only [Act.put, List.setIfInBounds_toArray, List.set_cons_zero, List.set_cons_succ]
          refine tree_read (k := 7) (v := ?_) rfl (by kernel_rfl) (fun c a d v w h => by cases d <;> exact h) rfl HS (fun W hW => ?_) ?_
          rotate_left
          · go_simp; try with_reducible rfl
          try simp only [Act.put, List.setIfInBounds_toArray, List.set_cons_zero, List.set_cons_succ]
          refine tree_one (k := 9) rfl (by kernel_rfl) rfl (fun K hK => ?_)
          have Y0 := boxCell XZ (j := 0) rfl
          have N0 := frozen_of_row u3 u3_1.heap.size 0 _ _ XZ
          have Y1 := boxCell XZ (j := 1) rfl
          have N1 := frozen_of_row u3 u3_1.heap.size 1 _ _ XZ
          have Y2 := boxCell XZ (j := 2) rfl
          have N2 := frozen_of_row u3 u3_1.heap.size 2 _ _ XZ
          have Y3 := boxCell XZ (j := 3) rfl
          have N3 := frozen_of_row u3 u3_1.heap.size 3 _ _ XZ
          have Y4 := boxCell XZ (j := 4) rfl
          have N4 := frozen_of_row u3 u3_1.heap.size 4 _ _ XZ
          have Y5 := boxCell XZ (j := 5) rfl
          have N5 := frozen_of_row u3 u3_1.heap.size 5 _ _ XZ
          have Y6 := boxCell XZ (j := 6) rfl
          have N6 := frozen_of_row u3 u3_1.heap.size 6 _ _ XZ
          have Y7 := boxCell XZ (j := 7) rfl
          have N7 := frozen_of_row u3 u3_1.heap.size 7 _ _ XZ
          go_simp
          have HSE := ((((((((HS.setCell (show w2.heap.size ≤ (⟨u3_1.heap.size, 0, none⟩ : Addr).block from hlt_) (.slice t3a0 (((addL x1 x0)).1).length t3p0)).setCell (show w2.heap.size ≤ (⟨u3_1.heap.size, 1, none⟩ : Addr).block from hlt_) (.int .i64 ((addL x1 x0)).2.1.1)).setCell (show w2.heap.size ≤ (⟨u3_1.heap.size, 2, none⟩ : Addr).block from hlt_) (.slice t3a2 (((addL x1 x0)).2.1.2).length t3p2)).setCell (show w2.heap.size ≤ (⟨u3_1.heap.size, 3, none⟩ : Addr).block from hlt_) (.slice t3a3 (((addL x1 x0)).2.2.1).length t3p3)).setCell (show w2.heap.size ≤ (⟨u3_1.heap.size, 4, none⟩ : Addr).block from hlt_) (.slice t3a4 (((addL x1 x0)).2.2.2.1).length t3p4)).setCell (show w2.heap.size ≤ (⟨u3_1.heap.size, 5, none⟩ : Addr).block from hlt_) (.slice t3a5 (((addL x1 x0)).2.2.2.2.1).length t3p5)).setCell (show w2.heap.size ≤ (⟨u3_1.heap.size, 6, none⟩ : Addr).block from hlt_) (.slice t3a6 (((addL x1 x0)).2.2.2.2.2.1).length t3p6)).setCell (show w2.heap.size ≤ (⟨u3_1.heap.size, 7, none⟩ : Addr).block from hlt_) (.int .i64 ((addL x1 x0)).2.2.2.2.2.2))
          have OW := (Rep.own.setCell (p := ⟨u3_1.heap.size, 7, none⟩) (v := .int .i64 ((addL x1 x0)).2.2.2.2.2.2) (Rep.own.setCell (p := ⟨u3_1.heap.size, 6, none⟩) (v := .slice t3a6 (((addL x1 x0)).2.2.2.2.2.1).length t3p6) (Rep.own.setCell (p := ⟨u3_1.heap.size, 5, none⟩) (v := .slice t3a5 (((addL x1 x0)).2.2.2.2.1).length t3p5) (Rep.own.setCell (p := ⟨u3_1.heap.size, 4, none⟩) (v := .slice t3a4 (((addL x1 x0)).2.2.2.1).length t3p4) (Rep.own.setCell (p := ⟨u3_1.heap.size, 3, none⟩) (v := .slice t3a3 (((addL x1 x0)).2.2.1).length t3p3) (Rep.own.setCell (p := ⟨u3_1.heap.size, 2, none⟩) (v := .slice t3a2 (((addL x1 x0)).2.1.2).length t3p2) (Rep.own.setCell (p := ⟨u3_1.heap.size, 1, none⟩) (v := .int .i64 ((addL x1 x0)).2.1.1) (Rep.own.setCell (p := ⟨u3_1.heap.size, 0, none⟩) (v := .slice t3a0 (((addL x1 x0)).1).length t3p0) O3 (by intro q; have p := q.1; have r := q.2; simp only at p r; omega)) (by intro q; have p := q.1; have r := q.2; simp only at p r; omega)) (by intro q; have p := q.1; have r := q.2; simp only at p r; omega)) (by intro q; have p := q.1; have r := q.2; simp only at p r; omega)) (by intro q; have p := q.1; have r := q.2; simp only at p r; omega)) (by intro q; have p := q.1; have r := q.2; simp only at p r; omega)) (by intro q; have p := q.1; have r := q.2; simp only at p r; omega)) (by intro q; have p := q.1; have r := q.2; simp only at p r; omega))
          have hzE : ((((((((u3.setCell ⟨u3_1.heap.size, 0, none⟩ (.slice t3a0 (((addL x1 x0)).1).length t3p0)).setCell ⟨u3_1.heap.size, 1, none⟩ (.int .i64 ((addL x1 x0)).2.1.1)).setCell ⟨u3_1.heap.size, 2, none⟩ (.slice t3a2 (((addL x1 x0)).2.1.2).length t3p2)).setCell ⟨u3_1.heap.size, 3, none⟩ (.slice t3a3 (((addL x1 x0)).2.2.1).length t3p3)).setCell ⟨u3_1.heap.size, 4, none⟩ (.slice t3a4 (((addL x1 x0)).2.2.2.1).length t3p4)).setCell ⟨u3_1.heap.size, 5, none⟩ (.slice t3a5 (((addL x1 x0)).2.2.2.2.1).length t3p5)).setCell ⟨u3_1.heap.size, 6, none⟩ (.slice t3a6 (((addL x1 x0)).2.2.2.2.2.1).length t3p6)).setCell ⟨u3_1.heap.size, 7, none⟩ (.int .i64 ((addL x1 x0)).2.2.2.2.2.2)).heap.size = u3.heap.size := by simp [World.setCell]
          generalize hws : ((((((((u3.setCell ⟨u3_1.heap.size, 0, none⟩ (.slice t3a0 (((addL x1 x0)).1).length t3p0)).setCell ⟨u3_1.heap.size, 1, none⟩ (.int .i64 ((addL x1 x0)).2.1.1)).setCell ⟨u3_1.heap.size, 2, none⟩ (.slice t3a2 (((addL x1 x0)).2.1.2).length t3p2)).setCell ⟨u3_1.heap.size, 3, none⟩ (.slice t3a3 (((addL x1 x0)).2.2.1).length t3p3)).setCell ⟨u3_1.heap.size, 4, none⟩ (.slice t3a4 (((addL x1 x0)).2.2.2.1).length t3p4)).setCell ⟨u3_1.heap.size, 5, none⟩ (.slice t3a5 (((addL x1 x0)).2.2.2.2.1).length t3p5)).setCell ⟨u3_1.heap.size, 6, none⟩ (.slice t3a6 (((addL x1 x0)).2.2.2.2.2.1).length t3p6)).setCell ⟨u3_1.heap.size, 7, none⟩ (.int .i64 ((addL x1 x0)).2.2.2.2.2.2)) = wE at HSE OW hzE ⊢
          have XW : wE.heap[u3_1.heap.size]? = some (.cells #[.slice t3a0 (((addL x1 x0)).1).length t3p0, .int .i64 ((addL x1 x0)).2.1.1, .slice t3a2 (((addL x1 x0)).2.1.2).length t3p2, .slice t3a3 (((addL x1 x0)).2.2.1).length t3p3, .slice t3a4 (((addL x1 x0)).2.2.2.1).length t3p4, .slice t3a5 (((addL x1 x0)).2.2.2.2.1).length t3p5, .slice t3a6 (((addL x1 x0)).2.2.2.2.2.1).length t3p6, .int .i64 ((addL x1 x0)).2.2.2.2.2.2] 49 (0, 0)) := by
            rw [← hws]
            have y0 := heap_setCell_same _ (u3_1.heap.size) 0 _ 49 (.slice t3a0 (((addL x1 x0)).1).length t3p0) XZ
            have y1 := heap_setCell_same _ (u3_1.heap.size) 1 _ 49 (.int .i64 ((addL x1 x0)).2.1.1) y0
            have y2 := heap_setCell_same _ (u3_1.heap.size) 2 _ 49 (.slice t3a2 (((addL x1 x0)).2.1.2).length t3p2) y1
            have y3 := heap_setCell_same _ (u3_1.heap.size) 3 _ 49 (.slice t3a3 (((addL x1 x0)).2.2.1).length t3p3) y2
            have y4 := heap_setCell_same _ (u3_1.heap.size) 4 _ 49 (.slice t3a4 (((addL x1 x0)).2.2.2.1).length t3p4) y3
            have y5 := heap_setCell_same _ (u3_1.heap.size) 5 _ 49 (.slice t3a5 (((addL x1 x0)).2.2.2.2.1).length t3p5) y4
            have y6 := heap_setCell_same _ (u3_1.heap.size) 6 _ 49 (.slice t3a6 (((addL x1 x0)).2.2.2.2.2.1).length t3p6) y5
            have y7 := heap_setCell_same _ (u3_1.heap.size) 7 _ 49 (.int .i64 ((addL x1 x0)).2.2.2.2.2.2) y6
            exact y7
          clear hws Y0 N0 Y1 N1 Y2 N2 Y3 N3 Y4 N4 Y5 N5 Y6 N6 Y7 N7 XZ
          replace HS := HSE
          clear HSE
          refine hK _ _ HS ?_
          clear hK K
          try simp only [Act.put, List.setIfInBounds_toArray, List.set_cons_zero, List.set_cons_succ]
          refine tree_read (k := 10) (v := ?_) rfl (by kernel_rfl) (fun c a d v w h => by cases d <;> exact h) rfl HS (fun W hW => ?_) ?_
          rotate_left
          · go_simp; try with_reducible rfl
          try simp only [Act.put, List.setIfInBounds_toArray, List.set_cons_zero, List.set_cons_succ]
          refine tree_end (by kernel_rfl) ?_
          generalize (.tuple #[.agg #[.slice t3a0 (((addL x1 x0)).1).length t3p0, .int .i64 ((addL x1 x0)).2.1.1, .slice t3a2 (((addL x1 x0)).2.1.2).length t3p2, .slice t3a3 (((addL x1 x0)).2.2.1).length t3p3, .slice t3a4 (((addL x1 x0)).2.2.2.1).length t3p4, .slice t3a5 (((addL x1 x0)).2.2.2.2.1).length t3p5, .slice t3a6 (((addL x1 x0)).2.2.2.2.2.1).length t3p6, .int .i64 ((addL x1 x0)).2.2.2.2.2.2], .bool ((addLOk x1 x0))] : Value) = g3
          generalize (.agg #[.slice t3a0 (((addL x1 x0)).1).length t3p0, .int .i64 ((addL x1 x0)).2.1.1, .slice t3a2 (((addL x1 x0)).2.1.2).length t3p2, .slice t3a3 (((addL x1 x0)).2.2.1).length t3p3, .slice t3a4 (((addL x1 x0)).2.2.2.1).length t3p4, .slice t3a5 (((addL x1 x0)).2.2.2.2.1).length t3p5, .slice t3a6 (((addL x1 x0)).2.2.2.2.2.1).length t3p6, .int .i64 ((addL x1 x0)).2.2.2.2.2.2] : Value) = g4
          generalize (.agg #[.slice t3_0a0 (x0.1).length t3_0p0, .int .i64 x0.2.1.1, .slice t3_0a2 (x0.2.1.2).length t3_0p2, .slice t3_0a3 (x0.2.2.1).length t3_0p3, .slice t3_0a4 (x0.2.2.2.1).length t3_0p4, .slice t3_0a5 (x0.2.2.2.2.1).length t3_0p5, .slice t3_0a6 (x0.2.2.2.2.2.1).length t3_0p6, .int .i64 x0.2.2.2.2.2.2] : Value) = g1
          generalize (.agg #[.slice t3_1a0 (x1.1).length t3_1p0, .slice t3_1a1 (x1.2.1).length t3_1p1, .slice t3_1a2 (x1.2.2.1).length t3_1p2, .int .i64 x1.2.2.2.1, .int .i64 x1.2.2.2.2] : Value) = g2
          have hbl := (Array.getElem?_eq_some_iff.1 XW).1
          have OE := Rep.own.wide (T := Btw w2.heap.size wE.heap.size) OW (fun j hj => ⟨by have := hj.1; omega, by have := hj.2; omega⟩)
          clear OW
          generalize u3_1.heap.size = b at hbl XW hlt_ ⊢
          exact CONT b g1 g2 g3 g4 wE ⟨HS, hlt_, hbl, _, XW, OE⟩
      · go_simp
        generalize hwZ : World.alloc u3_0 _ = wZ
        have hlt_ := HS.size
        have XZ : wZ.heap[u3_0.heap.size]? = some (.cells #[.slice none 0 0, .int .i64 0, .slice none 0 0, .slice none 0 0, .slice none 0 0, .slice none 0 0, .slice none 0 0, .int .i64 0] 49 (0, 0)) := (by rw [← hwZ]; exact heap_new_at rfl)
        have hbZ : Below u3_0.heap.size u3_0 wZ := (by rw [← hwZ]; exact (Below.refl _ _).alloc (Nat.le_refl _) _)
        replace O3_0 := O3_0.below hbZ
        have hzZ := hbZ.size
        replace HS := HS.trans (hbZ.mono HS.size)
        clear hwZ hbZ
        refine hK _ _ HS ?_
        clear hK K
        try simp only [Act.put, List.setIfInBounds_toArray, List.set_cons_zero, List.set_cons_succ]
        refine tree_one (k := 3) rfl (by kernel_rfl) rfl (fun K hK => ?_)
        go_simp
        refine (toData_c (r1.below (H2.out.trans (HS.mono H2.out.size)))).mono ?_
        rintro e u3_1 ⟨cs3_1, rfl, O3_1, hc⟩
        obtain ⟨t3_1v0, t3_1v1, t3_1v2, rfl, t3_1_0, t3_1_1, t3_1_2, t3_1_3, t3_1_4, t3_1_5, t3_1_6⟩ := RData_raw O3_1.raw
        obtain ⟨t3_1a0, t3_1p0, t3_1h0, _⟩ := Rep.len_raw t3_1_1; obtain rfl : t3_1v0 = _ := (by simpa using t3_1h0)
        clear t3_1h0
        obtain ⟨t3_1a1, t3_1p1, t3_1h1, _⟩ := Rep.len_raw t3_1_2; obtain rfl : t3_1v1 = _ := (by simpa using t3_1h1)
        clear t3_1h1
        obtain ⟨t3_1a2, t3_1p2, t3_1h2, _⟩ := Rep.len_raw t3_1_4; obtain rfl : t3_1v2 = _ := (by simpa using t3_1h2)
        clear t3_1h2
        clear t3_1_0 t3_1_1 t3_1_2 t3_1_3 t3_1_4 t3_1_5 t3_1_6
        replace O3_0 := O3_0.below hc
        replace XZ := keepBox XZ hc
        replace HS := HS.trans (hc.mono HS.size)
        refine hK _ _ HS ?_
        clear hK K hc
        try simp only [Act.put, List.setIfInBounds_toArray, List.set_cons_zero, List.set_cons_succ]
        refine tree_one (k := 4) rfl (by kernel_rfl) rfl (fun K hK => ?_)
        go_simp
        refine (specAddLocal_c O3_0.rd O3_1.rd).mono ?_
        rintro e u3 ⟨cs3, rfl, O3, hc⟩
        obtain ⟨t3v0, t3v2, t3v3, t3v4, t3v5, t3v6, rfl, t3_0, t3_1, t3_2, t3_3, t3_4, t3_5, t3_6, t3_7, t3_8⟩ := RNode_raw O3.raw
        obtain ⟨t3a0, t3p0, t3h0, _⟩ := Rep.len_raw t3_0; obtain rfl : t3v0 = _ := (by simpa using t3h0)
        clear t3h0
        obtain ⟨t3a2, t3p2, t3h2, _⟩ := Rep.len_raw t3_3; obtain rfl : t3v2 = _ := (by simpa using t3h2)
        clear t3h2
        obtain ⟨t3a3, t3p3, t3h3, _⟩ := Rep.len_raw t3_4; obtain rfl : t3v3 = _ := (by simpa using t3h3)
        clear t3h3
        obtain ⟨t3a4, t3p4, t3h4, _⟩ := Rep.len_raw t3_5; obtain rfl : t3v4 = _ := (by simpa using t3h4)
        clear t3h4
        obtain ⟨t3a5, t3p5, t3h5, _⟩ := Rep.len_raw t3_6; obtain rfl : t3v5 = _ := (by simpa using t3h5)
        clear t3h5
        obtain ⟨t3a6, t3p6, t3h6, _⟩ := Rep.len_raw t3_7; obtain rfl : t3v6 = _ := (by simpa using t3h6)
        clear t3h6
        clear t3_0 t3_1 t3_2 t3_3 t3_4 t3_5 t3_6 t3_7 t3_8
        have hfl := (Array.getElem?_eq_some_iff.1 XZ).1
        replace XZ := keepBox XZ hc
        have hzr := HS.size
        have hzc := hc.size
        replace HS := HS.trans (hc.mono HS.size)
        refine hK _ _ HS ?_
        clear hK K hc O3_0 O3_1
        try simp only [Act.put, List.setIfInBounds_toArray, List.set_cons_zero, List.set_cons_succ]
        refine tree_read (k := 5) (v := ?_) rfl (by kernel_rfl) (fun c a d v w h => by cases d <;> exact h) rfl HS (fun W hW => ?_) ?_
        rotate_left
        · go_simp; try with_reducible rfl
        try simp only [Act.put, List.setIfInBounds_toArray, List.set_cons_zero, List.set_cons_succ]
        refine tree_read (k := 6) (v := ?_) rfl (by kernel_rfl) (fun c a d v w h => by cases d <;> exact h) rfl HS (fun W hW => ?_) ?_
        rotate_left
        · go_simp; try with_reducible rfl
        try simp only [Act.put, List.setIfInBounds_toArray, List.set_cons_zero, List.set_cons_succ]
        refine tree_read (k := 7) (v := ?_) rfl (by kernel_rfl) (fun c a d v w h => by cases d <;> exact h) rfl HS (fun W hW => ?_) ?_
        rotate_left
        · go_simp; try with_reducible rfl
        try simp only [Act.put, List.setIfInBounds_toArray, List.set_cons_zero, List.set_cons_succ]
        refine tree_one (k := 9) rfl (by kernel_rfl) rfl (fun K hK => ?_)
        have Y0 := boxCell XZ (j := 0) rfl
        have N0 := frozen_of_row u3 u3_0.heap.size 0 _ _ XZ
        have Y1 := boxCell XZ (j := 1) rfl
        have N1 := frozen_of_row u3 u3_0.heap.size 1 _ _ XZ
        have Y2 := boxCell XZ (j := 2) rfl
        have N2 := frozen_of_row u3 u3_0.heap.size 2 _ _ XZ
        have Y3 := boxCell XZ (j := 3) rfl
        have N3 := frozen_of_row u3 u3_0.heap.size 3 _ _ XZ
        have Y4 := boxCell XZ (j := 4) rfl
        have N4 := frozen_of_row u3 u3_0.heap.size 4 _ _ XZ
        have Y5 := boxCell XZ (j := 5) rfl
        have N5 := frozen_of_row u3 u3_0.heap.size 5 _ _ XZ
        have Y6 := boxCell XZ (j := 6) rfl
        have N6 := frozen_of_row u3 u3_0.heap.size 6 _ _ XZ
        have Y7 := boxCell XZ (j := 7) rfl
        have N7 := frozen_of_row u3 u3_0.heap.size 7 _ _ XZ
        go_simp
        have HSE := ((((((((HS.setCell (show w2.heap.size ≤ (⟨u3_0.heap.size, 0, none⟩ : Addr).block from hlt_) (.slice t3a0 (((addL x1 x0)).1).length t3p0)).setCell (show w2.heap.size ≤ (⟨u3_0.heap.size, 1, none⟩ : Addr).block from hlt_) (.int .i64 ((addL x1 x0)).2.1.1)).setCell (show w2.heap.size ≤ (⟨u3_0.heap.size, 2, none⟩ : Addr).block from hlt_) (.slice t3a2 (((addL x1 x0)).2.1.2).length t3p2)).setCell (show w2.heap.size ≤ (⟨u3_0.heap.size, 3, none⟩ : Addr).block from hlt_) (.slice t3a3 (((addL x1 x0)).2.2.1).length t3p3)).setCell (show w2.heap.size ≤ (⟨u3_0.heap.size, 4, none⟩ : Addr).block from hlt_) (.slice t3a4 (((addL x1 x0)).2.2.2.1).length t3p4)).setCell (show w2.heap.size ≤ (⟨u3_0.heap.size, 5, none⟩ : Addr).block from hlt_) (.slice t3a5 (((addL x1 x0)).2.2.2.2.1).length t3p5)).setCell (show w2.heap.size ≤ (⟨u3_0.heap.size, 6, none⟩ : Addr).block from hlt_) (.slice t3a6 (((addL x1 x0)).2.2.2.2.2.1).length t3p6)).setCell (show w2.heap.size ≤ (⟨u3_0.heap.size, 7, none⟩ : Addr).block from hlt_) (.int .i64 ((addL x1 x0)).2.2.2.2.2.2))
        have OW := (Rep.own.setCell (p := ⟨u3_0.heap.size, 7, none⟩) (v := .int .i64 ((addL x1 x0)).2.2.2.2.2.2) (Rep.own.setCell (p := ⟨u3_0.heap.size, 6, none⟩) (v := .slice t3a6 (((addL x1 x0)).2.2.2.2.2.1).length t3p6) (Rep.own.setCell (p := ⟨u3_0.heap.size, 5, none⟩) (v := .slice t3a5 (((addL x1 x0)).2.2.2.2.1).length t3p5) (Rep.own.setCell (p := ⟨u3_0.heap.size, 4, none⟩) (v := .slice t3a4 (((addL x1 x0)).2.2.2.1).length t3p4) (Rep.own.setCell (p := ⟨u3_0.heap.size, 3, none⟩) (v := .slice t3a3 (((addL x1 x0)).2.2.1).length t3p3) (Rep.own.setCell (p := ⟨u3_0.heap.size, 2, none⟩) (v := .slice t3a2 (((addL x1 x0)).2.1.2).length t3p2) (Rep.own.setCell (p := ⟨u3_0.heap.size, 1, none⟩) (v := .int .i64 ((addL x1 x0)).2.1.1) (Rep.own.setCell (p := ⟨u3_0.heap.size, 0, none⟩) (v := .slice t3a0 (((addL x1 x0)).1).length t3p0) O3 (by intro q; have p := q.1; have r := q.2; simp only at p r; omega)) (by intro q; have p := q.1; have r := q.2; simp only at p r; omega)) (by intro q; have p := q.1; have r := q.2; simp only at p r; omega)) (by intro q; have p := q.1; have r := q.2; simp only at p r; omega)) (by intro q; have p := q.1; have r := q.2; simp only at p r; omega)) (by intro q; have p := q.1; have r := q.2; simp only at p r; omega)) (by intro q; have p := q.1; have r := q.2; simp only at p r; omega)) (by intro q; have p := q.1; have r := q.2; simp only at p r; omega))
        have hzE : ((((((((u3.setCell ⟨u3_0.heap.size, 0, none⟩ (.slice t3a0 (((addL x1 x0)).1).length t3p0)).setCell ⟨u3_0.heap.size, 1, none⟩ (.int .i64 ((addL x1 x0)).2.1.1)).setCell ⟨u3_0.heap.size, 2, none⟩ (.slice t3a2 (((addL x1 x0)).2.1.2).length t3p2)).setCell ⟨u3_0.heap.size, 3, none⟩ (.slice t3a3 (((addL x1 x0)).2.2.1).length t3p3)).setCell ⟨u3_0.heap.size, 4, none⟩ (.slice t3a4 (((addL x1 x0)).2.2.2.1).length t3p4)).setCell ⟨u3_0.heap.size, 5, none⟩ (.slice t3a5 (((addL x1 x0)).2.2.2.2.1).length t3p5)).setCell ⟨u3_0.heap.size, 6, none⟩ (.slice t3a6 (((addL x1 x0)).2.2.2.2.2.1).length t3p6)).setCell ⟨u3_0.heap.size, 7, none⟩ (.int .i64 ((addL x1 x0)).2.2.2.2.2.2)).heap.size = u3.heap.size := by simp [World.setCell]
        generalize hws : ((((((((u3.setCell ⟨u3_0.heap.size, 0, none⟩ (.slice t3a0 (((addL x1 x0)).1).length t3p0)).setCell ⟨u3_0.heap.size, 1, none⟩ (.int .i64 ((addL x1 x0)).2.1.1)).setCell ⟨u3_0.heap.size, 2, none⟩ (.slice t3a2 (((addL x1 x0)).2.1.2).length t3p2)).setCell ⟨u3_0.heap.size, 3, none⟩ (.slice t3a3 (((addL x1 x0)).2.2.1).length t3p3)).setCell ⟨u3_0.heap.size, 4, none⟩ (.slice t3a4 (((addL x1 x0)).2.2.2.1).length t3p4)).setCell ⟨u3_0.heap.size, 5, none⟩ (.slice t3a5 (((addL x1 x0)).2.2.2.2.1).length t3p5)).setCell ⟨u3_0.heap.size, 6, none⟩ (.slice t3a6 (((addL x1 x0)).2.2.2.2.2.1).length t3p6)).setCell ⟨u3_0.heap.size, 7, none⟩ (.int .i64 ((addL x1 x0)).2.2.2.2.2.2)) = wE at HSE OW hzE ⊢
        have XW : wE.heap[u3_0.heap.size]? = some (.cells #[.slice t3a0 (((addL x1 x0)).1).length t3p0, .int .i64 ((addL x1 x0)).2.1.1, .slice t3a2 (((addL x1 x0)).2.1.2).length t3p2, .slice t3a3 (((addL x1 x0)).2.2.1).length t3p3, .slice t3a4 (((addL x1 x0)).2.2.2.1).length t3p4, .slice t3a5 (((addL x1 x0)).2.2.2.2.1).length t3p5, .slice t3a6 (((addL x1 x0)).2.2.2.2.2.1).length t3p6, .int .i64 ((addL x1 x0)).2.2.2.2.2.2] 49 (0, 0)) := by
          rw [← hws]
          have y0 := heap_setCell_same _ (u3_0.heap.size) 0 _ 49 (.slice t3a0 (((addL x1 x0)).1).length t3p0) XZ
          have y1 := heap_setCell_same _ (u3_0.heap.size) 1 _ 49 (.int .i64 ((addL x1 x0)).2.1.1) y0
          have y2 := heap_setCell_same _ (u3_0.heap.size) 2 _ 49 (.slice t3a2 (((addL x1 x0)).2.1.2).length t3p2) y1
          have y3 := heap_setCell_same _ (u3_0.heap.size) 3 _ 49 (.slice t3a3 (((addL x1 x0)).2.2.1).length t3p3) y2
          have y4 := heap_setCell_same _ (u3_0.heap.size) 4 _ 49 (.slice t3a4 (((addL x1 x0)).2.2.2.1).length t3p4) y3
          have y5 := heap_setCell_same _ (u3_0.heap.size) 5 _ 49 (.slice t3a5 (((addL x1 x0)).2.2.2.2.1).length t3p5) y4
          have y6 := heap_setCell_same _ (u3_0.heap.size) 6 _ 49 (.slice t3a6 (((addL x1 x0)).2.2.2.2.2.1).length t3p6) y5
          have y7 := heap_setCell_same _ (u3_0.heap.size) 7 _ 49 (.int .i64 ((addL x1 x0)).2.2.2.2.2.2) y6
          exact y7
        clear hws Y0 N0 Y1 N1 Y2 N2 Y3 N3 Y4 N4 Y5 N5 Y6 N6 Y7 N7 XZ
        replace HS := HSE
        clear HSE
        refine hK _ _ HS ?_
        clear hK K
        try simp only [Act.put, List.setIfInBounds_toArray, List.set_cons_zero, List.set_cons_succ]
        refine tree_read (k := 10) (v := ?_) rfl (by kernel_rfl) (fun c a d v w h => by cases d <;> exact h) rfl HS (fun W hW => ?_) ?_
        rotate_left
        · go_simp; try with_reducible rfl
        try simp only [Act.put, List.setIfInBounds_toArray, List.set_cons_zero, List.set_cons_succ]
        refine tree_end (by kernel_rfl) ?_
        generalize (.tuple #[.agg #[.slice t3a0 (((addL x1 x0)).1).length t3p0, .int .i64 ((addL x1 x0)).2.1.1, .slice t3a2 (((addL x1 x0)).2.1.2).length t3p2, .slice t3a3 (((addL x1 x0)).2.2.1).length t3p3, .slice t3a4 (((addL x1 x0)).2.2.2.1).length t3p4, .slice t3a5 (((addL x1 x0)).2.2.2.2.1).length t3p5, .slice t3a6 (((addL x1 x0)).2.2.2.2.2.1).length t3p6, .int .i64 ((addL x1 x0)).2.2.2.2.2.2], .bool ((addLOk x1 x0))] : Value) = g3
        generalize (.agg #[.slice t3a0 (((addL x1 x0)).1).length t3p0, .int .i64 ((addL x1 x0)).2.1.1, .slice t3a2 (((addL x1 x0)).2.1.2).length t3p2, .slice t3a3 (((addL x1 x0)).2.2.1).length t3p3, .slice t3a4 (((addL x1 x0)).2.2.2.1).length t3p4, .slice t3a5 (((addL x1 x0)).2.2.2.2.1).length t3p5, .slice t3a6 (((addL x1 x0)).2.2.2.2.2.1).length t3p6, .int .i64 ((addL x1 x0)).2.2.2.2.2.2] : Value) = g4
        generalize (.agg #[.slice t3_0a0 (x0.1).length t3_0p0, .int .i64 x0.2.1.1, .slice t3_0a2 (x0.2.1.2).length t3_0p2, .slice t3_0a3 (x0.2.2.1).length t3_0p3, .slice t3_0a4 (x0.2.2.2.1).length t3_0p4, .slice t3_0a5 (x0.2.2.2.2.1).length t3_0p5, .slice t3_0a6 (x0.2.2.2.2.2.1).length t3_0p6, .int .i64 x0.2.2.2.2.2.2] : Value) = g1
        generalize (.agg #[.slice t3_1a0 (x1.1).length t3_1p0, .slice t3_1a1 (x1.2.1).length t3_1p1, .slice t3_1a2 (x1.2.2.1).length t3_1p2, .int .i64 x1.2.2.2.1, .int .i64 x1.2.2.2.2] : Value) = g2
        have hbl := (Array.getElem?_eq_some_iff.1 XW).1
        have OE := Rep.own.wide (T := Btw w2.heap.size wE.heap.size) OW (fun j hj => ⟨by have := hj.1; omega, by have := hj.2; omega⟩)
        clear OW
        generalize u3_0.heap.size = b at hbl XW hlt_ ⊢
        exact CONT b g1 g2 g3 g4 wE ⟨HS, hlt_, hbl, _, XW, OE⟩
    · go_simp
      generalize hwZ : World.alloc wS _ = wZ
      have hlt_ := HS.size
      have XZ : wZ.heap[wS.heap.size]? = some (.cells #[.slice none 0 0, .int .i64 0, .slice none 0 0, .slice none 0 0, .slice none 0 0, .slice none 0 0, .slice none 0 0, .int .i64 0] 49 (0, 0)) := (by rw [← hwZ]; exact heap_new_at rfl)
      have hbZ : Below wS.heap.size wS wZ := (by rw [← hwZ]; exact (Below.refl _ _).alloc (Nat.le_refl _) _)
      have hzZ := hbZ.size
      replace HS := HS.trans (hbZ.mono HS.size)
      clear hwZ hbZ
      refine hK _ _ HS ?_
      clear hK K
      try simp only [Act.put, List.setIfInBounds_toArray, List.set_cons_zero, List.set_cons_succ]
      refine tree_one (k := 1) rfl (by kernel_rfl) rfl (fun K hK => ?_)
      go_simp
      refine (toNode_c (r0.below (H2.out.trans (HS.mono H2.out.size)))).mono ?_
      rintro e u3_0 ⟨cs3_0, rfl, O3_0, hc⟩
      obtain ⟨t3_0v0, t3_0v2, t3_0v3, t3_0v4, t3_0v5, t3_0v6, rfl, t3_0_0, t3_0_1, t3_0_2, t3_0_3, t3_0_4, t3_0_5, t3_0_6, t3_0_7, t3_0_8⟩ := RNode_raw O3_0.raw
      obtain ⟨t3_0a0, t3_0p0, t3_0h0, _⟩ := Rep.len_raw t3_0_0; obtain rfl : t3_0v0 = _ := (by simpa using t3_0h0)
      clear t3_0h0
      obtain ⟨t3_0a2, t3_0p2, t3_0h2, _⟩ := Rep.len_raw t3_0_3; obtain rfl : t3_0v2 = _ := (by simpa using t3_0h2)
      clear t3_0h2
      obtain ⟨t3_0a3, t3_0p3, t3_0h3, _⟩ := Rep.len_raw t3_0_4; obtain rfl : t3_0v3 = _ := (by simpa using t3_0h3)
      clear t3_0h3
      obtain ⟨t3_0a4, t3_0p4, t3_0h4, _⟩ := Rep.len_raw t3_0_5; obtain rfl : t3_0v4 = _ := (by simpa using t3_0h4)
      clear t3_0h4
      obtain ⟨t3_0a5, t3_0p5, t3_0h5, _⟩ := Rep.len_raw t3_0_6; obtain rfl : t3_0v5 = _ := (by simpa using t3_0h5)
      clear t3_0h5
      obtain ⟨t3_0a6, t3_0p6, t3_0h6, _⟩ := Rep.len_raw t3_0_7; obtain rfl : t3_0v6 = _ := (by simpa using t3_0h6)
      clear t3_0h6
      clear t3_0_0 t3_0_1 t3_0_2 t3_0_3 t3_0_4 t3_0_5 t3_0_6 t3_0_7 t3_0_8
      replace XZ := keepBox XZ hc
      replace HS := HS.trans (hc.mono HS.size)
      refine hK _ _ HS ?_
      clear hK K hc
      try simp only [Act.put, List.setIfInBounds_toArray, List.set_cons_zero, List.set_cons_succ]
      refine tree_one (k := 3) rfl (by kernel_rfl) rfl (fun K hK => ?_)
      go_simp
      refine (toData_c (r1.below (H2.out.trans (HS.mono H2.out.size)))).mono ?_
      rintro e u3_1 ⟨cs3_1, rfl, O3_1, hc⟩
      obtain ⟨t3_1v0, t3_1v1, t3_1v2, rfl, t3_1_0, t3_1_1, t3_1_2, t3_1_3, t3_1_4, t3_1_5, t3_1_6⟩ := RData_raw O3_1.raw
      obtain ⟨t3_1a0, t3_1p0, t3_1h0, _⟩ := Rep.len_raw t3_1_1; obtain rfl : t3_1v0 = _ := (by simpa using t3_1h0)
      clear t3_1h0
      obtain ⟨t3_1a1, t3_1p1, t3_1h1, _⟩ := Rep.len_raw t3_1_2; obtain rfl : t3_1v1 = _ := (by simpa using t3_1h1)
      clear t3_1h1
      obtain ⟨t3_1a2, t3_1p2, t3_1h2, _⟩ := Rep.len_raw t3_1_4; obtain rfl : t3_1v2 = _ := (by simpa using t3_1h2)
      clear t3_1h2
      clear t3_1_0 t3_1_1 t3_1_2 t3_1_3 t3_1_4 t3_1_5 t3_1_6
      replace O3_0 := O3_0.below hc
      replace XZ := keepBox XZ hc
      replace HS := HS.trans (hc.mono HS.size)
      refine hK _ _ HS ?_
      clear hK K hc
      try simp only [Act.put, List.setIfInBounds_toArray, List.set_cons_zero, List.set_cons_succ]
      refine tree_one (k := 4) rfl (by kernel_rfl) rfl (fun K hK => ?_)
      go_simp
      refine (specAddLocal_c O3_0.rd O3_1.rd).mono ?_
      rintro e u3 ⟨cs3, rfl, O3, hc⟩
      obtain ⟨t3v0, t3v2, t3v3, t3v4, t3v5, t3v6, rfl, t3_0, t3_1, t3_2, t3_3, t3_4, t3_5, t3_6, t3_7, t3_8⟩ := RNode_raw O3.raw
      obtain ⟨t3a0, t3p0, t3h0, _⟩ := Rep.len_raw t3_0; obtain rfl : t3v0 = _ := (by simpa using t3h0)
      clear t3h0
      obtain ⟨t3a2, t3p2, t3h2, _⟩ := Rep.len_raw t3_3; obtain rfl : t3v2 = _ := (by simpa using t3h2)
      clear t3h2
      obtain ⟨t3a3, t3p3, t3h3, _⟩ := Rep.len_raw t3_4; obtain rfl : t3v3 = _ := (by simpa using t3h3)
      clear t3h3
      obtain ⟨t3a4, t3p4, t3h4, _⟩ := Rep.len_raw t3_5; obtain rfl : t3v4 = _ := (by simpa using t3h4)
      clear t3h4
      obtain ⟨t3a5, t3p5, t3h5, _⟩ := Rep.len_raw t3_6; obtain rfl : t3v5 = _ := (by simpa using t3h5)
      clear t3h5
      obtain ⟨t3a6, t3p6, t3h6, _⟩ := Rep.len_raw t3_7; obtain rfl : t3v6 = _ := (by simpa using t3h6)
      clear t3h6
      clear t3_0 t3_1 t3_2 t3_3 t3_4 t3_5 t3_6 t3_7 t3_8
      have hfl := (Array.getElem?_eq_some_iff.1 XZ).1
      replace XZ := keepBox XZ hc
      have hzr := HS.size
      have hzc := hc.size
      replace HS := HS.trans (hc.mono HS.size)
      refine hK _ _ HS ?_
      clear hK K hc O3_0 O3_1
      try simp only [Act.put, List.setIfInBounds_toArray, List.set_cons_zero, List.set_cons_succ]
      refine tree_read (k := 5) (v := ?_) rfl (by kernel_rfl) (fun c a d v w h => by cases d <;> exact h) rfl HS (fun W hW => ?_) ?_
      rotate_left
      · go_simp; try with_reducible rfl
      try simp only [Act.put, List.setIfInBounds_toArray, List.set_cons_zero, List.set_cons_succ]
      refine tree_read (k := 6) (v := ?_) rfl (by kernel_rfl) (fun c a d v w h => by cases d <;> exact h) rfl HS (fun W hW => ?_) ?_
      rotate_left
      · go_simp; try with_reducible rfl
      try simp only [Act.put, List.setIfInBounds_toArray, List.set_cons_zero, List.set_cons_succ]
      refine tree_read (k := 7) (v := ?_) rfl (by kernel_rfl) (fun c a d v w h => by cases d <;> exact h) rfl HS (fun W hW => ?_) ?_
      rotate_left
      · go_simp; try with_reducible rfl
      try simp only [Act.put, List.setIfInBounds_toArray, List.set_cons_zero, List.set_cons_succ]
      refine tree_one (k := 9) rfl (by kernel_rfl) rfl (fun K hK => ?_)
      have Y0 := boxCell XZ (j := 0) rfl
      have N0 := frozen_of_row u3 wS.heap.size 0 _ _ XZ
      have Y1 := boxCell XZ (j := 1) rfl
      have N1 := frozen_of_row u3 wS.heap.size 1 _ _ XZ
      have Y2 := boxCell XZ (j := 2) rfl
      have N2 := frozen_of_row u3 wS.heap.size 2 _ _ XZ
      have Y3 := boxCell XZ (j := 3) rfl
      have N3 := frozen_of_row u3 wS.heap.size 3 _ _ XZ
      have Y4 := boxCell XZ (j := 4) rfl
      have N4 := frozen_of_row u3 wS.heap.size 4 _ _ XZ
      have Y5 := boxCell XZ (j := 5) rfl
      have N5 := frozen_of_row u3 wS.heap.size 5 _ _ XZ
      have Y6 := boxCell XZ (j := 6) rfl
      have N6 := frozen_of_row u3 wS.heap.size 6 _ _ XZ
      have Y7 := boxCell XZ (j := 7) rfl
      have N7 := frozen_of_row u3 wS.heap.size 7 _ _ XZ
      go_simp
      have HSE := ((((((((HS.setCell (show w2.heap.size ≤ (⟨wS.heap.size, 0, none⟩ : Addr).block from hlt_) (.slice t3a0 (((addL x1 x0)).1).length t3p0)).setCell (show w2.heap.size ≤ (⟨wS.heap.size, 1, none⟩ : Addr).block from hlt_) (.int .i64 ((addL x1 x0)).2.1.1)).setCell (show w2.heap.size ≤ (⟨wS.heap.size, 2, none⟩ : Addr).block from hlt_) (.slice t3a2 (((addL x1 x0)).2.1.2).length t3p2)).setCell (show w2.heap.size ≤ (⟨wS.heap.size, 3, none⟩ : Addr).block from hlt_) (.slice t3a3 (((addL x1 x0)).2.2.1).length t3p3)).setCell (show w2.heap.size ≤ (⟨wS.heap.size, 4, none⟩ : Addr).block from hlt_) (.slice t3a4 (((addL x1 x0)).2.2.2.1).length t3p4)).setCell (show w2.heap.size ≤ (⟨wS.heap.size, 5, none⟩ : Addr).block from hlt_) (.slice t3a5 (((addL x1 x0)).2.2.2.2.1).length t3p5)).setCell (show w2.heap.size ≤ (⟨wS.heap.size, 6, none⟩ : Addr).block from hlt_) (.slice t3a6 (((addL x1 x0)).2.2.2.2.2.1).length t3p6)).setCell (show w2.heap.size ≤ (⟨wS.heap.size, 7, none⟩ : Addr).block from hlt_) (.int .i64 ((addL x1 x0)).2.2.2.2.2.2))
      have OW := (Rep.own.setCell (p := ⟨wS.heap.size, 7, none⟩) (v := .int .i64 ((addL x1 x0)).2.2.2.2.2.2) (Rep.own.setCell (p := ⟨wS.heap.size, 6, none⟩) (v := .slice t3a6 (((addL x1 x0)).2.2.2.2.2.1).length t3p6) (Rep.own.setCell (p := ⟨wS.heap.size, 5, none⟩) (v := .slice t3a5 (((addL x1 x0)).2.2.2.2.1).length t3p5) (Rep.own.setCell (p := ⟨wS.heap.size, 4, none⟩) (v := .slice t3a4 (((addL x1 x0)).2.2.2.1).length t3p4) (Rep.own.setCell (p := ⟨wS.heap.size, 3, none⟩) (v := .slice t3a3 (((addL x1 x0)).2.2.1).length t3p3) (Rep.own.setCell (p := ⟨wS.heap.size, 2, none⟩) (v := .slice t3a2 (((addL x1 x0)).2.1.2).length t3p2) (Rep.own.setCell (p := ⟨wS.heap.size, 1, none⟩) (v := .int .i64 ((addL x1 x0)).2.1.1) (Rep.own.setCell (p := ⟨wS.heap.size, 0, none⟩) (v := .slice t3a0 (((addL x1 x0)).1).length t3p0) O3 (by intro q; have p := q.1; have r := q.2; simp only at p r; omega)) (by intro q; have p := q.1; have r := q.2; simp only at p r; omega)) (by intro q; have p := q.1; have r := q.2; simp only at p r; omega)) (by intro q; have p := q.1; have r := q.2; simp only at p r; omega)) (by intro q; have p := q.1; have r := q.2; simp only at p r; omega)) (by intro q; have p := q.1; have r := q.2; simp only at p r; omega)) (by intro q; have p := q.1; have r := q.2; simp only at p r; omega)) (by intro q; have p := q.1; have r := q.2; simp only at p r; omega))
      have hzE : ((((((((u3.setCell ⟨wS.heap.size, 0, none⟩ (.slice t3a0 (((addL x1 x0)).1).length t3p0)).setCell ⟨wS.heap.size, 1, none⟩ (.int .i64 ((addL x1 x0)).2.1.1)).setCell ⟨wS.heap.size, 2, none⟩ (.slice t3a2 (((addL x1 x0)).2.1.2).length t3p2)).setCell ⟨wS.heap.size, 3, none⟩ (.slice t3a3 (((addL x1 x0)).2.2.1).length t3p3)).setCell ⟨wS.heap.size, 4, none⟩ (.slice t3a4 (((addL x1 x0)).2.2.2.1).length t3p4)).setCell ⟨wS.heap.size, 5, none⟩ (.slice t3a5 (((addL x1 x0)).2.2.2.2.1).length t3p5)).setCell ⟨wS.heap.size, 6, none⟩ (.slice t3a6 (((addL x1 x0)).2.2.2.2.2.1).length t3p6)).setCell ⟨wS.heap.size, 7, none⟩ (.int .i64 ((addL x1 x0)).2.2.2.2.2.2)).heap.size = u3.heap.size := by simp [World.setCell]
      generalize hws : ((((((((u3.setCell ⟨wS.heap.size, 0, none⟩ (.slice t3a0 (((addL x1 x0)).1).length t3p0)).setCell ⟨wS.heap.size, 1, none⟩ (.int .i64 ((addL x1 x0)).2.1.1)).setCell ⟨wS.heap.size, 2, none⟩ (.slice t3a2 (((addL x1 x0)).2.1.2).length t3p2)).setCell ⟨wS.heap.size, 3, none⟩ (.slice t3a3 (((addL x1 x0)).2.2.1).length t3p3)).setCell ⟨wS.heap.size, 4, none⟩ (.slice t3a4 (((addL x1 x0)).2.2.2.1).length t3p4)).setCell ⟨wS.heap.size, 5, none⟩ (.slice t3a5 (((addL x1 x0)).2.2.2.2.1).length t3p5)).setCell ⟨wS.heap.size, 6, none⟩ (.slice t3a6 (((addL x1 x0)).2.2.2.2.2.1).length t3p6)).setCell ⟨wS.heap.size, 7, none⟩ (.int .i64 ((addL x1 x0)).2.2.2.2.2.2)) = wE at HSE OW hzE ⊢
      have XW : wE.heap[wS.heap.size]? = some (.cells #[.slice t3a0 (((addL x1 x0)).1).length t3p0, .int .i64 ((addL x1 x0)).2.1.1, .slice t3a2 (((addL x1 x0)).2.1.2).length t3p2, .slice t3a3 (((addL x1 x0)).2.2.1).length t3p3, .slice t3a4 (((addL x1 x0)).2.2.2.1).length t3p4, .slice t3a5 (((addL x1 x0)).2.2.2.2.1).length t3p5, .slice t3a6 (((addL x1 x0)).2.2.2.2.2.1).length t3p6, .int .i64 ((addL x1 x0)).2.2.2.2.2.2] 49 (0, 0)) := by
        rw [← hws]
        have y0 := heap_setCell_same _ (wS.heap.size) 0 _ 49 (.slice t3a0 (((addL x1 x0)).1).length t3p0) XZ
        have y1 := heap_setCell_same _ (wS.heap.size) 1 _ 49 (.int .i64 ((addL x1 x0)).2.1.1) y0
        have y2 := heap_setCell_same _ (wS.heap.size) 2 _ 49 (.slice t3a2 (((addL x1 x0)).2.1.2).length t3p2) y1
        have y3 := heap_setCell_same _ (wS.heap.size) 3 _ 49 (.slice t3a3 (((addL x1 x0)).2.2.1).length t3p3) y2
        have y4 := heap_setCell_same _ (wS.heap.size) 4 _ 49 (.slice t3a4 (((addL x1 x0)).2.2.2.1).length t3p4) y3
        have y5 := heap_setCell_same _ (wS.heap.size) 5 _ 49 (.slice t3a5 (((addL x1 x0)).2.2.2.2.1).length t3p5) y4
        have y6 := heap_setCell_same _ (wS.heap.size) 6 _ 49 (.slice t3a6 (((addL x1 x0)).2.2.2.2.2.1).length t3p6) y5
        have y7 := heap_setCell_same _ (wS.heap.size) 7 _ 49 (.int .i64 ((addL x1 x0)).2.2.2.2.2.2) y6
        exact y7
      clear hws Y0 N0 Y1 N1 Y2 N2 Y3 N3 Y4 N4 Y5 N5 Y6 N6 Y7 N7 XZ
      replace HS := HSE
      clear HSE
      refine hK _ _ HS ?_
      clear hK K
      try simp only [Act.put, List.setIfInBounds_toArray, List.set_cons_zero, List.set_cons_succ]
      refine tree_read (k := 10) (v := ?_) rfl (by kernel_rfl) (fun c a d v w h => by cases d <;> exact h) rfl HS (fun W hW => ?_) ?_
      rotate_left
      · go_simp; try with_reducible rfl
      try simp only [Act.put, List.setIfInBounds_toArray, List.set_cons_zero, List.set_cons_succ]
      refine tree_end (by kernel_rfl) ?_
      generalize (.tuple #[.agg #[.slice t3a0 (((addL x1 x0)).1).length t3p0, .int .i64 ((addL x1 x0)).2.1.1, .slice t3a2 (((addL x1 x0)).2.1.2).length t3p2, .slice t3a3 (((addL x1 x0)).2.2.1).length t3p3, .slice t3a4 (((addL x1 x0)).2.2.2.1).length t3p4, .slice t3a5 (((addL x1 x0)).2.2.2.2.1).length t3p5, .slice t3a6 (((addL x1 x0)).2.2.2.2.2.1).length t3p6, .int .i64 ((addL x1 x0)).2.2.2.2.2.2], .bool ((addLOk x1 x0))] : Value) = g3
      generalize (.agg #[.slice t3a0 (((addL x1 x0)).1).length t3p0, .int .i64 ((addL x1 x0)).2.1.1, .slice t3a2 (((addL x1 x0)).2.1.2).length t3p2, .slice t3a3 (((addL x1 x0)).2.2.1).length t3p3, .slice t3a4 (((addL x1 x0)).2.2.2.1).length t3p4, .slice t3a5 (((addL x1 x0)).2.2.2.2.1).length t3p5, .slice t3a6 (((addL x1 x0)).2.2.2.2.2.1).length t3p6, .int .i64 ((addL x1 x0)).2.2.2.2.2.2] : Value) = g4
      generalize (.agg #[.slice t3_0a0 (x0.1).length t3_0p0, .int .i64 x0.2.1.1, .slice t3_0a2 (x0.2.1.2).length t3_0p2, .slice t3_0a3 (x0.2.2.1).length t3_0p3, .slice t3_0a4 (x0.2.2.2.1).length t3_0p4, .slice t3_0a5 (x0.2.2.2.2.1).length t3_0p5, .slice t3_0a6 (x0.2.2.2.2.2.1).length t3_0p6, .int .i64 x0.2.2.2.2.2.2] : Value) = g1
      generalize (.agg #[.slice t3_1a0 (x1.1).length t3_1p0, .slice t3_1a1 (x1.2.1).length t3_1p1, .slice t3_1a2 (x1.2.2.1).length t3_1p2, .int .i64 x1.2.2.2.1, .int .i64 x1.2.2.2.2] : Value) = g2
      have hbl := (Array.getElem?_eq_some_iff.1 XW).1
      have OE := Rep.own.wide (T := Btw w2.heap.size wE.heap.size) OW (fun j hj => ⟨by have := hj.1; omega, by have := hj.2; omega⟩)
      clear OW
      generalize wS.heap.size = b at hbl XW hlt_ ⊢
      exact CONT b g1 g2 g3 g4 wE ⟨HS, hlt_, hbl, _, XW, OE⟩
  intro bx3 g3_1 g3_2 g3_3 g3_4 w3 ⟨HS, hb3_1, hb3_2, cs3, XB3, O3⟩
  obtain ⟨t3v0, t3v2, t3v3, t3v4, t3v5, t3v6, rfl, t3_0, t3_1, t3_2, t3_3, t3_4, t3_5, t3_6, t3_7, t3_8⟩ := RNode_raw O3.raw
  obtain ⟨t3a0, t3p0, t3h0, _⟩ := Rep.len_raw t3_0; obtain rfl : t3v0 = _ := (by simpa using t3h0)
  clear t3h0
  obtain ⟨t3a2, t3p2, t3h2, _⟩ := Rep.len_raw t3_3; obtain rfl : t3v2 = _ := (by simpa using t3h2)
  clear t3h2
  obtain ⟨t3a3, t3p3, t3h3, _⟩ := Rep.len_raw t3_4; obtain rfl : t3v3 = _ := (by simpa using t3h3)
  clear t3h3
  obtain ⟨t3a4, t3p4, t3h4, _⟩ := Rep.len_raw t3_5; obtain rfl : t3v4 = _ := (by simpa using t3h4)
  clear t3h4
  obtain ⟨t3a5, t3p5, t3h5, _⟩ := Rep.len_raw t3_6; obtain rfl : t3v5 = _ := (by simpa using t3h5)
  clear t3h5
  obtain ⟨t3a6, t3p6, t3h6, _⟩ := Rep.len_raw t3_7; obtain rfl : t3v6 = _ := (by simpa using t3h6)
  clear t3h6
  clear t3_0 t3_1 t3_2 t3_3 t3_4 t3_5 t3_6 t3_7 t3_8
  have Z3 := Lib.hid O3; clear O3
  have XX3 := Lib.hid XB3; clear XB3
  have D3 : Below w2.heap.size w2 w3 := Below.trans (by repeat (first | (with_reducible exact Below.refl _ _) | refine Below.alloc ?_ (by simp; try omega) _ | refine Below.drew ?_)) (HS.mono (by first | (simp; done) | (simp; omega)))
  have H3 := Lib.hid (H2.out.trans (D3.mono H2.out.size))
  have L3 := Lib.hid (show w2.heap.size + 0 ≤ w3.heap.size from by have h := HS.size; (try simp at h); omega)
  have X_aX_3 := Lib.hid (keepBox X_aX_2.out D3); clear X_aX_2
  have X_aT_3 := Lib.hid (keepBox X_aT_2.out D3); clear X_aT_2
  clear D3 K_aX_0 K_aX_1 K_aX_2 K_aX_3 K_aX_4 K_aX_5 K_aX_6 K_aX_7 K_aT_0 K_aT_1 K_aT_2 K_aT_3 K_aT_4 HS
  have K_aX_0 := boxCell X_aX_3.out (j := 0) (v := a0v0) rfl
  have K_aX_1 := boxCell X_aX_3.out (j := 1) (v := .int .i64 x0.2.1.1) rfl
  have K_aX_2 := boxCell X_aX_3.out (j := 2) (v := a0v2) rfl
  have K_aX_3 := boxCell X_aX_3.out (j := 3) (v := a0v3) rfl
  have K_aX_4 := boxCell X_aX_3.out (j := 4) (v := a0v4) rfl
  have K_aX_5 := boxCell X_aX_3.out (j := 5) (v := a0v5) rfl
  have K_aX_6 := boxCell X_aX_3.out (j := 6) (v := a0v6) rfl
  have K_aX_7 := boxCell X_aX_3.out (j := 7) (v := .int .i64 x0.2.2.2.2.2.2) rfl
  go_wp2_with fail
  refine (toNode_c (r0.below (by repeat (first | (with_reducible exact H3.out) | refine Below.alloc ?_ (by have := H3.out.size; simp; try omega) _ | refine Below.drew ?_)))).mono ?_
  rintro e w4 ⟨cs4, rfl, O4, hb4⟩
  obtain ⟨t4v0, t4v2, t4v3, t4v4, t4v5, t4v6, rfl, t4_0, t4_1, t4_2, t4_3, t4_4, t4_5, t4_6, t4_7, t4_8⟩ := RNode_raw O4.raw
  obtain ⟨t4a0, t4p0, t4h0, _⟩ := Rep.len_raw t4_0; obtain rfl : t4v0 = _ := (by simpa using t4h0)
  clear t4h0
  obtain ⟨t4a2, t4p2, t4h2, _⟩ := Rep.len_raw t4_3; obtain rfl : t4v2 = _ := (by simpa using t4h2)
  clear t4h2
  obtain ⟨t4a3, t4p3, t4h3, _⟩ := Rep.len_raw t4_4; obtain rfl : t4v3 = _ := (by simpa using t4h3)
  clear t4h3
  obtain ⟨t4a4, t4p4, t4h4, _⟩ := Rep.len_raw t4_5; obtain rfl : t4v4 = _ := (by simpa using t4h4)
  clear t4h4
  obtain ⟨t4a5, t4p5, t4h5, _⟩ := Rep.len_raw t4_6; obtain rfl : t4v5 = _ := (by simpa using t4h5)
  clear t4h5
  obtain ⟨t4a6, t4p6, t4h6, _⟩ := Rep.len_raw t4_7; obtain rfl : t4v6 = _ := (by simpa using t4h6)
  clear t4h6
  clear t4_0 t4_1 t4_2 t4_3 t4_4 t4_5 t4_6 t4_7 t4_8
  have Z4 := Lib.hid (O4.wide (T := Btw (w3.heap.size) (w4.heap.size)) (fun i hi => ⟨by have h := hi.1; (try simp at h); omega, hi.2⟩)); clear O4
  have D4 : Below w3.heap.size w3 w4 := Below.trans (by repeat (first | (with_reducible exact Below.refl _ _) | refine Below.alloc ?_ (by simp; try omega) _ | refine Below.drew ?_)) (hb4.mono (by first | (simp; done) | (simp; omega)))
  have H4 := Lib.hid (H3.out.trans (D4.mono H3.out.size))
  have L4 := Lib.hid (show w3.heap.size + 0 ≤ w4.heap.size from by have h := hb4.size; (try simp at h); omega)
  have X_aX_4 := Lib.hid (keepBox X_aX_3.out D4); clear X_aX_3
  have X_aT_4 := Lib.hid (keepBox X_aT_3.out D4); clear X_aT_3
  have X_w0_4 := Lib.hid (keepBox XX3.out D4); clear XX3
  have O_w0_4 := Lib.hid (Z3.out.below D4); clear Z3
  clear D4 K_aX_0 K_aX_1 K_aX_2 K_aX_3 K_aX_4 K_aX_5 K_aX_6 K_aX_7 hb4
  have K_aT_0 := boxCell X_aT_4.out (j := 0) (v := a1v0) rfl
  have K_aT_1 := boxCell X_aT_4.out (j := 1) (v := a1v1) rfl
  have K_aT_2 := boxCell X_aT_4.out (j := 2) (v := a1v2) rfl
  have K_aT_3 := boxCell X_aT_4.out (j := 3) (v := .int .i64 x1.2.2.2.1) rfl
  have K_aT_4 := boxCell X_aT_4.out (j := 4) (v := .int .i64 x1.2.2.2.2) rfl
  have J_aT : w.heap.size + 1 < w4.heap.size := by have l1 := L1.out; have l2 := L2.out; have l3 := L3.out; have l4 := L4.out; omega
  go_wp2_with fail
  refine (toData_c (r1.below (by repeat (first | (with_reducible exact H4.out) | refine Below.alloc ?_ (by have := H4.out.size; simp; try omega) _ | refine Below.drew ?_)))).mono ?_
  rintro e w5 ⟨cs5, rfl, O5, hb5⟩
  obtain ⟨t5v0, t5v1, t5v2, rfl, t5_0, t5_1, t5_2, t5_3, t5_4, t5_5, t5_6⟩ := RData_raw O5.raw
  obtain ⟨t5a0, t5p0, t5h0, _⟩ := Rep.len_raw t5_1; obtain rfl : t5v0 = _ := (by simpa using t5h0)
  clear t5h0
  obtain ⟨t5a1, t5p1, t5h1, _⟩ := Rep.len_raw t5_2; obtain rfl : t5v1 = _ := (by simpa using t5h1)
  clear t5h1
  obtain ⟨t5a2, t5p2, t5h2, _⟩ := Rep.len_raw t5_4; obtain rfl : t5v2 = _ := (by simpa using t5h2)
  clear t5h2
  clear t5_0 t5_1 t5_2 t5_3 t5_4 t5_5 t5_6
  have Z5 := Lib.hid (O5.wide (T := Btw (w4.heap.size + 1) (w5.heap.size)) (fun i hi => ⟨by have h := hi.1; (try simp at h); omega, hi.2⟩)); clear O5
  have D5 : Below w4.heap.size w4 w5 := Below.trans (by repeat (first | (with_reducible exact Below.refl _ _) | refine Below.alloc ?_ (by simp; try omega) _ | refine Below.drew ?_)) (hb5.mono (by first | (simp; done) | (simp; omega)))
  have H5 := Lib.hid (H4.out.trans (D5.mono H4.out.size))
  have L5 := Lib.hid (show w4.heap.size + 1 ≤ w5.heap.size from by have h := hb5.size; (try simp at h); omega)
  have X_aX_5 := Lib.hid (keepBox X_aX_4.out D5); clear X_aX_4
  have X_aT_5 := Lib.hid (keepBox X_aT_4.out D5); clear X_aT_4
  have X_w0_5 := Lib.hid (keepBox X_w0_4.out D5); clear X_w0_4
  have X_x0_5 : Hid (w5.heap[w4.heap.size]? = some (.cells #[.slice t4a0 (x0.1).length t4p0, .int .i64 x0.2.1.1, .slice t4a2 (x0.2.1.2).length t4p2, .slice t4a3 (x0.2.2.1).length t4p3, .slice t4a4 (x0.2.2.2.1).length t4p4, .slice t4a5 (x0.2.2.2.2.1).length t4p5, .slice t4a6 (x0.2.2.2.2.2.1).length t4p6, .int .i64 x0.2.2.2.2.2.2] 49 (0, 0))) := Lib.hid ((hb5.block (w4.heap.size) (by first | (simp; done) | (simp; omega))).trans (heap_new_at (by simp)))
  have O_w0_5 := Lib.hid (O_w0_4.out.below D5); clear O_w0_4
  have O_x0_5 := Lib.hid (Z4.out.below D5); clear Z4
  clear D5 K_aT_0 K_aT_1 K_aT_2 K_aT_3 K_aT_4 J_aT hb5
  have K_x0_0 := boxCell X_x0_5.out (j := 0) (v := .slice t4a0 (x0.1).length t4p0) rfl
  have K_x0_1 := boxCell X_x0_5.out (j := 1) (v := .int .i64 x0.2.1.1) rfl
  have K_x0_2 := boxCell X_x0_5.out (j := 2) (v := .slice t4a2 (x0.2.1.2).length t4p2) rfl
  have K_x0_3 := boxCell X_x0_5.out (j := 3) (v := .slice t4a3 (x0.2.2.1).length t4p3) rfl
  have K_x0_4 := boxCell X_x0_5.out (j := 4) (v := .slice t4a4 (x0.2.2.2.1).length t4p4) rfl
  have K_x0_5 := boxCell X_x0_5.out (j := 5) (v := .slice t4a5 (x0.2.2.2.2.1).length t4p5) rfl
  have K_x0_6 := boxCell X_x0_5.out (j := 6) (v := .slice t4a6 (x0.2.2.2.2.2.1).length t4p6) rfl
  have K_x0_7 := boxCell X_x0_5.out (j := 7) (v := .int .i64 x0.2.2.2.2.2.2) rfl
  have J_x0 : w4.heap.size < w5.heap.size := by have l5 := L5.out; omega
  go_wp2_with fail
  refine (implAddLocal_c (O_x0_5.out.rd.below (by repeat (first | (with_reducible exact Below.refl _ _) | refine Below.alloc ?_ (by simp; try omega) _ | refine Below.drew ?_))) (Z5.out.rd.below (by repeat (first | (with_reducible exact Below.refl _ _) | refine Below.alloc ?_ (by simp; try omega) _ | refine Below.drew ?_)))).mono ?_
  rintro e w6 ⟨cs6, rfl, O6, hb6⟩
  obtain ⟨t6v0, t6v2, t6v3, t6v4, t6v5, t6v6, rfl, t6_0, t6_1, t6_2, t6_3, t6_4, t6_5, t6_6, t6_7, t6_8⟩ := RNode_raw O6.raw
  obtain ⟨t6a0, t6p0, t6h0, _⟩ := Rep.len_raw t6_0; obtain rfl : t6v0 = _ := (by simpa using t6h0)
  clear t6h0
  obtain ⟨t6a2, t6p2, t6h2, _⟩ := Rep.len_raw t6_3; obtain rfl : t6v2 = _ := (by simpa using t6h2)
  clear t6h2
  obtain ⟨t6a3, t6p3, t6h3, _⟩ := Rep.len_raw t6_4; obtain rfl : t6v3 = _ := (by simpa using t6h3)
  clear t6h3
  obtain ⟨t6a4, t6p4, t6h4, _⟩ := Rep.len_raw t6_5; obtain rfl : t6v4 = _ := (by simpa using t6h4)
  clear t6h4
  obtain ⟨t6a5, t6p5, t6h5, _⟩ := Rep.len_raw t6_6; obtain rfl : t6v5 = _ := (by simpa using t6h5)
  clear t6h5
  obtain ⟨t6a6, t6p6, t6h6, _⟩ := Rep.len_raw t6_7; obtain rfl : t6v6 = _ := (by simpa using t6h6)
  clear t6h6
  clear t6_0 t6_1 t6_2 t6_3 t6_4 t6_5 t6_6 t6_7 t6_8
  have Z6 := Lib.hid (O6.wide (T := Btw (w5.heap.size + 1) (w6.heap.size)) (fun i hi => ⟨by have h := hi.1; (try simp at h); omega, hi.2⟩)); clear O6
  have D6 : Below w5.heap.size w5 w6 := Below.trans (by repeat (first | (with_reducible exact Below.refl _ _) | refine Below.alloc ?_ (by simp; try omega) _ | refine Below.drew ?_)) (hb6.mono (by first | (simp; done) | (simp; omega)))
  have H6 := Lib.hid (H5.out.trans (D6.mono H5.out.size))
  have L6 := Lib.hid (show w5.heap.size + 1 ≤ w6.heap.size from by have h := hb6.size; (try simp at h); omega)
  have X_aX_6 := Lib.hid (keepBox X_aX_5.out D6); clear X_aX_5
  have X_aT_6 := Lib.hid (keepBox X_aT_5.out D6); clear X_aT_5
  have X_w0_6 := Lib.hid (keepBox X_w0_5.out D6); clear X_w0_5
  have X_x0_6 := Lib.hid (keepBox X_x0_5.out D6); clear X_x0_5
  have X_x1_6 : Hid (w6.heap[w5.heap.size]? = some (.cells #[.slice t5a0 (x1.1).length t5p0, .slice t5a1 (x1.2.1).length t5p1, .slice t5a2 (x1.2.2.1).length t5p2, .int .i64 x1.2.2.2.1, .int .i64 x1.2.2.2.2] 55 (0, 0))) := Lib.hid ((hb6.block (w5.heap.size) (by first | (simp; done) | (simp; omega))).trans (heap_new_at (by simp)))
  have O_w0_6 := Lib.hid (O_w0_5.out.below D6); clear O_w0_5
  have O_x0_6 := Lib.hid (O_x0_5.out.below D6); clear O_x0_5
  have O_x1_6 := Lib.hid (Z5.out.below D6); clear Z5
  clear D6 K_x0_0 K_x0_1 K_x0_2 K_x0_3 K_x0_4 K_x0_5 K_x0_6 K_x0_7 J_x0 hb6
  have K_w0_0 := boxCell X_w0_6.out (j := 0) (v := .slice t3a0 (((addL x1 x0)).1).length t3p0) rfl
  have K_w0_1 := boxCell X_w0_6.out (j := 1) (v := .int .i64 ((addL x1 x0)).2.1.1) rfl
  have K_w0_2 := boxCell X_w0_6.out (j := 2) (v := .slice t3a2 (((addL x1 x0)).2.1.2).length t3p2) rfl
  have K_w0_3 := boxCell X_w0_6.out (j := 3) (v := .slice t3a3 (((addL x1 x0)).2.2.1).length t3p3) rfl
  have K_w0_4 := boxCell X_w0_6.out (j := 4) (v := .slice t3a4 (((addL x1 x0)).2.2.2.1).length t3p4) rfl
  have K_w0_5 := boxCell X_w0_6.out (j := 5) (v := .slice t3a5 (((addL x1 x0)).2.2.2.2.1).length t3p5) rfl
  have K_w0_6 := boxCell X_w0_6.out (j := 6) (v := .slice t3a6 (((addL x1 x0)).2.2.2.2.2.1).length t3p6) rfl
  have K_w0_7 := boxCell X_w0_6.out (j := 7) (v := .int .i64 ((addL x1 x0)).2.2.2.2.2.2) rfl
  have J_w0 : bx3 < w6.heap.size := by have l4 := L4.out; have l5 := L5.out; have l6 := L6.out; omega
  go_wp2_with fail
  refine (eqNode_c (Z6.out.raw.below (by repeat (first | (with_reducible exact Below.refl _ _) | refine Below.alloc ?_ (by simp; try omega) _ | refine Below.drew ?_))) (O_w0_6.out.raw.below (by repeat (first | (with_reducible exact Below.refl _ _) | refine Below.alloc ?_ (by simp; try omega) _ | refine Below.drew ?_)))).mono ?_
  rintro e w7 ⟨rfl, hb7⟩
  have D7 : Below w6.heap.size w6 w7 := Below.trans (by repeat (first | (with_reducible exact Below.refl _ _) | refine Below.alloc ?_ (by simp; try omega) _ | refine Below.drew ?_)) (hb7.mono (by first | (simp; done) | (simp; omega)))
  have H7 := Lib.hid (H6.out.trans (D7.mono H6.out.size))
  have L7 := Lib.hid (show w6.heap.size + 1 ≤ w7.heap.size from by have h := hb7.size; (try simp at h); omega)
  have X_aX_7 := Lib.hid (keepBox X_aX_6.out D7); clear X_aX_6
  have X_aT_7 := Lib.hid (keepBox X_aT_6.out D7); clear X_aT_6
  have X_w0_7 := Lib.hid (keepBox X_w0_6.out D7); clear X_w0_6
  have X_x0_7 := Lib.hid (keepBox X_x0_6.out D7); clear X_x0_6
  have X_x1_7 := Lib.hid (keepBox X_x1_6.out D7); clear X_x1_6
  have X_g0_7 : Hid (w7.heap[w6.heap.size]? = some (.cells #[.slice t6a0 (((addL x1 x0)).1).length t6p0, .int .i64 ((addL x1 x0)).2.1.1, .slice t6a2 (((addL x1 x0)).2.1.2).length t6p2, .slice t6a3 (((addL x1 x0)).2.2.1).length t6p3, .slice t6a4 (((addL x1 x0)).2.2.2.1).length t6p4, .slice t6a5 (((addL x1 x0)).2.2.2.2.1).length t6p5, .slice t6a6 (((addL x1 x0)).2.2.2.2.2.1).length t6p6, .int .i64 ((addL x1 x0)).2.2.2.2.2.2] 49 (0, 0))) := Lib.hid ((hb7.block (w6.heap.size) (by first | (simp; done) | (simp; omega))).trans (heap_new_at (by simp)))
  have O_w0_7 := Lib.hid (O_w0_6.out.below D7); clear O_w0_6
  have O_x0_7 := Lib.hid (O_x0_6.out.below D7); clear O_x0_6
  have O_x1_7 := Lib.hid (O_x1_6.out.below D7); clear O_x1_6
  have O_g0_7 := Lib.hid (Z6.out.below D7); clear Z6
  clear D7 K_w0_0 K_w0_1 K_w0_2 K_w0_3 K_w0_4 K_w0_5 K_w0_6 K_w0_7 J_w0 hb7
  have K_aX_0 := boxCell X_aX_7.out (j := 0) (v := a0v0) rfl
  have K_aX_1 := boxCell X_aX_7.out (j := 1) (v := .int .i64 x0.2.1.1) rfl
  have K_aX_2 := boxCell X_aX_7.out (j := 2) (v := a0v2) rfl
  have K_aX_3 := boxCell X_aX_7.out (j := 3) (v := a0v3) rfl
  have K_aX_4 := boxCell X_aX_7.out (j := 4) (v := a0v4) rfl
  have K_aX_5 := boxCell X_aX_7.out (j := 5) (v := a0v5) rfl
  have K_aX_6 := boxCell X_aX_7.out (j := 6) (v := a0v6) rfl
  have K_aX_7 := boxCell X_aX_7.out (j := 7) (v := .int .i64 x0.2.2.2.2.2.2) rfl
  have K_x0_0 := boxCell X_x0_7.out (j := 0) (v := .slice t4a0 (x0.1).length t4p0) rfl
  have K_x0_1 := boxCell X_x0_7.out (j := 1) (v := .int .i64 x0.2.1.1) rfl
  have K_x0_2 := boxCell X_x0_7.out (j := 2) (v := .slice t4a2 (x0.2.1.2).length t4p2) rfl
  have K_x0_3 := boxCell X_x0_7.out (j := 3) (v := .slice t4a3 (x0.2.2.1).length t4p3) rfl
  have K_x0_4 := boxCell X_x0_7.out (j := 4) (v := .slice t4a4 (x0.2.2.2.1).length t4p4) rfl
  have K_x0_5 := boxCell X_x0_7.out (j := 5) (v := .slice t4a5 (x0.2.2.2.2.1).length t4p5) rfl
  have K_x0_6 := boxCell X_x0_7.out (j := 6) (v := .slice t4a6 (x0.2.2.2.2.2.1).length t4p6) rfl
  have K_x0_7 := boxCell X_x0_7.out (j := 7) (v := .int .i64 x0.2.2.2.2.2.2) rfl
  go_wp2_with fail
  go_region_held3 (fun W => W.cell? ⟨w.heap.size, 0, none⟩ = some (a0v0) ∧ W.cell? ⟨w.heap.size, 1, none⟩ = some (.int .i64 x0.2.1.1) ∧ W.cell? ⟨w.heap.size, 2, none⟩ = some (a0v2) ∧ W.cell? ⟨w.heap.size, 3, none⟩ = some (a0v3) ∧ W.cell? ⟨w.heap.size, 4, none⟩ = some (a0v4) ∧ W.cell? ⟨w.heap.size, 5, none⟩ = some (a0v5) ∧ W.cell? ⟨w.heap.size, 6, none⟩ = some (a0v6) ∧ W.cell? ⟨w.heap.size, 7, none⟩ = some (.int .i64 x0.2.2.2.2.2.2) ∧ W.cell? ⟨w4.heap.size, 0, none⟩ = some (.slice t4a0 (x0.1).length t4p0) ∧ W.cell? ⟨w4.heap.size, 1, none⟩ = some (.int .i64 x0.2.1.1) ∧ W.cell? ⟨w4.heap.size, 2, none⟩ = some (.slice t4a2 (x0.2.1.2).length t4p2) ∧ W.cell? ⟨w4.heap.size, 3, none⟩ = some (.slice t4a3 (x0.2.2.1).length t4p3) ∧ W.cell? ⟨w4.heap.size, 4, none⟩ = some (.slice t4a4 (x0.2.2.2.1).length t4p4) ∧ W.cell? ⟨w4.heap.size, 5, none⟩ = some (.slice t4a5 (x0.2.2.2.2.1).length t4p5) ∧ W.cell? ⟨w4.heap.size, 6, none⟩ = some (.slice t4a6 (x0.2.2.2.2.2.1).length t4p6) ∧ W.cell? ⟨w4.heap.size, 7, none⟩ = some (.int .i64 x0.2.2.2.2.2.2)) (first | exact ⟨cell_later hd8 (cell_later hc8 K_aX_0), cell_later hd8 (cell_later hc8 K_aX_1), cell_later hd8 (cell_later hc8 K_aX_2), cell_later hd8 (cell_later hc8 K_aX_3), cell_later hd8 (cell_later hc8 K_aX_4), cell_later hd8 (cell_later hc8 K_aX_5), cell_later hd8 (cell_later hc8 K_aX_6), cell_later hd8 (cell_later hc8 K_aX_7), cell_later hd8 (cell_later hc8 K_x0_0), cell_later hd8 (cell_later hc8 K_x0_1), cell_later hd8 (cell_later hc8 K_x0_2), cell_later hd8 (cell_later hc8 K_x0_3), cell_later hd8 (cell_later hc8 K_x0_4), cell_later hd8 (cell_later hc8 K_x0_5), cell_later hd8 (cell_later hc8 K_x0_6), cell_later hd8 (cell_later hc8 K_x0_7)⟩ | exact ⟨cell_later hc8 K_aX_0, cell_later hc8 K_aX_1, cell_later hc8 K_aX_2, cell_later hc8 K_aX_3, cell_later hc8 K_aX_4, cell_later hc8 K_aX_5, cell_later hc8 K_aX_6, cell_later hc8 K_aX_7, cell_later hc8 K_x0_0, cell_later hc8 K_x0_1, cell_later hc8 K_x0_2, cell_later hc8 K_x0_3, cell_later hc8 K_x0_4, cell_later hc8 K_x0_5, cell_later hc8 K_x0_6, cell_later hc8 K_x0_7⟩ | go_keep)
    (first | (go_at_call 7; refine (toNode_c (r0.below (by repeat (first | (with_reducible exact H7.out) | refine Below.alloc ?_ (by have := H7.out.size; simp; try omega) _ | refine Below.drew ?_)))).mono ?_; rintro e u8 ⟨cs8, rfl, O8, hc8⟩; obtain ⟨t8v0, t8v2, t8v3, t8v4, t8v5, t8v6, rfl, t8_0, t8_1, t8_2, t8_3, t8_4, t8_5, t8_6, t8_7, t8_8⟩ := RNode_raw O8.raw; obtain ⟨t8a0, t8p0, t8h0, _⟩ := Rep.len_raw t8_0; obtain rfl : t8v0 = _ := (by simpa using t8h0); clear t8h0; obtain ⟨t8a2, t8p2, t8h2, _⟩ := Rep.len_raw t8_3; obtain rfl : t8v2 = _ := (by simpa using t8h2); clear t8h2; obtain ⟨t8a3, t8p3, t8h3, _⟩ := Rep.len_raw t8_4; obtain rfl : t8v3 = _ := (by simpa using t8h3); clear t8h3; obtain ⟨t8a4, t8p4, t8h4, _⟩ := Rep.len_raw t8_5; obtain rfl : t8v4 = _ := (by simpa using t8h4); clear t8h4; obtain ⟨t8a5, t8p5, t8h5, _⟩ := Rep.len_raw t8_6; obtain rfl : t8v5 = _ := (by simpa using t8h5); clear t8h5; obtain ⟨t8a6, t8p6, t8h6, _⟩ := Rep.len_raw t8_7; obtain rfl : t8v6 = _ := (by simpa using t8h6); clear t8h6; clear t8_0 t8_1 t8_2 t8_3 t8_4 t8_5 t8_6 t8_7 t8_8) | (go_at_call 10; refine (eqNode_c (O_x0_7.out.raw.below (Below.trans (by repeat (first | (with_reducible exact Below.refl _ _) | refine Below.alloc ?_ (by simp; try omega) _ | refine Below.drew ?_)) (hc8.mono (by simp)))) O8.raw).mono ?_; rintro e w8 ⟨rfl, hd8⟩))
  have hb8 := hc8.trans (hd8.mono hc8.size); clear hc8 hd8 O8
  have D8 : Below w7.heap.size w7 w8 := Below.trans (by repeat (first | (with_reducible exact Below.refl _ _) | refine Below.alloc ?_ (by simp; try omega) _ | refine Below.drew ?_)) (hb8.mono (by first | (simp; done) | (simp; omega)))
  have H8 := Lib.hid (H7.out.trans (D8.mono H7.out.size))
  have L8 := Lib.hid (show w7.heap.size + 0 ≤ w8.heap.size from by have h := hb8.size; (try simp at h); omega)
  have X_aX_8 := Lib.hid (keepBox X_aX_7.out D8); clear X_aX_7
  have X_aT_8 := Lib.hid (keepBox X_aT_7.out D8); clear X_aT_7
  have X_w0_8 := Lib.hid (keepBox X_w0_7.out D8); clear X_w0_7
  have X_x0_8 := Lib.hid (keepBox X_x0_7.out D8); clear X_x0_7
  have X_x1_8 := Lib.hid (keepBox X_x1_7.out D8); clear X_x1_7
  have X_g0_8 := Lib.hid (keepBox X_g0_7.out D8); clear X_g0_7
  have O_w0_8 := Lib.hid (O_w0_7.out.below D8); clear O_w0_7
  have O_x0_8 := Lib.hid (O_x0_7.out.below D8); clear O_x0_7
  have O_x1_8 := Lib.hid (O_x1_7.out.below D8); clear O_x1_7
  have O_g0_8 := Lib.hid (O_g0_7.out.below D8); clear O_g0_7
  clear D8 K_aX_0 K_aX_1 K_aX_2 K_aX_3 K_aX_4 K_aX_5 K_aX_6 K_aX_7 K_x0_0 K_x0_1 K_x0_2 K_x0_3 K_x0_4 K_x0_5 K_x0_6 K_x0_7 hb8
  have K_aT_0 := boxCell X_aT_8.out (j := 0) (v := a1v0) rfl
  have K_aT_1 := boxCell X_aT_8.out (j := 1) (v := a1v1) rfl
  have K_aT_2 := boxCell X_aT_8.out (j := 2) (v := a1v2) rfl
  have K_aT_3 := boxCell X_aT_8.out (j := 3) (v := .int .i64 x1.2.2.2.1) rfl
  have K_aT_4 := boxCell X_aT_8.out (j := 4) (v := .int .i64 x1.2.2.2.2) rfl
  have K_x1_0 := boxCell X_x1_8.out (j := 0) (v := .slice t5a0 (x1.1).length t5p0) rfl
  have K_x1_1 := boxCell X_x1_8.out (j := 1) (v := .slice t5a1 (x1.2.1).length t5p1) rfl
  have K_x1_2 := boxCell X_x1_8.out (j := 2) (v := .slice t5a2 (x1.2.2.1).length t5p2) rfl
  have K_x1_3 := boxCell X_x1_8.out (j := 3) (v := .int .i64 x1.2.2.2.1) rfl
  have K_x1_4 := boxCell X_x1_8.out (j := 4) (v := .int .i64 x1.2.2.2.2) rfl
  go_wp2_with fail
  go_region_held3 (fun W => W.cell? ⟨w.heap.size + 1, 0, none⟩ = some (a1v0) ∧ W.cell? ⟨w.heap.size + 1, 1, none⟩ = some (a1v1) ∧ W.cell? ⟨w.heap.size + 1, 2, none⟩ = some (a1v2) ∧ W.cell? ⟨w.heap.size + 1, 3, none⟩ = some (.int .i64 x1.2.2.2.1) ∧ W.cell? ⟨w.heap.size + 1, 4, none⟩ = some (.int .i64 x1.2.2.2.2) ∧ W.cell? ⟨w5.heap.size, 0, none⟩ = some (.slice t5a0 (x1.1).length t5p0) ∧ W.cell? ⟨w5.heap.size, 1, none⟩ = some (.slice t5a1 (x1.2.1).length t5p1) ∧ W.cell? ⟨w5.heap.size, 2, none⟩ = some (.slice t5a2 (x1.2.2.1).length t5p2) ∧ W.cell? ⟨w5.heap.size, 3, none⟩ = some (.int .i64 x1.2.2.2.1) ∧ W.cell? ⟨w5.heap.size, 4, none⟩ = some (.int .i64 x1.2.2.2.2)) (first | exact ⟨cell_later hd9 (cell_later hc9 K_aT_0), cell_later hd9 (cell_later hc9 K_aT_1), cell_later hd9 (cell_later hc9 K_aT_2), cell_later hd9 (cell_later hc9 K_aT_3), cell_later hd9 (cell_later hc9 K_aT_4), cell_later hd9 (cell_later hc9 K_x1_0), cell_later hd9 (cell_later hc9 K_x1_1), cell_later hd9 (cell_later hc9 K_x1_2), cell_later hd9 (cell_later hc9 K_x1_3), cell_later hd9 (cell_later hc9 K_x1_4)⟩ | exact ⟨cell_later hc9 K_aT_0, cell_later hc9 K_aT_1, cell_later hc9 K_aT_2, cell_later hc9 K_aT_3, cell_later hc9 K_aT_4, cell_later hc9 K_x1_0, cell_later hc9 K_x1_1, cell_later hc9 K_x1_2, cell_later hc9 K_x1_3, cell_later hc9 K_x1_4⟩ | go_keep)
    (first | (go_at_call 8; refine (toData_c (r1.below (by repeat (first | (with_reducible exact H8.out) | refine Below.alloc ?_ (by have := H8.out.size; simp; try omega) _ | refine Below.drew ?_)))).mono ?_; rintro e u9 ⟨cs9, rfl, O9, hc9⟩; obtain ⟨t9v0, t9v1, t9v2, rfl, t9_0, t9_1, t9_2, t9_3, t9_4, t9_5, t9_6⟩ := RData_raw O9.raw; obtain ⟨t9a0, t9p0, t9h0, _⟩ := Rep.len_raw t9_1; obtain rfl : t9v0 = _ := (by simpa using t9h0); clear t9h0; obtain ⟨t9a1, t9p1, t9h1, _⟩ := Rep.len_raw t9_2; obtain rfl : t9v1 = _ := (by simpa using t9h1); clear t9h1; obtain ⟨t9a2, t9p2, t9h2, _⟩ := Rep.len_raw t9_4; obtain rfl : t9v2 = _ := (by simpa using t9h2); clear t9h2; clear t9_0 t9_1 t9_2 t9_3 t9_4 t9_5 t9_6) | (go_at_call 11; refine (eqData_c (O_x1_8.out.raw.below (Below.trans (by repeat (first | (with_reducible exact Below.refl _ _) | refine Below.alloc ?_ (by simp; try omega) _ | refine Below.drew ?_)) (hc9.mono (by simp)))) O9.raw).mono ?_; rintro e w9 ⟨rfl, hd9⟩))
  have hb9 := hc9.trans (hd9.mono hc9.size); clear hc9 hd9 O9
  have D9 : Below w8.heap.size w8 w9 := Below.trans (by repeat (first | (with_reducible exact Below.refl _ _) | refine Below.alloc ?_ (by simp; try omega) _ | refine Below.drew ?_)) (hb9.mono (by first | (simp; done) | (simp; omega)))
  have H9 := Lib.hid (H8.out.trans (D9.mono H8.out.size))
  have L9 := Lib.hid (show w8.heap.size + 0 ≤ w9.heap.size from by have h := hb9.size; (try simp at h); omega)
  have X_aX_9 := Lib.hid (keepBox X_aX_8.out D9); clear X_aX_8
  have X_aT_9 := Lib.hid (keepBox X_aT_8.out D9); clear X_aT_8
  have X_w0_9 := Lib.hid (keepBox X_w0_8.out D9); clear X_w0_8
  have X_x0_9 := Lib.hid (keepBox X_x0_8.out D9); clear X_x0_8
  have X_x1_9 := Lib.hid (keepBox X_x1_8.out D9); clear X_x1_8
  have X_g0_9 := Lib.hid (keepBox X_g0_8.out D9); clear X_g0_8
  have O_w0_9 := Lib.hid (O_w0_8.out.below D9); clear O_w0_8
  have O_x0_9 := Lib.hid (O_x0_8.out.below D9); clear O_x0_8
  have O_x1_9 := Lib.hid (O_x1_8.out.below D9); clear O_x1_8
  have O_g0_9 := Lib.hid (O_g0_8.out.below D9); clear O_g0_8
  clear D9 K_aT_0 K_aT_1 K_aT_2 K_aT_3 K_aT_4 K_x1_0 K_x1_1 K_x1_2 K_x1_3 K_x1_4 hb9
  have K_x0_0 := boxCell X_x0_9.out (j := 0) (v := .slice t4a0 (x0.1).length t4p0) rfl
  have K_x0_1 := boxCell X_x0_9.out (j := 1) (v := .int .i64 x0.2.1.1) rfl
  have K_x0_2 := boxCell X_x0_9.out (j := 2) (v := .slice t4a2 (x0.2.1.2).length t4p2) rfl
  have K_x0_3 := boxCell X_x0_9.out (j := 3) (v := .slice t4a3 (x0.2.2.1).length t4p3) rfl
  have K_x0_4 := boxCell X_x0_9.out (j := 4) (v := .slice t4a4 (x0.2.2.2.1).length t4p4) rfl
  have K_x0_5 := boxCell X_x0_9.out (j := 5) (v := .slice t4a5 (x0.2.2.2.2.1).length t4p5) rfl
  have K_x0_6 := boxCell X_x0_9.out (j := 6) (v := .slice t4a6 (x0.2.2.2.2.2.1).length t4p6) rfl
  have K_x0_7 := boxCell X_x0_9.out (j := 7) (v := .int .i64 x0.2.2.2.2.2.2) rfl
  go_wp2_with fail
  refine (markNode_c (k := 1) (O_x0_9.out.below (by repeat (first | (with_reducible exact Below.refl _ _) | refine Below.alloc ?_ (by simp; try omega) _ | refine Below.drew ?_))) (by  omega) (by have e : (RNode.cnt : Int) = 3659174881787906 := (by decide); unfold Top; omega)).mono ?_
  rintro e w10 ⟨rfl, P10, Y10⟩
  have B10 : Hid (1 ≤ (RNode.mark false (x0) (1)).2 ∧ (RNode.mark false (x0) (1)).2 ≤ 1 + 3659174881787906) := Lib.hid ⟨by have := RNode.mark_ge (e := false) (x := x0) (k := 1); omega, by have := RNode.mark_le (e := false) (k := 1) O_x0_9.out.2; have e : (RNode.cnt : Int) = 3659174881787906 := (by decide); omega⟩
  have D10 : Touch (Btw (w3.heap.size) (w4.heap.size)) w9 w10 := (Touch.of_below (by repeat (first | (with_reducible exact Below.refl _ _) | refine Below.alloc ?_ (by simp; try omega) _ | refine Below.drew ?_))).trans Y10
  have H10 := Lib.hid (H9.out.trans (D10.below (by have := H9.out.size; omega) (fun i hi => by have a := hi.1; have b : w.heap.size ≤ w3.heap.size := H3.out.size; omega)))
  have L10 := Lib.hid (show w9.heap.size ≤ w10.heap.size from D10.size)
  have X_aX_10 := Lib.hid (D10.keepBox X_aX_9.out (fun q => by have q1 := q.1; have q2 := q.2; have l1 := L1.out; have l2 := L2.out; have l3 := L3.out; have l4 := L4.out; omega)); clear X_aX_9
  have X_aT_10 := Lib.hid (D10.keepBox X_aT_9.out (fun q => by have q1 := q.1; have q2 := q.2; have l1 := L1.out; have l2 := L2.out; have l3 := L3.out; have l4 := L4.out; omega)); clear X_aT_9
  have X_w0_10 := Lib.hid (D10.keepBox X_w0_9.out (fun q => by have q1 := q.1; have q2 := q.2; have l4 := L4.out; omega)); clear X_w0_9
  have X_x0_10 := Lib.hid (D10.keepBox X_x0_9.out (fun q => by have q1 := q.1; have q2 := q.2; have l4 := L4.out; omega)); clear X_x0_9
  have X_x1_10 := Lib.hid (D10.keepBox X_x1_9.out (fun q => by have q1 := q.1; have q2 := q.2; have l4 := L4.out; have l5 := L5.out; omega)); clear X_x1_9
  have X_g0_10 := Lib.hid (D10.keepBox X_g0_9.out (fun q => by have q1 := q.1; have q2 := q.2; have l4 := L4.out; have l5 := L5.out; have l6 := L6.out; omega)); clear X_g0_9
  have O_w0_10 := Lib.hid (O_w0_9.out.touch D10 (fun i p q => by have p1 := p.1; have p2 := p.2; have q1 := q.1; have q2 := q.2; have l3 := L3.out; have l4 := L4.out; omega)); clear O_w0_9
  have O_x1_10 := Lib.hid (O_x1_9.out.touch D10 (fun i p q => by have p1 := p.1; have p2 := p.2; have q1 := q.1; have q2 := q.2; have l4 := L4.out; have l5 := L5.out; omega)); clear O_x1_9
  have O_g0_10 := Lib.hid (O_g0_9.out.touch D10 (fun i p q => by have p1 := p.1; have p2 := p.2; have q1 := q.1; have q2 := q.2; have l4 := L4.out; have l5 := L5.out; have l6 := L6.out; omega)); clear O_g0_9
  clear D10 K_x0_0 K_x0_1 K_x0_2 K_x0_3 K_x0_4 K_x0_5 K_x0_6 K_x0_7 Y10
  have Z10 := Lib.hid P10; clear P10 O_x0_9
  have U10 : 0 ≤ (RNode.mark false (x0) (1)).2 := by have := B10.out.1; omega
  have K_x1_0 := boxCell X_x1_10.out (j := 0) (v := .slice t5a0 (x1.1).length t5p0) rfl
  have K_x1_1 := boxCell X_x1_10.out (j := 1) (v := .slice t5a1 (x1.2.1).length t5p1) rfl
  have K_x1_2 := boxCell X_x1_10.out (j := 2) (v := .slice t5a2 (x1.2.2.1).length t5p2) rfl
  have K_x1_3 := boxCell X_x1_10.out (j := 3) (v := .int .i64 x1.2.2.2.1) rfl
  have K_x1_4 := boxCell X_x1_10.out (j := 4) (v := .int .i64 x1.2.2.2.2) rfl
  go_wp2_with fail
  refine (markData_c (k := (RNode.mark false (x0) (1)).2) (O_x1_10.out.below (by repeat (first | (with_reducible exact Below.refl _ _) | refine Below.alloc ?_ (by simp; try omega) _ | refine Below.drew ?_))) (by have := B10.out.1;  omega) (by have := B10.out.2; have e : (RData.cnt : Int) = 50331650 := (by decide); unfold Top; omega)).mono ?_
  rintro e w11 ⟨rfl, P11, Y11⟩
  have B11 : Hid (1 ≤ (RData.mark false (x1) ((RNode.mark false (x0) (1)).2)).2 ∧ (RData.mark false (x1) ((RNode.mark false (x0) (1)).2)).2 ≤ (RNode.mark false (x0) (1)).2 + 50331650) := Lib.hid ⟨by have := RData.mark_ge (e := false) (x := x1) (k := (RNode.mark false (x0) (1)).2); have := B10.out.1; omega, by have := RData.mark_le (e := false) (k := (RNode.mark false (x0) (1)).2) O_x1_10.out.2; have e : (RData.cnt : Int) = 50331650 := (by decide); omega⟩
  have D11 : Touch (Btw (w4.heap.size + 1) (w5.heap.size)) w10 w11 := (Touch.of_below (by repeat (first | (with_reducible exact Below.refl _ _) | refine Below.alloc ?_ (by simp; try omega) _ | refine Below.drew ?_))).trans Y11
  have H11 := Lib.hid (H10.out.trans (D11.below (by have := H10.out.size; omega) (fun i hi => by have a := hi.1; have b : w.heap.size ≤ w4.heap.size := H4.out.size; omega)))
  have L11 := Lib.hid (show w10.heap.size ≤ w11.heap.size from D11.size)
  have X_aX_11 := Lib.hid (D11.keepBox X_aX_10.out (fun q => by have q1 := q.1; have q2 := q.2; have l1 := L1.out; have l2 := L2.out; have l3 := L3.out; have l4 := L4.out; have l5 := L5.out; omega)); clear X_aX_10
  have X_aT_11 := Lib.hid (D11.keepBox X_aT_10.out (fun q => by have q1 := q.1; have q2 := q.2; have l1 := L1.out; have l2 := L2.out; have l3 := L3.out; have l4 := L4.out; have l5 := L5.out; omega)); clear X_aT_10
  have X_w0_11 := Lib.hid (D11.keepBox X_w0_10.out (fun q => by have q1 := q.1; have q2 := q.2; have l4 := L4.out; have l5 := L5.out; omega)); clear X_w0_10
  have X_x0_11 := Lib.hid (D11.keepBox X_x0_10.out (fun q => by have q1 := q.1; have q2 := q.2; have l5 := L5.out; omega)); clear X_x0_10
  have X_x1_11 := Lib.hid (D11.keepBox X_x1_10.out (fun q => by have q1 := q.1; have q2 := q.2; have l5 := L5.out; omega)); clear X_x1_10
  have X_g0_11 := Lib.hid (D11.keepBox X_g0_10.out (fun q => by have q1 := q.1; have q2 := q.2; have l5 := L5.out; have l6 := L6.out; omega)); clear X_g0_10
  have O_w0_11 := Lib.hid (O_w0_10.out.touch D11 (fun i p q => by have p1 := p.1; have p2 := p.2; have q1 := q.1; have q2 := q.2; have l3 := L3.out; have l4 := L4.out; have l5 := L5.out; omega)); clear O_w0_10
  have O_x0_11 := Lib.hid (Z10.out.touch D11 (fun i p q => by have p1 := p.1; have p2 := p.2; have q1 := q.1; have q2 := q.2; have l4 := L4.out; have l5 := L5.out; omega)); clear Z10
  have O_g0_11 := Lib.hid (O_g0_10.out.touch D11 (fun i p q => by have p1 := p.1; have p2 := p.2; have q1 := q.1; have q2 := q.2; have l5 := L5.out; have l6 := L6.out; omega)); clear O_g0_10
  clear D11 K_x1_0 K_x1_1 K_x1_2 K_x1_3 K_x1_4 Y11
  have Z11 := Lib.hid P11; clear P11 O_x1_10
  have U11 : 0 ≤ (RData.mark false (x1) ((RNode.mark false (x0) (1)).2)).2 := by have := B11.out.1; omega
  have K_g0_0 := boxCell X_g0_11.out (j := 0) (v := .slice t6a0 (((addL x1 x0)).1).length t6p0) rfl
  have K_g0_1 := boxCell X_g0_11.out (j := 1) (v := .int .i64 ((addL x1 x0)).2.1.1) rfl
  have K_g0_2 := boxCell X_g0_11.out (j := 2) (v := .slice t6a2 (((addL x1 x0)).2.1.2).length t6p2) rfl
  have K_g0_3 := boxCell X_g0_11.out (j := 3) (v := .slice t6a3 (((addL x1 x0)).2.2.1).length t6p3) rfl
  have K_g0_4 := boxCell X_g0_11.out (j := 4) (v := .slice t6a4 (((addL x1 x0)).2.2.2.1).length t6p4) rfl
  have K_g0_5 := boxCell X_g0_11.out (j := 5) (v := .slice t6a5 (((addL x1 x0)).2.2.2.2.1).length t6p5) rfl
  have K_g0_6 := boxCell X_g0_11.out (j := 6) (v := .slice t6a6 (((addL x1 x0)).2.2.2.2.2.1).length t6p6) rfl
  have K_g0_7 := boxCell X_g0_11.out (j := 7) (v := .int .i64 ((addL x1 x0)).2.2.2.2.2.2) rfl
  have K_w0_0 := boxCell X_w0_11.out (j := 0) (v := .slice t3a0 (((addL x1 x0)).1).length t3p0) rfl
  have K_w0_1 := boxCell X_w0_11.out (j := 1) (v := .int .i64 ((addL x1 x0)).2.1.1) rfl
  have K_w0_2 := boxCell X_w0_11.out (j := 2) (v := .slice t3a2 (((addL x1 x0)).2.1.2).length t3p2) rfl
  have K_w0_3 := boxCell X_w0_11.out (j := 3) (v := .slice t3a3 (((addL x1 x0)).2.2.1).length t3p3) rfl
  have K_w0_4 := boxCell X_w0_11.out (j := 4) (v := .slice t3a4 (((addL x1 x0)).2.2.2.1).length t3p4) rfl
  have K_w0_5 := boxCell X_w0_11.out (j := 5) (v := .slice t3a5 (((addL x1 x0)).2.2.2.2.1).length t3p5) rfl
  have K_w0_6 := boxCell X_w0_11.out (j := 6) (v := .slice t3a6 (((addL x1 x0)).2.2.2.2.2.1).length t3p6) rfl
  have K_w0_7 := boxCell X_w0_11.out (j := 7) (v := .int .i64 ((addL x1 x0)).2.2.2.2.2.2) rfl
  go_wp2_with fail
  refine (eqNode_c (O_g0_11.out.raw.below (by repeat (first | (with_reducible exact Below.refl _ _) | refine Below.alloc ?_ (by simp; try omega) _ | refine Below.drew ?_))) (O_w0_11.out.raw.below (by repeat (first | (with_reducible exact Below.refl _ _) | refine Below.alloc ?_ (by simp; try omega) _ | refine Below.drew ?_)))).mono ?_
  rintro e w12 ⟨rfl, hb12⟩
  have D12 : Below w11.heap.size w11 w12 := Below.trans (by repeat (first | (with_reducible exact Below.refl _ _) | refine Below.alloc ?_ (by simp; try omega) _ | refine Below.drew ?_)) (hb12.mono (by first | (simp; done) | (simp; omega)))
  have H12 := Lib.hid (H11.out.trans (D12.mono H11.out.size))
  have L12 := Lib.hid (show w11.heap.size + 0 ≤ w12.heap.size from by have h := hb12.size; (try simp at h); omega)
  have X_aX_12 := Lib.hid (keepBox X_aX_11.out D12); clear X_aX_11
  have X_aT_12 := Lib.hid (keepBox X_aT_11.out D12); clear X_aT_11
  have X_w0_12 := Lib.hid (keepBox X_w0_11.out D12); clear X_w0_11
  have X_x0_12 := Lib.hid (keepBox X_x0_11.out D12); clear X_x0_11
  have X_x1_12 := Lib.hid (keepBox X_x1_11.out D12); clear X_x1_11
  have X_g0_12 := Lib.hid (keepBox X_g0_11.out D12); clear X_g0_11
  have O_w0_12 := Lib.hid (O_w0_11.out.below D12); clear O_w0_11
  have O_x0_12 := Lib.hid (O_x0_11.out.below D12); clear O_x0_11
  have O_x1_12 := Lib.hid (Z11.out.below D12); clear Z11
  have O_g0_12 := Lib.hid (O_g0_11.out.below D12); clear O_g0_11
  clear D12 K_g0_0 K_g0_1 K_g0_2 K_g0_3 K_g0_4 K_g0_5 K_g0_6 K_g0_7 K_w0_0 K_w0_1 K_w0_2 K_w0_3 K_w0_4 K_w0_5 K_w0_6 K_w0_7 hb12
  have K_g0_0 := boxCell X_g0_12.out (j := 0) (v := .slice t6a0 (((addL x1 x0)).1).length t6p0) rfl
  have K_g0_1 := boxCell X_g0_12.out (j := 1) (v := .int .i64 ((addL x1 x0)).2.1.1) rfl
  have K_g0_2 := boxCell X_g0_12.out (j := 2) (v := .slice t6a2 (((addL x1 x0)).2.1.2).length t6p2) rfl
  have K_g0_3 := boxCell X_g0_12.out (j := 3) (v := .slice t6a3 (((addL x1 x0)).2.2.1).length t6p3) rfl
  have K_g0_4 := boxCell X_g0_12.out (j := 4) (v := .slice t6a4 (((addL x1 x0)).2.2.2.1).length t6p4) rfl
  have K_g0_5 := boxCell X_g0_12.out (j := 5) (v := .slice t6a5 (((addL x1 x0)).2.2.2.2.1).length t6p5) rfl
  have K_g0_6 := boxCell X_g0_12.out (j := 6) (v := .slice t6a6 (((addL x1 x0)).2.2.2.2.2.1).length t6p6) rfl
  have K_g0_7 := boxCell X_g0_12.out (j := 7) (v := .int .i64 ((addL x1 x0)).2.2.2.2.2.2) rfl
  go_wp2_with fail
  refine (markNode_c (k := 1) (O_g0_12.out.below (by repeat (first | (with_reducible exact Below.refl _ _) | refine Below.alloc ?_ (by simp; try omega) _ | refine Below.drew ?_))) (by  omega) (by have e : (RNode.cnt : Int) = 3659174881787906 := (by decide); unfold Top; omega)).mono ?_
  rintro e w13 ⟨rfl, P13, Y13⟩
  have B13 : Hid (1 ≤ (RNode.mark false ((addL x1 x0)) (1)).2 ∧ (RNode.mark false ((addL x1 x0)) (1)).2 ≤ 1 + 3659174881787906) := Lib.hid ⟨by have := RNode.mark_ge (e := false) (x := (addL x1 x0)) (k := 1); omega, by have := RNode.mark_le (e := false) (k := 1) O_g0_12.out.2; have e : (RNode.cnt : Int) = 3659174881787906 := (by decide); omega⟩
  have D13 : Touch (Btw (w5.heap.size + 1) (w6.heap.size)) w12 w13 := (Touch.of_below (by repeat (first | (with_reducible exact Below.refl _ _) | refine Below.alloc ?_ (by simp; try omega) _ | refine Below.drew ?_))).trans Y13
  have H13 := Lib.hid (H12.out.trans (D13.below (by have := H12.out.size; omega) (fun i hi => by have a := hi.1; have b : w.heap.size ≤ w5.heap.size := H5.out.size; omega)))
  have L13 := Lib.hid (show w12.heap.size ≤ w13.heap.size from D13.size)
  have X_aX_13 := Lib.hid (D13.keepBox X_aX_12.out (fun q => by have q1 := q.1; have q2 := q.2; have l1 := L1.out; have l2 := L2.out; have l3 := L3.out; have l4 := L4.out; have l5 := L5.out; have l6 := L6.out; omega)); clear X_aX_12
  have X_aT_13 := Lib.hid (D13.keepBox X_aT_12.out (fun q => by have q1 := q.1; have q2 := q.2; have l1 := L1.out; have l2 := L2.out; have l3 := L3.out; have l4 := L4.out; have l5 := L5.out; have l6 := L6.out; omega)); clear X_aT_12
  have X_w0_13 := Lib.hid (D13.keepBox X_w0_12.out (fun q => by have q1 := q.1; have q2 := q.2; have l4 := L4.out; have l5 := L5.out; have l6 := L6.out; omega)); clear X_w0_12
  have X_x0_13 := Lib.hid (D13.keepBox X_x0_12.out (fun q => by have q1 := q.1; have q2 := q.2; have l5 := L5.out; have l6 := L6.out; omega)); clear X_x0_12
  have X_x1_13 := Lib.hid (D13.keepBox X_x1_12.out (fun q => by have q1 := q.1; have q2 := q.2; have l6 := L6.out; omega)); clear X_x1_12
  have X_g0_13 := Lib.hid (D13.keepBox X_g0_12.out (fun q => by have q1 := q.1; have q2 := q.2; have l6 := L6.out; omega)); clear X_g0_12
  have O_w0_13 := Lib.hid (O_w0_12.out.touch D13 (fun i p q => by have p1 := p.1; have p2 := p.2; have q1 := q.1; have q2 := q.2; have l3 := L3.out; have l4 := L4.out; have l5 := L5.out; have l6 := L6.out; omega)); clear O_w0_12
  have O_x0_13 := Lib.hid (O_x0_12.out.touch D13 (fun i p q => by have p1 := p.1; have p2 := p.2; have q1 := q.1; have q2 := q.2; have l4 := L4.out; have l5 := L5.out; have l6 := L6.out; omega)); clear O_x0_12
  have O_x1_13 := Lib.hid (O_x1_12.out.touch D13 (fun i p q => by have p1 := p.1; have p2 := p.2; have q1 := q.1; have q2 := q.2; have l5 := L5.out; have l6 := L6.out; omega)); clear O_x1_12
  clear D13 K_g0_0 K_g0_1 K_g0_2 K_g0_3 K_g0_4 K_g0_5 K_g0_6 K_g0_7 Y13
  have Z13 := Lib.hid P13; clear P13 O_g0_12
  have U13 : 0 ≤ (RNode.mark false ((addL x1 x0)) (1)).2 := by have := B13.out.1; omega
  have K_g0_0 := boxCell X_g0_13.out (j := 0) (v := .slice t6a0 (((addL x1 x0)).1).length t6p0) rfl
  have K_g0_1 := boxCell X_g0_13.out (j := 1) (v := .int .i64 ((addL x1 x0)).2.1.1) rfl
  have K_g0_2 := boxCell X_g0_13.out (j := 2) (v := .slice t6a2 (((addL x1 x0)).2.1.2).length t6p2) rfl
  have K_g0_3 := boxCell X_g0_13.out (j := 3) (v := .slice t6a3 (((addL x1 x0)).2.2.1).length t6p3) rfl
  have K_g0_4 := boxCell X_g0_13.out (j := 4) (v := .slice t6a4 (((addL x1 x0)).2.2.2.1).length t6p4) rfl
  have K_g0_5 := boxCell X_g0_13.out (j := 5) (v := .slice t6a5 (((addL x1 x0)).2.2.2.2.1).length t6p5) rfl
  have K_g0_6 := boxCell X_g0_13.out (j := 6) (v := .slice t6a6 (((addL x1 x0)).2.2.2.2.2.1).length t6p6) rfl
  have K_g0_7 := boxCell X_g0_13.out (j := 7) (v := .int .i64 ((addL x1 x0)).2.2.2.2.2.2) rfl
  go_wp2_with fail
  refine (heldNode_c (Z13.out.raw.below (by repeat (first | (with_reducible exact Below.refl _ _) | refine Below.alloc ?_ (by simp; try omega) _ | refine Below.drew ?_))) (RNode.mark_held (e := false) (x := (addL x1 x0)) (k := 1)) (by have := B13.out.1;  omega) (by have := B13.out.2;  omega)).mono ?_
  rintro e w14 ⟨rfl, hb14⟩
  have D14 : Below w13.heap.size w13 w14 := Below.trans (by repeat (first | (with_reducible exact Below.refl _ _) | refine Below.alloc ?_ (by simp; try omega) _ | refine Below.drew ?_)) (hb14.mono (by first | (simp; done) | (simp; omega)))
  have H14 := Lib.hid (H13.out.trans (D14.mono H13.out.size))
  have L14 := Lib.hid (show w13.heap.size + 0 ≤ w14.heap.size from by have h := hb14.size; (try simp at h); omega)
  have X_aX_14 := Lib.hid (keepBox X_aX_13.out D14); clear X_aX_13
  have X_aT_14 := Lib.hid (keepBox X_aT_13.out D14); clear X_aT_13
  have X_w0_14 := Lib.hid (keepBox X_w0_13.out D14); clear X_w0_13
  have X_x0_14 := Lib.hid (keepBox X_x0_13.out D14); clear X_x0_13
  have X_x1_14 := Lib.hid (keepBox X_x1_13.out D14); clear X_x1_13
  have X_g0_14 := Lib.hid (keepBox X_g0_13.out D14); clear X_g0_13
  have O_w0_14 := Lib.hid (O_w0_13.out.below D14); clear O_w0_13
  have O_x0_14 := Lib.hid (O_x0_13.out.below D14); clear O_x0_13
  have O_x1_14 := Lib.hid (O_x1_13.out.below D14); clear O_x1_13
  have O_g0_14 := Lib.hid (Z13.out.below D14); clear Z13
  clear D14 K_g0_0 K_g0_1 K_g0_2 K_g0_3 K_g0_4 K_g0_5 K_g0_6 K_g0_7 hb14
  have K_aX_0 := boxCell X_aX_14.out (j := 0) (v := a0v0) rfl
  have K_aX_1 := boxCell X_aX_14.out (j := 1) (v := .int .i64 x0.2.1.1) rfl
  have K_aX_2 := boxCell X_aX_14.out (j := 2) (v := a0v2) rfl
  have K_aX_3 := boxCell X_aX_14.out (j := 3) (v := a0v3) rfl
  have K_aX_4 := boxCell X_aX_14.out (j := 4) (v := a0v4) rfl
  have K_aX_5 := boxCell X_aX_14.out (j := 5) (v := a0v5) rfl
  have K_aX_6 := boxCell X_aX_14.out (j := 6) (v := a0v6) rfl
  have K_aX_7 := boxCell X_aX_14.out (j := 7) (v := .int .i64 x0.2.2.2.2.2.2) rfl
  have K_aT_0 := boxCell X_aT_14.out (j := 0) (v := a1v0) rfl
  have K_aT_1 := boxCell X_aT_14.out (j := 1) (v := a1v1) rfl
  have K_aT_2 := boxCell X_aT_14.out (j := 2) (v := a1v2) rfl
  have K_aT_3 := boxCell X_aT_14.out (j := 3) (v := .int .i64 x1.2.2.2.1) rfl
  have K_aT_4 := boxCell X_aT_14.out (j := 4) (v := .int .i64 x1.2.2.2.2) rfl
  go_wp2_with fail
  apply share (fun b W => Below w14.heap.size w14 W ∧ w14.heap.size ≤ b ∧ b < W.heap.size ∧ ∃ cs : List Value, W.heap[b]? = some (.cells cs.toArray 49 (0, 0)) ∧ RNode.own W cs ((addL x1 x0)) (Btw w14.heap.size W.heap.size))
  case walk =>
    intro CONT
    refine wp_region_tree (fun W => Below w14.heap.size w14 W) (by kernel_rfl) ((Below.refl _ _).drew) ?_
    intro wS HS
    refine tree_read (k := 0) (v := ?_) rfl (by kernel_rfl) (fun c a d v w h => by cases d <;> exact h) rfl HS (fun W hW => ?_) ?_
    rotate_left
    · have A_K_aX_0 := cell_later hW K_aX_0; have A_K_aX_1 := cell_later hW K_aX_1; have A_K_aX_2 := cell_later hW K_aX_2; have A_K_aX_3 := cell_later hW K_aX_3; have A_K_aX_4 := cell_later hW K_aX_4; have A_K_aX_5 := cell_later hW K_aX_5; have A_K_aX_6 := cell_later hW K_aX_6; have A_K_aX_7 := cell_later hW K_aX_7; have A_K_aT_0 := cell_later hW K_aT_0; have A_K_aT_1 := cell_later hW K_aT_1; have A_K_aT_2 := cell_later hW K_aT_2; have A_K_aT_3 := cell_later hW K_aT_3; have A_K_aT_4 := cell_later hW K_aT_4; clear hW; go_simp; try with_reducible rfl
    try simp only [Act.put, List.setIfInBounds_toArray, List.set_cons_zero, List.set_cons_succ]
    refine tree_read (k := 2) (v := ?_) rfl (by kernel_rfl) (fun c a d v w h => by cases d <;> exact h) rfl HS (fun W hW => ?_) ?_
    rotate_left
    · have A_K_aX_0 := cell_later hW K_aX_0; have A_K_aX_1 := cell_later hW K_aX_1; have A_K_aX_2 := cell_later hW K_aX_2; have A_K_aX_3 := cell_later hW K_aX_3; have A_K_aX_4 := cell_later hW K_aX_4; have A_K_aX_5 := cell_later hW K_aX_5; have A_K_aX_6 := cell_later hW K_aX_6; have A_K_aX_7 := cell_later hW K_aX_7; have A_K_aT_0 := cell_later hW K_aT_0; have A_K_aT_1 := cell_later hW K_aT_1; have A_K_aT_2 := cell_later hW K_aT_2; have A_K_aT_3 := cell_later hW K_aT_3; have A_K_aT_4 := cell_later hW K_aT_4; clear hW; go_simp; try with_reducible rfl
    try simp only [Act.put, List.setIfInBounds_toArray, List.set_cons_zero, List.set_cons_succ]
    refine tree_two (i := 1) (j := 8) rfl rfl (by kernel_rfl) rfl rfl (fun K hK => ?_) (fun K hK => ?_)
    · go_simp
      refine (toNode_c (r0.below (H14.out.trans (HS.mono H14.out.size)))).mono ?_
      rintro e u15_0 ⟨cs15_0, rfl, O15_0, hc⟩
      obtain ⟨t15_0v0, t15_0v2, t15_0v3, t15_0v4, t15_0v5, t15_0v6, rfl, t15_0_0, t15_0_1, t15_0_2, t15_0_3, t15_0_4, t15_0_5, t15_0_6, t15_0_7, t15_0_8⟩ := RNode_raw O15_0.raw
      obtain ⟨t15_0a0, t15_0p0, t15_0h0, _⟩ := Rep.len_raw t15_0_0; obtain rfl : t15_0v0 = _ := (by simpa using t15_0h0)
      clear t15_0h0
      obtain ⟨t15_0a2, t15_0p2, t15_0h2, _⟩ := Rep.len_raw t15_0_3; obtain rfl : t15_0v2 = _ := (by simpa using t15_0h2)
      clear t15_0h2
      obtain ⟨t15_0a3, t15_0p3, t15_0h3, _⟩ := Rep.len_raw t15_0_4; obtain rfl : t15_0v3 = _ := (by simpa using t15_0h3)
      clear t15_0h3
      obtain ⟨t15_0a4, t15_0p4, t15_0h4, _⟩ := Rep.len_raw t15_0_5; obtain rfl : t15_0v4 = _ := (by simpa using t15_0h4)
      clear t15_0h4
      obtain ⟨t15_0a5, t15_0p5, t15_0h5, _⟩ := Rep.len_raw t15_0_6; obtain rfl : t15_0v5 = _ := (by simpa using t15_0h5)
      clear t15_0h5
      obtain ⟨t15_0a6, t15_0p6, t15_0h6, _⟩ := Rep.len_raw t15_0_7; obtain rfl : t15_0v6 = _ := (by simpa using t15_0h6)
      clear t15_0h6
      clear t15_0_0 t15_0_1 t15_0_2 t15_0_3 t15_0_4 t15_0_5 t15_0_6 t15_0_7 t15_0_8
      replace HS := HS.trans (hc.mono HS.size)
      refine hK _ _ HS ?_
      clear hK K hc
      try simp only [Act.put, List.setIfInBounds_toArray, List.set_cons_zero, List.set_cons_succ]
      refine tree_two (i := 3) (j := 8) rfl rfl (by kernel_rfl) rfl rfl (fun K hK => ?_) (fun K hK => ?_)
      · go_simp
        refine (toData_c (r1.below (H14.out.trans (HS.mono H14.out.size)))).mono ?_
        rintro e u15_1 ⟨cs15_1, rfl, O15_1, hc⟩
        obtain ⟨t15_1v0, t15_1v1, t15_1v2, rfl, t15_1_0, t15_1_1, t15_1_2, t15_1_3, t15_1_4, t15_1_5, t15_1_6⟩ := RData_raw O15_1.raw
        obtain ⟨t15_1a0, t15_1p0, t15_1h0, _⟩ := Rep.len_raw t15_1_1; obtain rfl : t15_1v0 = _ := (by simpa using t15_1h0)
        clear t15_1h0
        obtain ⟨t15_1a1, t15_1p1, t15_1h1, _⟩ := Rep.len_raw t15_1_2; obtain rfl : t15_1v1 = _ := (by simpa using t15_1h1)
        clear t15_1h1
        obtain ⟨t15_1a2, t15_1p2, t15_1h2, _⟩ := Rep.len_raw t15_1_4; obtain rfl : t15_1v2 = _ := (by simpa using t15_1h2)
        clear t15_1h2
        clear t15_1_0 t15_1_1 t15_1_2 t15_1_3 t15_1_4 t15_1_5 t15_1_6
        replace O15_0 := O15_0.below hc
        replace HS := HS.trans (hc.mono HS.size)
        refine hK _ _ HS ?_
        clear hK K hc
        try simp only [Act.put, List.setIfInBounds_toArray, List.set_cons_zero, List.set_cons_succ]
        refine tree_two (i := 4) (j := 8) rfl rfl (by kernel_rfl) rfl rfl (fun K hK => ?_) (fun K hK => ?_)
        · go_simp
          refine (implAddLocal_c O15_0.rd O15_1.rd).mono ?_
          rintro e u15 ⟨cs15, rfl, O15, hc⟩
          obtain ⟨t15v0, t15v2, t15v3, t15v4, t15v5, t15v6, rfl, t15_0, t15_1, t15_2, t15_3, t15_4, t15_5, t15_6, t15_7, t15_8⟩ := RNode_raw O15.raw
          obtain ⟨t15a0, t15p0, t15h0, _⟩ := Rep.len_raw t15_0; obtain rfl : t15v0 = _ := (by simpa using t15h0)
          clear t15h0
          obtain ⟨t15a2, t15p2, t15h2, _⟩ := Rep.len_raw t15_3; obtain rfl : t15v2 = _ := (by simpa using t15h2)
          clear t15h2
          obtain ⟨t15a3, t15p3, t15h3, _⟩ := Rep.len_raw t15_4; obtain rfl : t15v3 = _ := (by simpa using t15h3)
          clear t15h3
          obtain ⟨t15a4, t15p4, t15h4, _⟩ := Rep.len_raw t15_5; obtain rfl : t15v4 = _ := (by simpa using t15h4)
          clear t15h4
          obtain ⟨t15a5, t15p5, t15h5, _⟩ := Rep.len_raw t15_6; obtain rfl : t15v5 = _ := (by simpa using t15h5)
          clear t15h5
          obtain ⟨t15a6, t15p6, t15h6, _⟩ := Rep.len_raw t15_7; obtain rfl : t15v6 = _ := (by simpa using t15h6)
          clear t15h6
          clear t15_0 t15_1 t15_2 t15_3 t15_4 t15_5 t15_6 t15_7 t15_8
          have hzr := HS.size
          have hzc := hc.size
          replace HS := HS.trans (hc.mono HS.size)
          refine hK _ _ HS ?_
          clear hK K hc O15_0 O15_1
          try simp only [Act.put, List.setIfInBounds_toArray, List.set_cons_zero, List.set_cons_succ]
          refine tree_read (k := 5) (v := ?_) rfl (by kernel_rfl) (fun c a d v w h => by cases d <;> exact h) rfl HS (fun W hW => ?_) ?_
          rotate_left
          · go_simp; try with_reducible rfl
          try simp only [Act.put, List.setIfInBounds_toArray, List.set_cons_zero, List.set_cons_succ]
          refine tree_read (k := 6) (v := ?_) rfl (by kernel_rfl) (fun c a d v w h => by cases d <;> exact h) rfl HS (fun W hW => ?_) ?_
          rotate_left
          · go_simp; try with_reducible rfl
          try simp only [Act.put, List.setIfInBounds_toArray, List.set_cons_zero, List.set_cons_succ]
          refine tree_read (k := 7) (v := ?_) rfl (by kernel_rfl) (fun c a d v w h => by cases d <;> exact h) rfl HS (fun W hW => ?_) ?_
          rotate_left
          · go_simp; try with_reducible rfl
          try simp only [Act.put, List.setIfInBounds_toArray, List.set_cons_zero, List.set_cons_succ]
          refine tree_one (k := 8) rfl (by kernel_rfl) rfl (fun K hK => ?_)
          go_simp
          generalize hwZ : World.alloc u15 _ = wZ
          have hlt_ := HS.size
          have XZ : wZ.heap[u15.heap.size]? = some (.cells #[.slice none 0 0, .int .i64 0, .slice none 0 0, .slice none 0 0, .slice none 0 0, .slice none 0 0, .slice none 0 0, .int .i64 0] 49 (0, 0)) := (by rw [← hwZ]; exact heap_new_at rfl)
          have hbZ : Below u15.heap.size u15 wZ := (by rw [← hwZ]; exact (Below.refl _ _).alloc (Nat.le_refl _) _)
          replace O15 := O15.below hbZ
          have hzZ := hbZ.size
          replace HS := HS.trans (hbZ.mono HS.size)
          clear hwZ hbZ
          refine hK _ _ HS ?_
          clear hK K
          try simp only [Act.put, List.setIfInBounds_toArray, List.set_cons_zero, List.set_cons_succ]
          refine tree_one (k := 9) rfl (by kernel_rfl) rfl (fun K hK => ?_)
          have Y0 := boxCell XZ (j := 0) rfl
          have N0 := frozen_of_row wZ u15.heap.size 0 _ _ XZ
          have Y1 := boxCell XZ (j := 1) rfl
          have N1 := frozen_of_row wZ u15.heap.size 1 _ _ XZ
          have Y2 := boxCell XZ (j := 2) rfl
          have N2 := frozen_of_row wZ u15.heap.size 2 _ _ XZ
          have Y3 := boxCell XZ (j := 3) rfl
          have N3 := frozen_of_row wZ u15.heap.size 3 _ _ XZ
          have Y4 := boxCell XZ (j := 4) rfl
          have N4 := frozen_of_row wZ u15.heap.size 4 _ _ XZ
          have Y5 := boxCell XZ (j := 5) rfl
          have N5 := frozen_of_row wZ u15.heap.size 5 _ _ XZ
          have Y6 := boxCell XZ (j := 6) rfl
          have N6 := frozen_of_row wZ u15.heap.size 6 _ _ XZ
          have Y7 := boxCell XZ (j := 7) rfl
          have N7 := frozen_of_row wZ u15.heap.size 7 _ _ XZ
          go_simp
          have HSE := ((((((((HS.setCell (show w14.heap.size ≤ (⟨u15.heap.size, 0, none⟩ : Addr).block from hlt_) (.slice t15a0 (((addL x1 x0)).1).length t15p0)).setCell (show w14.heap.size ≤ (⟨u15.heap.size, 1, none⟩ : Addr).block from hlt_) (.int .i64 ((addL x1 x0)).2.1.1)).setCell (show w14.heap.size ≤ (⟨u15.heap.size, 2, none⟩ : Addr).block from hlt_) (.slice t15a2 (((addL x1 x0)).2.1.2).length t15p2)).setCell (show w14.heap.size ≤ (⟨u15.heap.size, 3, none⟩ : Addr).block from hlt_) (.slice t15a3 (((addL x1 x0)).2.2.1).length t15p3)).setCell (show w14.heap.size ≤ (⟨u15.heap.size, 4, none⟩ : Addr).block from hlt_) (.slice t15a4 (((addL x1 x0)).2.2.2.1).length t15p4)).setCell (show w14.heap.size ≤ (⟨u15.heap.size, 5, none⟩ : Addr).block from hlt_) (.slice t15a5 (((addL x1 x0)).2.2.2.2.1).length t15p5)).setCell (show w14.heap.size ≤ (⟨u15.heap.size, 6, none⟩ : Addr).block from hlt_) (.slice t15a6 (((addL x1 x0)).2.2.2.2.2.1).length t15p6)).setCell (show w14.heap.size ≤ (⟨u15.heap.size, 7, none⟩ : Addr).block from hlt_) (.int .i64 ((addL x1 x0)).2.2.2.2.2.2))
          have OW := (Rep.own.setCell (p := ⟨u15.heap.size, 7, none⟩) (v := .int .i64 ((addL x1 x0)).2.2.2.2.2.2) (Rep.own.setCell (p := ⟨u15.heap.size, 6, none⟩) (v := .slice t15a6 (((addL x1 x0)).2.2.2.2.2.1).length t15p6) (Rep.own.setCell (p := ⟨u15.heap.size, 5, none⟩) (v := .slice t15a5 (((addL x1 x0)).2.2.2.2.1).length t15p5) (Rep.own.setCell (p := ⟨u15.heap.size, 4, none⟩) (v := .slice t15a4 (((addL x1 x0)).2.2.2.1).length t15p4) (Rep.own.setCell (p := ⟨u15.heap.size, 3, none⟩) (v := .slice t15a3 (((addL x1 x0)).2.2.1).length t15p3) (Rep.own.setCell (p := ⟨u15.heap.size, 2, none⟩) (v := .slice t15a2 (((addL x1 x0)).2.1.2).length t15p2) (Rep.own.setCell (p := ⟨u15.heap.size, 1, none⟩) (v := .int .i64 ((addL x1 x0)).2.1.1) (Rep.own.setCell (p := ⟨u15.heap.size, 0, none⟩) (v := .slice t15a0 (((addL x1 x0)).1).length t15p0) O15 (by intro q; have p := q.1; have r := q.2; simp only at p r; omega)) (by intro q; have p := q.1; have r := q.2; simp only at p r; omega)) (by intro q; have p := q.1; have r := q.2; simp only at p r; omega)) (by intro q; have p := q.1; have r := q.2; simp only at p r; omega)) (by intro q; have p := q.1; have r := q.2; simp only at p r; omega)) (by intro q; have p := q.1; have r := q.2; simp only at p r; omega)) (by intro q; have p := q.1; have r := q.2; simp only at p r; omega)) (by intro q; have p := q.1; have r := q.2; simp only at p r; omega))
          have hzE : ((((((((wZ.setCell ⟨u15.heap.size, 0, none⟩ (.slice t15a0 (((addL x1 x0)).1).length t15p0)).setCell ⟨u15.heap.size, 1, none⟩ (.int .i64 ((addL x1 x0)).2.1.1)).setCell ⟨u15.heap.size, 2, none⟩ (.slice t15a2 (((addL x1 x0)).2.1.2).length t15p2)).setCell ⟨u15.heap.size, 3, none⟩ (.slice t15a3 (((addL x1 x0)).2.2.1).length t15p3)).setCell ⟨u15.heap.size, 4, none⟩ (.slice t15a4 (((addL x1 x0)).2.2.2.1).length t15p4)).setCell ⟨u15.heap.size, 5, none⟩ (.slice t15a5 (((addL x1 x0)).2.2.2.2.1).length t15p5)).setCell ⟨u15.heap.size, 6, none⟩ (.slice t15a6 (((addL x1 x0)).2.2.2.2.2.1).length t15p6)).setCell ⟨u15.heap.size, 7, none⟩ (.int .i64 ((addL x1 x0)).2.2.2.2.2.2)).heap.size = wZ.heap.size := by simp [World.setCell]
          generalize hws : ((((((((wZ.setCell ⟨u15.heap.size, 0, none⟩ (.slice t15a0 (((addL x1 x0)).1).length t15p0)).setCell ⟨u15.heap.size, 1, none⟩ (.int .i64 ((addL x1 x0)).2.1.1)).setCell ⟨u15.heap.size, 2, none⟩ (.slice t15a2 (((addL x1 x0)).2.1.2).length t15p2)).setCell ⟨u15.heap.size, 3, none⟩ (.slice t15a3 (((addL x1 x0)).2.2.1).length t15p3)).setCell ⟨u15.heap.size, 4, none⟩ (.slice t15a4 (((addL x1 x0)).2.2.2.1).length t15p4)).setCell ⟨u15.heap.size, 5, none⟩ (.slice t15a5 (((addL x1 x0)).2.2.2.2.1).length t15p5)).setCell ⟨u15.heap.size, 6, none⟩ (.slice t15a6 (((addL x1 x0)).2.2.2.2.2.1).length t15p6)).setCell ⟨u15.heap.size, 7, none⟩ (.int .i64 ((addL x1 x0)).2.2.2.2.2.2)) = wE at HSE OW hzE ⊢
          have XW : wE.heap[u15.heap.size]? = some (.cells #[.slice t15a0 (((addL x1 x0)).1).length t15p0, .int .i64 ((addL x1 x0)).2.1.1, .slice t15a2 (((addL x1 x0)).2.1.2).length t15p2, .slice t15a3 (((addL x1 x0)).2.2.1).length t15p3, .slice t15a4 (((addL x1 x0)).2.2.2.1).length t15p4, .slice t15a5 (((addL x1 x0)).2.2.2.2.1).length t15p5, .slice t15a6 (((addL x1 x0)).2.2.2.2.2.1).length t15p6, .int .i64 ((addL x1 x0)).2.2.2.2.2.2] 49 (0, 0)) := by
            rw [← hws]
            have y0 := heap_setCell_same _ (u15.heap.size) 0 _ 49 (.slice t15a0 (((addL x1 x0)).1).length t15p0) XZ
            have y1 := heap_setCell_same _ (u15.heap.size) 1 _ 49 (.int .i64 ((addL x1 x0)).2.1.1) y0
            have y2 := heap_setCell_same _ (u15.heap.size) 2 _ 49 (.slice t15a2 (((addL x1 x0)).2.1.2).length t15p2) y1
            have y3 := heap_setCell_same _ (u15.heap.size) 3 _ 49 (.slice t15a3 (((addL x1 x0)).2.2.1).length t15p3) y2
            have y4 := heap_setCell_same _ (u15.heap.size) 4 _ 49 (.slice t15a4 (((addL x1 x0)).2.2.2.1).length t15p4) y3
            have y5 := heap_setCell_same _ (u15.heap.size) 5 _ 49 (.slice t15a5 (((addL x1 x0)).2.2.2.2.1).length t15p5) y4
            have y6 := heap_setCell_same _ (u15.heap.size) 6 _ 49 (.slice t15a6 (((addL x1 x0)).2.2.2.2.2.1).length t15p6) y5
            have y7 := heap_setCell_same _ (u15.heap.size) 7 _ 49 (.int .i64 ((addL x1 x0)).2.2.2.2.2.2) y6
            exact y7
          clear hws Y0 N0 Y1 N1 Y2 N2 Y3 N3 Y4 N4 Y5 N5 Y6 N6 Y7 N7 XZ
          replace HS := HSE
          clear HSE
          refine hK _ _ HS ?_
          clear hK K
          try simp only [Act.put, List.setIfInBounds_toArray, List.set_cons_zero, List.set_cons_succ]
          refine tree_read (k := 10) (v := ?_) rfl (by kernel_rfl) (fun c a d v w h => by cases d <;> exact h) rfl HS (fun W hW => ?_) ?_
          rotate_left
          · go_simp; try with_reducible rfl
          try simp only [Act.put, List.setIfInBounds_toArray, List.set_cons_zero, List.set_cons_succ]
          refine tree_end (by kernel_rfl) ?_
          generalize (.tuple #[.agg #[.slice t15a0 (((addL x1 x0)).1).length t15p0, .int .i64 ((addL x1 x0)).2.1.1, .slice t15a2 (((addL x1 x0)).2.1.2).length t15p2, .slice t15a3 (((addL x1 x0)).2.2.1).length t15p3, .slice t15a4 (((addL x1 x0)).2.2.2.1).length t15p4, .slice t15a5 (((addL x1 x0)).2.2.2.2.1).length t15p5, .slice t15a6 (((addL x1 x0)).2.2.2.2.2.1).length t15p6, .int .i64 ((addL x1 x0)).2.2.2.2.2.2], .bool ((addLOk x1 x0))] : Value) = g3
          generalize (.agg #[.slice t15a0 (((addL x1 x0)).1).length t15p0, .int .i64 ((addL x1 x0)).2.1.1, .slice t15a2 (((addL x1 x0)).2.1.2).length t15p2, .slice t15a3 (((addL x1 x0)).2.2.1).length t15p3, .slice t15a4 (((addL x1 x0)).2.2.2.1).length t15p4, .slice t15a5 (((addL x1 x0)).2.2.2.2.1).length t15p5, .slice t15a6 (((addL x1 x0)).2.2.2.2.2.1).length t15p6, .int .i64 ((addL x1 x0)).2.2.2.2.2.2] : Value) = g4
          generalize (.agg #[.slice t15_0a0 (x0.1).length t15_0p0, .int .i64 x0.2.1.1, .slice t15_0a2 (x0.2.1.2).length t15_0p2, .slice t15_0a3 (x0.2.2.1).length t15_0p3, .slice t15_0a4 (x0.2.2.2.1).length t15_0p4, .slice t15_0a5 (x0.2.2.2.2.1).length t15_0p5, .slice t15_0a6 (x0.2.2.2.2.2.1).length t15_0p6, .int .i64 x0.2.2.2.2.2.2] : Value) = g1
          generalize (.agg #[.slice t15_1a0 (x1.1).length t15_1p0, .slice t15_1a1 (x1.2.1).length t15_1p1, .slice t15_1a2 (x1.2.2.1).length t15_1p2, .int .i64 x1.2.2.2.1, .int .i64 x1.2.2.2.2] : Value) = g2
          have hbl := (Array.getElem?_eq_some_iff.1 XW).1
          have OE := Rep.own.wide (T := Btw w14.heap.size wE.heap.size) OW (fun j hj => ⟨by have := hj.1; omega, by have := hj.2; omega⟩)
          clear OW
          generalize u15.heap.size = b at hbl XW hlt_ ⊢
          exact CONT b g1 g2 g3 g4 wE ⟨HS, hlt_, hbl, _, XW, OE⟩
        · go_simp
          generalize hwZ : World.alloc u15_1 _ = wZ
          have hlt_ := HS.size
          have XZ : wZ.heap[u15_1.heap.size]? = some (.cells #[.slice none 0 0, .int .i64 0, .slice none 0 0, .slice none 0 0, .slice none 0 0, .slice none 0 0, .slice none 0 0, .int .i64 0] 49 (0, 0)) := (by rw [← hwZ]; exact heap_new_at rfl)
          have hbZ : Below u15_1.heap.size u15_1 wZ := (by rw [← hwZ]; exact (Below.refl _ _).alloc (Nat.le_refl _) _)
          replace O15_0 := O15_0.below hbZ
          replace O15_1 := O15_1.below hbZ
          have hzZ := hbZ.size
          replace HS := HS.trans (hbZ.mono HS.size)
          clear hwZ hbZ
          refine hK _ _ HS ?_
          clear hK K
          try simp only [Act.put, List.setIfInBounds_toArray, List.set_cons_zero, List.set_cons_succ]
          refine tree_one (k := 4) rfl (by kernel_rfl) rfl (fun K hK => ?_)
          go_simp
          refine (implAddLocal_c O15_0.rd O15_1.rd).mono ?_
          rintro e u15 ⟨cs15, rfl, O15, hc⟩
          obtain ⟨t15v0, t15v2, t15v3, t15v4, t15v5, t15v6, rfl, t15_0, t15_1, t15_2, t15_3, t15_4, t15_5, t15_6, t15_7, t15_8⟩ := RNode_raw O15.raw
          obtain ⟨t15a0, t15p0, t15h0, _⟩ := Rep.len_raw t15_0; obtain rfl : t15v0 = _ := (by simpa using t15h0)
          clear t15h0
          obtain ⟨t15a2, t15p2, t15h2, _⟩ := Rep.len_raw t15_3; obtain rfl : t15v2 = _ := (by simpa using t15h2)
          clear t15h2
          obtain ⟨t15a3, t15p3, t15h3, _⟩ := Rep.len_raw t15_4; obtain rfl : t15v3 = _ := (by simpa using t15h3)
          clear t15h3
          obtain ⟨t15a4, t15p4, t15h4, _⟩ := Rep.len_raw t15_5; obtain rfl : t15v4 = _ := (by simpa using t15h4)
          clear t15h4
          obtain ⟨t15a5, t15p5, t15h5, _⟩ := Rep.len_raw t15_6; obtain rfl : t15v5 = _ := (by simpa using t15h5)
          clear t15h5
          obtain ⟨t15a6, t15p6, t15h6, _⟩ := Rep.len_raw t15_7; obtain rfl : t15v6 = _ := (by simpa using t15h6)
          clear t15h6
          clear t15_0 t15_1 t15_2 t15_3 t15_4 t15_5 t15_6 t15_7 t15_8
          have hfl := (Array.getElem?_eq_some_iff.1 XZ).1
          replace XZ := keepBox XZ hc
          have hzr := HS.size
          have hzc := hc.size
          replace HS := HS.trans (hc.mono HS.size)
          refine hK _ _ HS ?_
          clear hK K hc O15_0 O15_1
          try simp only [Act.put, List.setIfInBounds_toArray, List.set_cons_zero, List.set_cons_succ]
          refine tree_read (k := 5) (v := ?_) rfl (by kernel_rfl) (fun c a d v w h => by cases d <;> exact h) rfl HS (fun W hW => ?_) ?_
          rotate_left
          · go_simp; try with_reducible rfl
          try simp only [Act.put, List.setIfInBounds_toArray, List.set_cons_zero, List.set_cons_succ]
          refine tree_read (k := 6) (v := ?_) rfl (by kernel_rfl) (fun c a d v w h => by cases d <;> exact h) rfl HS (fun W hW => ?_) ?_
          rotate_left
          · go_simp; try with_reducible rfl
          try simp only [Act.put, List.setIfInBounds_toArray, List.set_cons_zero, List.set_cons_succ]
          refine tree_read (k := 7) (v := ?_) rfl (by kernel_rfl) (fun c a d v w h => by cases d <;> exact h) rfl HS (fun W hW => ?_) ?_
          rotate_left
          · go_simp; try with_reducible rfl
          try simp only [Act.put, List.setIfInBounds_toArray, List.set_cons_zero, List.set_cons_succ]
          refine tree_one (k := 9) rfl (by kernel_rfl) rfl (fun K hK => ?_)
          have Y0 := boxCell XZ (j := 0) rfl
          have N0 := frozen_of_row u15 u15_1.heap.size 0 _ _ XZ
          have Y1 := boxCell XZ (j := 1) rfl
          have N1 := frozen_of_row u15 u15_1.heap.size 1 _ _ XZ
          have Y2 := boxCell XZ (j := 2) rfl
          have N2 := frozen_of_row u15 u15_1.heap.size 2 _ _ XZ
          have Y3 := boxCell XZ (j := 3) rfl
          have N3 := frozen_of_row u15 u15_1.heap.size 3 _ _ XZ
          have Y4 := boxCell XZ (j := 4) rfl
          have N4 := frozen_of_row u15 u15_1.heap.size 4 _ _ XZ
          have Y5 := boxCell XZ (j := 5) rfl
          have N5 := frozen_of_row u15 u15_1.heap.size 5 _ _ XZ
          have Y6 := boxCell XZ (j := 6) rfl
          have N6 := frozen_of_row u15 u15_1.heap.size 6 _ _ XZ
          have Y7 := boxCell XZ (j := 7) rfl
          have N7 := frozen_of_row u15 u15_1.heap.size 7 _ _ XZ
          go_simp
          have HSE := ((((((((HS.setCell (show w14.heap.size ≤ (⟨u15_1.heap.size, 0, none⟩ : Addr).block from hlt_) (.slice t15a0 (((addL x1 x0)).1).length t15p0)).setCell (show w14.heap.size ≤ (⟨u15_1.heap.size, 1, none⟩ : Addr).block from hlt_) (.int .i64 ((addL x1 x0)).2.1.1)).setCell (show w14.heap.size ≤ (⟨u15_1.heap.size, 2, none⟩ : Addr).block from hlt_) (.slice t15a2 (((addL x1 x0)).2.1.2).length t15p2)).setCell (show w14.heap.size ≤ (⟨u15_1.heap.size, 3, none⟩ : Addr).block from hlt_) (.slice t15a3 (((addL x1 x0)).2.2.1).length t15p3)).setCell (show w14.heap.size ≤ (⟨u15_1.heap.size, 4, none⟩ : Addr).block from hlt_) (.slice t15a4 (((addL x1 x0)).2.2.2.1).length t15p4)).setCell (show w14.heap.size ≤ (⟨u15_1.heap.size, 5, none⟩ : Addr).block from hlt_) (.slice t15a5 (((addL x1 x0)).2.2.2.2.1).length t15p5)).setCell (show w14.heap.size ≤ (⟨u15_1.heap.size, 6, none⟩ : Addr).block from hlt_) (.slice t15a6 (((addL x1 x0)).2.2.2.2.2.1).length t15p6)).setCell (show w14.heap.size ≤ (⟨u15_1.heap.size, 7, none⟩ : Addr).block from hlt_) (.int .i64 ((addL x1 x0)).2.2.2.2.2.2))
          have OW := (Rep.own.setCell (p := ⟨u15_1.heap.size, 7, none⟩) (v := .int .i64 ((addL x1 x0)).2.2.2.2.2.2) (Rep.own.setCell (p := ⟨u15_1.heap.size, 6, none⟩) (v := .slice t15a6 (((addL x1 x0)).2.2.2.2.2.1).length t15p6) (Rep.own.setCell (p := ⟨u15_1.heap.size, 5, none⟩) (v := .slice t15a5 (((addL x1 x0)).2.2.2.2.1).length t15p5) (Rep.own.setCell (p := ⟨u15_1.heap.size, 4, none⟩) (v := .slice t15a4 (((addL x1 x0)).2.2.2.1).length t15p4) (Rep.own.setCell (p := ⟨u15_1.heap.size, 3, none⟩) (v := .slice t15a3 (((addL x1 x0)).2.2.1).length t15p3) (Rep.own.setCell (p := ⟨u15_1.heap.size, 2, none⟩) (v := .slice t15a2 (((addL x1 x0)).2.1.2).length t15p2) (Rep.own.setCell (p := ⟨u15_1.heap.size, 1, none⟩) (v := .int .i64 ((addL x1 x0)).2.1.1) (Rep.own.setCell (p := ⟨u15_1.heap.size, 0, none⟩) (v := .slice t15a0 (((addL x1 x0)).1).length t15p0) O15 (by intro q; have p := q.1; have r := q.2; simp only at p r; omega)) (by intro q; have p := q.1; have r := q.2; simp only at p r; omega)) (by intro q; have p := q.1; have r := q.2; simp only at p r; omega)) (by intro q; have p := q.1; have r := q.2; simp only at p r; omega)) (by intro q; have p := q.1; have r := q.2; simp only at p r; omega)) (by intro q; have p := q.1; have r := q.2; simp only at p r; omega)) (by intro q; have p := q.1; have r := q.2; simp only at p r; omega)) (by intro q; have p := q.1; have r := q.2; simp only at p r; omega))
          have hzE : ((((((((u15.setCell ⟨u15_1.heap.size, 0, none⟩ (.slice t15a0 (((addL x1 x0)).1).length t15p0)).setCell ⟨u15_1.heap.size, 1, none⟩ (.int .i64 ((addL x1 x0)).2.1.1)).setCell ⟨u15_1.heap.size, 2, none⟩ (.slice t15a2 (((addL x1 x0)).2.1.2).length t15p2)).setCell ⟨u15_1.heap.size, 3, none⟩ (.slice t15a3 (((addL x1 x0)).2.2.1).length t15p3)).setCell ⟨u15_1.heap.size, 4, none⟩ (.slice t15a4 (((addL x1 x0)).2.2.2.1).length t15p4)).setCell ⟨u15_1.heap.size, 5, none⟩ (.slice t15a5 (((addL x1 x0)).2.2.2.2.1).length t15p5)).setCell ⟨u15_1.heap.size, 6, none⟩ (.slice t15a6 (((addL x1 x0)).2.2.2.2.2.1).length t15p6)).setCell ⟨u15_1.heap.size, 7, none⟩ (.int .i64 ((addL x1 x0)).2.2.2.2.2.2)).heap.size = u15.heap.size := by simp [World.setCell]
          generalize hws : ((((((((u15.setCell ⟨u15_1.heap.size, 0, none⟩ (.slice t15a0 (((addL x1 x0)).1).length t15p0)).setCell ⟨u15_1.heap.size, 1, none⟩ (.int .i64 ((addL x1 x0)).2.1.1)).setCell ⟨u15_1.heap.size, 2, none⟩ (.slice t15a2 (((addL x1 x0)).2.1.2).length t15p2)).setCell ⟨u15_1.heap.size, 3, none⟩ (.slice t15a3 (((addL x1 x0)).2.2.1).length t15p3)).setCell ⟨u15_1.heap.size, 4, none⟩ (.slice t15a4 (((addL x1 x0)).2.2.2.1).length t15p4)).setCell ⟨u15_1.heap.size, 5, none⟩ (.slice t15a5 (((addL x1 x0)).2.2.2.2.1).length t15p5)).setCell ⟨u15_1.heap.size, 6, none⟩ (.slice t15a6 (((addL x1 x0)).2.2.2.2.2.1).length t15p6)).setCell ⟨u15_1.heap.size, 7, none⟩ (.int .i64 ((addL x1 x0)).2.2.2.2.2.2)) = wE at HSE OW hzE ⊢
          have XW : wE.heap[u15_1.heap.size]? = some (.cells #[.slice t15a0 (((addL x1 x0)).1).length t15p0, .int .i64 ((addL x1 x0)).2.1.1, .slice t15a2 (((addL x1 x0)).2.1.2).length t15p2, .slice t15a3 (((addL x1 x0)).2.2.1).length t15p3, .slice t15a4 (((addL x1 x0)).2.2.2.1).length t15p4, .slice t15a5 (((addL x1 x0)).2.2.2.2.1).length t15p5, .slice t15a6 (((addL x1 x0)).2.2.2.2.2.1).length t15p6, .int .i64 ((addL x1 x0)).2.2.2.2.2.2] 49 (0, 0)) := by
            rw [← hws]
            have y0 := heap_setCell_same _ (u15_1.heap.size) 0 _ 49 (.slice t15a0 (((addL x1 x0)).1).length t15p0) XZ
            have y1 := heap_setCell_same _ (u15_1.heap.size) 1 _ 49 (.int .i64 ((addL x1 x0)).2.1.1) y0
            have y2 := heap_setCell_same _ (u15_1.heap.size) 2 _ 49 (.slice t15a2 (((addL x1 x0)).2.1.2).length t15p2) y1
            have y3 := heap_setCell_same _ (u15_1.heap.size) 3 _ 49 (.slice t15a3 (((addL x1 x0)).2.2.1).length t15p3) y2
            have y4 := heap_setCell_same _ (u15_1.heap.size) 4 _ 49 (.slice t15a4 (((addL x1 x0)).2.2.2.1).length t15p4) y3
            have y5 := heap_setCell_same _ (u15_1.heap.size) 5 _ 49 (.slice t15a5 (((addL x1 x0)).2.2.2.2.1).length t15p5) y4
            have y6 := heap_setCell_same _ (u15_1.heap.size) 6 _ 49 (.slice t15a6 (((addL x1 x0)).2.2.2.2.2.1).length t15p6) y5
            have y7 := heap_setCell_same _ (u15_1.heap.size) 7 _ 49 (.int .i64 ((addL x1 x0)).2.2.2.2.2.2) y6
            exact y7
          clear hws Y0 N0 Y1 N1 Y2 N2 Y3 N3 Y4 N4 Y5 N5 Y6 N6 Y7 N7 XZ
          replace HS := HSE
          clear HSE
          refine hK _ _ HS ?_
          clear hK K
          try simp only [Act.put, List.setIfInBounds_toArray, List.set_cons_zero, List.set_cons_succ]
          refine tree_read (k := 10) (v := ?_) rfl (by kernel_rfl) (fun c a d v w h => by cases d <;> exact h) rfl HS (fun W hW => ?_) ?_
          rotate_left
          · go_simp; try with_reducible rfl
          try simp only [Act.put, List.setIfInBounds_toArray, List.set_cons_zero, List.set_cons_succ]
          refine tree_end (by kernel_rfl) ?_
          generalize (.tuple #[.agg #[.slice t15a0 (((addL x1 x0)).1).length t15p0, .int .i64 ((addL x1 x0)).2.1.1, .slice t15a2 (((addL x1 x0)).2.1.2).length t15p2, .slice t15a3 (((addL x1 x0)).2.2.1).length t15p3, .slice t15a4 (((addL x1 x0)).2.2.2.1).length t15p4, .slice t15a5 (((addL x1 x0)).2.2.2.2.1).length t15p5, .slice t15a6 (((addL x1 x0)).2.2.2.2.2.1).length t15p6, .int .i64 ((addL x1 x0)).2.2.2.2.2.2], .bool ((addLOk x1 x0))] : Value) = g3
          generalize (.agg #[.slice t15a0 (((addL x1 x0)).1).length t15p0, .int .i64 ((addL x1 x0)).2.1.1, .slice t15a2 (((addL x1 x0)).2.1.2).length t15p2, .slice t15a3 (((addL x1 x0)).2.2.1).length t15p3, .slice t15a4 (((addL x1 x0)).2.2.2.1).length t15p4, .slice t15a5 (((addL x1 x0)).2.2.2.2.1).length t15p5, .slice t15a6 (((addL x1 x0)).2.2.2.2.2.1).length t15p6, .int .i64 ((addL x1 x0)).2.2.2.2.2.2] : Value) = g4
          generalize (.agg #[.slice t15_0a0 (x0.1).length t15_0p0, .int .i64 x0.2.1.1, .slice t15_0a2 (x0.2.1.2).length t15_0p2, .slice t15_0a3 (x0.2.2.1).length t15_0p3, .slice t15_0a4 (x0.2.2.2.1).length t15_0p4, .slice t15_0a5 (x0.2.2.2.2.1).length t15_0p5, .slice t15_0a6 (x0.2.2.2.2.2.1).length t15_0p6, .int .i64 x0.2.2.2.2.2.2] : Value) = g1
          generalize (.agg #[.slice t15_1a0 (x1.1).length t15_1p0, .slice t15_1a1 (x1.2.1).length t15_1p1, .slice t15_1a2 (x1.2.2.1).length t15_1p2, .int .i64 x1.2.2.2.1, .int .i64 x1.2.2.2.2] : Value) = g2
          have hbl := (Array.getElem?_eq_some_iff.1 XW).1
          have OE := Rep.own.wide (T := Btw w14.heap.size wE.heap.size) OW (fun j hj => ⟨by have := hj.1; omega, by have := hj.2; omega⟩)
          clear OW
          generalize u15_1.heap.size = b at hbl XW hlt_ ⊢
          exact CONT b g1 g2 g3 g4 wE ⟨HS, hlt_, hbl, _, XW, OE⟩
      · go_simp
        generalize hwZ : World.alloc u15_0 _ = wZ
        have hlt_ := HS.size
        have XZ : wZ.heap[u15_0.heap.size]? = some (.cells #[.slice none 0 0, .int .i64 0, .slice none 0 0, .slice none 0 0, .slice none 0 0, .slice none 0 0, .slice none 0 0, .int .i64 0] 49 (0, 0)) := (by rw [← hwZ]; exact heap_new_at rfl)
        have hbZ : Below u15_0.heap.size u15_0 wZ := (by rw [← hwZ]; exact (Below.refl _ _).alloc (Nat.le_refl _) _)
        replace O15_0 := O15_0.below hbZ
        have hzZ := hbZ.size
        replace HS := HS.trans (hbZ.mono HS.size)
        clear hwZ hbZ
        refine hK _ _ HS ?_
        clear hK K
        try simp only [Act.put, List.setIfInBounds_toArray, List.set_cons_zero, List.set_cons_succ]
        refine tree_one (k := 3) rfl (by kernel_rfl) rfl (fun K hK => ?_)
        go_simp
        refine (toData_c (r1.below (H14.out.trans (HS.mono H14.out.size)))).mono ?_
        rintro e u15_1 ⟨cs15_1, rfl, O15_1, hc⟩
        obtain ⟨t15_1v0, t15_1v1, t15_1v2, rfl, t15_1_0, t15_1_1, t15_1_2, t15_1_3, t15_1_4, t15_1_5, t15_1_6⟩ := RData_raw O15_1.raw
        obtain ⟨t15_1a0, t15_1p0, t15_1h0, _⟩ := Rep.len_raw t15_1_1; obtain rfl : t15_1v0 = _ := (by simpa using t15_1h0)
        clear t15_1h0
        obtain ⟨t15_1a1, t15_1p1, t15_1h1, _⟩ := Rep.len_raw t15_1_2; obtain rfl : t15_1v1 = _ := (by simpa using t15_1h1)
        clear t15_1h1
        obtain ⟨t15_1a2, t15_1p2, t15_1h2, _⟩ := Rep.len_raw t15_1_4; obtain rfl : t15_1v2 = _ := (by simpa using t15_1h2)
        clear t15_1h2
        clear t15_1_0 t15_1_1 t15_1_2 t15_1_3 t15_1_4 t15_1_5 t15_1_6
        replace O15_0 := O15_0.below hc
        replace XZ := keepBox XZ hc
        replace HS := HS.trans (hc.mono HS.size)
        refine hK _ _ HS ?_
        clear hK K hc
        try simp only [Act.put, List.setIfInBounds_toArray, List.set_cons_zero, List.set_cons_succ]
        refine tree_one (k := 4) rfl (by kernel_rfl) rfl (fun K hK => ?_)
        go_simp
        refine (implAddLocal_c O15_0.rd O15_1.rd).mono ?_
        rintro e u15 ⟨cs15, rfl, O15, hc⟩
        obtain ⟨t15v0, t15v2, t15v3, t15v4, t15v5, t15v6, rfl, t15_0, t15_1, t15_2, t15_3, t15_4, t15_5, t15_6, t15_7, t15_8⟩ := RNode_raw O15.raw
        obtain ⟨t15a0, t15p0, t15h0, _⟩ := Rep.len_raw t15_0; obtain rfl : t15v0 = _ := (by simpa using t15h0)
        clear t15h0
        obtain ⟨t15a2, t15p2, t15h2, _⟩ := Rep.len_raw t15_3; obtain rfl : t15v2 = _ := (by simpa using t15h2)
        clear t15h2
        obtain ⟨t15a3, t15p3, t15h3, _⟩ := Rep.len_raw t15_4; obtain rfl : t15v3 = _ := (by simpa using t15h3)
        clear t15h3
        obtain ⟨t15a4, t15p4, t15h4, _⟩ := Rep.len_raw t15_5; obtain rfl : t15v4 = _ := (by simpa using t15h4)
        clear t15h4
        obtain ⟨t15a5, t15p5, t15h5, _⟩ := Rep.len_raw t15_6; obtain rfl : t15v5 = _ := (by simpa using t15h5)
        clear t15h5
        obtain ⟨t15a6, t15p6, t15h6, _⟩ := Rep.len_raw t15_7; obtain rfl : t15v6 = _ := (by simpa using t15h6)
        clear t15h6
        clear t15_0 t15_1 t15_2 t15_3 t15_4 t15_5 t15_6 t15_7 t15_8
        have hfl := (Array.getElem?_eq_some_iff.1 XZ).1
        replace XZ := keepBox XZ hc
        have hzr := HS.size
        have hzc := hc.size
        replace HS := HS.trans (hc.mono HS.size)
        refine hK _ _ HS ?_
        clear hK K hc O15_0 O15_1
        try simp only [Act.put, List.setIfInBounds_toArray, List.set_cons_zero, List.set_cons_succ]
        refine tree_read (k := 5) (v := ?_) rfl (by kernel_rfl) (fun c a d v w h => by cases d <;> exact h) rfl HS (fun W hW => ?_) ?_
        rotate_left
        · go_simp; try with_reducible rfl
        try simp only [Act.put, List.setIfInBounds_toArray, List.set_cons_zero, List.set_cons_succ]
        refine tree_read (k := 6) (v := ?_) rfl (by kernel_rfl) (fun c a d v w h => by cases d <;> exact h) rfl HS (fun W hW => ?_) ?_
        rotate_left
        · go_simp; try with_reducible rfl
        try simp only [Act.put, List.setIfInBounds_toArray, List.set_cons_zero, List.set_cons_succ]
        refine tree_read (k := 7) (v := ?_) rfl (by kernel_rfl) (fun c a d v w h => by cases d <;> exact h) rfl HS (fun W hW => ?_) ?_
        rotate_left
        · go_simp; try with_reducible rfl
        try simp only [Act.put, List.setIfInBounds_toArray, List.set_cons_zero, List.set_cons_succ]
        refine tree_one (k := 9) rfl (by kernel_rfl) rfl (fun K hK => ?_)
        have Y0 := boxCell XZ (j := 0) rfl
        have N0 := frozen_of_row u15 u15_0.heap.size 0 _ _ XZ
        have Y1 := boxCell XZ (j := 1) rfl
        have N1 := frozen_of_row u15 u15_0.heap.size 1 _ _ XZ
        have Y2 := boxCell XZ (j := 2) rfl
        have N2 := frozen_of_row u15 u15_0.heap.size 2 _ _ XZ
        have Y3 := boxCell XZ (j := 3) rfl
        have N3 := frozen_of_row u15 u15_0.heap.size 3 _ _ XZ
        have Y4 := boxCell XZ (j := 4) rfl
        have N4 := frozen_of_row u15 u15_0.heap.size 4 _ _ XZ
        have Y5 := boxCell XZ (j := 5) rfl
        have N5 := frozen_of_row u15 u15_0.heap.size 5 _ _ XZ
        have Y6 := boxCell XZ (j := 6) rfl
        have N6 := frozen_of_row u15 u15_0.heap.size 6 _ _ XZ
        have Y7 := boxCell XZ (j := 7) rfl
        have N7 := frozen_of_row u15 u15_0.heap.size 7 _ _ XZ
        go_simp
        have HSE := ((((((((HS.setCell (show w14.heap.size ≤ (⟨u15_0.heap.size, 0, none⟩ : Addr).block from hlt_) (.slice t15a0 (((addL x1 x0)).1).length t15p0)).setCell (show w14.heap.size ≤ (⟨u15_0.heap.size, 1, none⟩ : Addr).block from hlt_) (.int .i64 ((addL x1 x0)).2.1.1)).setCell (show w14.heap.size ≤ (⟨u15_0.heap.size, 2, none⟩ : Addr).block from hlt_) (.slice t15a2 (((addL x1 x0)).2.1.2).length t15p2)).setCell (show w14.heap.size ≤ (⟨u15_0.heap.size, 3, none⟩ : Addr).block from hlt_) (.slice t15a3 (((addL x1 x0)).2.2.1).length t15p3)).setCell (show w14.heap.size ≤ (⟨u15_0.heap.size, 4, none⟩ : Addr).block from hlt_) (.slice t15a4 (((addL x1 x0)).2.2.2.1).length t15p4)).setCell (show w14.heap.size ≤ (⟨u15_0.heap.size, 5, none⟩ : Addr).block from hlt_) (.slice t15a5 (((addL x1 x0)).2.2.2.2.1).length t15p5)).setCell (show w14.heap.size ≤ (⟨u15_0.heap.size, 6, none⟩ : Addr).block from hlt_) (.slice t15a6 (((addL x1 x0)).2.2.2.2.2.1).length t15p6)).setCell (show w14.heap.size ≤ (⟨u15_0.heap.size, 7, none⟩ : Addr).block from hlt_) (.int .i64 ((addL x1 x0)).2.2.2.2.2.2))
        have OW := (Rep.own.setCell (p := ⟨u15_0.heap.size, 7, none⟩) (v := .int .i64 ((addL x1 x0)).2.2.2.2.2.2) (Rep.own.setCell (p := ⟨u15_0.heap.size, 6, none⟩) (v := .slice t15a6 (((addL x1 x0)).2.2.2.2.2.1).length t15p6) (Rep.own.setCell (p := ⟨u15_0.heap.size, 5, none⟩) (v := .slice t15a5 (((addL x1 x0)).2.2.2.2.1).length t15p5) (Rep.own.setCell (p := ⟨u15_0.heap.size, 4, none⟩) (v := .slice t15a4 (((addL x1 x0)).2.2.2.1).length t15p4) (Rep.own.setCell (p := ⟨u15_0.heap.size, 3, none⟩) (v := .slice t15a3 (((addL x1 x0)).2.2.1).length t15p3) (Rep.own.setCell (p := ⟨u15_0.heap.size, 2, none⟩) (v := .slice t15a2 (((addL x1 x0)).2.1.2).length t15p2) (Rep.own.setCell (p := ⟨u15_0.heap.size, 1, none⟩) (v := .int .i64 ((addL x1 x0)).2.1.1) (Rep.own.setCell (p := ⟨u15_0.heap.size, 0, none⟩) (v := .slice t15a0 (((addL x1 x0)).1).length t15p0) O15 (by intro q; have p := q.1; have r := q.2; simp only at p r; omega)) (by intro q; have p := q.1; have r := q.2; simp only at p r; omega)) (by intro q; have p := q.1; have r := q.2; simp only at p r; omega)) (by intro q; have p := q.1; have r := q.2; simp only at p r; omega)) (by intro q; have p := q.1; have r := q.2; simp only at p r; omega)) (by intro q; have p := q.1; have r := q.2; simp only at p r; omega)) (by intro q; have p := q.1; have r := q.2; simp only at p r; omega)) (by intro q; have p := q.1; have r := q.2; simp only at p r; omega))
        have hzE : ((((((((u15.setCell ⟨u15_0.heap.size, 0, none⟩ (.slice t15a0 (((addL x1 x0)).1).length t15p0)).setCell ⟨u15_0.heap.size, 1, none⟩ (.int .i64 ((addL x1 x0)).2.1.1)).setCell ⟨u15_0.heap.size, 2, none⟩ (.slice t15a2 (((addL x1 x0)).2.1.2).length t15p2)).setCell ⟨u15_0.heap.size, 3, none⟩ (.slice t15a3 (((addL x1 x0)).2.2.1).length t15p3)).setCell ⟨u15_0.heap.size, 4, none⟩ (.slice t15a4 (((addL x1 x0)).2.2.2.1).length t15p4)).setCell ⟨u15_0.heap.size, 5, none⟩ (.slice t15a5 (((addL x1 x0)).2.2.2.2.1).length t15p5)).setCell ⟨u15_0.heap.size, 6, none⟩ (.slice t15a6 (((addL x1 x0)).2.2.2.2.2.1).length t15p6)).setCell ⟨u15_0.heap.size, 7, none⟩ (.int .i64 ((addL x1 x0)).2.2.2.2.2.2)).heap.size = u15.heap.size := by simp [World.setCell]
        generalize hws : ((((((((u15.setCell ⟨u15_0.heap.size, 0, none⟩ (.slice t15a0 (((addL x1 x0)).1).length t15p0)).setCell ⟨u15_0.heap.size, 1, none⟩ (.int .i64 ((addL x1 x0)).2.1.1)).setCell ⟨u15_0.heap.size, 2, none⟩ (.slice t15a2 (((addL x1 x0)).2.1.2).length t15p2)).setCell ⟨u15_0.heap.size, 3, none⟩ (.slice t15a3 (((addL x1 x0)).2.2.1).length t15p3)).setCell ⟨u15_0.heap.size, 4, none⟩ (.slice t15a4 (((addL x1 x0)).2.2.2.1).length t15p4)).setCell ⟨u15_0.heap.size, 5, none⟩ (.slice t15a5 (((addL x1 x0)).2.2.2.2.1).length t15p5)).setCell ⟨u15_0.heap.size, 6, none⟩ (.slice t15a6 (((addL x1 x0)).2.2.2.2.2.1).length t15p6)).setCell ⟨u15_0.heap.size, 7, none⟩ (.int .i64 ((addL x1 x0)).2.2.2.2.2.2)) = wE at HSE OW hzE ⊢
        have XW : wE.heap[u15_0.heap.size]? = some (.cells #[.slice t15a0 (((addL x1 x0)).1).length t15p0, .int .i64 ((addL x1 x0)).2.1.1, .slice t15a2 (((addL x1 x0)).2.1.2).length t15p2, .slice t15a3 (((addL x1 x0)).2.2.1).length t15p3, .slice t15a4 (((addL x1 x0)).2.2.2.1).length t15p4, .slice t15a5 (((addL x1 x0)).2.2.2.2.1).length t15p5, .slice t15a6 (((addL x1 x0)).2.2.2.2.2.1).length t15p6, .int .i64 ((addL x1 x0)).2.2.2.2.2.2] 49 (0, 0)) := by
          rw [← hws]
          have y0 := heap_setCell_same _ (u15_0.heap.size) 0 _ 49 (.slice t15a0 (((addL x1 x0)).1).length t15p0) XZ
          have y1 := heap_setCell_same _ (u15_0.heap.size) 1 _ 49 (.int .i64 ((addL x1 x0)).2.1.1) y0
          have y2 := heap_setCell_same _ (u15_0.heap.size) 2 _ 49 (.slice t15a2 (((addL x1 x0)).2.1.2).length t15p2) y1
          have y3 := heap_setCell_same _ (u15_0.heap.size) 3 _ 49 (.slice t15a3 (((addL x1 x0)).2.2.1).length t15p3) y2
          have y4 := heap_setCell_same _ (u15_0.heap.size) 4 _ 49 (.slice t15a4 (((addL x1 x0)).2.2.2.1).length t15p4) y3
          have y5 := heap_setCell_same _ (u15_0.heap.size) 5 _ 49 (.slice t15a5 (((addL x1 x0)).2.2.2.2.1).length t15p5) y4
          have y6 := heap_setCell_same _ (u15_0.heap.size) 6 _ 49 (.slice t15a6 (((addL x1 x0)).2.2.2.2.2.1).length t15p6) y5
          have y7 := heap_setCell_same _ (u15_0.heap.size) 7 _ 49 (.int .i64 ((addL x1 x0)).2.2.2.2.2.2) y6
          exact y7
        clear hws Y0 N0 Y1 N1 Y2 N2 Y3 N3 Y4 N4 Y5 N5 Y6 N6 Y7 N7 XZ
        replace HS := HSE
        clear HSE
        refine hK _ _ HS ?_
        clear hK K
        try simp only [Act.put, List.setIfInBounds_toArray, List.set_cons_zero, List.set_cons_succ]
        refine tree_read (k := 10) (v := ?_) rfl (by kernel_rfl) (fun c a d v w h => by cases d <;> exact h) rfl HS (fun W hW => ?_) ?_
        rotate_left
        · go_simp; try with_reducible rfl
        try simp only [Act.put, List.setIfInBounds_toArray, List.set_cons_zero, List.set_cons_succ]
        refine tree_end (by kernel_rfl) ?_
        generalize (.tuple #[.agg #[.slice t15a0 (((addL x1 x0)).1).length t15p0, .int .i64 ((addL x1 x0)).2.1.1, .slice t15a2 (((addL x1 x0)).2.1.2).length t15p2, .slice t15a3 (((addL x1 x0)).2.2.1).length t15p3, .slice t15a4 (((addL x1 x0)).2.2.2.1).length t15p4, .slice t15a5 (((addL x1 x0)).2.2.2.2.1).length t15p5, .slice t15a6 (((addL x1 x0)).2.2.2.2.2.1).length t15p6, .int .i64 ((addL x1 x0)).2.2.2.2.2.2], .bool ((addLOk x1 x0))] : Value) = g3
        generalize (.agg #[.slice t15a0 (((addL x1 x0)).1).length t15p0, .int .i64 ((addL x1 x0)).2.1.1, .slice t15a2 (((addL x1 x0)).2.1.2).length t15p2, .slice t15a3 (((addL x1 x0)).2.2.1).length t15p3, .slice t15a4 (((addL x1 x0)).2.2.2.1).length t15p4, .slice t15a5 (((addL x1 x0)).2.2.2.2.1).length t15p5, .slice t15a6 (((addL x1 x0)).2.2.2.2.2.1).length t15p6, .int .i64 ((addL x1 x0)).2.2.2.2.2.2] : Value) = g4
        generalize (.agg #[.slice t15_0a0 (x0.1).length t15_0p0, .int .i64 x0.2.1.1, .slice t15_0a2 (x0.2.1.2).length t15_0p2, .slice t15_0a3 (x0.2.2.1).length t15_0p3, .slice t15_0a4 (x0.2.2.2.1).length t15_0p4, .slice t15_0a5 (x0.2.2.2.2.1).length t15_0p5, .slice t15_0a6 (x0.2.2.2.2.2.1).length t15_0p6, .int .i64 x0.2.2.2.2.2.2] : Value) = g1
        generalize (.agg #[.slice t15_1a0 (x1.1).length t15_1p0, .slice t15_1a1 (x1.2.1).length t15_1p1, .slice t15_1a2 (x1.2.2.1).length t15_1p2, .int .i64 x1.2.2.2.1, .int .i64 x1.2.2.2.2] : Value) = g2
        have hbl := (Array.getElem?_eq_some_iff.1 XW).1
        have OE := Rep.own.wide (T := Btw w14.heap.size wE.heap.size) OW (fun j hj => ⟨by have := hj.1; omega, by have := hj.2; omega⟩)
        clear OW
        generalize u15_0.heap.size = b at hbl XW hlt_ ⊢
        exact CONT b g1 g2 g3 g4 wE ⟨HS, hlt_, hbl, _, XW, OE⟩
    · go_simp
      generalize hwZ : World.alloc wS _ = wZ
      have hlt_ := HS.size
      have XZ : wZ.heap[wS.heap.size]? = some (.cells #[.slice none 0 0, .int .i64 0, .slice none 0 0, .slice none 0 0, .slice none 0 0, .slice none 0 0, .slice none 0 0, .int .i64 0] 49 (0, 0)) := (by rw [← hwZ]; exact heap_new_at rfl)
      have hbZ : Below wS.heap.size wS wZ := (by rw [← hwZ]; exact (Below.refl _ _).alloc (Nat.le_refl _) _)
      have hzZ := hbZ.size
      replace HS := HS.trans (hbZ.mono HS.size)
      clear hwZ hbZ
      refine hK _ _ HS ?_
      clear hK K
      try simp only [Act.put, List.setIfInBounds_toArray, List.set_cons_zero, List.set_cons_succ]
      refine tree_one (k := 1) rfl (by kernel_rfl) rfl (fun K hK => ?_)
      go_simp
      refine (toNode_c (r0.below (H14.out.trans (HS.mono H14.out.size)))).mono ?_
      rintro e u15_0 ⟨cs15_0, rfl, O15_0, hc⟩
      obtain ⟨t15_0v0, t15_0v2, t15_0v3, t15_0v4, t15_0v5, t15_0v6, rfl, t15_0_0, t15_0_1, t15_0_2, t15_0_3, t15_0_4, t15_0_5, t15_0_6, t15_0_7, t15_0_8⟩ := RNode_raw O15_0.raw
      obtain ⟨t15_0a0, t15_0p0, t15_0h0, _⟩ := Rep.len_raw t15_0_0; obtain rfl : t15_0v0 = _ := (by simpa using t15_0h0)
      clear t15_0h0
      obtain ⟨t15_0a2, t15_0p2, t15_0h2, _⟩ := Rep.len_raw t15_0_3; obtain rfl : t15_0v2 = _ := (by simpa using t15_0h2)
      clear t15_0h2
      obtain ⟨t15_0a3, t15_0p3, t15_0h3, _⟩ := Rep.len_raw t15_0_4; obtain rfl : t15_0v3 = _ := (by simpa using t15_0h3)
      clear t15_0h3
      obtain ⟨t15_0a4, t15_0p4, t15_0h4, _⟩ := Rep.len_raw t15_0_5; obtain rfl : t15_0v4 = _ := (by simpa using t15_0h4)
      clear t15_0h4
      obtain ⟨t15_0a5, t15_0p5, t15_0h5, _⟩ := Rep.len_raw t15_0_6; obtain rfl : t15_0v5 = _ := (by simpa using t15_0h5)
      clear t15_0h5
      obtain ⟨t15_0a6, t15_0p6, t15_0h6, _⟩ := Rep.len_raw t15_0_7; obtain rfl : t15_0v6 = _ := (by simpa using t15_0h6)
      clear t15_0h6
      clear t15_0_0 t15_0_1 t15_0_2 t15_0_3 t15_0_4 t15_0_5 t15_0_6 t15_0_7 t15_0_8
      replace XZ := keepBox XZ hc
      replace HS := HS.trans (hc.mono HS.size)
      refine hK _ _ HS ?_
      clear hK K hc
      try simp only [Act.put, List.setIfInBounds_toArray, List.set_cons_zero, List.set_cons_succ]
      refine tree_one (k := 3) rfl (by kernel_rfl) rfl (fun K hK => ?_)
      go_simp
      refine (toData_c (r1.below (H14.out.trans (HS.mono H14.out.size)))).mono ?_
      rintro e u15_1 ⟨cs15_1, rfl, O15_1, hc⟩
      obtain ⟨t15_1v0, t15_1v1, t15_1v2, rfl, t15_1_0, t15_1_1, t15_1_2, t15_1_3, t15_1_4, t15_1_5, t15_1_6⟩ := RData_raw O15_1.raw
      obtain ⟨t15_1a0, t15_1p0, t15_1h0, _⟩ := Rep.len_raw t15_1_1; obtain rfl : t15_1v0 = _ := (by simpa using t15_1h0)
      clear t15_1h0
      obtain ⟨t15_1a1, t15_1p1, t15_1h1, _⟩ := Rep.len_raw t15_1_2; obtain rfl : t15_1v1 = _ := (by simpa using t15_1h1)
      clear t15_1h1
      obtain ⟨t15_1a2, t15_1p2, t15_1h2, _⟩ := Rep.len_raw t15_1_4; obtain rfl : t15_1v2 = _ := (by simpa using t15_1h2)
      clear t15_1h2
      clear t15_1_0 t15_1_1 t15_1_2 t15_1_3 t15_1_4 t15_1_5 t15_1_6
      replace O15_0 := O15_0.below hc
      replace XZ := keepBox XZ hc
      replace HS := HS.trans (hc.mono HS.size)
      refine hK _ _ HS ?_
      clear hK K hc
      try simp only [Act.put, List.setIfInBounds_toArray, List.set_cons_zero, List.set_cons_succ]
      refine tree_one (k := 4) rfl (by kernel_rfl) rfl (fun K hK => ?_)
      go_simp
      refine (implAddLocal_c O15_0.rd O15_1.rd).mono ?_
      rintro e u15 ⟨cs15, rfl, O15, hc⟩
      obtain ⟨t15v0, t15v2, t15v3, t15v4, t15v5, t15v6, rfl, t15_0, t15_1, t15_2, t15_3, t15_4, t15_5, t15_6, t15_7, t15_8⟩ := RNode_raw O15.raw
      obtain ⟨t15a0, t15p0, t15h0, _⟩ := Rep.len_raw t15_0; obtain rfl : t15v0 = _ := (by simpa using t15h0)
      clear t15h0
      obtain ⟨t15a2, t15p2, t15h2, _⟩ := Rep.len_raw t15_3; obtain rfl : t15v2 = _ := (by simpa using t15h2)
      clear t15h2
      obtain ⟨t15a3, t15p3, t15h3, _⟩ := Rep.len_raw t15_4; obtain rfl : t15v3 = _ := (by simpa using t15h3)
      clear t15h3
      obtain ⟨t15a4, t15p4, t15h4, _⟩ := Rep.len_raw t15_5; obtain rfl : t15v4 = _ := (by simpa using t15h4)
      clear t15h4
      obtain ⟨t15a5, t15p5, t15h5, _⟩ := Rep.len_raw t15_6; obtain rfl : t15v5 = _ := (by simpa using t15h5)
      clear t15h5
      obtain ⟨t15a6, t15p6, t15h6, _⟩ := Rep.len_raw t15_7; obtain rfl : t15v6 = _ := (by simpa using t15h6)
      clear t15h6
      clear t15_0 t15_1 t15_2 t15_3 t15_4 t15_5 t15_6 t15_7 t15_8
      have hfl := (Array.getElem?_eq_some_iff.1 XZ).1
      replace XZ := keepBox XZ hc
      have hzr := HS.size
      have hzc := hc.size
      replace HS := HS.trans (hc.mono HS.size)
      refine hK _ _ HS ?_
      clear hK K hc O15_0 O15_1
      try simp only [Act.put, List.setIfInBounds_toArray, List.set_cons_zero, List.set_cons_succ]
      refine tree_read (k := 5) (v := ?_) rfl (by kernel_rfl) (fun c a d v w h => by cases d <;> exact h) rfl HS (fun W hW => ?_) ?_
      rotate_left
      · go_simp; try with_reducible rfl
      try simp only [Act.put, List.setIfInBounds_toArray, List.set_cons_zero, List.set_cons_succ]
      refine tree_read (k := 6) (v := ?_) rfl (by kernel_rfl) (fun c a d v w h => by cases d <;> exact h) rfl HS (fun W hW => ?_) ?_
      rotate_left
      · go_simp; try with_reducible rfl
      try simp only [Act.put, List.setIfInBounds_toArray, List.set_cons_zero, List.set_cons_succ]
      refine tree_read (k := 7) (v := ?_) rfl (by kernel_rfl) (fun c a d v w h => by cases d <;> exact h) rfl HS (fun W hW => ?_) ?_
      rotate_left
      · go_simp; try with_reducible rfl
      try simp only [Act.put, List.setIfInBounds_toArray, List.set_cons_zero, List.set_cons_succ]
      refine tree_one (k := 9) rfl (by kernel_rfl) rfl (fun K hK => ?_)
      have Y0 := boxCell XZ (j := 0) rfl
      have N0 := frozen_of_row u15 wS.heap.size 0 _ _ XZ
      have Y1 := boxCell XZ (j := 1) rfl
      have N1 := frozen_of_row u15 wS.heap.size 1 _ _ XZ
      have Y2 := boxCell XZ (j := 2) rfl
      have N2 := frozen_of_row u15 wS.heap.size 2 _ _ XZ
      have Y3 := boxCell XZ (j := 3) rfl
      have N3 := frozen_of_row u15 wS.heap.size 3 _ _ XZ
      have Y4 := boxCell XZ (j := 4) rfl
      have N4 := frozen_of_row u15 wS.heap.size 4 _ _ XZ
      have Y5 := boxCell XZ (j := 5) rfl
      have N5 := frozen_of_row u15 wS.heap.size 5 _ _ XZ
      have Y6 := boxCell XZ (j := 6) rfl
      have N6 := frozen_of_row u15 wS.heap.size 6 _ _ XZ
      have Y7 := boxCell XZ (j := 7) rfl
      have N7 := frozen_of_row u15 wS.heap.size 7 _ _ XZ
      go_simp
      have HSE := ((((((((HS.setCell (show w14.heap.size ≤ (⟨wS.heap.size, 0, none⟩ : Addr).block from hlt_) (.slice t15a0 (((addL x1 x0)).1).length t15p0)).setCell (show w14.heap.size ≤ (⟨wS.heap.size, 1, none⟩ : Addr).block from hlt_) (.int .i64 ((addL x1 x0)).2.1.1)).setCell (show w14.heap.size ≤ (⟨wS.heap.size, 2, none⟩ : Addr).block from hlt_) (.slice t15a2 (((addL x1 x0)).2.1.2).length t15p2)).setCell (show w14.heap.size ≤ (⟨wS.heap.size, 3, none⟩ : Addr).block from hlt_) (.slice t15a3 (((addL x1 x0)).2.2.1).length t15p3)).setCell (show w14.heap.size ≤ (⟨wS.heap.size, 4, none⟩ : Addr).block from hlt_) (.slice t15a4 (((addL x1 x0)).2.2.2.1).length t15p4)).setCell (show w14.heap.size ≤ (⟨wS.heap.size, 5, none⟩ : Addr).block from hlt_) (.slice t15a5 (((addL x1 x0)).2.2.2.2.1).length t15p5)).setCell (show w14.heap.size ≤ (⟨wS.heap.size, 6, none⟩ : Addr).block from hlt_) (.slice t15a6 (((addL x1 x0)).2.2.2.2.2.1).length t15p6)).setCell (show w14.heap.size ≤ (⟨wS.heap.size, 7, none⟩ : Addr).block from hlt_) (.int .i64 ((addL x1 x0)).2.2.2.2.2.2))
      have OW := (Rep.own.setCell (p := ⟨wS.heap.size, 7, none⟩) (v := .int .i64 ((addL x1 x0)).2.2.2.2.2.2) (Rep.own.setCell (p := ⟨wS.heap.size, 6, none⟩) (v := .slice t15a6 (((addL x1 x0)).2.2.2.2.2.1).length t15p6) (Rep.own.setCell (p := ⟨wS.heap.size, 5, none⟩) (v := .slice t15a5 (((addL x1 x0)).2.2.2.2.1).length t15p5) (Rep.own.setCell (p := ⟨wS.heap.size, 4, none⟩) (v := .slice t15a4 (((addL x1 x0)).2.2.2.1).length t15p4) (Rep.own.setCell (p := ⟨wS.heap.size, 3, none⟩) (v := .slice t15a3 (((addL x1 x0)).2.2.1).length t15p3) (Rep.own.setCell (p := ⟨wS.heap.size, 2, none⟩) (v := .slice t15a2 (((addL x1 x0)).2.1.2).length t15p2) (Rep.own.setCell (p := ⟨wS.heap.size, 1, none⟩) (v := .int .i64 ((addL x1 x0)).2.1.1) (Rep.own.setCell (p := ⟨wS.heap.size, 0, none⟩) (v := .slice t15a0 (((addL x1 x0)).1).length t15p0) O15 (by intro q; have p := q.1; have r := q.2; simp only at p r; omega)) (by intro q; have p := q.1; have r := q.2; simp only at p r; omega)) (by intro q; have p := q.1; have r := q.2; simp only at p r; omega)) (by intro q; have p := q.1; have r := q.2; simp only at p r; omega)) (by intro q; have p := q.1; have r := q.2; simp only at p r; omega)) (by intro q; have p := q.1; have r := q.2; simp only at p r; omega)) (by intro q; have p := q.1; have r := q.2; simp only at p r; omega)) (by intro q; have p := q.1; have r := q.2; simp only at p r; omega))
      have hzE : ((((((((u15.setCell ⟨wS.heap.size, 0, none⟩ (.slice t15a0 (((addL x1 x0)).1).length t15p0)).setCell ⟨wS.heap.size, 1, none⟩ (.int .i64 ((addL x1 x0)).2.1.1)).setCell ⟨wS.heap.size, 2, none⟩ (.slice t15a2 (((addL x1 x0)).2.1.2).length t15p2)).setCell ⟨wS.heap.size, 3, none⟩ (.slice t15a3 (((addL x1 x0)).2.2.1).length t15p3)).setCell ⟨wS.heap.size, 4, none⟩ (.slice t15a4 (((addL x1 x0)).2.2.2.1).length t15p4)).setCell ⟨wS.heap.size, 5, none⟩ (.slice t15a5 (((addL x1 x0)).2.2.2.2.1).length t15p5)).setCell ⟨wS.heap.size, 6, none⟩ (.slice t15a6 (((addL x1 x0)).2.2.2.2.2.1).length t15p6)).setCell ⟨wS.heap.size, 7, none⟩ (.int .i64 ((addL x1 x0)).2.2.2.2.2.2)).heap.size = u15.heap.size := by simp [World.setCell]
      generalize hws : ((((((((u15.setCell ⟨wS.heap.size, 0, none⟩ (.slice t15a0 (((addL x1 x0)).1).length t15p0)).setCell ⟨wS.heap.size, 1, none⟩ (.int .i64 ((addL x1 x0)).2.1.1)).setCell ⟨wS.heap.size, 2, none⟩ (.slice t15a2 (((addL x1 x0)).2.1.2).length t15p2)).setCell ⟨wS.heap.size, 3, none⟩ (.slice t15a3 (((addL x1 x0)).2.2.1).length t15p3)).setCell ⟨wS.heap.size, 4, none⟩ (.slice t15a4 (((addL x1 x0)).2.2.2.1).length t15p4)).setCell ⟨wS.heap.size, 5, none⟩ (.slice t15a5 (((addL x1 x0)).2.2.2.2.1).length t15p5)).setCell ⟨wS.heap.size, 6, none⟩ (.slice t15a6 (((addL x1 x0)).2.2.2.2.2.1).length t15p6)).setCell ⟨wS.heap.size, 7, none⟩ (.int .i64 ((addL x1 x0)).2.2.2.2.2.2)) = wE at HSE OW hzE ⊢
      have XW : wE.heap[wS.heap.size]? = some (.cells #[.slice t15a0 (((addL x1 x0)).1).length t15p0, .int .i64 ((addL x1 x0)).2.1.1, .slice t15a2 (((addL x1 x0)).2.1.2).length t15p2, .slice t15a3 (((addL x1 x0)).2.2.1).length t15p3, .slice t15a4 (((addL x1 x0)).2.2.2.1).length t15p4, .slice t15a5 (((addL x1 x0)).2.2.2.2.1).length t15p5, .slice t15a6 (((addL x1 x0)).2.2.2.2.2.1).length t15p6, .int .i64 ((addL x1 x0)).2.2.2.2.2.2] 49 (0, 0)) := by
        rw [← hws]
        have y0 := heap_setCell_same _ (wS.heap.size) 0 _ 49 (.slice t15a0 (((addL x1 x0)).1).length t15p0) XZ
        have y1 := heap_setCell_same _ (wS.heap.size) 1 _ 49 (.int .i64 ((addL x1 x0)).2.1.1) y0
        have y2 := heap_setCell_same _ (wS.heap.size) 2 _ 49 (.slice t15a2 (((addL x1 x0)).2.1.2).length t15p2) y1
        have y3 := heap_setCell_same _ (wS.heap.size) 3 _ 49 (.slice t15a3 (((addL x1 x0)).2.2.1).length t15p3) y2
        have y4 := heap_setCell_same _ (wS.heap.size) 4 _ 49 (.slice t15a4 (((addL x1 x0)).2.2.2.1).length t15p4) y3
        have y5 := heap_setCell_same _ (wS.heap.size) 5 _ 49 (.slice t15a5 (((addL x1 x0)).2.2.2.2.1).length t15p5) y4
        have y6 := heap_setCell_same _ (wS.heap.size) 6 _ 49 (.slice t15a6 (((addL x1 x0)).2.2.2.2.2.1).length t15p6) y5
        have y7 := heap_setCell_same _ (wS.heap.size) 7 _ 49 (.int .i64 ((addL x1 x0)).2.2.2.2.2.2) y6
        exact y7
      clear hws Y0 N0 Y1 N1 Y2 N2 Y3 N3 Y4 N4 Y5 N5 Y6 N6 Y7 N7 XZ
      replace HS := HSE
      clear HSE
      refine hK _ _ HS ?_
      clear hK K
      try simp only [Act.put, List.setIfInBounds_toArray, List.set_cons_zero, List.set_cons_succ]
      refine tree_read (k := 10) (v := ?_) rfl (by kernel_rfl) (fun c a d v w h => by cases d <;> exact h) rfl HS (fun W hW => ?_) ?_
      rotate_left
      · go_simp; try with_reducible rfl
      try simp only [Act.put, List.setIfInBounds_toArray, List.set_cons_zero, List.set_cons_succ]
      refine tree_end (by kernel_rfl) ?_
      generalize (.tuple #[.agg #[.slice t15a0 (((addL x1 x0)).1).length t15p0, .int .i64 ((addL x1 x0)).2.1.1, .slice t15a2 (((addL x1 x0)).2.1.2).length t15p2, .slice t15a3 (((addL x1 x0)).2.2.1).length t15p3, .slice t15a4 (((addL x1 x0)).2.2.2.1).length t15p4, .slice t15a5 (((addL x1 x0)).2.2.2.2.1).length t15p5, .slice t15a6 (((addL x1 x0)).2.2.2.2.2.1).length t15p6, .int .i64 ((addL x1 x0)).2.2.2.2.2.2], .bool ((addLOk x1 x0))] : Value) = g3
      generalize (.agg #[.slice t15a0 (((addL x1 x0)).1).length t15p0, .int .i64 ((addL x1 x0)).2.1.1, .slice t15a2 (((addL x1 x0)).2.1.2).length t15p2, .slice t15a3 (((addL x1 x0)).2.2.1).length t15p3, .slice t15a4 (((addL x1 x0)).2.2.2.1).length t15p4, .slice t15a5 (((addL x1 x0)).2.2.2.2.1).length t15p5, .slice t15a6 (((addL x1 x0)).2.2.2.2.2.1).length t15p6, .int .i64 ((addL x1 x0)).2.2.2.2.2.2] : Value) = g4
      generalize (.agg #[.slice t15_0a0 (x0.1).length t15_0p0, .int .i64 x0.2.1.1, .slice t15_0a2 (x0.2.1.2).length t15_0p2, .slice t15_0a3 (x0.2.2.1).length t15_0p3, .slice t15_0a4 (x0.2.2.2.1).length t15_0p4, .slice t15_0a5 (x0.2.2.2.2.1).length t15_0p5, .slice t15_0a6 (x0.2.2.2.2.2.1).length t15_0p6, .int .i64 x0.2.2.2.2.2.2] : Value) = g1
      generalize (.agg #[.slice t15_1a0 (x1.1).length t15_1p0, .slice t15_1a1 (x1.2.1).length t15_1p1, .slice t15_1a2 (x1.2.2.1).length t15_1p2, .int .i64 x1.2.2.2.1, .int .i64 x1.2.2.2.2] : Value) = g2
      have hbl := (Array.getElem?_eq_some_iff.1 XW).1
      have OE := Rep.own.wide (T := Btw w14.heap.size wE.heap.size) OW (fun j hj => ⟨by have := hj.1; omega, by have := hj.2; omega⟩)
      clear OW
      generalize wS.heap.size = b at hbl XW hlt_ ⊢
      exact CONT b g1 g2 g3 g4 wE ⟨HS, hlt_, hbl, _, XW, OE⟩
  intro bx15 g15_1 g15_2 g15_3 g15_4 w15 ⟨HS, hb15_1, hb15_2, cs15, XB15, O15⟩
  obtain ⟨t15v0, t15v2, t15v3, t15v4, t15v5, t15v6, rfl, t15_0, t15_1, t15_2, t15_3, t15_4, t15_5, t15_6, t15_7, t15_8⟩ := RNode_raw O15.raw
  obtain ⟨t15a0, t15p0, t15h0, _⟩ := Rep.len_raw t15_0; obtain rfl : t15v0 = _ := (by simpa using t15h0)
  clear t15h0
  obtain ⟨t15a2, t15p2, t15h2, _⟩ := Rep.len_raw t15_3; obtain rfl : t15v2 = _ := (by simpa using t15h2)
  clear t15h2
  obtain ⟨t15a3, t15p3, t15h3, _⟩ := Rep.len_raw t15_4; obtain rfl : t15v3 = _ := (by simpa using t15h3)
  clear t15h3
  obtain ⟨t15a4, t15p4, t15h4, _⟩ := Rep.len_raw t15_5; obtain rfl : t15v4 = _ := (by simpa using t15h4)
  clear t15h4
  obtain ⟨t15a5, t15p5, t15h5, _⟩ := Rep.len_raw t15_6; obtain rfl : t15v5 = _ := (by simpa using t15h5)
  clear t15h5
  obtain ⟨t15a6, t15p6, t15h6, _⟩ := Rep.len_raw t15_7; obtain rfl : t15v6 = _ := (by simpa using t15h6)
  clear t15h6
  clear t15_0 t15_1 t15_2 t15_3 t15_4 t15_5 t15_6 t15_7 t15_8
  have Z15 := Lib.hid O15; clear O15
  have XX15 := Lib.hid XB15; clear XB15
  have D15 : Below w14.heap.size w14 w15 := Below.trans (by repeat (first | (with_reducible exact Below.refl _ _) | refine Below.alloc ?_ (by simp; try omega) _ | refine Below.drew ?_)) (HS.mono (by first | (simp; done) | (simp; omega)))
  have H15 := Lib.hid (H14.out.trans (D15.mono H14.out.size))
  have L15 := Lib.hid (show w14.heap.size + 0 ≤ w15.heap.size from by have h := HS.size; (try simp at h); omega)
  have X_aX_15 := Lib.hid (keepBox X_aX_14.out D15); clear X_aX_14
  have X_aT_15 := Lib.hid (keepBox X_aT_14.out D15); clear X_aT_14
  have X_w0_15 := Lib.hid (keepBox X_w0_14.out D15); clear X_w0_14
  have X_x0_15 := Lib.hid (keepBox X_x0_14.out D15); clear X_x0_14
  have X_x1_15 := Lib.hid (keepBox X_x1_14.out D15); clear X_x1_14
  have X_g0_15 := Lib.hid (keepBox X_g0_14.out D15); clear X_g0_14
  have O_w0_15 := Lib.hid (O_w0_14.out.below D15); clear O_w0_14
  have O_x0_15 := Lib.hid (O_x0_14.out.below D15); clear O_x0_14
  have O_x1_15 := Lib.hid (O_x1_14.out.below D15); clear O_x1_14
  have O_g0_15 := Lib.hid (O_g0_14.out.below D15); clear O_g0_14
  clear D15 K_aX_0 K_aX_1 K_aX_2 K_aX_3 K_aX_4 K_aX_5 K_aX_6 K_aX_7 K_aT_0 K_aT_1 K_aT_2 K_aT_3 K_aT_4 HS
  have K_h0_0 := boxCell XX15.out (j := 0) (v := .slice t15a0 (((addL x1 x0)).1).length t15p0) rfl
  have K_h0_1 := boxCell XX15.out (j := 1) (v := .int .i64 ((addL x1 x0)).2.1.1) rfl
  have K_h0_2 := boxCell XX15.out (j := 2) (v := .slice t15a2 (((addL x1 x0)).2.1.2).length t15p2) rfl
  have K_h0_3 := boxCell XX15.out (j := 3) (v := .slice t15a3 (((addL x1 x0)).2.2.1).length t15p3) rfl
  have K_h0_4 := boxCell XX15.out (j := 4) (v := .slice t15a4 (((addL x1 x0)).2.2.2.1).length t15p4) rfl
  have K_h0_5 := boxCell XX15.out (j := 5) (v := .slice t15a5 (((addL x1 x0)).2.2.2.2.1).length t15p5) rfl
  have K_h0_6 := boxCell XX15.out (j := 6) (v := .slice t15a6 (((addL x1 x0)).2.2.2.2.2.1).length t15p6) rfl
  have K_h0_7 := boxCell XX15.out (j := 7) (v := .int .i64 ((addL x1 x0)).2.2.2.2.2.2) rfl
  have K_w0_0 := boxCell X_w0_15.out (j := 0) (v := .slice t3a0 (((addL x1 x0)).1).length t3p0) rfl
  have K_w0_1 := boxCell X_w0_15.out (j := 1) (v := .int .i64 ((addL x1 x0)).2.1.1) rfl
  have K_w0_2 := boxCell X_w0_15.out (j := 2) (v := .slice t3a2 (((addL x1 x0)).2.1.2).length t3p2) rfl
  have K_w0_3 := boxCell X_w0_15.out (j := 3) (v := .slice t3a3 (((addL x1 x0)).2.2.1).length t3p3) rfl
  have K_w0_4 := boxCell X_w0_15.out (j := 4) (v := .slice t3a4 (((addL x1 x0)).2.2.2.1).length t3p4) rfl
  have K_w0_5 := boxCell X_w0_15.out (j := 5) (v := .slice t3a5 (((addL x1 x0)).2.2.2.2.1).length t3p5) rfl
  have K_w0_6 := boxCell X_w0_15.out (j := 6) (v := .slice t3a6 (((addL x1 x0)).2.2.2.2.2.1).length t3p6) rfl
  have K_w0_7 := boxCell X_w0_15.out (j := 7) (v := .int .i64 ((addL x1 x0)).2.2.2.2.2.2) rfl
  go_wp2_with fail
  refine (eqNode_c (Z15.out.raw.below (by repeat (first | (with_reducible exact Below.refl _ _) | refine Below.alloc ?_ (by simp; try omega) _ | refine Below.drew ?_))) (O_w0_15.out.raw.below (by repeat (first | (with_reducible exact Below.refl _ _) | refine Below.alloc ?_ (by simp; try omega) _ | refine Below.drew ?_)))).mono ?_
  rintro e w16 ⟨rfl, hb16⟩
  have D16 : Below w15.heap.size w15 w16 := Below.trans (by repeat (first | (with_reducible exact Below.refl _ _) | refine Below.alloc ?_ (by simp; try omega) _ | refine Below.drew ?_)) (hb16.mono (by first | (simp; done) | (simp; omega)))
  have H16 := Lib.hid (H15.out.trans (D16.mono H15.out.size))
  have L16 := Lib.hid (show w15.heap.size + 0 ≤ w16.heap.size from by have h := hb16.size; (try simp at h); omega)
  have X_aX_16 := Lib.hid (keepBox X_aX_15.out D16); clear X_aX_15
  have X_aT_16 := Lib.hid (keepBox X_aT_15.out D16); clear X_aT_15
  have X_w0_16 := Lib.hid (keepBox X_w0_15.out D16); clear X_w0_15
  have X_x0_16 := Lib.hid (keepBox X_x0_15.out D16); clear X_x0_15
  have X_x1_16 := Lib.hid (keepBox X_x1_15.out D16); clear X_x1_15
  have X_g0_16 := Lib.hid (keepBox X_g0_15.out D16); clear X_g0_15
  have X_h0_16 := Lib.hid (keepBox XX15.out D16); clear XX15
  have O_w0_16 := Lib.hid (O_w0_15.out.below D16); clear O_w0_15
  have O_x0_16 := Lib.hid (O_x0_15.out.below D16); clear O_x0_15
  have O_x1_16 := Lib.hid (O_x1_15.out.below D16); clear O_x1_15
  have O_g0_16 := Lib.hid (O_g0_15.out.below D16); clear O_g0_15
  have O_h0_16 := Lib.hid (Z15.out.below D16); clear Z15
  clear D16 K_h0_0 K_h0_1 K_h0_2 K_h0_3 K_h0_4 K_h0_5 K_h0_6 K_h0_7 K_w0_0 K_w0_1 K_w0_2 K_w0_3 K_w0_4 K_w0_5 K_w0_6 K_w0_7 hb16
  have K_g0_0 := boxCell X_g0_16.out (j := 0) (v := .slice t6a0 (((addL x1 x0)).1).length t6p0) rfl
  have K_g0_1 := boxCell X_g0_16.out (j := 1) (v := .int .i64 ((addL x1 x0)).2.1.1) rfl
  have K_g0_2 := boxCell X_g0_16.out (j := 2) (v := .slice t6a2 (((addL x1 x0)).2.1.2).length t6p2) rfl
  have K_g0_3 := boxCell X_g0_16.out (j := 3) (v := .slice t6a3 (((addL x1 x0)).2.2.1).length t6p3) rfl
  have K_g0_4 := boxCell X_g0_16.out (j := 4) (v := .slice t6a4 (((addL x1 x0)).2.2.2.1).length t6p4) rfl
  have K_g0_5 := boxCell X_g0_16.out (j := 5) (v := .slice t6a5 (((addL x1 x0)).2.2.2.2.1).length t6p5) rfl
  have K_g0_6 := boxCell X_g0_16.out (j := 6) (v := .slice t6a6 (((addL x1 x0)).2.2.2.2.2.1).length t6p6) rfl
  have K_g0_7 := boxCell X_g0_16.out (j := 7) (v := .int .i64 ((addL x1 x0)).2.2.2.2.2.2) rfl
  go_wp2_with fail
  refine (heldNode_c (O_g0_16.out.raw.below (by repeat (first | (with_reducible exact Below.refl _ _) | refine Below.alloc ?_ (by simp; try omega) _ | refine Below.drew ?_))) (RNode.mark_held (e := false) (x := (addL x1 x0)) (k := 1)) (by have := B13.out.1;  omega) (by have := B13.out.2;  omega)).mono ?_
  rintro e w17 ⟨rfl, hb17⟩
  have D17 : Below w16.heap.size w16 w17 := Below.trans (by repeat (first | (with_reducible exact Below.refl _ _) | refine Below.alloc ?_ (by simp; try omega) _ | refine Below.drew ?_)) (hb17.mono (by first | (simp; done) | (simp; omega)))
  have H17 := Lib.hid (H16.out.trans (D17.mono H16.out.size))
  have L17 := Lib.hid (show w16.heap.size + 0 ≤ w17.heap.size from by have h := hb17.size; (try simp at h); omega)
  have X_aX_17 := Lib.hid (keepBox X_aX_16.out D17); clear X_aX_16
  have X_aT_17 := Lib.hid (keepBox X_aT_16.out D17); clear X_aT_16
  have X_w0_17 := Lib.hid (keepBox X_w0_16.out D17); clear X_w0_16
  have X_x0_17 := Lib.hid (keepBox X_x0_16.out D17); clear X_x0_16
  have X_x1_17 := Lib.hid (keepBox X_x1_16.out D17); clear X_x1_16
  have X_g0_17 := Lib.hid (keepBox X_g0_16.out D17); clear X_g0_16
  have X_h0_17 := Lib.hid (keepBox X_h0_16.out D17); clear X_h0_16
  have O_w0_17 := Lib.hid (O_w0_16.out.below D17); clear O_w0_16
  have O_x0_17 := Lib.hid (O_x0_16.out.below D17); clear O_x0_16
  have O_x1_17 := Lib.hid (O_x1_16.out.below D17); clear O_x1_16
  have O_g0_17 := Lib.hid (O_g0_16.out.below D17); clear O_g0_16
  have O_h0_17 := Lib.hid (O_h0_16.out.below D17); clear O_h0_16
  clear D17 K_g0_0 K_g0_1 K_g0_2 K_g0_3 K_g0_4 K_g0_5 K_g0_6 K_g0_7 hb17
  go_wp2
  go_ret
  exact ⟨rfl, H17.out⟩
set_option maxRecDepth 100000 in
theorem lawAddLocal_lifted (os : Os) (started : os.Started) (H : Type) (enc : TypeId × Value → H) :
    ReturnsInHanded {} Tryz.checked os 3 .any (Rows.fnExactAddLocalSpec.pre6 enc Tryz.prog Tryz.f3 Rows.fnExactAddLocalRow.domain false) (Rows.fnExactAddLocalSpec.post enc Tryz.prog Tryz.f3 false true false false) := by
  refine returnsInHanded_of_change (C := Tryz.checked) law_own started (by kernel_rfl) Tryz.func3
    (ChangeSpec.witness6 (enc := enc) (C := Tryz.checked) false ⟨#[], #[.agg #[.slice none 0 0, .int .i64 0, .slice none 0 0, .slice none 0 0, .slice none 0 0, .slice none 0 0, .slice none 0 0, .int .i64 0], .agg #[.slice none 0 0, .slice none 0 0, .slice none 0 0, .int .i64 0, .int .i64 0]], []⟩ 8 (by kernel_rfl) (by kernel_rfl) (by kernel_rfl) (by kernel_rfl)) ?_
  intro W base args ds gs before hval0 hW _ _
  have hval : ∀ (j : Nat) t v, Tryz.f3.params[j]? = some t → args[j]? = some v → Value.okWide Tryz.prog W .any base t v := hval0
  have hW0 : DataW.Whole enc Tryz.prog Tryz.f3.params.toList Rows.fnExactAddLocalSpec.vars false W args.toList ds gs before := hW
  obtain ⟨p, q, hA0, hV, rfl, hfz, hnd⟩ := hW
  have hA : DataW.TrodAll enc Tryz.prog W 0 (fun _ => true) true Tryz.f3.params.toList args.toList ds p := hA0
  rw [Tryz.params3] at hA hval
  obtain ⟨v0, vs0, d0, ds0, p0, q0, hargs, rfl, rfl, g0, s0⟩ := trodAll_cons hA
  obtain ⟨v1, vs1, d1, ds1, p1, q1, rfl, rfl, rfl, g1, s1⟩ := trodAll_cons s0
  obtain ⟨rfl, rfl, rfl⟩ := trodAll_nil s1
  obtain rfl : args = #[v0, v1] := by cases args; simp_all
  obtain ⟨rfl, rfl⟩ := trodVars_none hV
  obtain ⟨c0, rfl⟩ : ∃ c : List Value, v0 = .agg c.toArray := by
    have h := hval 0 31 v0 rfl rfl
    unfold Value.okWide at h
    rw [Tryz.underlying31] at h
    obtain ⟨cs, rfl, _⟩ := h
    exact ⟨cs.toList, by simp⟩
  obtain ⟨fu0, hf0⟩ := g0
  obtain ⟨x0, h0⟩ := bridge_Node (w := W) hf0
  have h0 : RNode.raw W c0 x0 := by simpa [Value.cells] using h0
  obtain ⟨c1, rfl⟩ : ∃ c : List Value, v1 = .agg c.toArray := by
    have h := hval 1 37 v1 rfl rfl
    unfold Value.okWide at h
    rw [Tryz.underlying37] at h
    obtain ⟨cs, rfl, _⟩ := h
    exact ⟨cs.toList, by simp⟩
  obtain ⟨fu1, hf1⟩ := g1
  obtain ⟨x1, h1⟩ := bridge_Data (w := W) hf1
  have h1 : RData.raw W c1 x1 := by simpa [Value.cells] using h1
  refine (lawAddLocal_c h0 h1).mono fun e W' ⟨he, hb⟩ => ?_
  subst he
  refine ⟨_, rfl, law_post (tb := 4) hW0 rfl rfl Tryz.underlying4 ⟨rfl, rfl, rfl⟩ ?_ hb⟩
  rw [Tryz.params3]
  intro t ht
  have hall : ([31, 37].all fun t => Tryz.prog.readableRec t && decide (t < Tryz.prog.types.size)) = true := by kernel_rfl
  have h1 := List.all_eq_true.1 hall t ht
  simpa using h1
theorem lawAddLocal_holds : Rows.FnExactAddLocalSaid :=
  OpenClaim.holds_of_wide 3 Tryz.f3 rfl rfl rfl rfl rfl rfl rfl ⟨rfl, rfl, rfl, rfl, rfl⟩ rfl rfl rfl rfl rfl (by kernel_rfl) Tryz.func3 (by kernel_rfl)
    (of_decide_eq_true (by kernel_rfl)) (by unfold Func.isWrapper; first | (rw [if_pos (by decide +kernel)]; kernel_rfl) | (rw [if_neg (by decide +kernel)]; exact ⟨rfl, rfl⟩))
    (fun os started H enc _ => lawAddLocal_lifted os started H enc)
end Go.Proofs.YtcnhfggfgknooaaGreat

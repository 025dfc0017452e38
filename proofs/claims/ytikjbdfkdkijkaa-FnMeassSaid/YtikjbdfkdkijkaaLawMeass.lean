/-
  The law FnMeass: a face that fails is ranked after those that do not; one that answers recovers.
-/
import Derived.Test.YtikjbdfkdkijkaaBridge
import Derived.Test.YtikjbdfkdkijkaaDrawL
import Derived.Test.YtikjbdfkdkijkaaPMeas
import Derived.Test.YtikjbdfkdkijkaaSameM
import Derived.Test.YtikjbdfkdkijkaaSameI
import Derived.Test.YtikjbdfkdkijkaaWorst
import Derived.IntWalk
import Derived.WalkSpells
import Derived.Deep.Cut
namespace Go.Proofs.Ytikjbdfkdkijkaa
open Go.ChangeShapes Go.WideShapes Go.ChangeAt Go.RowKit
set_option linter.unusedVariables false
set_option linter.unusedSimpArgs false
set_option linter.unnecessarySimpa false
theorem lawsbig_c {w : World} {v : Value} {code : List UInt8} (hcode : (Rep.slice 5 Rep.byte).raw w [v] code) :
    Calls Try.prog 5 #[v] w fun e w' => e = .returned (.bool (decide ((code.length : Int) > 1048576))) ∧ Below w.heap.size w w' := by
  obtain ⟨ca, cc, hcv, _⟩ := Rep.len_raw hcode; obtain rfl : v = _ := by simpa using hcv
  clear hcv
  go_enter Try.func5, Try.ntmps5
  go_wp2
  go_ret
  exact ⟨by simp, Below.refl _ _⟩

set_option maxRecDepth 100000 in
set_option maxHeartbeats 4000000 in
theorem lawFnMeass_c {w : World} {v : Value} {code : List UInt8} (hcode : (Rep.slice 5 Rep.byte).raw w [v] code) :
    Calls Try.prog 3 #[v] w (LawPost w) := by
  obtain ⟨ca, cc, hcv, _⟩ := Rep.len_raw hcode; obtain rfl : v = _ := by simpa using hcv
  clear hcv
  go_enter Try.func3, Try.ntmps3
  go_wp2_with fail
  refine (lawsbig_c hcode).mono ?_
  rintro e w1 ⟨rfl, hb⟩
  have EE := hb
  have z_w1 := hb.size
  clear hb
  by_cases hbig : (code.length : Int) > 1048576
  · go_wp2
    go_ret
    exact ⟨rfl, EE⟩
  go_wp2_with fail
  refine (specDrawRecordFailure_c (hcode.below EE)).mono ?_
  rintro e w2 ⟨fa, fc, fl, fna, fnc, fnm, fx, rfl, hO, fhl, hr, fhnl, fx0, fx1, hb⟩
  have z_w2 := hb.size
  replace EE := EE.trans (hb.mono EE.size)
  clear hb
  have fHO := Lib.hid (hO)
  have fHR := Lib.hid (hr)
  clear hO hr
  go_upto_region 4 with fail
  generalize hw_ : World.alloc w2 _ = w3
  have E_w3 : Below w2.heap.size w2 w3 := by rw [← hw_]; exact (Below.refl _ _).alloc (Nat.le_refl _) _
  have BF : w3.heap[w2.heap.size]? = some (.cells #[.slice fna fnm.length fnc] 27 (0, 0)) := by rw [← hw_]; exact heap_new_at rfl
  have z_w3 : w2.heap.size + 1 ≤ w3.heap.size := by rw [← hw_]; simp
  clear hw_
  replace fHO := Lib.hid (fHO.out.below E_w3)
  replace fHR := Lib.hid (fHR.out.below E_w3)
  replace EE := EE.trans (E_w3.mono EE.size)
  clear E_w3
  have KBF_0 : w3.cell? ⟨w2.heap.size, 0, none⟩ = some (.slice fna fnm.length fnc) := boxCell BF rfl
  go_wp2_with fail
  refine (implRecordFailure_c fHO.out.rd (cn := [.slice fna fnm.length fnc]) fHR.out.rd (f := fx) (by omega)).mono ?_
  rintro e w4 ⟨v6, rfl, hO, hb⟩
  have z_w4 := hb.size
  replace BF := keepBox BF hb
  replace fHO := Lib.hid (fHO.out.below hb)
  replace fHR := Lib.hid (fHR.out.below hb)
  replace EE := EE.trans (hb.mono EE.size)
  clear KBF_0
  clear hb
  obtain ⟨xa, xc, hv6, _⟩ := Rep.len_raw hO.raw; obtain rfl : v6 = _ := by simpa using hv6
  clear hv6
  have XO := Lib.hid (hO)
  clear hO
  go_wp2_with fail
  refine (specDrawRecordSuccess_c (hcode.below EE)).mono ?_
  rintro e w5 ⟨ga, gc, gl, gna, gnc, gnm, gx, rfl, hO, ghl, hr, ghnl, gx0, gx1, hb⟩
  have z_w5 := hb.size
  replace BF := keepBox BF hb
  replace fHO := Lib.hid (fHO.out.below hb)
  replace fHR := Lib.hid (fHR.out.below hb)
  replace XO := Lib.hid (XO.out.below hb)
  replace EE := EE.trans (hb.mono EE.size)
  clear hb
  have gHO := Lib.hid (hO)
  have gHR := Lib.hid (hr)
  clear hO hr
  go_upto_region 6 with fail
  generalize hw_ : World.alloc w5 _ = w6
  have E_w6 : Below w5.heap.size w5 w6 := by rw [← hw_]; exact (Below.refl _ _).alloc (Nat.le_refl _) _
  have BG : w6.heap[w5.heap.size]? = some (.cells #[.slice gna gnm.length gnc] 27 (0, 0)) := by rw [← hw_]; exact heap_new_at rfl
  have z_w6 : w5.heap.size + 1 ≤ w6.heap.size := by rw [← hw_]; simp
  clear hw_
  replace BF := keepBox BF E_w6
  replace fHO := Lib.hid (fHO.out.below E_w6)
  replace fHR := Lib.hid (fHR.out.below E_w6)
  replace XO := Lib.hid (XO.out.below E_w6)
  replace gHO := Lib.hid (gHO.out.below E_w6)
  replace gHR := Lib.hid (gHR.out.below E_w6)
  replace EE := EE.trans (E_w6.mono EE.size)
  clear E_w6
  have KBG_0 : w6.cell? ⟨w5.heap.size, 0, none⟩ = some (.slice gna gnm.length gnc) := boxCell BG rfl
  go_wp2_with fail
  refine (implRecordSuccess_c gHO.out.rd (cn := [.slice gna gnm.length gnc]) gHR.out.rd (f := gx) (by omega)).mono ?_
  rintro e w7 ⟨v7, rfl, hO, hb⟩
  have z_w7 := hb.size
  replace BF := keepBox BF hb
  replace BG := keepBox BG hb
  replace fHO := Lib.hid (fHO.out.below hb)
  replace fHR := Lib.hid (fHR.out.below hb)
  replace XO := Lib.hid (XO.out.below hb)
  replace gHO := Lib.hid (gHO.out.below hb)
  replace gHR := Lib.hid (gHR.out.below hb)
  replace EE := EE.trans (hb.mono EE.size)
  clear KBG_0
  clear hb
  obtain ⟨ya, yc, hv7, _⟩ := Rep.len_raw hO.raw; obtain rfl : v7 = _ := by simpa using hv7
  clear hv7
  have YO := Lib.hid (hO)
  clear hO
  go_wp2_with fail
  refine (specDrawRankFaces_c (hcode.below EE)).mono ?_
  rintro e w8 ⟨ra, rc, rl, rna, rnc, rnm, sa, sc, fs, rfl, hO, rhl, hr, rhnl, hs, hfs, hb⟩
  have z_w8 := hb.size
  replace BF := keepBox BF hb
  replace BG := keepBox BG hb
  replace fHO := Lib.hid (fHO.out.below hb)
  replace fHR := Lib.hid (fHR.out.below hb)
  replace XO := Lib.hid (XO.out.below hb)
  replace gHO := Lib.hid (gHO.out.below hb)
  replace gHR := Lib.hid (gHR.out.below hb)
  replace YO := Lib.hid (YO.out.below hb)
  replace EE := EE.trans (hb.mono EE.size)
  clear hb
  have rHO := Lib.hid (hO)
  have rHR := Lib.hid (hr)
  have SO := Lib.hid (hs)
  clear hO hr hs
  go_upto_region 8 with fail
  generalize hw_ : World.alloc w8 _ = w9
  have E_w9 : Below w8.heap.size w8 w9 := by rw [← hw_]; exact (Below.refl _ _).alloc (Nat.le_refl _) _
  have BR : w9.heap[w8.heap.size]? = some (.cells #[.slice rna rnm.length rnc] 27 (0, 0)) := by rw [← hw_]; exact heap_new_at rfl
  have z_w9 : w8.heap.size + 1 ≤ w9.heap.size := by rw [← hw_]; simp
  clear hw_
  replace BF := keepBox BF E_w9
  replace BG := keepBox BG E_w9
  replace fHO := Lib.hid (fHO.out.below E_w9)
  replace fHR := Lib.hid (fHR.out.below E_w9)
  replace XO := Lib.hid (XO.out.below E_w9)
  replace gHO := Lib.hid (gHO.out.below E_w9)
  replace gHR := Lib.hid (gHR.out.below E_w9)
  replace YO := Lib.hid (YO.out.below E_w9)
  replace rHO := Lib.hid (rHO.out.below E_w9)
  replace rHR := Lib.hid (rHR.out.below E_w9)
  replace SO := Lib.hid (SO.out.below E_w9)
  replace EE := EE.trans (E_w9.mono EE.size)
  clear E_w9
  have KBR_0 : w9.cell? ⟨w8.heap.size, 0, none⟩ = some (.slice rna rnm.length rnc) := boxCell BR rfl
  go_wp2_with fail
  refine (implRankFaces_c rHO.out.rd (cn := [.slice rna rnm.length rnc]) rHR.out.rd SO.out.rd).mono ?_
  rintro e w10 ⟨v8, rfl, hO, hb⟩
  have z_w10 := hb.size
  replace BF := keepBox BF hb
  replace BG := keepBox BG hb
  replace BR := keepBox BR hb
  replace fHO := Lib.hid (fHO.out.below hb)
  replace fHR := Lib.hid (fHR.out.below hb)
  replace XO := Lib.hid (XO.out.below hb)
  replace gHO := Lib.hid (gHO.out.below hb)
  replace gHR := Lib.hid (gHR.out.below hb)
  replace YO := Lib.hid (YO.out.below hb)
  replace rHO := Lib.hid (rHO.out.below hb)
  replace rHR := Lib.hid (rHR.out.below hb)
  replace SO := Lib.hid (SO.out.below hb)
  replace EE := EE.trans (hb.mono EE.size)
  clear KBR_0
  clear hb
  obtain ⟨ts, hts⟩ : ∃ ts, rankF rl rnm fs = ts := ⟨_, rfl⟩
  rw [hts] at hO
  have hasc : ∀ i (h0 : 0 < i) (h : i < ts.length), failOf rl rnm ts[i - 1] ≤ failOf rl rnm ts[i] := by subst hts; exact fun i h0 h => rank_asc h0 h
  have hrl : ts.length = fs.length := by rw [← hts]; exact rankF_len rl rnm fs
  have HTS := Lib.hid hts
  clear hts
  have HASC := Lib.hid hasc
  clear hasc
  have HRL := Lib.hid hrl
  clear hrl
  obtain ⟨ta, tc, hv8, _⟩ := Rep.len_raw hO.raw; obtain rfl : v8 = _ := by simpa using hv8
  clear hv8
  have TO := Lib.hid (hO)
  clear hO
  go_wp2_with fail
  refine (specDrawEqualMeasurements_c (hcode.below EE)).mono ?_
  rintro e w11 ⟨aa, ac, al, ba, bc, bl, rfl, hO, ahl, hr, bhl, hb⟩
  have z_w11 := hb.size
  replace BF := keepBox BF hb
  replace BG := keepBox BG hb
  replace BR := keepBox BR hb
  replace fHO := Lib.hid (fHO.out.below hb)
  replace fHR := Lib.hid (fHR.out.below hb)
  replace XO := Lib.hid (XO.out.below hb)
  replace gHO := Lib.hid (gHO.out.below hb)
  replace gHR := Lib.hid (gHR.out.below hb)
  replace YO := Lib.hid (YO.out.below hb)
  replace rHO := Lib.hid (rHO.out.below hb)
  replace rHR := Lib.hid (rHR.out.below hb)
  replace SO := Lib.hid (SO.out.below hb)
  replace TO := Lib.hid (TO.out.below hb)
  replace EE := EE.trans (hb.mono EE.size)
  clear hb
  have AO := Lib.hid (hO)
  have BO := Lib.hid (hr)
  clear hO hr
  go_upto_region 10 with fail
  have KBF_0 : w11.cell? ⟨w2.heap.size, 0, none⟩ = some (.slice fna fnm.length fnc) := boxCell BF rfl
  have KBG_0 : w11.cell? ⟨w5.heap.size, 0, none⟩ = some (.slice gna gnm.length gnc) := boxCell BG rfl
  have KBR_0 : w11.cell? ⟨w8.heap.size, 0, none⟩ = some (.slice rna rnm.length rnc) := boxCell BR rfl
  refine wp_region_softP (fun W => Below w11.heap.size w11 W) [(0, true), (1, true), (2, true), (3, true), (4, false), (5, false), (6, true), (7, true), (8, true), (9, true), (10, true), (11, true), (12, false), (13, false), (14, true), (15, true), (16, true), (17, true), (18, true), (19, true), (20, true), (21, false), (22, false), (23, true), (24, true), (25, true), (26, true), (27, true), (29, true), (30, true), (28, false), (31, false), (32, true), (33, true), (34, true), (35, true), (36, true), (37, true), (39, true), (40, true), (41, true), (38, false), (42, false), (43, true), (44, true), (45, true), (46, true), (48, true), (47, false), (49, false), (50, true), (51, true), (52, true), (53, true), (55, true), (54, false), (56, false), (57, true), (58, true)] (by kernel_rfl) (by kernel_rfl) (fun c a d v w h => by cases d <;> exact h) ((Below.refl _ _).drew) ?_
  intro wS HS
  simp only [pickOps, List.getElem?_cons_succ, List.getElem?_cons_zero, List.map_cons, List.map_nil]
  all_goals first | (refine soft_pass rfl HS ?_) | (refine soft_read (v := ?_) rfl (fun W hW => ?_) ?_; rotate_left; (· go_simp; try with_reducible rfl))
  all_goals try simp only [Act.put, List.setIfInBounds_toArray, List.set_cons_zero, List.set_cons_succ]
  all_goals first | (refine soft_pass rfl HS ?_) | (refine soft_read (v := ?_) rfl (fun W hW => ?_) ?_; rotate_left; (· go_simp; try with_reducible rfl))
  all_goals try simp only [Act.put, List.setIfInBounds_toArray, List.set_cons_zero, List.set_cons_succ]
  all_goals first | (refine soft_pass rfl HS ?_) | (refine soft_read (v := ?_) rfl (fun W hW => ?_) ?_; rotate_left; (· have A_KBF_0 := cell_later hW KBF_0; have A_KBG_0 := cell_later hW KBG_0; have A_KBR_0 := cell_later hW KBR_0; clear hW; go_simp; try with_reducible rfl))
  all_goals try simp only [Act.put, List.setIfInBounds_toArray, List.set_cons_zero, List.set_cons_succ]
  all_goals first | (refine soft_pass rfl HS ?_) | (refine soft_read (v := ?_) rfl (fun W hW => ?_) ?_; rotate_left; (· go_simp; try with_reducible rfl))
  all_goals try simp only [Act.put, List.setIfInBounds_toArray, List.set_cons_zero, List.set_cons_succ]
  all_goals first | (refine soft_pass rfl HS ?_) | (refine soft_do rfl (fun K hK => ?_); go_simp; refine (specRecordFailure_c (fHO.out.below HS).rd (cn := [.slice fna fnm.length fnc]) (fHR.out.below HS).rd (f := fx) (by omega)).mono ?_; rintro e wS1 ⟨v_, rfl, OS_, hbS⟩; obtain ⟨S4a, S4c, hv_, _⟩ := Rep.len_raw OS_.raw; obtain rfl : v_ = _ := (by simpa using hv_); clear hv_; have S4 := Lib.hid OS_; clear OS_; replace HS := HS.trans (hbS.mono HS.size); refine hK _ _ HS ?_; clear hK K hbS)
  all_goals try simp only [Act.put, List.setIfInBounds_toArray, List.set_cons_zero, List.set_cons_succ]
  all_goals first | (refine soft_pass rfl HS ?_) | (refine soft_do rfl (fun K hK => ?_); go_simp; refine (lawssameMeas_c (XO.out.below HS).raw S4.out.raw).mono ?_; rintro e wS1 ⟨he_, hbS⟩; have he2_ : e = .returned (.bool true) := he_.trans (by simp); subst he2_; clear he_; replace HS := HS.trans (hbS.mono HS.size); refine hK _ _ HS ?_; clear hK K hbS)
  all_goals try simp only [Act.put, List.setIfInBounds_toArray, List.set_cons_zero, List.set_cons_succ]
  all_goals first | (refine soft_pass rfl HS ?_) | (refine soft_read (v := ?_) rfl (fun W hW => ?_) ?_; rotate_left; (· go_simp; try with_reducible rfl))
  all_goals try simp only [Act.put, List.setIfInBounds_toArray, List.set_cons_zero, List.set_cons_succ]
  all_goals first | (refine soft_pass rfl HS ?_; have hg7 := True.intro) | (refine soft_part (v := ?_) (b := ?_) rfl (fun W hW => ?_) ?_ (fun b hg7 => ?_); rotate_left; rotate_left; (· go_simp; try with_reducible rfl); (· with_reducible rfl); cases b; all_goals first | (exact Bool.noConfusion hg7) | (simp only [Bool.not_eq_true', Bool.not_eq_false'] at hg7) | skip)
  all_goals try simp only [Act.put, List.setIfInBounds_toArray, List.set_cons_zero, List.set_cons_succ]
  all_goals first | (refine soft_pass rfl HS ?_) | (refine soft_read (v := ?_) rfl (fun W hW => ?_) ?_; rotate_left; (· go_simp; try with_reducible rfl))
  all_goals try simp only [Act.put, List.setIfInBounds_toArray, List.set_cons_zero, List.set_cons_succ]
  all_goals first | (refine soft_pass rfl HS ?_) | (refine soft_read (v := ?_) rfl (fun W hW => ?_) ?_; rotate_left; (· go_simp; try with_reducible rfl))
  all_goals try simp only [Act.put, List.setIfInBounds_toArray, List.set_cons_zero, List.set_cons_succ]
  all_goals first | (refine soft_pass rfl HS ?_) | (refine soft_read (v := ?_) rfl (fun W hW => ?_) ?_; rotate_left; (· have A_KBF_0 := cell_later hW KBF_0; have A_KBG_0 := cell_later hW KBG_0; have A_KBR_0 := cell_later hW KBR_0; clear hW; go_simp; try with_reducible rfl))
  all_goals try simp only [Act.put, List.setIfInBounds_toArray, List.set_cons_zero, List.set_cons_succ]
  all_goals first | (refine soft_pass rfl HS ?_) | (refine soft_read (v := ?_) rfl (fun W hW => ?_) ?_; rotate_left; (· go_simp; try with_reducible rfl))
  all_goals try simp only [Act.put, List.setIfInBounds_toArray, List.set_cons_zero, List.set_cons_succ]
  all_goals first | (refine soft_pass rfl HS ?_) | (refine soft_do rfl (fun K hK => ?_); go_simp; refine (specRecordSuccess_c (gHO.out.below HS).rd (cn := [.slice gna gnm.length gnc]) (gHR.out.below HS).rd (f := gx) (by omega)).mono ?_; rintro e wS1 ⟨v_, rfl, OS_, hbS⟩; obtain ⟨S12a, S12c, hv_, _⟩ := Rep.len_raw OS_.raw; obtain rfl : v_ = _ := (by simpa using hv_); clear hv_; have S12 := Lib.hid OS_; clear OS_; replace HS := HS.trans (hbS.mono HS.size); refine hK _ _ HS ?_; clear hK K hbS)
  all_goals try simp only [Act.put, List.setIfInBounds_toArray, List.set_cons_zero, List.set_cons_succ]
  all_goals first | (refine soft_pass rfl HS ?_) | (refine soft_do rfl (fun K hK => ?_); go_simp; refine (lawssameMeas_c (YO.out.below HS).raw S12.out.raw).mono ?_; rintro e wS1 ⟨he_, hbS⟩; have he2_ : e = .returned (.bool true) := he_.trans (by simp); subst he2_; clear he_; replace HS := HS.trans (hbS.mono HS.size); refine hK _ _ HS ?_; clear hK K hbS)
  all_goals try simp only [Act.put, List.setIfInBounds_toArray, List.set_cons_zero, List.set_cons_succ]
  all_goals first | (refine soft_pass rfl HS ?_) | (refine soft_read (v := ?_) rfl (fun W hW => ?_) ?_; rotate_left; (· go_simp; try with_reducible rfl))
  all_goals try simp only [Act.put, List.setIfInBounds_toArray, List.set_cons_zero, List.set_cons_succ]
  all_goals first | (refine soft_pass rfl HS ?_) | (refine soft_read (v := ?_) rfl (fun W hW => ?_) ?_; rotate_left; (· go_simp; try with_reducible rfl))
  all_goals try simp only [Act.put, List.setIfInBounds_toArray, List.set_cons_zero, List.set_cons_succ]
  all_goals first | (refine soft_pass rfl HS ?_; have hg16 := True.intro) | (refine soft_part (v := ?_) (b := ?_) rfl (fun W hW => ?_) ?_ (fun b hg16 => ?_); rotate_left; rotate_left; (· go_simp; try with_reducible rfl); (· with_reducible rfl); cases b; all_goals first | (exact Bool.noConfusion hg16) | (simp only [Bool.not_eq_true', Bool.not_eq_false'] at hg16) | skip)
  all_goals try simp only [Act.put, List.setIfInBounds_toArray, List.set_cons_zero, List.set_cons_succ]
  all_goals first | (refine soft_pass rfl HS ?_) | (refine soft_read (v := ?_) rfl (fun W hW => ?_) ?_; rotate_left; (· go_simp; try with_reducible rfl))
  all_goals try simp only [Act.put, List.setIfInBounds_toArray, List.set_cons_zero, List.set_cons_succ]
  all_goals first | (refine soft_pass rfl HS ?_) | (refine soft_read (v := ?_) rfl (fun W hW => ?_) ?_; rotate_left; (· go_simp; try with_reducible rfl))
  all_goals try simp only [Act.put, List.setIfInBounds_toArray, List.set_cons_zero, List.set_cons_succ]
  all_goals first | (refine soft_pass rfl HS ?_) | (refine soft_read (v := ?_) rfl (fun W hW => ?_) ?_; rotate_left; (· have A_KBF_0 := cell_later hW KBF_0; have A_KBG_0 := cell_later hW KBG_0; have A_KBR_0 := cell_later hW KBR_0; clear hW; go_simp; try with_reducible rfl))
  all_goals try simp only [Act.put, List.setIfInBounds_toArray, List.set_cons_zero, List.set_cons_succ]
  all_goals first | (refine soft_pass rfl HS ?_) | (refine soft_read (v := ?_) rfl (fun W hW => ?_) ?_; rotate_left; (· go_simp; try with_reducible rfl))
  all_goals try simp only [Act.put, List.setIfInBounds_toArray, List.set_cons_zero, List.set_cons_succ]
  all_goals first | (refine soft_pass rfl HS ?_) | (refine soft_do rfl (fun K hK => ?_); go_simp; refine (specRankFaces_c (rHO.out.below HS).rd (cn := [.slice rna rnm.length rnc]) (rHR.out.below HS).rd (SO.out.below HS).rd).mono ?_; rintro e wS1 ⟨v_, rfl, OS_, hbS⟩; obtain ⟨S21a, S21c, hv_, _⟩ := Rep.len_raw OS_.raw; obtain rfl : v_ = _ := (by simpa using hv_); clear hv_; have S21 := Lib.hid OS_; clear OS_; replace HS := HS.trans (hbS.mono HS.size); refine hK _ _ HS ?_; clear hK K hbS)
  all_goals try simp only [Act.put, List.setIfInBounds_toArray, List.set_cons_zero, List.set_cons_succ]
  all_goals first | (refine soft_pass rfl HS ?_) | (refine soft_do rfl (fun K hK => ?_); go_simp; refine (lawssameInts_c (TO.out.below HS).raw S21.out.raw).mono ?_; rintro e wS1 ⟨he_, hbS⟩; have he2_ : e = .returned (.bool true) := he_.trans (by rw [HTS.out]; simp); subst he2_; clear he_; replace HS := HS.trans (hbS.mono HS.size); refine hK _ _ HS ?_; clear hK K hbS)
  all_goals try simp only [Act.put, List.setIfInBounds_toArray, List.set_cons_zero, List.set_cons_succ]
  all_goals first | (refine soft_pass rfl HS ?_) | (refine soft_read (v := ?_) rfl (fun W hW => ?_) ?_; rotate_left; (· go_simp; try with_reducible rfl))
  all_goals try simp only [Act.put, List.setIfInBounds_toArray, List.set_cons_zero, List.set_cons_succ]
  all_goals first | (refine soft_pass rfl HS ?_) | (refine soft_read (v := ?_) rfl (fun W hW => ?_) ?_; rotate_left; (· go_simp; try with_reducible rfl))
  all_goals try simp only [Act.put, List.setIfInBounds_toArray, List.set_cons_zero, List.set_cons_succ]
  all_goals first | (refine soft_pass rfl HS ?_; have hg25 := True.intro) | (refine soft_part (v := ?_) (b := ?_) rfl (fun W hW => ?_) ?_ (fun b hg25 => ?_); rotate_left; rotate_left; (· go_simp; try with_reducible rfl); (· with_reducible rfl); cases b; all_goals first | (exact Bool.noConfusion hg25) | (simp only [Bool.not_eq_true', Bool.not_eq_false'] at hg25) | skip)
  all_goals try simp only [Act.put, List.setIfInBounds_toArray, List.set_cons_zero, List.set_cons_succ]
  all_goals first | (refine soft_pass rfl HS ?_) | (refine soft_read (v := ?_) rfl (fun W hW => ?_) ?_; rotate_left; (· go_simp; try with_reducible rfl))
  all_goals try simp only [Act.put, List.setIfInBounds_toArray, List.set_cons_zero, List.set_cons_succ]
  all_goals first | (refine soft_pass rfl HS ?_) | (refine soft_read (v := ?_) rfl (fun W hW => ?_) ?_; rotate_left; (· go_simp; try with_reducible rfl))
  all_goals try simp only [Act.put, List.setIfInBounds_toArray, List.set_cons_zero, List.set_cons_succ]
  all_goals first | (refine soft_pass rfl HS ?_) | (refine soft_read (v := ?_) rfl (fun W hW => ?_) ?_; rotate_left; (· go_simp; try with_reducible rfl))
  all_goals try simp only [Act.put, List.setIfInBounds_toArray, List.set_cons_zero, List.set_cons_succ]
  all_goals first | (refine soft_pass rfl HS ?_) | (refine soft_read (v := ?_) rfl (fun W hW => ?_) ?_; rotate_left; (· go_simp; try with_reducible rfl))
  all_goals try simp only [Act.put, List.setIfInBounds_toArray, List.set_cons_zero, List.set_cons_succ]
  all_goals first | (refine soft_pass rfl HS ?_) | (refine soft_do rfl (fun K hK => ?_); go_simp; refine (implEqualMeasurements_c (AO.out.below HS).rd (BO.out.below HS).rd).mono ?_; rintro e wS1 ⟨rfl, hbS⟩; replace HS := HS.trans (hbS.mono HS.size); refine hK _ _ HS ?_; clear hK K hbS)
  all_goals try simp only [Act.put, List.setIfInBounds_toArray, List.set_cons_zero, List.set_cons_succ]
  all_goals first | (refine soft_pass rfl HS ?_) | (refine soft_do rfl (fun K hK => ?_); go_simp; refine (lawssameMeas_c (AO.out.below HS).raw (BO.out.below HS).raw).mono ?_; rintro e wS1 ⟨rfl, hbS⟩; replace HS := HS.trans (hbS.mono HS.size); refine hK _ _ HS ?_; clear hK K hbS)
  all_goals try simp only [Act.put, List.setIfInBounds_toArray, List.set_cons_zero, List.set_cons_succ]
  all_goals first | (refine soft_pass rfl HS ?_) | (refine soft_read (v := ?_) rfl (fun W hW => ?_) ?_; rotate_left; (· go_simp; try with_reducible rfl))
  all_goals try simp only [Act.put, List.setIfInBounds_toArray, List.set_cons_zero, List.set_cons_succ]
  all_goals first | (refine soft_pass rfl HS ?_) | (refine soft_read (v := ?_) rfl (fun W hW => ?_) ?_; rotate_left; (· go_simp; try with_reducible rfl))
  all_goals try simp only [Act.put, List.setIfInBounds_toArray, List.set_cons_zero, List.set_cons_succ]
  all_goals first | (refine soft_pass rfl HS ?_; have hg34 := True.intro) | (refine soft_part (v := ?_) (b := ?_) rfl (fun W hW => ?_) ?_ (fun b hg34 => ?_); rotate_left; rotate_left; (· go_simp; try with_reducible rfl); (· with_reducible rfl); cases b; all_goals first | (exact Bool.noConfusion hg34) | (simp only [Bool.not_eq_true', Bool.not_eq_false'] at hg34) | skip)
  all_goals try simp only [Act.put, List.setIfInBounds_toArray, List.set_cons_zero, List.set_cons_succ]
  all_goals first | (refine soft_pass rfl HS ?_) | (refine soft_read (v := ?_) rfl (fun W hW => ?_) ?_; rotate_left; (· go_simp; try with_reducible rfl))
  all_goals try simp only [Act.put, List.setIfInBounds_toArray, List.set_cons_zero, List.set_cons_succ]
  all_goals first | (refine soft_pass rfl HS ?_) | (refine soft_read (v := ?_) rfl (fun W hW => ?_) ?_; rotate_left; (· have A_KBF_0 := cell_later hW KBF_0; have A_KBG_0 := cell_later hW KBG_0; have A_KBR_0 := cell_later hW KBR_0; clear hW; go_simp; try with_reducible rfl))
  all_goals try simp only [Act.put, List.setIfInBounds_toArray, List.set_cons_zero, List.set_cons_succ]
  all_goals first | (refine soft_pass rfl HS ?_) | (refine soft_read (v := ?_) rfl (fun W hW => ?_) ?_; rotate_left; (· go_simp; try with_reducible rfl))
  all_goals try simp only [Act.put, List.setIfInBounds_toArray, List.set_cons_zero, List.set_cons_succ]
  all_goals first | (refine soft_pass rfl HS ?_) | (refine soft_read (v := ?_) rfl (fun W hW => ?_) ?_; rotate_left; (· go_simp; try with_reducible rfl))
  all_goals try simp only [Act.put, List.setIfInBounds_toArray, List.set_cons_zero, List.set_cons_succ]
  all_goals first | (refine soft_pass rfl HS ?_) | (refine soft_read (v := ?_) rfl (fun W hW => ?_) ?_; rotate_left; (· have A_KBF_0 := cell_later hW KBF_0; have A_KBG_0 := cell_later hW KBG_0; have A_KBR_0 := cell_later hW KBR_0; clear hW; go_simp; try with_reducible rfl))
  all_goals try simp only [Act.put, List.setIfInBounds_toArray, List.set_cons_zero, List.set_cons_succ]
  all_goals first | (refine soft_pass rfl HS ?_) | (refine soft_read (v := ?_) rfl (fun W hW => ?_) ?_; rotate_left; (· go_simp; try with_reducible rfl))
  all_goals try simp only [Act.put, List.setIfInBounds_toArray, List.set_cons_zero, List.set_cons_succ]
  all_goals first | (refine soft_pass rfl HS ?_) | (refine soft_do rfl (fun K hK => ?_); go_simp; refine (implFailuresOf_c (fHO.out.below HS).rd (cn := [.slice fna fnm.length fnc]) (fHR.out.below HS).rd (f := fx) (by omega)).mono ?_; rintro e wS1 ⟨rfl, hbS⟩; replace HS := HS.trans (hbS.mono HS.size); refine hK _ _ HS ?_; clear hK K hbS)
  all_goals try simp only [Act.put, List.setIfInBounds_toArray, List.set_cons_zero, List.set_cons_succ]
  all_goals first | (refine soft_pass rfl HS ?_) | (refine soft_do rfl (fun K hK => ?_); go_simp; refine (specFailuresOf_c (fHO.out.below HS).rd (cn := [.slice fna fnm.length fnc]) (fHR.out.below HS).rd (f := fx) (by omega)).mono ?_; rintro e wS1 ⟨rfl, hbS⟩; replace HS := HS.trans (hbS.mono HS.size); refine hK _ _ HS ?_; clear hK K hbS)
  all_goals try simp only [Act.put, List.setIfInBounds_toArray, List.set_cons_zero, List.set_cons_succ]
  all_goals first | (refine soft_pass rfl HS ?_) | (refine soft_read (v := ?_) rfl (fun W hW => ?_) ?_; rotate_left; (· go_simp; try with_reducible rfl))
  all_goals try simp only [Act.put, List.setIfInBounds_toArray, List.set_cons_zero, List.set_cons_succ]
  all_goals first | (refine soft_pass rfl HS ?_) | (refine soft_read (v := ?_) rfl (fun W hW => ?_) ?_; rotate_left; (· go_simp; try with_reducible rfl))
  all_goals try simp only [Act.put, List.setIfInBounds_toArray, List.set_cons_zero, List.set_cons_succ]
  all_goals first | (refine soft_pass rfl HS ?_; have hg45 := True.intro) | (refine soft_part (v := ?_) (b := ?_) rfl (fun W hW => ?_) ?_ (fun b hg45 => ?_); rotate_left; rotate_left; (· go_simp; try with_reducible rfl); (· with_reducible rfl); cases b; all_goals first | (exact Bool.noConfusion hg45) | (simp only [Bool.not_eq_true', Bool.not_eq_false'] at hg45) | skip)
  all_goals try simp only [Act.put, List.setIfInBounds_toArray, List.set_cons_zero, List.set_cons_succ]
  all_goals first | (refine soft_pass rfl HS ?_) | (refine soft_read (v := ?_) rfl (fun W hW => ?_) ?_; rotate_left; (· go_simp; try with_reducible rfl))
  all_goals try simp only [Act.put, List.setIfInBounds_toArray, List.set_cons_zero, List.set_cons_succ]
  all_goals first | (refine soft_pass rfl HS ?_) | (refine soft_read (v := ?_) rfl (fun W hW => ?_) ?_; rotate_left; (· go_simp; try with_reducible rfl))
  all_goals try simp only [Act.put, List.setIfInBounds_toArray, List.set_cons_zero, List.set_cons_succ]
  all_goals first | (refine soft_pass rfl HS ?_) | (refine soft_do rfl (fun K hK => ?_); go_simp; refine (implWorstFailures_c (fHO.out.below HS).rd).mono ?_; rintro e wS1 ⟨rfl, hbS⟩; replace HS := HS.trans (hbS.mono HS.size); refine hK _ _ HS ?_; clear hK K hbS)
  all_goals try simp only [Act.put, List.setIfInBounds_toArray, List.set_cons_zero, List.set_cons_succ]
  all_goals first | (refine soft_pass rfl HS ?_) | (refine soft_do rfl (fun K hK => ?_); go_simp; refine (specWorstFailures_c (fHO.out.below HS).rd).mono ?_; rintro e wS1 ⟨rfl, hbS⟩; replace HS := HS.trans (hbS.mono HS.size); refine hK _ _ HS ?_; clear hK K hbS)
  all_goals try simp only [Act.put, List.setIfInBounds_toArray, List.set_cons_zero, List.set_cons_succ]
  all_goals first | (refine soft_pass rfl HS ?_) | (refine soft_read (v := ?_) rfl (fun W hW => ?_) ?_; rotate_left; (· go_simp; try with_reducible rfl))
  all_goals try simp only [Act.put, List.setIfInBounds_toArray, List.set_cons_zero, List.set_cons_succ]
  all_goals first | (refine soft_pass rfl HS ?_) | (refine soft_read (v := ?_) rfl (fun W hW => ?_) ?_; rotate_left; (· go_simp; try with_reducible rfl))
  all_goals try simp only [Act.put, List.setIfInBounds_toArray, List.set_cons_zero, List.set_cons_succ]
  all_goals first | (refine soft_pass rfl HS ?_; have hg52 := True.intro) | (refine soft_part (v := ?_) (b := ?_) rfl (fun W hW => ?_) ?_ (fun b hg52 => ?_); rotate_left; rotate_left; (· go_simp; try with_reducible rfl); (· with_reducible rfl); cases b; all_goals first | (exact Bool.noConfusion hg52) | (simp only [Bool.not_eq_true', Bool.not_eq_false'] at hg52) | skip)
  all_goals try simp only [Act.put, List.setIfInBounds_toArray, List.set_cons_zero, List.set_cons_succ]
  all_goals first | (refine soft_pass rfl HS ?_) | (refine soft_read (v := ?_) rfl (fun W hW => ?_) ?_; rotate_left; (· go_simp; try with_reducible rfl))
  all_goals try simp only [Act.put, List.setIfInBounds_toArray, List.set_cons_zero, List.set_cons_succ]
  all_goals first | (refine soft_pass rfl HS ?_) | (refine soft_read (v := ?_) rfl (fun W hW => ?_) ?_; rotate_left; (· go_simp; try with_reducible rfl))
  all_goals try simp only [Act.put, List.setIfInBounds_toArray, List.set_cons_zero, List.set_cons_succ]
  all_goals first | (refine soft_pass rfl HS ?_) | (refine soft_do rfl (fun K hK => ?_); go_simp; refine (implValidMeasurements_c (fHO.out.below HS).rd).mono ?_; rintro e wS1 ⟨rfl, hbS⟩; replace HS := HS.trans (hbS.mono HS.size); refine hK _ _ HS ?_; clear hK K hbS)
  all_goals try simp only [Act.put, List.setIfInBounds_toArray, List.set_cons_zero, List.set_cons_succ]
  all_goals first | (refine soft_pass rfl HS ?_) | (refine soft_do rfl (fun K hK => ?_); go_simp; refine (specValidMeasurements_c (fHO.out.below HS).rd).mono ?_; rintro e wS1 ⟨rfl, hbS⟩; replace HS := HS.trans (hbS.mono HS.size); refine hK _ _ HS ?_; clear hK K hbS)
  all_goals try simp only [Act.put, List.setIfInBounds_toArray, List.set_cons_zero, List.set_cons_succ]
  all_goals first | (refine soft_pass rfl HS ?_) | (refine soft_read (v := ?_) rfl (fun W hW => ?_) ?_; rotate_left; (· go_simp; try with_reducible rfl))
  all_goals try simp only [Act.put, List.setIfInBounds_toArray, List.set_cons_zero, List.set_cons_succ]
  all_goals first | (refine soft_pass rfl HS ?_) | (refine soft_read (v := ?_) rfl (fun W hW => ?_) ?_; rotate_left; (· go_simp; try with_reducible rfl))
  all_goals try simp only [Act.put, List.setIfInBounds_toArray, List.set_cons_zero, List.set_cons_succ]
  all_goals refine soft_nil ?_
  replace BF := keepBox BF HS
  replace BG := keepBox BG HS
  replace BR := keepBox BR HS
  replace fHO := Lib.hid (fHO.out.below HS)
  replace fHR := Lib.hid (fHR.out.below HS)
  replace XO := Lib.hid (XO.out.below HS)
  replace gHO := Lib.hid (gHO.out.below HS)
  replace gHR := Lib.hid (gHR.out.below HS)
  replace YO := Lib.hid (YO.out.below HS)
  replace rHO := Lib.hid (rHO.out.below HS)
  replace rHR := Lib.hid (rHR.out.below HS)
  replace SO := Lib.hid (SO.out.below HS)
  replace TO := Lib.hid (TO.out.below HS)
  replace AO := Lib.hid (AO.out.below HS)
  replace BO := Lib.hid (BO.out.below HS)
  replace EE := EE.trans (HS.mono EE.size)
  clear HS
  go_wp2
  go_loopw [17] (fun i wr => ∃ j : Nat, i = .int .i64 ((j : Int) + 1) ∧ Below wS1.heap.size wS1 wr) (fun i _ => ts.length - (intOf i).toNat)
  case atStart => exact ⟨0, rfl, Below.refl _ _⟩
  case round =>
    obtain ⟨j, rfl, hbel⟩ := hrel
    have hj0 := Int.natCast_nonneg j
    replace BF := keepBox BF hbel
    replace BG := keepBox BG hbel
    replace BR := keepBox BR hbel
    replace fHO := Lib.hid (fHO.out.below hbel)
    replace fHR := Lib.hid (fHR.out.below hbel)
    replace XO := Lib.hid (XO.out.below hbel)
    replace gHO := Lib.hid (gHO.out.below hbel)
    replace gHR := Lib.hid (gHR.out.below hbel)
    replace YO := Lib.hid (YO.out.below hbel)
    replace rHO := Lib.hid (rHO.out.below hbel)
    replace rHR := Lib.hid (rHR.out.below hbel)
    replace SO := Lib.hid (SO.out.below hbel)
    replace TO := Lib.hid (TO.out.below hbel)
    replace AO := Lib.hid (AO.out.below hbel)
    replace BO := Lib.hid (BO.out.below hbel)
    replace EE := EE.trans (hbel.mono EE.size)
    by_cases hlt : j + 1 < ts.length
    · obtain ⟨tb, to_, rfl, c0, cr, AC0⟩ := Rep.get1 TO.out.raw (i := j) (by omega) rfl
      obtain ⟨tb2, to2_, he_, c1, cr1, AC1⟩ := Rep.get1 TO.out.raw (i := j + 1) hlt rfl
      simp only [Option.some.injEq, Addr.mk.injEq, and_true] at he_
      obtain ⟨rfl, rfl⟩ := he_
      obtain ⟨e0, hr0⟩ := Rep.int_raw cr
      obtain rfl : c0 = _ := by simpa using e0
      obtain ⟨e1, hr1⟩ := Rep.int_raw cr1
      obtain rfl : c1 = _ := by simpa using e1
      clear e0 e1 cr cr1
      have hle := HASC.out (j + 1) (by omega) hlt
      simp only [Nat.add_sub_cancel] at hle
      generalize ts[j] = ta0 at *
      generalize ts[j + 1] = ta1 at *
      have hltI : (j : Int) + 1 < ts.length := by omega
      have hj1 : (0 : Int) ≤ (j : Int) + 1 := by omega
      have hltI0 : (j : Int) < ts.length := by omega
      have hjw : IntKind.i64.wrap (j : Int) = (j : Int) := IntWalk.i64_in _ (by have := HRL.out; omega)
      have htl : ts.length ≤ 5 := by have := HRL.out; omega
      go_upto_region 15 with fail
      have KBR_0 : wr.cell? ⟨w8.heap.size, 0, none⟩ = some (.slice rna rnm.length rnc) := boxCell BR rfl
      refine wp_region_softP (fun W => Below wr.heap.size wr W) [(0, true), (1, true), (2, true), (3, true), (4, true), (5, true), (6, true), (8, true), (9, true), (10, true), (11, true), (12, true), (13, true), (7, false), (14, false), (15, true)] (by kernel_rfl) (by kernel_rfl) (fun c a d v w h => by cases d <;> exact h) ((Below.refl _ _).drew) ?_
      intro wS HS
      simp only [pickOps, List.getElem?_cons_succ, List.getElem?_cons_zero, List.map_cons, List.map_nil]
      all_goals first | (refine soft_pass rfl HS ?_) | (refine soft_read (v := ?_) rfl (fun W hW => ?_) ?_; rotate_left; (· go_simp; try with_reducible rfl))
      all_goals try simp only [Act.put, List.setIfInBounds_toArray, List.set_cons_zero, List.set_cons_succ]
      all_goals first | (refine soft_pass rfl HS ?_) | (refine soft_read (v := ?_) rfl (fun W hW => ?_) ?_; rotate_left; (· have A_KBR_0 := cell_later hW KBR_0; have A_AC0 := cell_later hW AC0; have A_AC1 := cell_later hW AC1; clear hW; go_simp; try with_reducible rfl))
      all_goals try simp only [Act.put, List.setIfInBounds_toArray, List.set_cons_zero, List.set_cons_succ]
      all_goals first | (refine soft_pass rfl HS ?_) | (refine soft_read (v := ?_) rfl (fun W hW => ?_) ?_; rotate_left; (· go_simp; try with_reducible rfl))
      all_goals try simp only [Act.put, List.setIfInBounds_toArray, List.set_cons_zero, List.set_cons_succ]
      all_goals first | (refine soft_pass rfl HS ?_) | (refine soft_read (v := ?_) rfl (fun W hW => ?_) ?_; rotate_left; (· go_simp; try with_reducible rfl))
      all_goals try simp only [Act.put, List.setIfInBounds_toArray, List.set_cons_zero, List.set_cons_succ]
      all_goals first | (refine soft_pass rfl HS ?_) | (refine soft_read (v := ?_) rfl (fun W hW => ?_) ?_; rotate_left; (· go_simp; try with_reducible rfl))
      all_goals try simp only [Act.put, List.setIfInBounds_toArray, List.set_cons_zero, List.set_cons_succ]
      all_goals first | (refine soft_pass rfl HS ?_) | (refine soft_read (v := ?_) rfl (fun W hW => ?_) ?_; rotate_left; (· go_simp; try with_reducible rfl))
      all_goals try simp only [Act.put, List.setIfInBounds_toArray, List.set_cons_zero, List.set_cons_succ]
      all_goals first | (refine soft_pass rfl HS ?_) | (refine soft_read (v := ?_) rfl (fun W hW => ?_) ?_; rotate_left; (· have A_KBR_0 := cell_later hW KBR_0; have A_AC0 := cell_later hW AC0; have A_AC1 := cell_later hW AC1; clear hW; go_simp; try with_reducible rfl))
      all_goals try simp only [Act.put, List.setIfInBounds_toArray, List.set_cons_zero, List.set_cons_succ]
      all_goals first | (refine soft_pass rfl HS ?_) | (refine soft_read (v := ?_) rfl (fun W hW => ?_) ?_; rotate_left; (· go_simp; try with_reducible rfl))
      all_goals try simp only [Act.put, List.setIfInBounds_toArray, List.set_cons_zero, List.set_cons_succ]
      all_goals first | (refine soft_pass rfl HS ?_) | (refine soft_read (v := ?_) rfl (fun W hW => ?_) ?_; rotate_left; (· have A_KBR_0 := cell_later hW KBR_0; have A_AC0 := cell_later hW AC0; have A_AC1 := cell_later hW AC1; clear hW; go_simp; try with_reducible rfl))
      all_goals try simp only [Act.put, List.setIfInBounds_toArray, List.set_cons_zero, List.set_cons_succ]
      all_goals first | (refine soft_pass rfl HS ?_) | (refine soft_read (v := ?_) rfl (fun W hW => ?_) ?_; rotate_left; (· go_simp; try with_reducible rfl))
      all_goals try simp only [Act.put, List.setIfInBounds_toArray, List.set_cons_zero, List.set_cons_succ]
      all_goals first | (refine soft_pass rfl HS ?_) | (refine soft_read (v := ?_) rfl (fun W hW => ?_) ?_; rotate_left; (· go_simp; try with_reducible rfl))
      all_goals try simp only [Act.put, List.setIfInBounds_toArray, List.set_cons_zero, List.set_cons_succ]
      all_goals first | (refine soft_pass rfl HS ?_) | (refine soft_read (v := ?_) rfl (fun W hW => ?_) ?_; rotate_left; (· go_simp; try with_reducible rfl))
      all_goals try simp only [Act.put, List.setIfInBounds_toArray, List.set_cons_zero, List.set_cons_succ]
      all_goals first | (refine soft_pass rfl HS ?_) | (refine soft_read (v := ?_) rfl (fun W hW => ?_) ?_; rotate_left; (· have A_KBR_0 := cell_later hW KBR_0; have A_AC0 := cell_later hW AC0; have A_AC1 := cell_later hW AC1; clear hW; go_simp; try with_reducible rfl))
      all_goals try simp only [Act.put, List.setIfInBounds_toArray, List.set_cons_zero, List.set_cons_succ]
      all_goals first | (refine soft_pass rfl HS ?_) | (refine soft_do rfl (fun K hK => ?_); go_simp; refine (implFailuresOf_c (rHO.out.below HS).rd (cn := [.slice rna rnm.length rnc]) (rHR.out.below HS).rd (f := ta0) (by omega)).mono ?_; rintro e wS1 ⟨rfl, hbS⟩; replace HS := HS.trans (hbS.mono HS.size); refine hK _ _ HS ?_; clear hK K hbS)
      all_goals try simp only [Act.put, List.setIfInBounds_toArray, List.set_cons_zero, List.set_cons_succ]
      all_goals first | (refine soft_pass rfl HS ?_) | (refine soft_do rfl (fun K hK => ?_); go_simp; refine (implFailuresOf_c (rHO.out.below HS).rd (cn := [.slice rna rnm.length rnc]) (rHR.out.below HS).rd (f := ta1) (by omega)).mono ?_; rintro e wS1 ⟨rfl, hbS⟩; replace HS := HS.trans (hbS.mono HS.size); refine hK _ _ HS ?_; clear hK K hbS)
      all_goals try simp only [Act.put, List.setIfInBounds_toArray, List.set_cons_zero, List.set_cons_succ]
      all_goals first | (refine soft_pass rfl HS ?_) | (refine soft_read (v := ?_) rfl (fun W hW => ?_) ?_; rotate_left; (· go_simp; try with_reducible rfl))
      all_goals try simp only [Act.put, List.setIfInBounds_toArray, List.set_cons_zero, List.set_cons_succ]
      all_goals refine soft_nil ?_
      clear AC0 AC1
      have hbS := hbel.trans (HS.mono hbel.size)
      have hgt : ¬ (failOf rl rnm ta0 > failOf rl rnm ta1) := by omega
      generalize failOf rl rnm ta0 = A at *
      generalize failOf rl rnm ta1 = B at *
      go_wp2
      go_roundw
      case rel => exact ⟨j + 1, by go_num, hbS⟩
      case measure => simp [intOf]; omega

    · have hltI : ¬ ((j : Int) + 1 < ts.length) := by omega
      have ok1 := fun h => recF_valid (n := fnm) (f := fx) (l := fl) h
      have ok2 := fun h => recS_valid (n := gnm) (f := gx) (l := gl) h
      have le1 := fun h => failOf_recF (n := fnm) (f := fx) (l := fl) h
      have le2 := fun h => failOf_recS (n := gnm) (f := gx) (l := gl) h
      generalize recF fnm fx fl = X at *
      generalize recS gnm gx gl = Y at *
      have OK1 := Lib.hid ok1; have OK2 := Lib.hid ok2; have LE1 := Lib.hid le1; have LE2 := Lib.hid le2; clear ok1 ok2 le1 le2
      cases hv1 : vMeass fl
      · have HV1 := Lib.hid hv1
        clear hv1
        cases hv2 : vMeass gl
        · have HV2 := Lib.hid hv2
          clear hv2
          have hv1 := HV1.out
          have hv2 := HV2.out
          clear hv1 hv2
          go_wp2_with fail
          refine (implValidMeasurements_c fHO.out.rd).mono ?_
          rintro e w12 ⟨he_, hb⟩
          rw [HV1.out] at he_
          subst he_
          have z_w12 := hb.size
          replace BF := keepBox BF hb
          replace BG := keepBox BG hb
          replace BR := keepBox BR hb
          replace fHO := Lib.hid (fHO.out.below hb)
          replace fHR := Lib.hid (fHR.out.below hb)
          replace XO := Lib.hid (XO.out.below hb)
          replace gHO := Lib.hid (gHO.out.below hb)
          replace gHR := Lib.hid (gHR.out.below hb)
          replace YO := Lib.hid (YO.out.below hb)
          replace rHO := Lib.hid (rHO.out.below hb)
          replace rHR := Lib.hid (rHR.out.below hb)
          replace SO := Lib.hid (SO.out.below hb)
          replace TO := Lib.hid (TO.out.below hb)
          replace AO := Lib.hid (AO.out.below hb)
          replace BO := Lib.hid (BO.out.below hb)
          replace EE := EE.trans (hb.mono EE.size)
          clear hb
          go_wp2_with fail
          refine (implValidMeasurements_c gHO.out.rd).mono ?_
          rintro e w13 ⟨he_, hb⟩
          rw [HV2.out] at he_
          subst he_
          have z_w13 := hb.size
          replace BF := keepBox BF hb
          replace BG := keepBox BG hb
          replace BR := keepBox BR hb
          replace fHO := Lib.hid (fHO.out.below hb)
          replace fHR := Lib.hid (fHR.out.below hb)
          replace XO := Lib.hid (XO.out.below hb)
          replace gHO := Lib.hid (gHO.out.below hb)
          replace gHR := Lib.hid (gHR.out.below hb)
          replace YO := Lib.hid (YO.out.below hb)
          replace rHO := Lib.hid (rHO.out.below hb)
          replace rHR := Lib.hid (rHR.out.below hb)
          replace SO := Lib.hid (SO.out.below hb)
          replace TO := Lib.hid (TO.out.below hb)
          replace AO := Lib.hid (AO.out.below hb)
          replace BO := Lib.hid (BO.out.below hb)
          replace EE := EE.trans (hb.mono EE.size)
          clear hb
          go_upto_region 19 with fail
          have KBF_0 : w13.cell? ⟨w2.heap.size, 0, none⟩ = some (.slice fna fnm.length fnc) := boxCell BF rfl
          have KBG_0 : w13.cell? ⟨w5.heap.size, 0, none⟩ = some (.slice gna gnm.length gnc) := boxCell BG rfl
          have hlen : (ts.length : Int) = fs.length := by rw [HRL.out]
          have hlenB : ((ts.length : Int) == fs.length) = true := by simpa using hlen
          have HLEN := Lib.hid hlen
          clear hlen
          refine wp_region_softP (fun W => Below w13.heap.size w13 W) [(0, true), (1, true), (2, true), (3, true), (4, true), (5, true), (6, true), (7, false), (8, true), (9, true), (10, true), (11, true), (12, true), (14, true), (15, true), (16, true), (13, false), (17, false), (18, true), (19, true), (20, true), (21, true), (22, true), (23, false), (24, true), (25, true), (26, true), (27, true), (28, true), (30, true), (31, true), (32, true), (29, false), (33, false), (34, true), (35, true), (36, true), (37, true)] (by kernel_rfl) (by kernel_rfl) (fun c a d v w h => by cases d <;> exact h) ((Below.refl _ _).drew) ?_
          intro wS HS
          simp only [pickOps, List.getElem?_cons_succ, List.getElem?_cons_zero, List.map_cons, List.map_nil]
          all_goals first | (refine soft_pass rfl HS ?_) | (refine soft_read (v := ?_) rfl (fun W hW => ?_) ?_; rotate_left; (· go_simp; try with_reducible rfl))
          all_goals try simp only [Act.put, List.setIfInBounds_toArray, List.set_cons_zero, List.set_cons_succ]
          all_goals first | (refine soft_pass rfl HS ?_) | (refine soft_read (v := ?_) rfl (fun W hW => ?_) ?_; rotate_left; (· go_simp; try with_reducible rfl))
          all_goals try simp only [Act.put, List.setIfInBounds_toArray, List.set_cons_zero, List.set_cons_succ]
          all_goals first | (refine soft_pass rfl HS ?_) | (refine soft_read (v := ?_) rfl (fun W hW => ?_) ?_; rotate_left; (· go_simp; try with_reducible rfl))
          all_goals try simp only [Act.put, List.setIfInBounds_toArray, List.set_cons_zero, List.set_cons_succ]
          all_goals first | (refine soft_pass rfl HS ?_) | (refine soft_read (v := ?_) rfl (fun W hW => ?_) ?_; rotate_left; (· go_simp; try with_reducible rfl))
          all_goals try simp only [Act.put, List.setIfInBounds_toArray, List.set_cons_zero, List.set_cons_succ]
          all_goals first | (refine soft_pass rfl HS ?_) | (refine soft_read (v := ?_) rfl (fun W hW => ?_) ?_; rotate_left; (· go_simp; try with_reducible rfl))
          all_goals try simp only [Act.put, List.setIfInBounds_toArray, List.set_cons_zero, List.set_cons_succ]
          all_goals first | (refine soft_pass rfl HS ?_; have hg5 := True.intro) | (refine soft_part (v := ?_) (b := ?_) rfl (fun W hW => ?_) ?_ (fun b hg5 => ?_); rotate_left; rotate_left; (· go_simp; try with_reducible rfl); (· with_reducible rfl); cases b; all_goals first | (exact Bool.noConfusion hg5) | (simp only [Bool.not_eq_true', Bool.not_eq_false'] at hg5) | skip)
          all_goals try simp only [Act.put, List.setIfInBounds_toArray, List.set_cons_zero, List.set_cons_succ]
          all_goals first | (refine soft_pass rfl HS ?_) | (refine soft_read (v := ?_) rfl (fun W hW => ?_) ?_; rotate_left; (· go_simp; try with_reducible rfl))
          all_goals try simp only [Act.put, List.setIfInBounds_toArray, List.set_cons_zero, List.set_cons_succ]
          all_goals first | (refine soft_pass rfl HS ?_) | (refine soft_do rfl (fun K hK => ?_); go_simp; refine (implValidMeasurements_c (gHO.out.below HS).rd).mono ?_; rintro e wS1 ⟨he_, hbS⟩; have he2_ : e = .returned (.bool false) := he_.trans (by rw [HV2.out]); subst he2_; clear he_; replace HS := HS.trans (hbS.mono HS.size); refine hK _ _ HS ?_; clear hK K hbS)
          all_goals try simp only [Act.put, List.setIfInBounds_toArray, List.set_cons_zero, List.set_cons_succ]
          all_goals first | (refine soft_pass rfl HS ?_) | (refine soft_read (v := ?_) rfl (fun W hW => ?_) ?_; rotate_left; (· go_simp; try with_reducible rfl))
          all_goals try simp only [Act.put, List.setIfInBounds_toArray, List.set_cons_zero, List.set_cons_succ]
          all_goals first | (refine soft_pass rfl HS ?_; have hg9 := True.intro) | (refine soft_part (v := ?_) (b := ?_) rfl (fun W hW => ?_) ?_ (fun b hg9 => ?_); rotate_left; rotate_left; (· go_simp; try with_reducible rfl); (· with_reducible rfl); cases b; all_goals first | (exact Bool.noConfusion hg9) | (simp only [Bool.not_eq_true', Bool.not_eq_false'] at hg9) | skip)
          all_goals try simp only [Act.put, List.setIfInBounds_toArray, List.set_cons_zero, List.set_cons_succ]
          all_goals first | (refine soft_pass rfl HS ?_) | (refine soft_read (v := ?_) rfl (fun W hW => ?_) ?_; rotate_left; (· go_simp; try with_reducible rfl))
          all_goals try simp only [Act.put, List.setIfInBounds_toArray, List.set_cons_zero, List.set_cons_succ]
          all_goals first | (refine soft_pass rfl HS ?_) | (refine soft_read (v := ?_) rfl (fun W hW => ?_) ?_; rotate_left; (· have A_KBF_0 := cell_later hW KBF_0; have A_KBG_0 := cell_later hW KBG_0; clear hW; go_simp; try with_reducible rfl))
          all_goals try simp only [Act.put, List.setIfInBounds_toArray, List.set_cons_zero, List.set_cons_succ]
          all_goals first | (refine soft_pass rfl HS ?_) | (refine soft_read (v := ?_) rfl (fun W hW => ?_) ?_; rotate_left; (· go_simp; try with_reducible rfl))
          all_goals try simp only [Act.put, List.setIfInBounds_toArray, List.set_cons_zero, List.set_cons_succ]
          all_goals first | (refine soft_pass rfl HS ?_) | (refine soft_read (v := ?_) rfl (fun W hW => ?_) ?_; rotate_left; (· go_simp; try with_reducible rfl))
          all_goals try simp only [Act.put, List.setIfInBounds_toArray, List.set_cons_zero, List.set_cons_succ]
          all_goals first | (refine soft_pass rfl HS ?_) | (refine soft_read (v := ?_) rfl (fun W hW => ?_) ?_; rotate_left; (· have A_KBF_0 := cell_later hW KBF_0; have A_KBG_0 := cell_later hW KBG_0; clear hW; go_simp; try with_reducible rfl))
          all_goals try simp only [Act.put, List.setIfInBounds_toArray, List.set_cons_zero, List.set_cons_succ]
          all_goals first | (refine soft_pass rfl HS ?_) | (refine soft_read (v := ?_) rfl (fun W hW => ?_) ?_; rotate_left; (· go_simp; try with_reducible rfl))
          all_goals try simp only [Act.put, List.setIfInBounds_toArray, List.set_cons_zero, List.set_cons_succ]
          all_goals first | (refine soft_pass rfl HS ?_) | (refine soft_do rfl (fun K hK => ?_); go_simp; refine (implFailuresOf_c (YO.out.below HS).rd (cn := [.slice gna gnm.length gnc]) (gHR.out.below HS).rd (f := gx) (by omega)).mono ?_; rintro e wS1 ⟨rfl, hbS⟩; replace HS := HS.trans (hbS.mono HS.size); refine hK _ _ HS ?_; clear hK K hbS)
          all_goals try simp only [Act.put, List.setIfInBounds_toArray, List.set_cons_zero, List.set_cons_succ]
          all_goals first | (refine soft_pass rfl HS ?_) | (refine soft_do rfl (fun K hK => ?_); go_simp; refine (implFailuresOf_c (gHO.out.below HS).rd (cn := [.slice gna gnm.length gnc]) (gHR.out.below HS).rd (f := gx) (by omega)).mono ?_; rintro e wS1 ⟨rfl, hbS⟩; replace HS := HS.trans (hbS.mono HS.size); refine hK _ _ HS ?_; clear hK K hbS)
          all_goals try simp only [Act.put, List.setIfInBounds_toArray, List.set_cons_zero, List.set_cons_succ]
          all_goals first | (refine soft_pass rfl HS ?_) | (refine soft_read (v := ?_) rfl (fun W hW => ?_) ?_; rotate_left; (· go_simp; try with_reducible rfl))
          all_goals try simp only [Act.put, List.setIfInBounds_toArray, List.set_cons_zero, List.set_cons_succ]
          all_goals first | (refine soft_pass rfl HS ?_) | (refine soft_read (v := ?_) rfl (fun W hW => ?_) ?_; rotate_left; (· go_simp; try with_reducible rfl))
          all_goals try simp only [Act.put, List.setIfInBounds_toArray, List.set_cons_zero, List.set_cons_succ]
          all_goals first | (refine soft_pass rfl HS ?_) | (refine soft_read (v := ?_) rfl (fun W hW => ?_) ?_; rotate_left; (· go_simp; try with_reducible rfl))
          all_goals try simp only [Act.put, List.setIfInBounds_toArray, List.set_cons_zero, List.set_cons_succ]
          all_goals first | (refine soft_pass rfl HS ?_; have hg21 := True.intro) | (refine soft_part (v := ?_) (b := ?_) rfl (fun W hW => ?_) ?_ (fun b hg21 => ?_); rotate_left; rotate_left; (· go_simp; try with_reducible rfl); (· with_reducible rfl); cases b; all_goals first | (exact Bool.noConfusion hg21) | (simp only [Bool.not_eq_true', Bool.not_eq_false'] at hg21) | skip)
          all_goals try simp only [Act.put, List.setIfInBounds_toArray, List.set_cons_zero, List.set_cons_succ]
          all_goals first | (refine soft_pass rfl HS ?_) | (refine soft_read (v := ?_) rfl (fun W hW => ?_) ?_; rotate_left; (· go_simp; try with_reducible rfl))
          all_goals try simp only [Act.put, List.setIfInBounds_toArray, List.set_cons_zero, List.set_cons_succ]
          all_goals first | (refine soft_pass rfl HS ?_) | (refine soft_do rfl (fun K hK => ?_); go_simp; refine (implValidMeasurements_c (fHO.out.below HS).rd).mono ?_; rintro e wS1 ⟨he_, hbS⟩; have he2_ : e = .returned (.bool false) := he_.trans (by rw [HV1.out]); subst he2_; clear he_; replace HS := HS.trans (hbS.mono HS.size); refine hK _ _ HS ?_; clear hK K hbS)
          all_goals try simp only [Act.put, List.setIfInBounds_toArray, List.set_cons_zero, List.set_cons_succ]
          all_goals first | (refine soft_pass rfl HS ?_) | (refine soft_read (v := ?_) rfl (fun W hW => ?_) ?_; rotate_left; (· go_simp; try with_reducible rfl))
          all_goals try simp only [Act.put, List.setIfInBounds_toArray, List.set_cons_zero, List.set_cons_succ]
          all_goals first | (refine soft_pass rfl HS ?_; have hg25 := True.intro) | (refine soft_part (v := ?_) (b := ?_) rfl (fun W hW => ?_) ?_ (fun b hg25 => ?_); rotate_left; rotate_left; (· go_simp; try with_reducible rfl); (· with_reducible rfl); cases b; all_goals first | (exact Bool.noConfusion hg25) | (simp only [Bool.not_eq_true', Bool.not_eq_false'] at hg25) | skip)
          all_goals try simp only [Act.put, List.setIfInBounds_toArray, List.set_cons_zero, List.set_cons_succ]
          all_goals first | (refine soft_pass rfl HS ?_) | (refine soft_read (v := ?_) rfl (fun W hW => ?_) ?_; rotate_left; (· go_simp; try with_reducible rfl))
          all_goals try simp only [Act.put, List.setIfInBounds_toArray, List.set_cons_zero, List.set_cons_succ]
          all_goals first | (refine soft_pass rfl HS ?_) | (refine soft_read (v := ?_) rfl (fun W hW => ?_) ?_; rotate_left; (· have A_KBF_0 := cell_later hW KBF_0; have A_KBG_0 := cell_later hW KBG_0; clear hW; go_simp; try with_reducible rfl))
          all_goals try simp only [Act.put, List.setIfInBounds_toArray, List.set_cons_zero, List.set_cons_succ]
          all_goals first | (refine soft_pass rfl HS ?_) | (refine soft_read (v := ?_) rfl (fun W hW => ?_) ?_; rotate_left; (· go_simp; try with_reducible rfl))
          all_goals try simp only [Act.put, List.setIfInBounds_toArray, List.set_cons_zero, List.set_cons_succ]
          all_goals first | (refine soft_pass rfl HS ?_) | (refine soft_read (v := ?_) rfl (fun W hW => ?_) ?_; rotate_left; (· go_simp; try with_reducible rfl))
          all_goals try simp only [Act.put, List.setIfInBounds_toArray, List.set_cons_zero, List.set_cons_succ]
          all_goals first | (refine soft_pass rfl HS ?_) | (refine soft_read (v := ?_) rfl (fun W hW => ?_) ?_; rotate_left; (· have A_KBF_0 := cell_later hW KBF_0; have A_KBG_0 := cell_later hW KBG_0; clear hW; go_simp; try with_reducible rfl))
          all_goals try simp only [Act.put, List.setIfInBounds_toArray, List.set_cons_zero, List.set_cons_succ]
          all_goals first | (refine soft_pass rfl HS ?_) | (refine soft_read (v := ?_) rfl (fun W hW => ?_) ?_; rotate_left; (· go_simp; try with_reducible rfl))
          all_goals try simp only [Act.put, List.setIfInBounds_toArray, List.set_cons_zero, List.set_cons_succ]
          all_goals first | (refine soft_pass rfl HS ?_) | (refine soft_do rfl (fun K hK => ?_); go_simp; refine (implFailuresOf_c (XO.out.below HS).rd (cn := [.slice fna fnm.length fnc]) (fHR.out.below HS).rd (f := fx) (by omega)).mono ?_; rintro e wS1 ⟨rfl, hbS⟩; replace HS := HS.trans (hbS.mono HS.size); refine hK _ _ HS ?_; clear hK K hbS)
          all_goals try simp only [Act.put, List.setIfInBounds_toArray, List.set_cons_zero, List.set_cons_succ]
          all_goals first | (refine soft_pass rfl HS ?_) | (refine soft_do rfl (fun K hK => ?_); go_simp; refine (implFailuresOf_c (fHO.out.below HS).rd (cn := [.slice fna fnm.length fnc]) (fHR.out.below HS).rd (f := fx) (by omega)).mono ?_; rintro e wS1 ⟨rfl, hbS⟩; replace HS := HS.trans (hbS.mono HS.size); refine hK _ _ HS ?_; clear hK K hbS)
          all_goals try simp only [Act.put, List.setIfInBounds_toArray, List.set_cons_zero, List.set_cons_succ]
          all_goals first | (refine soft_pass rfl HS ?_) | (refine soft_read (v := ?_) rfl (fun W hW => ?_) ?_; rotate_left; (· go_simp; try with_reducible rfl))
          all_goals try simp only [Act.put, List.setIfInBounds_toArray, List.set_cons_zero, List.set_cons_succ]
          all_goals first | (refine soft_pass rfl HS ?_) | (refine soft_read (v := ?_) rfl (fun W hW => ?_) ?_; rotate_left; (· go_simp; try with_reducible rfl))
          all_goals try simp only [Act.put, List.setIfInBounds_toArray, List.set_cons_zero, List.set_cons_succ]
          all_goals first | (refine soft_pass rfl HS ?_) | (refine soft_read (v := ?_) rfl (fun W hW => ?_) ?_; rotate_left; (· go_simp; try with_reducible rfl))
          all_goals try simp only [Act.put, List.setIfInBounds_toArray, List.set_cons_zero, List.set_cons_succ]
          all_goals first | (refine soft_pass rfl HS ?_) | (refine soft_read (v := ?_) rfl (fun W hW => ?_) ?_; rotate_left; (· go_simp; try with_reducible rfl))
          all_goals try simp only [Act.put, List.setIfInBounds_toArray, List.set_cons_zero, List.set_cons_succ]
          all_goals refine soft_nil ?_
          have hbS := EE.trans (HS.mono EE.size)
          go_wp2
          go_ret
          exact ⟨by simp [hlenB], hbS⟩

        · have HV2 := Lib.hid hv2
          clear hv2
          have hv1 := HV1.out
          have hv2 := HV2.out
          clear hv1 hv2
          go_wp2_with fail
          refine (implValidMeasurements_c fHO.out.rd).mono ?_
          rintro e w12 ⟨he_, hb⟩
          rw [HV1.out] at he_
          subst he_
          have z_w12 := hb.size
          replace BF := keepBox BF hb
          replace BG := keepBox BG hb
          replace BR := keepBox BR hb
          replace fHO := Lib.hid (fHO.out.below hb)
          replace fHR := Lib.hid (fHR.out.below hb)
          replace XO := Lib.hid (XO.out.below hb)
          replace gHO := Lib.hid (gHO.out.below hb)
          replace gHR := Lib.hid (gHR.out.below hb)
          replace YO := Lib.hid (YO.out.below hb)
          replace rHO := Lib.hid (rHO.out.below hb)
          replace rHR := Lib.hid (rHR.out.below hb)
          replace SO := Lib.hid (SO.out.below hb)
          replace TO := Lib.hid (TO.out.below hb)
          replace AO := Lib.hid (AO.out.below hb)
          replace BO := Lib.hid (BO.out.below hb)
          replace EE := EE.trans (hb.mono EE.size)
          clear hb
          go_wp2_with fail
          refine (implValidMeasurements_c gHO.out.rd).mono ?_
          rintro e w13 ⟨he_, hb⟩
          rw [HV2.out] at he_
          subst he_
          have z_w13 := hb.size
          replace BF := keepBox BF hb
          replace BG := keepBox BG hb
          replace BR := keepBox BR hb
          replace fHO := Lib.hid (fHO.out.below hb)
          replace fHR := Lib.hid (fHR.out.below hb)
          replace XO := Lib.hid (XO.out.below hb)
          replace gHO := Lib.hid (gHO.out.below hb)
          replace gHR := Lib.hid (gHR.out.below hb)
          replace YO := Lib.hid (YO.out.below hb)
          replace rHO := Lib.hid (rHO.out.below hb)
          replace rHR := Lib.hid (rHR.out.below hb)
          replace SO := Lib.hid (SO.out.below hb)
          replace TO := Lib.hid (TO.out.below hb)
          replace AO := Lib.hid (AO.out.below hb)
          replace BO := Lib.hid (BO.out.below hb)
          replace EE := EE.trans (hb.mono EE.size)
          clear hb
          go_wp2_with fail
          refine (implValidMeasurements_c YO.out.rd).mono ?_
          rintro e w14 ⟨he_, hb⟩
          rw [OK2.out HV2.out] at he_
          subst he_
          have z_w14 := hb.size
          replace BF := keepBox BF hb
          replace BG := keepBox BG hb
          replace BR := keepBox BR hb
          replace fHO := Lib.hid (fHO.out.below hb)
          replace fHR := Lib.hid (fHR.out.below hb)
          replace XO := Lib.hid (XO.out.below hb)
          replace gHO := Lib.hid (gHO.out.below hb)
          replace gHR := Lib.hid (gHR.out.below hb)
          replace YO := Lib.hid (YO.out.below hb)
          replace rHO := Lib.hid (rHO.out.below hb)
          replace rHR := Lib.hid (rHR.out.below hb)
          replace SO := Lib.hid (SO.out.below hb)
          replace TO := Lib.hid (TO.out.below hb)
          replace AO := Lib.hid (AO.out.below hb)
          replace BO := Lib.hid (BO.out.below hb)
          replace EE := EE.trans (hb.mono EE.size)
          clear hb
          go_upto_region 19 with fail
          have KBF_0 : w14.cell? ⟨w2.heap.size, 0, none⟩ = some (.slice fna fnm.length fnc) := boxCell BF rfl
          have KBG_0 : w14.cell? ⟨w5.heap.size, 0, none⟩ = some (.slice gna gnm.length gnc) := boxCell BG rfl
          have hlen : (ts.length : Int) = fs.length := by rw [HRL.out]
          have hlenB : ((ts.length : Int) == fs.length) = true := by simpa using hlen
          have HLEN := Lib.hid hlen
          clear hlen
          have hl2 := LE2.out HV2.out
          have hl2B : decide (failOf Y gnm gx ≤ failOf gl gnm gx) = true := by simpa using hl2
          refine wp_region_softP (fun W => Below w14.heap.size w14 W) [(0, true), (1, true), (2, true), (3, true), (4, true), (5, true), (6, true), (7, false), (8, true), (9, true), (10, true), (11, true), (12, true), (14, true), (15, true), (16, true), (13, false), (17, false), (18, true), (19, true), (20, true), (21, true), (22, true), (23, false), (24, true), (25, true), (26, true), (27, true), (28, true), (30, true), (31, true), (32, true), (29, false), (33, false), (34, true), (35, true), (36, true), (37, true)] (by kernel_rfl) (by kernel_rfl) (fun c a d v w h => by cases d <;> exact h) ((Below.refl _ _).drew) ?_
          intro wS HS
          simp only [pickOps, List.getElem?_cons_succ, List.getElem?_cons_zero, List.map_cons, List.map_nil]
          all_goals first | (refine soft_pass rfl HS ?_) | (refine soft_read (v := ?_) rfl (fun W hW => ?_) ?_; rotate_left; (· go_simp; try with_reducible rfl))
          all_goals try simp only [Act.put, List.setIfInBounds_toArray, List.set_cons_zero, List.set_cons_succ]
          all_goals first | (refine soft_pass rfl HS ?_) | (refine soft_read (v := ?_) rfl (fun W hW => ?_) ?_; rotate_left; (· go_simp; try with_reducible rfl))
          all_goals try simp only [Act.put, List.setIfInBounds_toArray, List.set_cons_zero, List.set_cons_succ]
          all_goals first | (refine soft_pass rfl HS ?_) | (refine soft_read (v := ?_) rfl (fun W hW => ?_) ?_; rotate_left; (· go_simp; try with_reducible rfl))
          all_goals try simp only [Act.put, List.setIfInBounds_toArray, List.set_cons_zero, List.set_cons_succ]
          all_goals first | (refine soft_pass rfl HS ?_) | (refine soft_read (v := ?_) rfl (fun W hW => ?_) ?_; rotate_left; (· go_simp; try with_reducible rfl))
          all_goals try simp only [Act.put, List.setIfInBounds_toArray, List.set_cons_zero, List.set_cons_succ]
          all_goals first | (refine soft_pass rfl HS ?_) | (refine soft_read (v := ?_) rfl (fun W hW => ?_) ?_; rotate_left; (· go_simp; try with_reducible rfl))
          all_goals try simp only [Act.put, List.setIfInBounds_toArray, List.set_cons_zero, List.set_cons_succ]
          all_goals first | (refine soft_pass rfl HS ?_; have hg5 := True.intro) | (refine soft_part (v := ?_) (b := ?_) rfl (fun W hW => ?_) ?_ (fun b hg5 => ?_); rotate_left; rotate_left; (· go_simp; try with_reducible rfl); (· with_reducible rfl); cases b; all_goals first | (exact Bool.noConfusion hg5) | (simp only [Bool.not_eq_true', Bool.not_eq_false'] at hg5) | skip)
          all_goals try simp only [Act.put, List.setIfInBounds_toArray, List.set_cons_zero, List.set_cons_succ]
          all_goals first | (refine soft_pass rfl HS ?_) | (refine soft_read (v := ?_) rfl (fun W hW => ?_) ?_; rotate_left; (· go_simp; try with_reducible rfl))
          all_goals try simp only [Act.put, List.setIfInBounds_toArray, List.set_cons_zero, List.set_cons_succ]
          all_goals first | (refine soft_pass rfl HS ?_) | (refine soft_do rfl (fun K hK => ?_); go_simp; refine (implValidMeasurements_c (gHO.out.below HS).rd).mono ?_; rintro e wS1 ⟨he_, hbS⟩; have he2_ : e = .returned (.bool true) := he_.trans (by rw [HV2.out]); subst he2_; clear he_; replace HS := HS.trans (hbS.mono HS.size); refine hK _ _ HS ?_; clear hK K hbS)
          all_goals try simp only [Act.put, List.setIfInBounds_toArray, List.set_cons_zero, List.set_cons_succ]
          all_goals first | (refine soft_pass rfl HS ?_) | (refine soft_read (v := ?_) rfl (fun W hW => ?_) ?_; rotate_left; (· go_simp; try with_reducible rfl))
          all_goals try simp only [Act.put, List.setIfInBounds_toArray, List.set_cons_zero, List.set_cons_succ]
          all_goals first | (refine soft_pass rfl HS ?_; have hg9 := True.intro) | (refine soft_part (v := ?_) (b := ?_) rfl (fun W hW => ?_) ?_ (fun b hg9 => ?_); rotate_left; rotate_left; (· go_simp; try with_reducible rfl); (· with_reducible rfl); cases b; all_goals first | (exact Bool.noConfusion hg9) | (simp only [Bool.not_eq_true', Bool.not_eq_false'] at hg9) | skip)
          all_goals try simp only [Act.put, List.setIfInBounds_toArray, List.set_cons_zero, List.set_cons_succ]
          all_goals first | (refine soft_pass rfl HS ?_) | (refine soft_read (v := ?_) rfl (fun W hW => ?_) ?_; rotate_left; (· go_simp; try with_reducible rfl))
          all_goals try simp only [Act.put, List.setIfInBounds_toArray, List.set_cons_zero, List.set_cons_succ]
          all_goals first | (refine soft_pass rfl HS ?_) | (refine soft_read (v := ?_) rfl (fun W hW => ?_) ?_; rotate_left; (· have A_KBF_0 := cell_later hW KBF_0; have A_KBG_0 := cell_later hW KBG_0; clear hW; go_simp; try with_reducible rfl))
          all_goals try simp only [Act.put, List.setIfInBounds_toArray, List.set_cons_zero, List.set_cons_succ]
          all_goals first | (refine soft_pass rfl HS ?_) | (refine soft_read (v := ?_) rfl (fun W hW => ?_) ?_; rotate_left; (· go_simp; try with_reducible rfl))
          all_goals try simp only [Act.put, List.setIfInBounds_toArray, List.set_cons_zero, List.set_cons_succ]
          all_goals first | (refine soft_pass rfl HS ?_) | (refine soft_read (v := ?_) rfl (fun W hW => ?_) ?_; rotate_left; (· go_simp; try with_reducible rfl))
          all_goals try simp only [Act.put, List.setIfInBounds_toArray, List.set_cons_zero, List.set_cons_succ]
          all_goals first | (refine soft_pass rfl HS ?_) | (refine soft_read (v := ?_) rfl (fun W hW => ?_) ?_; rotate_left; (· have A_KBF_0 := cell_later hW KBF_0; have A_KBG_0 := cell_later hW KBG_0; clear hW; go_simp; try with_reducible rfl))
          all_goals try simp only [Act.put, List.setIfInBounds_toArray, List.set_cons_zero, List.set_cons_succ]
          all_goals first | (refine soft_pass rfl HS ?_) | (refine soft_read (v := ?_) rfl (fun W hW => ?_) ?_; rotate_left; (· go_simp; try with_reducible rfl))
          all_goals try simp only [Act.put, List.setIfInBounds_toArray, List.set_cons_zero, List.set_cons_succ]
          all_goals first | (refine soft_pass rfl HS ?_) | (refine soft_do rfl (fun K hK => ?_); go_simp; refine (implFailuresOf_c (YO.out.below HS).rd (cn := [.slice gna gnm.length gnc]) (gHR.out.below HS).rd (f := gx) (by omega)).mono ?_; rintro e wS1 ⟨rfl, hbS⟩; replace HS := HS.trans (hbS.mono HS.size); refine hK _ _ HS ?_; clear hK K hbS)
          all_goals try simp only [Act.put, List.setIfInBounds_toArray, List.set_cons_zero, List.set_cons_succ]
          all_goals first | (refine soft_pass rfl HS ?_) | (refine soft_do rfl (fun K hK => ?_); go_simp; refine (implFailuresOf_c (gHO.out.below HS).rd (cn := [.slice gna gnm.length gnc]) (gHR.out.below HS).rd (f := gx) (by omega)).mono ?_; rintro e wS1 ⟨rfl, hbS⟩; replace HS := HS.trans (hbS.mono HS.size); refine hK _ _ HS ?_; clear hK K hbS)
          all_goals try simp only [Act.put, List.setIfInBounds_toArray, List.set_cons_zero, List.set_cons_succ]
          all_goals first | (refine soft_pass rfl HS ?_) | (refine soft_read (v := ?_) rfl (fun W hW => ?_) ?_; rotate_left; (· go_simp; try with_reducible rfl))
          all_goals try simp only [Act.put, List.setIfInBounds_toArray, List.set_cons_zero, List.set_cons_succ]
          all_goals first | (refine soft_pass rfl HS ?_) | (refine soft_read (v := ?_) rfl (fun W hW => ?_) ?_; rotate_left; (· go_simp; try with_reducible rfl))
          all_goals try simp only [Act.put, List.setIfInBounds_toArray, List.set_cons_zero, List.set_cons_succ]
          all_goals first | (refine soft_pass rfl HS ?_) | (refine soft_read (v := ?_) rfl (fun W hW => ?_) ?_; rotate_left; (· go_simp; try with_reducible rfl))
          all_goals try simp only [Act.put, List.setIfInBounds_toArray, List.set_cons_zero, List.set_cons_succ]
          all_goals first | (refine soft_pass rfl HS ?_; have hg21 := True.intro) | (refine soft_part (v := ?_) (b := ?_) rfl (fun W hW => ?_) ?_ (fun b hg21 => ?_); rotate_left; rotate_left; (· go_simp; try with_reducible rfl); (· with_reducible rfl); cases b; all_goals first | (exact Bool.noConfusion hg21) | (simp only [Bool.not_eq_true', Bool.not_eq_false'] at hg21) | skip)
          all_goals try simp only [Act.put, List.setIfInBounds_toArray, List.set_cons_zero, List.set_cons_succ]
          all_goals first | (refine soft_pass rfl HS ?_) | (refine soft_read (v := ?_) rfl (fun W hW => ?_) ?_; rotate_left; (· go_simp; try with_reducible rfl))
          all_goals try simp only [Act.put, List.setIfInBounds_toArray, List.set_cons_zero, List.set_cons_succ]
          all_goals first | (refine soft_pass rfl HS ?_) | (refine soft_do rfl (fun K hK => ?_); go_simp; refine (implValidMeasurements_c (fHO.out.below HS).rd).mono ?_; rintro e wS1 ⟨he_, hbS⟩; have he2_ : e = .returned (.bool false) := he_.trans (by rw [HV1.out]); subst he2_; clear he_; replace HS := HS.trans (hbS.mono HS.size); refine hK _ _ HS ?_; clear hK K hbS)
          all_goals try simp only [Act.put, List.setIfInBounds_toArray, List.set_cons_zero, List.set_cons_succ]
          all_goals first | (refine soft_pass rfl HS ?_) | (refine soft_read (v := ?_) rfl (fun W hW => ?_) ?_; rotate_left; (· go_simp; try with_reducible rfl))
          all_goals try simp only [Act.put, List.setIfInBounds_toArray, List.set_cons_zero, List.set_cons_succ]
          all_goals first | (refine soft_pass rfl HS ?_; have hg25 := True.intro) | (refine soft_part (v := ?_) (b := ?_) rfl (fun W hW => ?_) ?_ (fun b hg25 => ?_); rotate_left; rotate_left; (· go_simp; try with_reducible rfl); (· with_reducible rfl); cases b; all_goals first | (exact Bool.noConfusion hg25) | (simp only [Bool.not_eq_true', Bool.not_eq_false'] at hg25) | skip)
          all_goals try simp only [Act.put, List.setIfInBounds_toArray, List.set_cons_zero, List.set_cons_succ]
          all_goals first | (refine soft_pass rfl HS ?_) | (refine soft_read (v := ?_) rfl (fun W hW => ?_) ?_; rotate_left; (· go_simp; try with_reducible rfl))
          all_goals try simp only [Act.put, List.setIfInBounds_toArray, List.set_cons_zero, List.set_cons_succ]
          all_goals first | (refine soft_pass rfl HS ?_) | (refine soft_read (v := ?_) rfl (fun W hW => ?_) ?_; rotate_left; (· have A_KBF_0 := cell_later hW KBF_0; have A_KBG_0 := cell_later hW KBG_0; clear hW; go_simp; try with_reducible rfl))
          all_goals try simp only [Act.put, List.setIfInBounds_toArray, List.set_cons_zero, List.set_cons_succ]
          all_goals first | (refine soft_pass rfl HS ?_) | (refine soft_read (v := ?_) rfl (fun W hW => ?_) ?_; rotate_left; (· go_simp; try with_reducible rfl))
          all_goals try simp only [Act.put, List.setIfInBounds_toArray, List.set_cons_zero, List.set_cons_succ]
          all_goals first | (refine soft_pass rfl HS ?_) | (refine soft_read (v := ?_) rfl (fun W hW => ?_) ?_; rotate_left; (· go_simp; try with_reducible rfl))
          all_goals try simp only [Act.put, List.setIfInBounds_toArray, List.set_cons_zero, List.set_cons_succ]
          all_goals first | (refine soft_pass rfl HS ?_) | (refine soft_read (v := ?_) rfl (fun W hW => ?_) ?_; rotate_left; (· have A_KBF_0 := cell_later hW KBF_0; have A_KBG_0 := cell_later hW KBG_0; clear hW; go_simp; try with_reducible rfl))
          all_goals try simp only [Act.put, List.setIfInBounds_toArray, List.set_cons_zero, List.set_cons_succ]
          all_goals first | (refine soft_pass rfl HS ?_) | (refine soft_read (v := ?_) rfl (fun W hW => ?_) ?_; rotate_left; (· go_simp; try with_reducible rfl))
          all_goals try simp only [Act.put, List.setIfInBounds_toArray, List.set_cons_zero, List.set_cons_succ]
          all_goals first | (refine soft_pass rfl HS ?_) | (refine soft_do rfl (fun K hK => ?_); go_simp; refine (implFailuresOf_c (XO.out.below HS).rd (cn := [.slice fna fnm.length fnc]) (fHR.out.below HS).rd (f := fx) (by omega)).mono ?_; rintro e wS1 ⟨rfl, hbS⟩; replace HS := HS.trans (hbS.mono HS.size); refine hK _ _ HS ?_; clear hK K hbS)
          all_goals try simp only [Act.put, List.setIfInBounds_toArray, List.set_cons_zero, List.set_cons_succ]
          all_goals first | (refine soft_pass rfl HS ?_) | (refine soft_do rfl (fun K hK => ?_); go_simp; refine (implFailuresOf_c (fHO.out.below HS).rd (cn := [.slice fna fnm.length fnc]) (fHR.out.below HS).rd (f := fx) (by omega)).mono ?_; rintro e wS1 ⟨rfl, hbS⟩; replace HS := HS.trans (hbS.mono HS.size); refine hK _ _ HS ?_; clear hK K hbS)
          all_goals try simp only [Act.put, List.setIfInBounds_toArray, List.set_cons_zero, List.set_cons_succ]
          all_goals first | (refine soft_pass rfl HS ?_) | (refine soft_read (v := ?_) rfl (fun W hW => ?_) ?_; rotate_left; (· go_simp; try with_reducible rfl))
          all_goals try simp only [Act.put, List.setIfInBounds_toArray, List.set_cons_zero, List.set_cons_succ]
          all_goals first | (refine soft_pass rfl HS ?_) | (refine soft_read (v := ?_) rfl (fun W hW => ?_) ?_; rotate_left; (· go_simp; try with_reducible rfl))
          all_goals try simp only [Act.put, List.setIfInBounds_toArray, List.set_cons_zero, List.set_cons_succ]
          all_goals first | (refine soft_pass rfl HS ?_) | (refine soft_read (v := ?_) rfl (fun W hW => ?_) ?_; rotate_left; (· go_simp; try with_reducible rfl))
          all_goals try simp only [Act.put, List.setIfInBounds_toArray, List.set_cons_zero, List.set_cons_succ]
          all_goals first | (refine soft_pass rfl HS ?_) | (refine soft_read (v := ?_) rfl (fun W hW => ?_) ?_; rotate_left; (· go_simp; try with_reducible rfl))
          all_goals try simp only [Act.put, List.setIfInBounds_toArray, List.set_cons_zero, List.set_cons_succ]
          all_goals refine soft_nil ?_
          have hbS := EE.trans (HS.mono EE.size)
          go_wp2
          go_ret
          exact ⟨by simp [hlenB, hl2], hbS⟩

      · have HV1 := Lib.hid hv1
        clear hv1
        cases hv2 : vMeass gl
        · have HV2 := Lib.hid hv2
          clear hv2
          have hv1 := HV1.out
          have hv2 := HV2.out
          clear hv1 hv2
          go_wp2_with fail
          refine (implValidMeasurements_c fHO.out.rd).mono ?_
          rintro e w12 ⟨he_, hb⟩
          rw [HV1.out] at he_
          subst he_
          have z_w12 := hb.size
          replace BF := keepBox BF hb
          replace BG := keepBox BG hb
          replace BR := keepBox BR hb
          replace fHO := Lib.hid (fHO.out.below hb)
          replace fHR := Lib.hid (fHR.out.below hb)
          replace XO := Lib.hid (XO.out.below hb)
          replace gHO := Lib.hid (gHO.out.below hb)
          replace gHR := Lib.hid (gHR.out.below hb)
          replace YO := Lib.hid (YO.out.below hb)
          replace rHO := Lib.hid (rHO.out.below hb)
          replace rHR := Lib.hid (rHR.out.below hb)
          replace SO := Lib.hid (SO.out.below hb)
          replace TO := Lib.hid (TO.out.below hb)
          replace AO := Lib.hid (AO.out.below hb)
          replace BO := Lib.hid (BO.out.below hb)
          replace EE := EE.trans (hb.mono EE.size)
          clear hb
          go_wp2_with fail
          refine (implValidMeasurements_c XO.out.rd).mono ?_
          rintro e w13 ⟨he_, hb⟩
          rw [OK1.out HV1.out] at he_
          subst he_
          have z_w13 := hb.size
          replace BF := keepBox BF hb
          replace BG := keepBox BG hb
          replace BR := keepBox BR hb
          replace fHO := Lib.hid (fHO.out.below hb)
          replace fHR := Lib.hid (fHR.out.below hb)
          replace XO := Lib.hid (XO.out.below hb)
          replace gHO := Lib.hid (gHO.out.below hb)
          replace gHR := Lib.hid (gHR.out.below hb)
          replace YO := Lib.hid (YO.out.below hb)
          replace rHO := Lib.hid (rHO.out.below hb)
          replace rHR := Lib.hid (rHR.out.below hb)
          replace SO := Lib.hid (SO.out.below hb)
          replace TO := Lib.hid (TO.out.below hb)
          replace AO := Lib.hid (AO.out.below hb)
          replace BO := Lib.hid (BO.out.below hb)
          replace EE := EE.trans (hb.mono EE.size)
          clear hb
          go_wp2_with fail
          refine (implValidMeasurements_c gHO.out.rd).mono ?_
          rintro e w14 ⟨he_, hb⟩
          rw [HV2.out] at he_
          subst he_
          have z_w14 := hb.size
          replace BF := keepBox BF hb
          replace BG := keepBox BG hb
          replace BR := keepBox BR hb
          replace fHO := Lib.hid (fHO.out.below hb)
          replace fHR := Lib.hid (fHR.out.below hb)
          replace XO := Lib.hid (XO.out.below hb)
          replace gHO := Lib.hid (gHO.out.below hb)
          replace gHR := Lib.hid (gHR.out.below hb)
          replace YO := Lib.hid (YO.out.below hb)
          replace rHO := Lib.hid (rHO.out.below hb)
          replace rHR := Lib.hid (rHR.out.below hb)
          replace SO := Lib.hid (SO.out.below hb)
          replace TO := Lib.hid (TO.out.below hb)
          replace AO := Lib.hid (AO.out.below hb)
          replace BO := Lib.hid (BO.out.below hb)
          replace EE := EE.trans (hb.mono EE.size)
          clear hb
          go_upto_region 19 with fail
          have KBF_0 : w14.cell? ⟨w2.heap.size, 0, none⟩ = some (.slice fna fnm.length fnc) := boxCell BF rfl
          have KBG_0 : w14.cell? ⟨w5.heap.size, 0, none⟩ = some (.slice gna gnm.length gnc) := boxCell BG rfl
          have hlen : (ts.length : Int) = fs.length := by rw [HRL.out]
          have hlenB : ((ts.length : Int) == fs.length) = true := by simpa using hlen
          have HLEN := Lib.hid hlen
          clear hlen
          have hl1 := LE1.out HV1.out
          have hl1B : decide (failOf X fnm fx ≥ failOf fl fnm fx) = true := by simpa using hl1
          refine wp_region_softP (fun W => Below w14.heap.size w14 W) [(0, true), (1, true), (2, true), (3, true), (4, true), (5, true), (6, true), (7, false), (8, true), (9, true), (10, true), (11, true), (12, true), (14, true), (15, true), (16, true), (13, false), (17, false), (18, true), (19, true), (20, true), (21, true), (22, true), (23, false), (24, true), (25, true), (26, true), (27, true), (28, true), (30, true), (31, true), (32, true), (29, false), (33, false), (34, true), (35, true), (36, true), (37, true)] (by kernel_rfl) (by kernel_rfl) (fun c a d v w h => by cases d <;> exact h) ((Below.refl _ _).drew) ?_
          intro wS HS
          simp only [pickOps, List.getElem?_cons_succ, List.getElem?_cons_zero, List.map_cons, List.map_nil]
          all_goals first | (refine soft_pass rfl HS ?_) | (refine soft_read (v := ?_) rfl (fun W hW => ?_) ?_; rotate_left; (· go_simp; try with_reducible rfl))
          all_goals try simp only [Act.put, List.setIfInBounds_toArray, List.set_cons_zero, List.set_cons_succ]
          all_goals first | (refine soft_pass rfl HS ?_) | (refine soft_read (v := ?_) rfl (fun W hW => ?_) ?_; rotate_left; (· go_simp; try with_reducible rfl))
          all_goals try simp only [Act.put, List.setIfInBounds_toArray, List.set_cons_zero, List.set_cons_succ]
          all_goals first | (refine soft_pass rfl HS ?_) | (refine soft_read (v := ?_) rfl (fun W hW => ?_) ?_; rotate_left; (· go_simp; try with_reducible rfl))
          all_goals try simp only [Act.put, List.setIfInBounds_toArray, List.set_cons_zero, List.set_cons_succ]
          all_goals first | (refine soft_pass rfl HS ?_) | (refine soft_read (v := ?_) rfl (fun W hW => ?_) ?_; rotate_left; (· go_simp; try with_reducible rfl))
          all_goals try simp only [Act.put, List.setIfInBounds_toArray, List.set_cons_zero, List.set_cons_succ]
          all_goals first | (refine soft_pass rfl HS ?_) | (refine soft_read (v := ?_) rfl (fun W hW => ?_) ?_; rotate_left; (· go_simp; try with_reducible rfl))
          all_goals try simp only [Act.put, List.setIfInBounds_toArray, List.set_cons_zero, List.set_cons_succ]
          all_goals first | (refine soft_pass rfl HS ?_; have hg5 := True.intro) | (refine soft_part (v := ?_) (b := ?_) rfl (fun W hW => ?_) ?_ (fun b hg5 => ?_); rotate_left; rotate_left; (· go_simp; try with_reducible rfl); (· with_reducible rfl); cases b; all_goals first | (exact Bool.noConfusion hg5) | (simp only [Bool.not_eq_true', Bool.not_eq_false'] at hg5) | skip)
          all_goals try simp only [Act.put, List.setIfInBounds_toArray, List.set_cons_zero, List.set_cons_succ]
          all_goals first | (refine soft_pass rfl HS ?_) | (refine soft_read (v := ?_) rfl (fun W hW => ?_) ?_; rotate_left; (· go_simp; try with_reducible rfl))
          all_goals try simp only [Act.put, List.setIfInBounds_toArray, List.set_cons_zero, List.set_cons_succ]
          all_goals first | (refine soft_pass rfl HS ?_) | (refine soft_do rfl (fun K hK => ?_); go_simp; refine (implValidMeasurements_c (gHO.out.below HS).rd).mono ?_; rintro e wS1 ⟨he_, hbS⟩; have he2_ : e = .returned (.bool false) := he_.trans (by rw [HV2.out]); subst he2_; clear he_; replace HS := HS.trans (hbS.mono HS.size); refine hK _ _ HS ?_; clear hK K hbS)
          all_goals try simp only [Act.put, List.setIfInBounds_toArray, List.set_cons_zero, List.set_cons_succ]
          all_goals first | (refine soft_pass rfl HS ?_) | (refine soft_read (v := ?_) rfl (fun W hW => ?_) ?_; rotate_left; (· go_simp; try with_reducible rfl))
          all_goals try simp only [Act.put, List.setIfInBounds_toArray, List.set_cons_zero, List.set_cons_succ]
          all_goals first | (refine soft_pass rfl HS ?_; have hg9 := True.intro) | (refine soft_part (v := ?_) (b := ?_) rfl (fun W hW => ?_) ?_ (fun b hg9 => ?_); rotate_left; rotate_left; (· go_simp; try with_reducible rfl); (· with_reducible rfl); cases b; all_goals first | (exact Bool.noConfusion hg9) | (simp only [Bool.not_eq_true', Bool.not_eq_false'] at hg9) | skip)
          all_goals try simp only [Act.put, List.setIfInBounds_toArray, List.set_cons_zero, List.set_cons_succ]
          all_goals first | (refine soft_pass rfl HS ?_) | (refine soft_read (v := ?_) rfl (fun W hW => ?_) ?_; rotate_left; (· go_simp; try with_reducible rfl))
          all_goals try simp only [Act.put, List.setIfInBounds_toArray, List.set_cons_zero, List.set_cons_succ]
          all_goals first | (refine soft_pass rfl HS ?_) | (refine soft_read (v := ?_) rfl (fun W hW => ?_) ?_; rotate_left; (· have A_KBF_0 := cell_later hW KBF_0; have A_KBG_0 := cell_later hW KBG_0; clear hW; go_simp; try with_reducible rfl))
          all_goals try simp only [Act.put, List.setIfInBounds_toArray, List.set_cons_zero, List.set_cons_succ]
          all_goals first | (refine soft_pass rfl HS ?_) | (refine soft_read (v := ?_) rfl (fun W hW => ?_) ?_; rotate_left; (· go_simp; try with_reducible rfl))
          all_goals try simp only [Act.put, List.setIfInBounds_toArray, List.set_cons_zero, List.set_cons_succ]
          all_goals first | (refine soft_pass rfl HS ?_) | (refine soft_read (v := ?_) rfl (fun W hW => ?_) ?_; rotate_left; (· go_simp; try with_reducible rfl))
          all_goals try simp only [Act.put, List.setIfInBounds_toArray, List.set_cons_zero, List.set_cons_succ]
          all_goals first | (refine soft_pass rfl HS ?_) | (refine soft_read (v := ?_) rfl (fun W hW => ?_) ?_; rotate_left; (· have A_KBF_0 := cell_later hW KBF_0; have A_KBG_0 := cell_later hW KBG_0; clear hW; go_simp; try with_reducible rfl))
          all_goals try simp only [Act.put, List.setIfInBounds_toArray, List.set_cons_zero, List.set_cons_succ]
          all_goals first | (refine soft_pass rfl HS ?_) | (refine soft_read (v := ?_) rfl (fun W hW => ?_) ?_; rotate_left; (· go_simp; try with_reducible rfl))
          all_goals try simp only [Act.put, List.setIfInBounds_toArray, List.set_cons_zero, List.set_cons_succ]
          all_goals first | (refine soft_pass rfl HS ?_) | (refine soft_do rfl (fun K hK => ?_); go_simp; refine (implFailuresOf_c (YO.out.below HS).rd (cn := [.slice gna gnm.length gnc]) (gHR.out.below HS).rd (f := gx) (by omega)).mono ?_; rintro e wS1 ⟨rfl, hbS⟩; replace HS := HS.trans (hbS.mono HS.size); refine hK _ _ HS ?_; clear hK K hbS)
          all_goals try simp only [Act.put, List.setIfInBounds_toArray, List.set_cons_zero, List.set_cons_succ]
          all_goals first | (refine soft_pass rfl HS ?_) | (refine soft_do rfl (fun K hK => ?_); go_simp; refine (implFailuresOf_c (gHO.out.below HS).rd (cn := [.slice gna gnm.length gnc]) (gHR.out.below HS).rd (f := gx) (by omega)).mono ?_; rintro e wS1 ⟨rfl, hbS⟩; replace HS := HS.trans (hbS.mono HS.size); refine hK _ _ HS ?_; clear hK K hbS)
          all_goals try simp only [Act.put, List.setIfInBounds_toArray, List.set_cons_zero, List.set_cons_succ]
          all_goals first | (refine soft_pass rfl HS ?_) | (refine soft_read (v := ?_) rfl (fun W hW => ?_) ?_; rotate_left; (· go_simp; try with_reducible rfl))
          all_goals try simp only [Act.put, List.setIfInBounds_toArray, List.set_cons_zero, List.set_cons_succ]
          all_goals first | (refine soft_pass rfl HS ?_) | (refine soft_read (v := ?_) rfl (fun W hW => ?_) ?_; rotate_left; (· go_simp; try with_reducible rfl))
          all_goals try simp only [Act.put, List.setIfInBounds_toArray, List.set_cons_zero, List.set_cons_succ]
          all_goals first | (refine soft_pass rfl HS ?_) | (refine soft_read (v := ?_) rfl (fun W hW => ?_) ?_; rotate_left; (· go_simp; try with_reducible rfl))
          all_goals try simp only [Act.put, List.setIfInBounds_toArray, List.set_cons_zero, List.set_cons_succ]
          all_goals first | (refine soft_pass rfl HS ?_; have hg21 := True.intro) | (refine soft_part (v := ?_) (b := ?_) rfl (fun W hW => ?_) ?_ (fun b hg21 => ?_); rotate_left; rotate_left; (· go_simp; try with_reducible rfl); (· with_reducible rfl); cases b; all_goals first | (exact Bool.noConfusion hg21) | (simp only [Bool.not_eq_true', Bool.not_eq_false'] at hg21) | skip)
          all_goals try simp only [Act.put, List.setIfInBounds_toArray, List.set_cons_zero, List.set_cons_succ]
          all_goals first | (refine soft_pass rfl HS ?_) | (refine soft_read (v := ?_) rfl (fun W hW => ?_) ?_; rotate_left; (· go_simp; try with_reducible rfl))
          all_goals try simp only [Act.put, List.setIfInBounds_toArray, List.set_cons_zero, List.set_cons_succ]
          all_goals first | (refine soft_pass rfl HS ?_) | (refine soft_do rfl (fun K hK => ?_); go_simp; refine (implValidMeasurements_c (fHO.out.below HS).rd).mono ?_; rintro e wS1 ⟨he_, hbS⟩; have he2_ : e = .returned (.bool true) := he_.trans (by rw [HV1.out]); subst he2_; clear he_; replace HS := HS.trans (hbS.mono HS.size); refine hK _ _ HS ?_; clear hK K hbS)
          all_goals try simp only [Act.put, List.setIfInBounds_toArray, List.set_cons_zero, List.set_cons_succ]
          all_goals first | (refine soft_pass rfl HS ?_) | (refine soft_read (v := ?_) rfl (fun W hW => ?_) ?_; rotate_left; (· go_simp; try with_reducible rfl))
          all_goals try simp only [Act.put, List.setIfInBounds_toArray, List.set_cons_zero, List.set_cons_succ]
          all_goals first | (refine soft_pass rfl HS ?_; have hg25 := True.intro) | (refine soft_part (v := ?_) (b := ?_) rfl (fun W hW => ?_) ?_ (fun b hg25 => ?_); rotate_left; rotate_left; (· go_simp; try with_reducible rfl); (· with_reducible rfl); cases b; all_goals first | (exact Bool.noConfusion hg25) | (simp only [Bool.not_eq_true', Bool.not_eq_false'] at hg25) | skip)
          all_goals try simp only [Act.put, List.setIfInBounds_toArray, List.set_cons_zero, List.set_cons_succ]
          all_goals first | (refine soft_pass rfl HS ?_) | (refine soft_read (v := ?_) rfl (fun W hW => ?_) ?_; rotate_left; (· go_simp; try with_reducible rfl))
          all_goals try simp only [Act.put, List.setIfInBounds_toArray, List.set_cons_zero, List.set_cons_succ]
          all_goals first | (refine soft_pass rfl HS ?_) | (refine soft_read (v := ?_) rfl (fun W hW => ?_) ?_; rotate_left; (· have A_KBF_0 := cell_later hW KBF_0; have A_KBG_0 := cell_later hW KBG_0; clear hW; go_simp; try with_reducible rfl))
          all_goals try simp only [Act.put, List.setIfInBounds_toArray, List.set_cons_zero, List.set_cons_succ]
          all_goals first | (refine soft_pass rfl HS ?_) | (refine soft_read (v := ?_) rfl (fun W hW => ?_) ?_; rotate_left; (· go_simp; try with_reducible rfl))
          all_goals try simp only [Act.put, List.setIfInBounds_toArray, List.set_cons_zero, List.set_cons_succ]
          all_goals first | (refine soft_pass rfl HS ?_) | (refine soft_read (v := ?_) rfl (fun W hW => ?_) ?_; rotate_left; (· go_simp; try with_reducible rfl))
          all_goals try simp only [Act.put, List.setIfInBounds_toArray, List.set_cons_zero, List.set_cons_succ]
          all_goals first | (refine soft_pass rfl HS ?_) | (refine soft_read (v := ?_) rfl (fun W hW => ?_) ?_; rotate_left; (· have A_KBF_0 := cell_later hW KBF_0; have A_KBG_0 := cell_later hW KBG_0; clear hW; go_simp; try with_reducible rfl))
          all_goals try simp only [Act.put, List.setIfInBounds_toArray, List.set_cons_zero, List.set_cons_succ]
          all_goals first | (refine soft_pass rfl HS ?_) | (refine soft_read (v := ?_) rfl (fun W hW => ?_) ?_; rotate_left; (· go_simp; try with_reducible rfl))
          all_goals try simp only [Act.put, List.setIfInBounds_toArray, List.set_cons_zero, List.set_cons_succ]
          all_goals first | (refine soft_pass rfl HS ?_) | (refine soft_do rfl (fun K hK => ?_); go_simp; refine (implFailuresOf_c (XO.out.below HS).rd (cn := [.slice fna fnm.length fnc]) (fHR.out.below HS).rd (f := fx) (by omega)).mono ?_; rintro e wS1 ⟨rfl, hbS⟩; replace HS := HS.trans (hbS.mono HS.size); refine hK _ _ HS ?_; clear hK K hbS)
          all_goals try simp only [Act.put, List.setIfInBounds_toArray, List.set_cons_zero, List.set_cons_succ]
          all_goals first | (refine soft_pass rfl HS ?_) | (refine soft_do rfl (fun K hK => ?_); go_simp; refine (implFailuresOf_c (fHO.out.below HS).rd (cn := [.slice fna fnm.length fnc]) (fHR.out.below HS).rd (f := fx) (by omega)).mono ?_; rintro e wS1 ⟨rfl, hbS⟩; replace HS := HS.trans (hbS.mono HS.size); refine hK _ _ HS ?_; clear hK K hbS)
          all_goals try simp only [Act.put, List.setIfInBounds_toArray, List.set_cons_zero, List.set_cons_succ]
          all_goals first | (refine soft_pass rfl HS ?_) | (refine soft_read (v := ?_) rfl (fun W hW => ?_) ?_; rotate_left; (· go_simp; try with_reducible rfl))
          all_goals try simp only [Act.put, List.setIfInBounds_toArray, List.set_cons_zero, List.set_cons_succ]
          all_goals first | (refine soft_pass rfl HS ?_) | (refine soft_read (v := ?_) rfl (fun W hW => ?_) ?_; rotate_left; (· go_simp; try with_reducible rfl))
          all_goals try simp only [Act.put, List.setIfInBounds_toArray, List.set_cons_zero, List.set_cons_succ]
          all_goals first | (refine soft_pass rfl HS ?_) | (refine soft_read (v := ?_) rfl (fun W hW => ?_) ?_; rotate_left; (· go_simp; try with_reducible rfl))
          all_goals try simp only [Act.put, List.setIfInBounds_toArray, List.set_cons_zero, List.set_cons_succ]
          all_goals first | (refine soft_pass rfl HS ?_) | (refine soft_read (v := ?_) rfl (fun W hW => ?_) ?_; rotate_left; (· go_simp; try with_reducible rfl))
          all_goals try simp only [Act.put, List.setIfInBounds_toArray, List.set_cons_zero, List.set_cons_succ]
          all_goals refine soft_nil ?_
          have hbS := EE.trans (HS.mono EE.size)
          go_wp2
          go_ret
          exact ⟨by simp [hlenB, hl1], hbS⟩

        · have HV2 := Lib.hid hv2
          clear hv2
          have hv1 := HV1.out
          have hv2 := HV2.out
          clear hv1 hv2
          go_wp2_with fail
          refine (implValidMeasurements_c fHO.out.rd).mono ?_
          rintro e w12 ⟨he_, hb⟩
          rw [HV1.out] at he_
          subst he_
          have z_w12 := hb.size
          replace BF := keepBox BF hb
          replace BG := keepBox BG hb
          replace BR := keepBox BR hb
          replace fHO := Lib.hid (fHO.out.below hb)
          replace fHR := Lib.hid (fHR.out.below hb)
          replace XO := Lib.hid (XO.out.below hb)
          replace gHO := Lib.hid (gHO.out.below hb)
          replace gHR := Lib.hid (gHR.out.below hb)
          replace YO := Lib.hid (YO.out.below hb)
          replace rHO := Lib.hid (rHO.out.below hb)
          replace rHR := Lib.hid (rHR.out.below hb)
          replace SO := Lib.hid (SO.out.below hb)
          replace TO := Lib.hid (TO.out.below hb)
          replace AO := Lib.hid (AO.out.below hb)
          replace BO := Lib.hid (BO.out.below hb)
          replace EE := EE.trans (hb.mono EE.size)
          clear hb
          go_wp2_with fail
          refine (implValidMeasurements_c XO.out.rd).mono ?_
          rintro e w13 ⟨he_, hb⟩
          rw [OK1.out HV1.out] at he_
          subst he_
          have z_w13 := hb.size
          replace BF := keepBox BF hb
          replace BG := keepBox BG hb
          replace BR := keepBox BR hb
          replace fHO := Lib.hid (fHO.out.below hb)
          replace fHR := Lib.hid (fHR.out.below hb)
          replace XO := Lib.hid (XO.out.below hb)
          replace gHO := Lib.hid (gHO.out.below hb)
          replace gHR := Lib.hid (gHR.out.below hb)
          replace YO := Lib.hid (YO.out.below hb)
          replace rHO := Lib.hid (rHO.out.below hb)
          replace rHR := Lib.hid (rHR.out.below hb)
          replace SO := Lib.hid (SO.out.below hb)
          replace TO := Lib.hid (TO.out.below hb)
          replace AO := Lib.hid (AO.out.below hb)
          replace BO := Lib.hid (BO.out.below hb)
          replace EE := EE.trans (hb.mono EE.size)
          clear hb
          go_wp2_with fail
          refine (implValidMeasurements_c gHO.out.rd).mono ?_
          rintro e w14 ⟨he_, hb⟩
          rw [HV2.out] at he_
          subst he_
          have z_w14 := hb.size
          replace BF := keepBox BF hb
          replace BG := keepBox BG hb
          replace BR := keepBox BR hb
          replace fHO := Lib.hid (fHO.out.below hb)
          replace fHR := Lib.hid (fHR.out.below hb)
          replace XO := Lib.hid (XO.out.below hb)
          replace gHO := Lib.hid (gHO.out.below hb)
          replace gHR := Lib.hid (gHR.out.below hb)
          replace YO := Lib.hid (YO.out.below hb)
          replace rHO := Lib.hid (rHO.out.below hb)
          replace rHR := Lib.hid (rHR.out.below hb)
          replace SO := Lib.hid (SO.out.below hb)
          replace TO := Lib.hid (TO.out.below hb)
          replace AO := Lib.hid (AO.out.below hb)
          replace BO := Lib.hid (BO.out.below hb)
          replace EE := EE.trans (hb.mono EE.size)
          clear hb
          go_wp2_with fail
          refine (implValidMeasurements_c YO.out.rd).mono ?_
          rintro e w15 ⟨he_, hb⟩
          rw [OK2.out HV2.out] at he_
          subst he_
          have z_w15 := hb.size
          replace BF := keepBox BF hb
          replace BG := keepBox BG hb
          replace BR := keepBox BR hb
          replace fHO := Lib.hid (fHO.out.below hb)
          replace fHR := Lib.hid (fHR.out.below hb)
          replace XO := Lib.hid (XO.out.below hb)
          replace gHO := Lib.hid (gHO.out.below hb)
          replace gHR := Lib.hid (gHR.out.below hb)
          replace YO := Lib.hid (YO.out.below hb)
          replace rHO := Lib.hid (rHO.out.below hb)
          replace rHR := Lib.hid (rHR.out.below hb)
          replace SO := Lib.hid (SO.out.below hb)
          replace TO := Lib.hid (TO.out.below hb)
          replace AO := Lib.hid (AO.out.below hb)
          replace BO := Lib.hid (BO.out.below hb)
          replace EE := EE.trans (hb.mono EE.size)
          clear hb
          go_upto_region 19 with fail
          have KBF_0 : w15.cell? ⟨w2.heap.size, 0, none⟩ = some (.slice fna fnm.length fnc) := boxCell BF rfl
          have KBG_0 : w15.cell? ⟨w5.heap.size, 0, none⟩ = some (.slice gna gnm.length gnc) := boxCell BG rfl
          have hlen : (ts.length : Int) = fs.length := by rw [HRL.out]
          have hlenB : ((ts.length : Int) == fs.length) = true := by simpa using hlen
          have HLEN := Lib.hid hlen
          clear hlen
          have hl2 := LE2.out HV2.out
          have hl2B : decide (failOf Y gnm gx ≤ failOf gl gnm gx) = true := by simpa using hl2
          have hl1 := LE1.out HV1.out
          have hl1B : decide (failOf X fnm fx ≥ failOf fl fnm fx) = true := by simpa using hl1
          refine wp_region_softP (fun W => Below w15.heap.size w15 W) [(0, true), (1, true), (2, true), (3, true), (4, true), (5, true), (6, true), (7, false), (8, true), (9, true), (10, true), (11, true), (12, true), (14, true), (15, true), (16, true), (13, false), (17, false), (18, true), (19, true), (20, true), (21, true), (22, true), (23, false), (24, true), (25, true), (26, true), (27, true), (28, true), (30, true), (31, true), (32, true), (29, false), (33, false), (34, true), (35, true), (36, true), (37, true)] (by kernel_rfl) (by kernel_rfl) (fun c a d v w h => by cases d <;> exact h) ((Below.refl _ _).drew) ?_
          intro wS HS
          simp only [pickOps, List.getElem?_cons_succ, List.getElem?_cons_zero, List.map_cons, List.map_nil]
          all_goals first | (refine soft_pass rfl HS ?_) | (refine soft_read (v := ?_) rfl (fun W hW => ?_) ?_; rotate_left; (· go_simp; try with_reducible rfl))
          all_goals try simp only [Act.put, List.setIfInBounds_toArray, List.set_cons_zero, List.set_cons_succ]
          all_goals first | (refine soft_pass rfl HS ?_) | (refine soft_read (v := ?_) rfl (fun W hW => ?_) ?_; rotate_left; (· go_simp; try with_reducible rfl))
          all_goals try simp only [Act.put, List.setIfInBounds_toArray, List.set_cons_zero, List.set_cons_succ]
          all_goals first | (refine soft_pass rfl HS ?_) | (refine soft_read (v := ?_) rfl (fun W hW => ?_) ?_; rotate_left; (· go_simp; try with_reducible rfl))
          all_goals try simp only [Act.put, List.setIfInBounds_toArray, List.set_cons_zero, List.set_cons_succ]
          all_goals first | (refine soft_pass rfl HS ?_) | (refine soft_read (v := ?_) rfl (fun W hW => ?_) ?_; rotate_left; (· go_simp; try with_reducible rfl))
          all_goals try simp only [Act.put, List.setIfInBounds_toArray, List.set_cons_zero, List.set_cons_succ]
          all_goals first | (refine soft_pass rfl HS ?_) | (refine soft_read (v := ?_) rfl (fun W hW => ?_) ?_; rotate_left; (· go_simp; try with_reducible rfl))
          all_goals try simp only [Act.put, List.setIfInBounds_toArray, List.set_cons_zero, List.set_cons_succ]
          all_goals first | (refine soft_pass rfl HS ?_; have hg5 := True.intro) | (refine soft_part (v := ?_) (b := ?_) rfl (fun W hW => ?_) ?_ (fun b hg5 => ?_); rotate_left; rotate_left; (· go_simp; try with_reducible rfl); (· with_reducible rfl); cases b; all_goals first | (exact Bool.noConfusion hg5) | (simp only [Bool.not_eq_true', Bool.not_eq_false'] at hg5) | skip)
          all_goals try simp only [Act.put, List.setIfInBounds_toArray, List.set_cons_zero, List.set_cons_succ]
          all_goals first | (refine soft_pass rfl HS ?_) | (refine soft_read (v := ?_) rfl (fun W hW => ?_) ?_; rotate_left; (· go_simp; try with_reducible rfl))
          all_goals try simp only [Act.put, List.setIfInBounds_toArray, List.set_cons_zero, List.set_cons_succ]
          all_goals first | (refine soft_pass rfl HS ?_) | (refine soft_do rfl (fun K hK => ?_); go_simp; refine (implValidMeasurements_c (gHO.out.below HS).rd).mono ?_; rintro e wS1 ⟨he_, hbS⟩; have he2_ : e = .returned (.bool true) := he_.trans (by rw [HV2.out]); subst he2_; clear he_; replace HS := HS.trans (hbS.mono HS.size); refine hK _ _ HS ?_; clear hK K hbS)
          all_goals try simp only [Act.put, List.setIfInBounds_toArray, List.set_cons_zero, List.set_cons_succ]
          all_goals first | (refine soft_pass rfl HS ?_) | (refine soft_read (v := ?_) rfl (fun W hW => ?_) ?_; rotate_left; (· go_simp; try with_reducible rfl))
          all_goals try simp only [Act.put, List.setIfInBounds_toArray, List.set_cons_zero, List.set_cons_succ]
          all_goals first | (refine soft_pass rfl HS ?_; have hg9 := True.intro) | (refine soft_part (v := ?_) (b := ?_) rfl (fun W hW => ?_) ?_ (fun b hg9 => ?_); rotate_left; rotate_left; (· go_simp; try with_reducible rfl); (· with_reducible rfl); cases b; all_goals first | (exact Bool.noConfusion hg9) | (simp only [Bool.not_eq_true', Bool.not_eq_false'] at hg9) | skip)
          all_goals try simp only [Act.put, List.setIfInBounds_toArray, List.set_cons_zero, List.set_cons_succ]
          all_goals first | (refine soft_pass rfl HS ?_) | (refine soft_read (v := ?_) rfl (fun W hW => ?_) ?_; rotate_left; (· go_simp; try with_reducible rfl))
          all_goals try simp only [Act.put, List.setIfInBounds_toArray, List.set_cons_zero, List.set_cons_succ]
          all_goals first | (refine soft_pass rfl HS ?_) | (refine soft_read (v := ?_) rfl (fun W hW => ?_) ?_; rotate_left; (· have A_KBF_0 := cell_later hW KBF_0; have A_KBG_0 := cell_later hW KBG_0; clear hW; go_simp; try with_reducible rfl))
          all_goals try simp only [Act.put, List.setIfInBounds_toArray, List.set_cons_zero, List.set_cons_succ]
          all_goals first | (refine soft_pass rfl HS ?_) | (refine soft_read (v := ?_) rfl (fun W hW => ?_) ?_; rotate_left; (· go_simp; try with_reducible rfl))
          all_goals try simp only [Act.put, List.setIfInBounds_toArray, List.set_cons_zero, List.set_cons_succ]
          all_goals first | (refine soft_pass rfl HS ?_) | (refine soft_read (v := ?_) rfl (fun W hW => ?_) ?_; rotate_left; (· go_simp; try with_reducible rfl))
          all_goals try simp only [Act.put, List.setIfInBounds_toArray, List.set_cons_zero, List.set_cons_succ]
          all_goals first | (refine soft_pass rfl HS ?_) | (refine soft_read (v := ?_) rfl (fun W hW => ?_) ?_; rotate_left; (· have A_KBF_0 := cell_later hW KBF_0; have A_KBG_0 := cell_later hW KBG_0; clear hW; go_simp; try with_reducible rfl))
          all_goals try simp only [Act.put, List.setIfInBounds_toArray, List.set_cons_zero, List.set_cons_succ]
          all_goals first | (refine soft_pass rfl HS ?_) | (refine soft_read (v := ?_) rfl (fun W hW => ?_) ?_; rotate_left; (· go_simp; try with_reducible rfl))
          all_goals try simp only [Act.put, List.setIfInBounds_toArray, List.set_cons_zero, List.set_cons_succ]
          all_goals first | (refine soft_pass rfl HS ?_) | (refine soft_do rfl (fun K hK => ?_); go_simp; refine (implFailuresOf_c (YO.out.below HS).rd (cn := [.slice gna gnm.length gnc]) (gHR.out.below HS).rd (f := gx) (by omega)).mono ?_; rintro e wS1 ⟨rfl, hbS⟩; replace HS := HS.trans (hbS.mono HS.size); refine hK _ _ HS ?_; clear hK K hbS)
          all_goals try simp only [Act.put, List.setIfInBounds_toArray, List.set_cons_zero, List.set_cons_succ]
          all_goals first | (refine soft_pass rfl HS ?_) | (refine soft_do rfl (fun K hK => ?_); go_simp; refine (implFailuresOf_c (gHO.out.below HS).rd (cn := [.slice gna gnm.length gnc]) (gHR.out.below HS).rd (f := gx) (by omega)).mono ?_; rintro e wS1 ⟨rfl, hbS⟩; replace HS := HS.trans (hbS.mono HS.size); refine hK _ _ HS ?_; clear hK K hbS)
          all_goals try simp only [Act.put, List.setIfInBounds_toArray, List.set_cons_zero, List.set_cons_succ]
          all_goals first | (refine soft_pass rfl HS ?_) | (refine soft_read (v := ?_) rfl (fun W hW => ?_) ?_; rotate_left; (· go_simp; try with_reducible rfl))
          all_goals try simp only [Act.put, List.setIfInBounds_toArray, List.set_cons_zero, List.set_cons_succ]
          all_goals first | (refine soft_pass rfl HS ?_) | (refine soft_read (v := ?_) rfl (fun W hW => ?_) ?_; rotate_left; (· go_simp; try with_reducible rfl))
          all_goals try simp only [Act.put, List.setIfInBounds_toArray, List.set_cons_zero, List.set_cons_succ]
          all_goals first | (refine soft_pass rfl HS ?_) | (refine soft_read (v := ?_) rfl (fun W hW => ?_) ?_; rotate_left; (· go_simp; try with_reducible rfl))
          all_goals try simp only [Act.put, List.setIfInBounds_toArray, List.set_cons_zero, List.set_cons_succ]
          all_goals first | (refine soft_pass rfl HS ?_; have hg21 := True.intro) | (refine soft_part (v := ?_) (b := ?_) rfl (fun W hW => ?_) ?_ (fun b hg21 => ?_); rotate_left; rotate_left; (· go_simp; try with_reducible rfl); (· with_reducible rfl); cases b; all_goals first | (exact Bool.noConfusion hg21) | (simp only [Bool.not_eq_true', Bool.not_eq_false'] at hg21) | skip)
          all_goals try simp only [Act.put, List.setIfInBounds_toArray, List.set_cons_zero, List.set_cons_succ]
          all_goals first | (refine soft_pass rfl HS ?_) | (refine soft_read (v := ?_) rfl (fun W hW => ?_) ?_; rotate_left; (· go_simp; try with_reducible rfl))
          all_goals try simp only [Act.put, List.setIfInBounds_toArray, List.set_cons_zero, List.set_cons_succ]
          all_goals first | (refine soft_pass rfl HS ?_) | (refine soft_do rfl (fun K hK => ?_); go_simp; refine (implValidMeasurements_c (fHO.out.below HS).rd).mono ?_; rintro e wS1 ⟨he_, hbS⟩; have he2_ : e = .returned (.bool true) := he_.trans (by rw [HV1.out]); subst he2_; clear he_; replace HS := HS.trans (hbS.mono HS.size); refine hK _ _ HS ?_; clear hK K hbS)
          all_goals try simp only [Act.put, List.setIfInBounds_toArray, List.set_cons_zero, List.set_cons_succ]
          all_goals first | (refine soft_pass rfl HS ?_) | (refine soft_read (v := ?_) rfl (fun W hW => ?_) ?_; rotate_left; (· go_simp; try with_reducible rfl))
          all_goals try simp only [Act.put, List.setIfInBounds_toArray, List.set_cons_zero, List.set_cons_succ]
          all_goals first | (refine soft_pass rfl HS ?_; have hg25 := True.intro) | (refine soft_part (v := ?_) (b := ?_) rfl (fun W hW => ?_) ?_ (fun b hg25 => ?_); rotate_left; rotate_left; (· go_simp; try with_reducible rfl); (· with_reducible rfl); cases b; all_goals first | (exact Bool.noConfusion hg25) | (simp only [Bool.not_eq_true', Bool.not_eq_false'] at hg25) | skip)
          all_goals try simp only [Act.put, List.setIfInBounds_toArray, List.set_cons_zero, List.set_cons_succ]
          all_goals first | (refine soft_pass rfl HS ?_) | (refine soft_read (v := ?_) rfl (fun W hW => ?_) ?_; rotate_left; (· go_simp; try with_reducible rfl))
          all_goals try simp only [Act.put, List.setIfInBounds_toArray, List.set_cons_zero, List.set_cons_succ]
          all_goals first | (refine soft_pass rfl HS ?_) | (refine soft_read (v := ?_) rfl (fun W hW => ?_) ?_; rotate_left; (· have A_KBF_0 := cell_later hW KBF_0; have A_KBG_0 := cell_later hW KBG_0; clear hW; go_simp; try with_reducible rfl))
          all_goals try simp only [Act.put, List.setIfInBounds_toArray, List.set_cons_zero, List.set_cons_succ]
          all_goals first | (refine soft_pass rfl HS ?_) | (refine soft_read (v := ?_) rfl (fun W hW => ?_) ?_; rotate_left; (· go_simp; try with_reducible rfl))
          all_goals try simp only [Act.put, List.setIfInBounds_toArray, List.set_cons_zero, List.set_cons_succ]
          all_goals first | (refine soft_pass rfl HS ?_) | (refine soft_read (v := ?_) rfl (fun W hW => ?_) ?_; rotate_left; (· go_simp; try with_reducible rfl))
          all_goals try simp only [Act.put, List.setIfInBounds_toArray, List.set_cons_zero, List.set_cons_succ]
          all_goals first | (refine soft_pass rfl HS ?_) | (refine soft_read (v := ?_) rfl (fun W hW => ?_) ?_; rotate_left; (· have A_KBF_0 := cell_later hW KBF_0; have A_KBG_0 := cell_later hW KBG_0; clear hW; go_simp; try with_reducible rfl))
          all_goals try simp only [Act.put, List.setIfInBounds_toArray, List.set_cons_zero, List.set_cons_succ]
          all_goals first | (refine soft_pass rfl HS ?_) | (refine soft_read (v := ?_) rfl (fun W hW => ?_) ?_; rotate_left; (· go_simp; try with_reducible rfl))
          all_goals try simp only [Act.put, List.setIfInBounds_toArray, List.set_cons_zero, List.set_cons_succ]
          all_goals first | (refine soft_pass rfl HS ?_) | (refine soft_do rfl (fun K hK => ?_); go_simp; refine (implFailuresOf_c (XO.out.below HS).rd (cn := [.slice fna fnm.length fnc]) (fHR.out.below HS).rd (f := fx) (by omega)).mono ?_; rintro e wS1 ⟨rfl, hbS⟩; replace HS := HS.trans (hbS.mono HS.size); refine hK _ _ HS ?_; clear hK K hbS)
          all_goals try simp only [Act.put, List.setIfInBounds_toArray, List.set_cons_zero, List.set_cons_succ]
          all_goals first | (refine soft_pass rfl HS ?_) | (refine soft_do rfl (fun K hK => ?_); go_simp; refine (implFailuresOf_c (fHO.out.below HS).rd (cn := [.slice fna fnm.length fnc]) (fHR.out.below HS).rd (f := fx) (by omega)).mono ?_; rintro e wS1 ⟨rfl, hbS⟩; replace HS := HS.trans (hbS.mono HS.size); refine hK _ _ HS ?_; clear hK K hbS)
          all_goals try simp only [Act.put, List.setIfInBounds_toArray, List.set_cons_zero, List.set_cons_succ]
          all_goals first | (refine soft_pass rfl HS ?_) | (refine soft_read (v := ?_) rfl (fun W hW => ?_) ?_; rotate_left; (· go_simp; try with_reducible rfl))
          all_goals try simp only [Act.put, List.setIfInBounds_toArray, List.set_cons_zero, List.set_cons_succ]
          all_goals first | (refine soft_pass rfl HS ?_) | (refine soft_read (v := ?_) rfl (fun W hW => ?_) ?_; rotate_left; (· go_simp; try with_reducible rfl))
          all_goals try simp only [Act.put, List.setIfInBounds_toArray, List.set_cons_zero, List.set_cons_succ]
          all_goals first | (refine soft_pass rfl HS ?_) | (refine soft_read (v := ?_) rfl (fun W hW => ?_) ?_; rotate_left; (· go_simp; try with_reducible rfl))
          all_goals try simp only [Act.put, List.setIfInBounds_toArray, List.set_cons_zero, List.set_cons_succ]
          all_goals first | (refine soft_pass rfl HS ?_) | (refine soft_read (v := ?_) rfl (fun W hW => ?_) ?_; rotate_left; (· go_simp; try with_reducible rfl))
          all_goals try simp only [Act.put, List.setIfInBounds_toArray, List.set_cons_zero, List.set_cons_succ]
          all_goals refine soft_nil ?_
          have hbS := EE.trans (HS.mono EE.size)
          go_wp2
          go_ret
          exact ⟨by simp [hlenB, hl2, hl1], hbS⟩

set_option maxRecDepth 100000 in
theorem lawFnMeass_lifted (os : Os) (started : os.Started) (H : Type) (enc : TypeId × Value → H) :
    ReturnsInHanded {} Try.checked os 3 .any (Rows.fnMeassSpec.pre6 enc Try.prog Try.f3 Rows.fnMeassRow.domain false) (Rows.fnMeassSpec.post enc Try.prog Try.f3 false true false false) := by
  refine returnsInHanded_of_change (C := Try.checked) law_own started (by kernel_rfl) Try.func3
    (ChangeSpec.witness6 (enc := enc) (C := Try.checked) false ⟨#[], #[.slice none 0 0], []⟩ 8 (by kernel_rfl) (by kernel_rfl) (by kernel_rfl) (by kernel_rfl)) ?_
  intro W base args ds gs before hval0 hW _ _
  have hval : ∀ (j : Nat) t v, Try.f3.params[j]? = some t → args[j]? = some v → Value.okWide Try.prog W .any base t v := hval0
  have hW0 : DataW.Whole enc Try.prog Try.f3.params.toList Rows.fnMeassSpec.vars false W args.toList ds gs before := hW
  obtain ⟨p, q, hA0, hV, rfl, hfz, hnd⟩ := hW
  have hA : DataW.TrodAll enc Try.prog W 0 (fun _ => true) true Try.f3.params.toList args.toList ds p := hA0
  rw [Try.params3] at hA hval
  obtain ⟨v0, vs0, d0, ds0, p0, q0, hargs, rfl, rfl, g0, s0⟩ := trodAll_cons hA
  obtain ⟨rfl, rfl, rfl⟩ := trodAll_nil s0
  obtain rfl : args = #[v0] := by cases args; simp_all
  obtain ⟨rfl, rfl⟩ := trodVars_none hV
  obtain ⟨a0, len0, cap0, rfl⟩ := okWide_slice Try.underlying22 (hval 0 22 v0 rfl rfl)
  obtain ⟨fu0, hf0⟩ := g0
  obtain ⟨x0, h0⟩ := bridge_ByteS (w := W) hf0
  have h0 : (Rep.slice 5 Rep.byte).raw W [.slice a0 len0 cap0] x0 := by simpa [Value.cells] using h0
  refine (lawFnMeass_c h0).mono fun e W' ⟨he, hb⟩ => ?_
  subst he
  refine ⟨_, rfl, law_post (tb := 4) hW0 rfl rfl Try.underlying4 ⟨rfl, rfl, rfl⟩ ?_ hb⟩
  rw [Try.params3]
  intro t ht
  have hall : ([22].all fun t => Try.prog.readableRec t && decide (t < Try.prog.types.size)) = true := by kernel_rfl
  have h1 := List.all_eq_true.1 hall t ht
  simpa using h1

theorem lawFnMeass_holds : Rows.FnMeassSaid :=
  OpenClaim.holds_of_wide 3 Try.f3 rfl rfl rfl rfl rfl rfl rfl ⟨rfl, rfl, rfl, rfl, rfl⟩ rfl rfl rfl rfl rfl (by kernel_rfl) Try.func3 (by kernel_rfl)
    (of_decide_eq_true (by kernel_rfl)) (by unfold Func.isWrapper; first | (rw [if_pos (by decide +kernel)]; kernel_rfl) | (rw [if_neg (by decide +kernel)]; exact ⟨rfl, rfl⟩))
    (fun os started H enc _ => lawFnMeass_lifted os started H enc)
end Go.Proofs.Ytikjbdfkdkijkaa

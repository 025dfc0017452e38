/-
  The law FnExactFaceTo, walked: it returns true, whatever its arguments; then its statement. Printed by genlaw.py.
-/
import Derived.Test.YtaaobbbkfhggaaaEq
import Derived.Test.YtaaobbbkfhggaaaSz
import Derived.Test.YtaaobbbkfhggaaaTo
import Derived.Test.YtaaobbbkfhggaaaBridge
import Derived.Test.YtaaobbbkfhggaaaFace
import Derived.Deep.RegionHeld3
namespace Go.Proofs.Ytaaobbbkfhggaaa
open Go.ChangeShapes Go.WideShapes Go.ChangeAt Go.RowKit
set_option linter.unusedVariables false
set_option maxRecDepth 100000 in
set_option maxHeartbeats 4000000 in
theorem lawFaceTo_c {w : World} {c0 : List Value} {x0 : LTopology} (h0 : RTopology.raw w c0 x0) {x1 : Int} (h1 : -9223372036854775808 ≤ x1 ∧ x1 ≤ 9223372036854775807) {x2 : Int} (h2 : -9223372036854775808 ≤ x2 ∧ x2 ≤ 9223372036854775807) :
    Calls Try.prog 4 #[.agg c0.toArray, .int .i64 x1, .int .i64 x2] w (LawPost w) := by
  obtain ⟨a0v1, rfl, a0_0, a0_1⟩ := RTopology_raw h0
  clear a0_0 a0_1
  have hi1 := Lib.hid h1; clear h1
  have hi2 := Lib.hid h2; clear h2
  go_enter Try.func4, Try.ntmps4
  go_wp2_with fail
  refine (szTopology_c (h0.below (by repeat (first | (with_reducible exact Below.refl _ _) | refine Below.alloc ?_ (by simp; try omega) _ | refine Below.drew ?_))) (by omega) (by omega)).mono ?_
  rintro e w1 ⟨s1, rfl, p1, q1, g1, hb1⟩
  have G1 := Lib.hid g1; clear g1
  have D1 : Below w.heap.size w w1 := Below.trans (by repeat (first | (with_reducible exact Below.refl _ _) | refine Below.alloc ?_ (by simp; try omega) _ | refine Below.drew ?_)) (hb1.mono (by simp))
  have H1 := Lib.hid D1
  have L1 := Lib.hid (show w.heap.size ≤ w1.heap.size from D1.size)
  have X_aN_1 : Hid (w1.heap[w.heap.size]? = some (.cells #[.int .i64 x0.1, a0v1] 24 (0, 0))) := Lib.hid ((hb1.block (w.heap.size) (by simp)).trans (heap_new_at (by simp)))
  clear D1 hb1
  by_cases m1 : s1 < 0
  · go_wp2
    go_ret
    exact ⟨rfl, H1.out⟩
  have z1 : 0 ≤ s1 := by omega
  have r0 : RTopology.rd w _ x0 := ⟨h0, RTopology.bdd_mono (G1.out z1) (by decide)⟩
  have K_aN_0 := boxCell X_aN_1.out (j := 0) (v := .int .i64 x0.1) rfl
  have K_aN_1 := boxCell X_aN_1.out (j := 1) (v := a0v1) rfl
  go_wp2_with fail
  refine (toTopology_c (r0.below (by repeat (first | (with_reducible exact H1.out) | refine Below.alloc ?_ (by have := H1.out.size; simp; try omega) _ | refine Below.drew ?_)))).mono ?_
  rintro e w2 ⟨cs2, rfl, O2, hb2⟩
  obtain ⟨t2v1, rfl, t2_0, t2_1⟩ := RTopology_raw O2.raw
  obtain ⟨t2a1, t2p1, t2h1, _⟩ := Rep.len_raw t2_1; obtain rfl : t2v1 = _ := (by simpa using t2h1)
  clear t2h1
  clear t2_0 t2_1
  have Z2 := Lib.hid (O2.wide (T := Btw (w1.heap.size) (w2.heap.size)) (fun i hi => ⟨by have h := hi.1; (try simp at h); omega, hi.2⟩)); clear O2
  have D2 : Below w1.heap.size w1 w2 := Below.trans (by repeat (first | (with_reducible exact Below.refl _ _) | refine Below.alloc ?_ (by simp; try omega) _ | refine Below.drew ?_)) (hb2.mono (by simp))
  have H2 := Lib.hid (H1.out.trans (D2.mono H1.out.size))
  have L2 := Lib.hid (show w1.heap.size ≤ w2.heap.size from D2.size)
  have X_aN_2 := Lib.hid (keepBox X_aN_1.out D2); clear X_aN_1
  clear D2 K_aN_0 K_aN_1 hb2
  go_wp2_with fail
  refine (specFaceTo_c (Z2.out.rd.below (by repeat (first | (with_reducible exact Below.refl _ _) | refine Below.alloc ?_ (by simp; try omega) _ | refine Below.drew ?_))) hi1.out hi2.out).mono ?_
  rintro e w3 ⟨rfl, hb3⟩
  have D3 : Below w2.heap.size w2 w3 := Below.trans (by repeat (first | (with_reducible exact Below.refl _ _) | refine Below.alloc ?_ (by simp; try omega) _ | refine Below.drew ?_)) (hb3.mono (by simp))
  have H3 := Lib.hid (H2.out.trans (D3.mono H2.out.size))
  have L3 := Lib.hid (show w2.heap.size ≤ w3.heap.size from D3.size)
  have X_aN_3 := Lib.hid (keepBox X_aN_2.out D3); clear X_aN_2
  have O_t2_3 := Lib.hid (Z2.out.below D3); clear Z2
  clear D3 hb3
  clear O_t2_3
  have K_aN_0 := boxCell X_aN_3.out (j := 0) (v := .int .i64 x0.1) rfl
  have K_aN_1 := boxCell X_aN_3.out (j := 1) (v := a0v1) rfl
  go_wp2_with fail
  refine (toTopology_c (r0.below (by repeat (first | (with_reducible exact H3.out) | refine Below.alloc ?_ (by have := H3.out.size; simp; try omega) _ | refine Below.drew ?_)))).mono ?_
  rintro e w4 ⟨cs4, rfl, O4, hb4⟩
  obtain ⟨t4v1, rfl, t4_0, t4_1⟩ := RTopology_raw O4.raw
  obtain ⟨t4a1, t4p1, t4h1, _⟩ := Rep.len_raw t4_1; obtain rfl : t4v1 = _ := (by simpa using t4h1)
  clear t4h1
  clear t4_0 t4_1
  have Z4 := Lib.hid (O4.wide (T := Btw (w3.heap.size) (w4.heap.size)) (fun i hi => ⟨by have h := hi.1; (try simp at h); omega, hi.2⟩)); clear O4
  have D4 : Below w3.heap.size w3 w4 := Below.trans (by repeat (first | (with_reducible exact Below.refl _ _) | refine Below.alloc ?_ (by simp; try omega) _ | refine Below.drew ?_)) (hb4.mono (by simp))
  have H4 := Lib.hid (H3.out.trans (D4.mono H3.out.size))
  have L4 := Lib.hid (show w3.heap.size ≤ w4.heap.size from D4.size)
  have X_aN_4 := Lib.hid (keepBox X_aN_3.out D4); clear X_aN_3
  clear D4 K_aN_0 K_aN_1 hb4
  go_wp2_with fail
  refine (implFaceTo_c (Z4.out.rd.below (by repeat (first | (with_reducible exact Below.refl _ _) | refine Below.alloc ?_ (by simp; try omega) _ | refine Below.drew ?_))) hi1.out hi2.out).mono ?_
  rintro e w5 ⟨rfl, hb5⟩
  have D5 : Below w4.heap.size w4 w5 := Below.trans (by repeat (first | (with_reducible exact Below.refl _ _) | refine Below.alloc ?_ (by simp; try omega) _ | refine Below.drew ?_)) (hb5.mono (by simp))
  have H5 := Lib.hid (H4.out.trans (D5.mono H4.out.size))
  have L5 := Lib.hid (show w4.heap.size ≤ w5.heap.size from D5.size)
  have X_aN_5 := Lib.hid (keepBox X_aN_4.out D5); clear X_aN_4
  have X_x0_5 : Hid (w5.heap[w4.heap.size]? = some (.cells #[.int .i64 x0.1, .slice t4a1 (x0.2).length t4p1] 29 (0, 0))) := Lib.hid ((hb5.block (w4.heap.size) (by simp)).trans (heap_new_at (by simp)))
  have O_x0_5 := Lib.hid (Z4.out.below D5); clear Z4
  clear D5 hb5
  have K_aN_0 := boxCell X_aN_5.out (j := 0) (v := .int .i64 x0.1) rfl
  have K_aN_1 := boxCell X_aN_5.out (j := 1) (v := a0v1) rfl
  have K_x0_0 := boxCell X_x0_5.out (j := 0) (v := .int .i64 x0.1) rfl
  have K_x0_1 := boxCell X_x0_5.out (j := 1) (v := .slice t4a1 (x0.2).length t4p1) rfl
  go_wp2_with fail
  go_region_held3 (fun W => W.cell? ⟨w.heap.size, 0, none⟩ = some (.int .i64 x0.1) ∧ W.cell? ⟨w.heap.size, 1, none⟩ = some (a0v1) ∧ W.cell? ⟨w4.heap.size, 0, none⟩ = some (.int .i64 x0.1) ∧ W.cell? ⟨w4.heap.size, 1, none⟩ = some (.slice t4a1 (x0.2).length t4p1)) (first | exact ⟨cell_later hd6 (cell_later hc6 K_aN_0), cell_later hd6 (cell_later hc6 K_aN_1), cell_later hd6 (cell_later hc6 K_x0_0), cell_later hd6 (cell_later hc6 K_x0_1)⟩ | exact ⟨cell_later hc6 K_aN_0, cell_later hc6 K_aN_1, cell_later hc6 K_x0_0, cell_later hc6 K_x0_1⟩ | go_keep)
    (first | (go_at_call 12; refine (toTopology_c (r0.below (by repeat (first | (with_reducible exact H5.out) | refine Below.alloc ?_ (by have := H5.out.size; simp; try omega) _ | refine Below.drew ?_)))).mono ?_; rintro e u6 ⟨cs6, rfl, O6, hc6⟩; obtain ⟨t6v1, rfl, t6_0, t6_1⟩ := RTopology_raw O6.raw; obtain ⟨t6a1, t6p1, t6h1, _⟩ := Rep.len_raw t6_1; obtain rfl : t6v1 = _ := (by simpa using t6h1); clear t6h1; clear t6_0 t6_1) | (go_at_call 14; refine (eqTopology_c (O_x0_5.out.raw.below (Below.trans (by repeat (first | (with_reducible exact Below.refl _ _) | refine Below.alloc ?_ (by simp; try omega) _ | refine Below.drew ?_)) (hc6.mono (by simp)))) O6.raw).mono ?_; rintro e w6 ⟨rfl, hd6⟩))
  have hb6 := hc6.trans (hd6.mono hc6.size); clear hc6 hd6 O6
  have D6 : Below w5.heap.size w5 w6 := Below.trans (by repeat (first | (with_reducible exact Below.refl _ _) | refine Below.alloc ?_ (by simp; try omega) _ | refine Below.drew ?_)) (hb6.mono (by simp))
  have H6 := Lib.hid (H5.out.trans (D6.mono H5.out.size))
  have L6 := Lib.hid (show w5.heap.size ≤ w6.heap.size from D6.size)
  have X_aN_6 := Lib.hid (keepBox X_aN_5.out D6); clear X_aN_5
  have X_x0_6 := Lib.hid (keepBox X_x0_5.out D6); clear X_x0_5
  have O_x0_6 := Lib.hid (O_x0_5.out.below D6); clear O_x0_5
  clear D6 K_aN_0 K_aN_1 K_x0_0 K_x0_1 hb6
  go_wp2
  go_ret
  exact ⟨rfl, H6.out⟩

set_option maxRecDepth 100000 in
theorem lawFaceTo_lifted (os : Os) (started : os.Started) (H : Type) (enc : TypeId × Value → H) :
    ReturnsInHanded {} Try.checked os 4 .any (Rows.fnExactFaceToSpec.pre6 enc Try.prog Try.f4 Rows.fnExactFaceToRow.domain false) (Rows.fnExactFaceToSpec.post enc Try.prog Try.f4 false true false false) := by
  refine returnsInHanded_of_change (C := Try.checked) law_own started (by kernel_rfl) Try.func4
    (ChangeSpec.witness6 (enc := enc) (C := Try.checked) false ⟨#[], #[.agg #[.int .i64 0, .slice none 0 0], .int .i64 0, .int .i64 0], []⟩ 8 (by kernel_rfl) (by kernel_rfl) (by kernel_rfl) (by kernel_rfl)) ?_
  intro W base args ds gs before hval0 hW _ _
  have hval : ∀ (j : Nat) t v, Try.f4.params[j]? = some t → args[j]? = some v → Value.okWide Try.prog W .any base t v := hval0
  have hW0 : DataW.Whole enc Try.prog Try.f4.params.toList Rows.fnExactFaceToSpec.vars false W args.toList ds gs before := hW
  obtain ⟨p, q, hA0, hV, rfl, hfz, hnd⟩ := hW
  have hA : DataW.TrodAll enc Try.prog W 0 (fun _ => true) true Try.f4.params.toList args.toList ds p := hA0
  rw [Try.params4] at hA hval
  obtain ⟨v0, vs0, d0, ds0, p0, q0, hargs, rfl, rfl, g0, s0⟩ := trodAll_cons hA
  obtain ⟨v1, vs1, d1, ds1, p1, q1, rfl, rfl, rfl, g1, s1⟩ := trodAll_cons s0
  obtain ⟨v2, vs2, d2, ds2, p2, q2, rfl, rfl, rfl, g2, s2⟩ := trodAll_cons s1
  obtain ⟨rfl, rfl, rfl⟩ := trodAll_nil s2
  obtain rfl : args = #[v0, v1, v2] := by cases args; simp_all
  obtain ⟨rfl, rfl⟩ := trodVars_none hV
  obtain ⟨c0, rfl⟩ : ∃ c : List Value, v0 = .agg c.toArray := by
    have h := hval 0 24 v0 rfl rfl
    unfold Value.okWide at h
    rw [Try.underlying24] at h
    obtain ⟨cs, rfl, _⟩ := h
    exact ⟨cs.toList, by simp⟩
  obtain ⟨fu0, hf0⟩ := g0
  obtain ⟨x0, h0⟩ := bridge_Topology (w := W) hf0
  have h0 : RTopology.raw W c0 x0 := by simpa [Value.cells] using h0
  obtain ⟨x1, rfl, rfl, rfl, e1⟩ := open_int Try.underlying3 (hval 1 3 v1 rfl rfl) g1
  have h1 : -9223372036854775808 ≤ x1 ∧ x1 ≤ 9223372036854775807 := by simpa [Lit.wf, IntKind.min, IntKind.max, IntKind.signed, IntKind.bits] using e1
  obtain ⟨x2, rfl, rfl, rfl, e2⟩ := open_int Try.underlying3 (hval 2 3 v2 rfl rfl) g2
  have h2 : -9223372036854775808 ≤ x2 ∧ x2 ≤ 9223372036854775807 := by simpa [Lit.wf, IntKind.min, IntKind.max, IntKind.signed, IntKind.bits] using e2
  refine (lawFaceTo_c h0 h1 h2).mono fun e W' ⟨he, hb⟩ => ?_
  subst he
  refine ⟨_, rfl, law_post (tb := 4) hW0 rfl rfl Try.underlying4 ⟨rfl, rfl, rfl⟩ ?_ hb⟩
  rw [Try.params4]
  intro t ht
  have hall : ([24, 3, 3].all fun t => Try.prog.readableRec t && decide (t < Try.prog.types.size)) = true := by kernel_rfl
  have h1 := List.all_eq_true.1 hall t ht
  simpa using h1

theorem lawFaceTo_holds : Rows.FnExactFaceToSaid :=
  OpenClaim.holds_of_wide 4 Try.f4 rfl rfl rfl rfl rfl rfl rfl ⟨rfl, rfl, rfl, rfl, rfl⟩ rfl rfl rfl rfl rfl (by kernel_rfl) Try.func4 (by kernel_rfl)
    (of_decide_eq_true (by kernel_rfl)) (by unfold Func.isWrapper; first | (rw [if_pos (by decide +kernel)]; kernel_rfl) | (rw [if_neg (by decide +kernel)]; exact ⟨rfl, rfl⟩))
    (fun os started H enc _ => lawFaceTo_lifted os started H enc)
end Go.Proofs.Ytaaobbbkfhggaaa

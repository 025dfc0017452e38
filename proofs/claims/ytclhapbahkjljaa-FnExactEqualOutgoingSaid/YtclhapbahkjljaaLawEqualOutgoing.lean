/-
  The law FnExactEqualOutgoing, walked: it returns true, whatever its arguments; then its statement. Printed by genlaw.py.
-/
import Derived.Test.YtclhapbahkjljaaEq
import Derived.Test.YtclhapbahkjljaaSz
import Derived.Test.YtclhapbahkjljaaTo
import Derived.Test.YtclhapbahkjljaaBridge
import Derived.Test.YtclhapbahkjljaaEqOut
import Derived.Test.YtclhapbahkjljaaSoft2
import Derived.Deep.RegionHeld3
namespace Go.Proofs.Ytclhapbahkjljaa
open Go.ChangeShapes Go.WideShapes Go.ChangeAt Go.RowKit
set_option linter.unusedVariables false
set_option linter.unusedSimpArgs false
set_option linter.unnecessarySimpa false
set_option maxRecDepth 100000 in
set_option maxHeartbeats 4000000 in
theorem lawEqualOutgoing_c {w : World} {v0 : Value} {x0 : (List LOutgoing)} (h0 : (Rep.slice 121 ROutgoing).raw w [v0] x0) {v1 : Value} {x1 : (List LOutgoing)} (h1 : (Rep.slice 121 ROutgoing).raw w [v1] x1) :
    Calls Try.prog 8 #[v0, v1] w (LawPost w) := by
  obtain ⟨a0a, a0p, a0h, a0l⟩ := Rep.len_raw h0; obtain rfl : v0 = _ := by simpa using a0h
  clear a0h
  obtain ⟨a1a, a1p, a1h, a1l⟩ := Rep.len_raw h1; obtain rfl : v1 = _ := by simpa using a1h
  clear a1h
  go_enter Try.func8, Try.ntmps8
  go_wp2_with fail
  refine (szOutgoingS_c (h0.below (by repeat (first | (with_reducible exact Below.refl _ _) | refine Below.alloc ?_ (by simp; try omega) _ | refine Below.drew ?_))) (by omega) (by omega)).mono ?_
  rintro e w1 ⟨s1, rfl, p1, q1, g1, hb1⟩
  have G1 := Lib.hid g1; clear g1
  have D1 : Below w.heap.size w w1 := Below.trans (by repeat (first | (with_reducible exact Below.refl _ _) | refine Below.alloc ?_ (by simp; try omega) _ | refine Below.drew ?_)) (hb1.mono (by simp))
  have H1 := Lib.hid D1
  have L1 := Lib.hid (show w.heap.size + 0 ≤ w1.heap.size from by have h := hb1.size; (try simp at h); omega)
  clear D1 hb1
  by_cases m1 : s1 < 0
  · go_wp2
    go_ret
    exact ⟨rfl, H1.out⟩
  have z1 : 0 ≤ s1 := by omega
  have r0 : (Rep.slice 121 ROutgoing).rd w _ x0 := ⟨h0, (Rep.slice 121 ROutgoing).bdd_mono (G1.out z1) (by decide)⟩
  go_wp2_with fail
  refine (szOutgoingS_c (h1.below (by repeat (first | (with_reducible exact H1.out) | refine Below.alloc ?_ (by have := H1.out.size; simp; try omega) _ | refine Below.drew ?_))) z1 (by omega)).mono ?_
  rintro e w2 ⟨s2, rfl, p2, q2, g2, hb2⟩
  have G2 := Lib.hid g2; clear g2
  have D2 : Below w1.heap.size w1 w2 := Below.trans (by repeat (first | (with_reducible exact Below.refl _ _) | refine Below.alloc ?_ (by simp; try omega) _ | refine Below.drew ?_)) (hb2.mono (by simp))
  have H2 := Lib.hid (H1.out.trans (D2.mono H1.out.size))
  have L2 := Lib.hid (show w1.heap.size + 0 ≤ w2.heap.size from by have h := hb2.size; (try simp at h); omega)
  clear D2 hb2
  by_cases m2 : s2 < 0
  · go_wp2
    go_ret
    exact ⟨rfl, H2.out⟩
  have z2 : 0 ≤ s2 := by omega
  have r1 : (Rep.slice 121 ROutgoing).rd w _ x1 := ⟨h1, (Rep.slice 121 ROutgoing).bdd_mono (G2.out z2) (by decide)⟩
  go_wp2_with fail
  refine (toOutgoingS_c (r0.below (by repeat (first | (with_reducible exact H2.out) | refine Below.alloc ?_ (by have := H2.out.size; simp; try omega) _ | refine Below.drew ?_)))).mono ?_
  rintro e w3 ⟨tv3, rfl, O3, hb3⟩
  obtain ⟨t3a, t3p, t3h, _⟩ := Rep.len_raw O3.raw; obtain rfl : tv3 = _ := (by simpa using t3h)
  clear t3h
  have Z3 := Lib.hid (O3.wide (T := Btw (w2.heap.size) (w3.heap.size)) (fun i hi => ⟨by have h := hi.1; (try simp at h); omega, hi.2⟩)); clear O3
  have D3 : Below w2.heap.size w2 w3 := Below.trans (by repeat (first | (with_reducible exact Below.refl _ _) | refine Below.alloc ?_ (by simp; try omega) _ | refine Below.drew ?_)) (hb3.mono (by simp))
  have H3 := Lib.hid (H2.out.trans (D3.mono H2.out.size))
  have L3 := Lib.hid (show w2.heap.size + 0 ≤ w3.heap.size from by have h := hb3.size; (try simp at h); omega)
  clear D3 hb3
  go_wp2_with fail
  refine (toOutgoingS_c (r1.below (by repeat (first | (with_reducible exact H3.out) | refine Below.alloc ?_ (by have := H3.out.size; simp; try omega) _ | refine Below.drew ?_)))).mono ?_
  rintro e w4 ⟨tv4, rfl, O4, hb4⟩
  obtain ⟨t4a, t4p, t4h, _⟩ := Rep.len_raw O4.raw; obtain rfl : tv4 = _ := (by simpa using t4h)
  clear t4h
  have Z4 := Lib.hid (O4.wide (T := Btw (w3.heap.size) (w4.heap.size)) (fun i hi => ⟨by have h := hi.1; (try simp at h); omega, hi.2⟩)); clear O4
  have D4 : Below w3.heap.size w3 w4 := Below.trans (by repeat (first | (with_reducible exact Below.refl _ _) | refine Below.alloc ?_ (by simp; try omega) _ | refine Below.drew ?_)) (hb4.mono (by simp))
  have H4 := Lib.hid (H3.out.trans (D4.mono H3.out.size))
  have L4 := Lib.hid (show w3.heap.size + 0 ≤ w4.heap.size from by have h := hb4.size; (try simp at h); omega)
  have O_t3_4 := Lib.hid (Z3.out.below D4); clear Z3
  clear D4 hb4
  go_wp2_with fail
  refine (specEqualOutgoing_c (O_t3_4.out.rd.below (by repeat (first | (with_reducible exact Below.refl _ _) | refine Below.alloc ?_ (by simp; try omega) _ | refine Below.drew ?_))) (Z4.out.rd.below (by repeat (first | (with_reducible exact Below.refl _ _) | refine Below.alloc ?_ (by simp; try omega) _ | refine Below.drew ?_)))).mono ?_
  rintro e w5 ⟨rfl, hb5⟩
  have D5 : Below w4.heap.size w4 w5 := Below.trans (by repeat (first | (with_reducible exact Below.refl _ _) | refine Below.alloc ?_ (by simp; try omega) _ | refine Below.drew ?_)) (hb5.mono (by simp))
  have H5 := Lib.hid (H4.out.trans (D5.mono H4.out.size))
  have L5 := Lib.hid (show w4.heap.size + 0 ≤ w5.heap.size from by have h := hb5.size; (try simp at h); omega)
  have O_t3_5 := Lib.hid (O_t3_4.out.below D5); clear O_t3_4
  have O_t4_5 := Lib.hid (Z4.out.below D5); clear Z4
  clear D5 hb5
  clear O_t3_5
  clear O_t4_5
  go_wp2_with fail
  refine (toOutgoingS_c (r0.below (by repeat (first | (with_reducible exact H5.out) | refine Below.alloc ?_ (by have := H5.out.size; simp; try omega) _ | refine Below.drew ?_)))).mono ?_
  rintro e w6 ⟨tv6, rfl, O6, hb6⟩
  obtain ⟨t6a, t6p, t6h, _⟩ := Rep.len_raw O6.raw; obtain rfl : tv6 = _ := (by simpa using t6h)
  clear t6h
  have Z6 := Lib.hid (O6.wide (T := Btw (w5.heap.size) (w6.heap.size)) (fun i hi => ⟨by have h := hi.1; (try simp at h); omega, hi.2⟩)); clear O6
  have D6 : Below w5.heap.size w5 w6 := Below.trans (by repeat (first | (with_reducible exact Below.refl _ _) | refine Below.alloc ?_ (by simp; try omega) _ | refine Below.drew ?_)) (hb6.mono (by simp))
  have H6 := Lib.hid (H5.out.trans (D6.mono H5.out.size))
  have L6 := Lib.hid (show w5.heap.size + 0 ≤ w6.heap.size from by have h := hb6.size; (try simp at h); omega)
  clear D6 hb6
  go_wp2_with fail
  refine (toOutgoingS_c (r1.below (by repeat (first | (with_reducible exact H6.out) | refine Below.alloc ?_ (by have := H6.out.size; simp; try omega) _ | refine Below.drew ?_)))).mono ?_
  rintro e w7 ⟨tv7, rfl, O7, hb7⟩
  obtain ⟨t7a, t7p, t7h, _⟩ := Rep.len_raw O7.raw; obtain rfl : tv7 = _ := (by simpa using t7h)
  clear t7h
  have Z7 := Lib.hid (O7.wide (T := Btw (w6.heap.size) (w7.heap.size)) (fun i hi => ⟨by have h := hi.1; (try simp at h); omega, hi.2⟩)); clear O7
  have D7 : Below w6.heap.size w6 w7 := Below.trans (by repeat (first | (with_reducible exact Below.refl _ _) | refine Below.alloc ?_ (by simp; try omega) _ | refine Below.drew ?_)) (hb7.mono (by simp))
  have H7 := Lib.hid (H6.out.trans (D7.mono H6.out.size))
  have L7 := Lib.hid (show w6.heap.size + 0 ≤ w7.heap.size from by have h := hb7.size; (try simp at h); omega)
  have O_x0_7 := Lib.hid (Z6.out.below D7); clear Z6
  clear D7 hb7
  go_wp2_with fail
  refine (implEqualOutgoing_c (O_x0_7.out.rd.below (by repeat (first | (with_reducible exact Below.refl _ _) | refine Below.alloc ?_ (by simp; try omega) _ | refine Below.drew ?_))) (Z7.out.rd.below (by repeat (first | (with_reducible exact Below.refl _ _) | refine Below.alloc ?_ (by simp; try omega) _ | refine Below.drew ?_)))).mono ?_
  rintro e w8 ⟨rfl, hb8⟩
  have D8 : Below w7.heap.size w7 w8 := Below.trans (by repeat (first | (with_reducible exact Below.refl _ _) | refine Below.alloc ?_ (by simp; try omega) _ | refine Below.drew ?_)) (hb8.mono (by simp))
  have H8 := Lib.hid (H7.out.trans (D8.mono H7.out.size))
  have L8 := Lib.hid (show w7.heap.size + 0 ≤ w8.heap.size from by have h := hb8.size; (try simp at h); omega)
  have O_x0_8 := Lib.hid (O_x0_7.out.below D8); clear O_x0_7
  have O_x1_8 := Lib.hid (Z7.out.below D8); clear Z7
  clear D8 hb8
  go_wp2_with fail
  refine (toOutgoingS_c (r0.below (by repeat (first | (with_reducible exact H8.out) | refine Below.alloc ?_ (by have := H8.out.size; simp; try omega) _ | refine Below.drew ?_)))).mono ?_
  rintro e w9 ⟨tv9, rfl, O9, hb9⟩
  obtain ⟨t9a, t9p, t9h, _⟩ := Rep.len_raw O9.raw; obtain rfl : tv9 = _ := (by simpa using t9h)
  clear t9h
  have Z9 := Lib.hid (O9.wide (T := Btw (w8.heap.size) (w9.heap.size)) (fun i hi => ⟨by have h := hi.1; (try simp at h); omega, hi.2⟩)); clear O9
  have D9 : Below w8.heap.size w8 w9 := Below.trans (by repeat (first | (with_reducible exact Below.refl _ _) | refine Below.alloc ?_ (by simp; try omega) _ | refine Below.drew ?_)) (hb9.mono (by simp))
  have H9 := Lib.hid (H8.out.trans (D9.mono H8.out.size))
  have L9 := Lib.hid (show w8.heap.size + 0 ≤ w9.heap.size from by have h := hb9.size; (try simp at h); omega)
  have O_x0_9 := Lib.hid (O_x0_8.out.below D9); clear O_x0_8
  have O_x1_9 := Lib.hid (O_x1_8.out.below D9); clear O_x1_8
  clear D9 hb9
  go_wp2_with fail
  refine (eqOutgoingS_c (O_x0_9.out.raw.below (by repeat (first | (with_reducible exact Below.refl _ _) | refine Below.alloc ?_ (by simp; try omega) _ | refine Below.drew ?_))) (Z9.out.raw.below (by repeat (first | (with_reducible exact Below.refl _ _) | refine Below.alloc ?_ (by simp; try omega) _ | refine Below.drew ?_)))).mono ?_
  rintro e w10 ⟨rfl, hb10⟩
  clear Z9
  have D10 : Below w9.heap.size w9 w10 := Below.trans (by repeat (first | (with_reducible exact Below.refl _ _) | refine Below.alloc ?_ (by simp; try omega) _ | refine Below.drew ?_)) (hb10.mono (by simp))
  have H10 := Lib.hid (H9.out.trans (D10.mono H9.out.size))
  have L10 := Lib.hid (show w9.heap.size + 0 ≤ w10.heap.size from by have h := hb10.size; (try simp at h); omega)
  have O_x0_10 := Lib.hid (O_x0_9.out.below D10); clear O_x0_9
  have O_x1_10 := Lib.hid (O_x1_9.out.below D10); clear O_x1_9
  clear D10 hb10
  go_wp2_with fail
  refine (toOutgoingS_c (r1.below (by repeat (first | (with_reducible exact H10.out) | refine Below.alloc ?_ (by have := H10.out.size; simp; try omega) _ | refine Below.drew ?_)))).mono ?_
  rintro e w11 ⟨tv11, rfl, O11, hb11⟩
  obtain ⟨t11a, t11p, t11h, _⟩ := Rep.len_raw O11.raw; obtain rfl : tv11 = _ := (by simpa using t11h)
  clear t11h
  have Z11 := Lib.hid (O11.wide (T := Btw (w10.heap.size) (w11.heap.size)) (fun i hi => ⟨by have h := hi.1; (try simp at h); omega, hi.2⟩)); clear O11
  have D11 : Below w10.heap.size w10 w11 := Below.trans (by repeat (first | (with_reducible exact Below.refl _ _) | refine Below.alloc ?_ (by simp; try omega) _ | refine Below.drew ?_)) (hb11.mono (by simp))
  have H11 := Lib.hid (H10.out.trans (D11.mono H10.out.size))
  have L11 := Lib.hid (show w10.heap.size + 0 ≤ w11.heap.size from by have h := hb11.size; (try simp at h); omega)
  have O_x0_11 := Lib.hid (O_x0_10.out.below D11); clear O_x0_10
  have O_x1_11 := Lib.hid (O_x1_10.out.below D11); clear O_x1_10
  clear D11 hb11
  go_wp2_with fail
  refine (eqOutgoingS_c (O_x1_11.out.raw.below (by repeat (first | (with_reducible exact Below.refl _ _) | refine Below.alloc ?_ (by simp; try omega) _ | refine Below.drew ?_))) (Z11.out.raw.below (by repeat (first | (with_reducible exact Below.refl _ _) | refine Below.alloc ?_ (by simp; try omega) _ | refine Below.drew ?_)))).mono ?_
  rintro e w12 ⟨rfl, hb12⟩
  clear Z11
  have D12 : Below w11.heap.size w11 w12 := Below.trans (by repeat (first | (with_reducible exact Below.refl _ _) | refine Below.alloc ?_ (by simp; try omega) _ | refine Below.drew ?_)) (hb12.mono (by simp))
  have H12 := Lib.hid (H11.out.trans (D12.mono H11.out.size))
  have L12 := Lib.hid (show w11.heap.size + 0 ≤ w12.heap.size from by have h := hb12.size; (try simp at h); omega)
  have O_x0_12 := Lib.hid (O_x0_11.out.below D12); clear O_x0_11
  have O_x1_12 := Lib.hid (O_x1_11.out.below D12); clear O_x1_11
  clear D12 hb12
  go_wp2
  go_ret
  exact ⟨rfl, H12.out⟩

set_option maxRecDepth 100000 in
theorem lawEqualOutgoing_lifted (os : Os) (started : os.Started) (H : Type) (enc : TypeId × Value → H) :
    ReturnsInHanded {} Try.checked os 8 .any (Rows.fnExactEqualOutgoingSpec.pre6 enc Try.prog Try.f8 Rows.fnExactEqualOutgoingRow.domain false) (Rows.fnExactEqualOutgoingSpec.post enc Try.prog Try.f8 false true false false) := by
  refine returnsInHanded_of_change (C := Try.checked) law_own started (by kernel_rfl) Try.func8
    (ChangeSpec.witness6 (enc := enc) (C := Try.checked) false ⟨#[], #[.slice none 0 0, .slice none 0 0], []⟩ 8 (by kernel_rfl) (by kernel_rfl) (by kernel_rfl) (by kernel_rfl)) ?_
  intro W base args ds gs before hval0 hW _ _
  have hval : ∀ (j : Nat) t v, Try.f8.params[j]? = some t → args[j]? = some v → Value.okWide Try.prog W .any base t v := hval0
  have hW0 : DataW.Whole enc Try.prog Try.f8.params.toList Rows.fnExactEqualOutgoingSpec.vars false W args.toList ds gs before := hW
  obtain ⟨p, q, hA0, hV, rfl, hfz, hnd⟩ := hW
  have hA : DataW.TrodAll enc Try.prog W 0 (fun _ => true) true Try.f8.params.toList args.toList ds p := hA0
  rw [Try.params8] at hA hval
  obtain ⟨v0, vs0, d0, ds0, p0, q0, hargs, rfl, rfl, g0, s0⟩ := trodAll_cons hA
  obtain ⟨v1, vs1, d1, ds1, p1, q1, rfl, rfl, rfl, g1, s1⟩ := trodAll_cons s0
  obtain ⟨rfl, rfl, rfl⟩ := trodAll_nil s1
  obtain rfl : args = #[v0, v1] := by cases args; simp_all
  obtain ⟨rfl, rfl⟩ := trodVars_none hV
  obtain ⟨a0, len0, cap0, rfl⟩ := okWide_slice Try.underlying68 (hval 0 68 v0 rfl rfl)
  obtain ⟨fu0, hf0⟩ := g0
  obtain ⟨x0, h0⟩ := bridge_OutgoingS (w := W) hf0
  have h0 : (Rep.slice 121 ROutgoing).raw W [.slice a0 len0 cap0] x0 := by simpa [Value.cells] using h0
  obtain ⟨a1, len1, cap1, rfl⟩ := okWide_slice Try.underlying68 (hval 1 68 v1 rfl rfl)
  obtain ⟨fu1, hf1⟩ := g1
  obtain ⟨x1, h1⟩ := bridge_OutgoingS (w := W) hf1
  have h1 : (Rep.slice 121 ROutgoing).raw W [.slice a1 len1 cap1] x1 := by simpa [Value.cells] using h1
  refine (lawEqualOutgoing_c h0 h1).mono fun e W' ⟨he, hb⟩ => ?_
  subst he
  refine ⟨_, rfl, law_post (tb := 4) hW0 rfl rfl Try.underlying4 ⟨rfl, rfl, rfl⟩ ?_ hb⟩
  rw [Try.params8]
  intro t ht
  have hall : ([68, 68].all fun t => Try.prog.readableRec t && decide (t < Try.prog.types.size)) = true := by kernel_rfl
  have h1 := List.all_eq_true.1 hall t ht
  simpa using h1

theorem lawEqualOutgoing_holds : Rows.FnExactEqualOutgoingSaid :=
  OpenClaim.holds_of_wide 8 Try.f8 rfl rfl rfl rfl rfl rfl rfl ⟨rfl, rfl, rfl, rfl, rfl⟩ rfl rfl rfl rfl rfl (by kernel_rfl) Try.func8 (by kernel_rfl)
    (of_decide_eq_true (by kernel_rfl)) (by unfold Func.isWrapper; first | (rw [if_pos (by decide +kernel)]; kernel_rfl) | (rw [if_neg (by decide +kernel)]; exact ⟨rfl, rfl⟩))
    (fun os started H enc _ => lawEqualOutgoing_lifted os started H enc)
end Go.Proofs.Ytclhapbahkjljaa

/-
  The law FnExactFormatRoutes, walked: it returns true, whatever its arguments; then its statement. Printed by genlaw.py.
-/
import Derived.Test.YtadneiijklnccaaDoorEq
import Derived.Test.YtadneiijklnccaaDoorSz
import Derived.Test.YtadneiijklnccaaDoorTo
import Derived.Test.YtadneiijklnccaaDoorBridge
import Derived.Test.YtadneiijklnccaaDoorFmtR
import Derived.Test.YtadneiijklnccaaDoorSoft2
import Derived.Deep.RegionHeld3
import Derived.Test.YtadneiijklnccaaDoorCards
import Derived.Test.YtadneiijklnccaaDoorTie
import Derived.Deep.DeepHandedRow
import Derived.Lib.LaidTab
import Derived.Stop.LaidErr
import Derived.SevenTiedAt
namespace Go.Proofs.YtadneiijklnccaaDoor
open Go.ChangeShapes Go.WideShapes Go.ChangeAt Go.RowKit
set_option linter.unusedVariables false
set_option linter.unusedSimpArgs false
set_option linter.unnecessarySimpa false
set_option maxRecDepth 100000 in
set_option maxHeartbeats 4000000 in
theorem lawFormatRoutes_c {w : World} {v0 : Value} {x0 : (List LRoute)} (h0 : (Rep.slice 55 RRoute).raw w [v0] x0) (ht : TabW Tryd.prog w) :
    Calls Tryd.prog 4 #[v0] w (LawPost w) := by
  obtain ⟨a0a, a0p, a0h, a0l⟩ := Rep.len_raw h0; obtain rfl : v0 = _ := by simpa using a0h
  clear a0h
  have HT := Lib.hid ht
  clear ht
  go_enter Tryd.func4, Tryd.ntmps4
  go_wp2_with fail
  refine (szRouteS_d (h0.below (by repeat (first | (with_reducible exact Below.refl _ _) | refine Below.alloc ?_ (by simp; try omega) _ | refine Below.drew ?_))) (by omega) (by omega)).mono ?_
  rintro e w1 ⟨s1, rfl, p1, q1, g1, hb1⟩
  have G1 := Lib.hid g1; clear g1
  have D1 : Below w.heap.size w w1 := Below.trans (by repeat (first | (with_reducible exact Below.refl _ _) | refine Below.alloc ?_ (by simp; try omega) _ | refine Below.drew ?_)) (hb1.mono (by first | (simp; done) | (simp; omega)))
  have H1 := Lib.hid D1
  have L1 := Lib.hid (show w.heap.size + 0 ≤ w1.heap.size from by have h := hb1.size; (try simp at h); omega)
  clear D1 hb1
  by_cases m1 : s1 < 0
  · go_wp2
    go_ret
    exact ⟨rfl, H1.out⟩
  have z1 : 0 ≤ s1 := by omega
  have HWT := Lib.hid (G1.out z1).2
  have r0 : (Rep.slice 55 RRoute).rd w _ x0 := ⟨h0, (Rep.slice 55 RRoute).bdd_mono (G1.out z1).1 (by decide)⟩
  go_wp2_with fail
  refine (toRouteS_c (r0.below (by repeat (first | (with_reducible exact H1.out) | refine Below.alloc ?_ (by have := H1.out.size; simp; try omega) _ | refine Below.drew ?_)))).mono ?_
  rintro e w2 ⟨tv2, rfl, O2, hb2⟩
  obtain ⟨t2a, t2p, t2h, _⟩ := Rep.len_raw O2.raw; obtain rfl : tv2 = _ := (by simpa using t2h)
  clear t2h
  have Z2 := Lib.hid (O2.wide (T := Btw (w1.heap.size) (w2.heap.size)) (fun i hi => ⟨by have h := hi.1; (try simp at h); omega, hi.2⟩)); clear O2
  have D2 : Below w1.heap.size w1 w2 := Below.trans (by repeat (first | (with_reducible exact Below.refl _ _) | refine Below.alloc ?_ (by simp; try omega) _ | refine Below.drew ?_)) (hb2.mono (by first | (simp; done) | (simp; omega)))
  have H2 := Lib.hid (H1.out.trans (D2.mono H1.out.size))
  have L2 := Lib.hid (show w1.heap.size + 0 ≤ w2.heap.size from by have h := hb2.size; (try simp at h); omega)
  clear D2 hb2
  go_wp2_with fail
  refine (specFormatRoutes_c (Z2.out.rd.below (by repeat (first | (with_reducible exact Below.refl _ _) | refine Below.alloc ?_ (by simp; try omega) _ | refine Below.drew ?_))) HWT.out).mono ?_
  rintro e w3 ⟨rfl, hb3⟩
  have D3 : Below w2.heap.size w2 w3 := Below.trans (by repeat (first | (with_reducible exact Below.refl _ _) | refine Below.alloc ?_ (by simp; try omega) _ | refine Below.drew ?_)) (hb3.mono (by first | (simp; done) | (simp; omega)))
  have H3 := Lib.hid (H2.out.trans (D3.mono H2.out.size))
  have L3 := Lib.hid (show w2.heap.size + 0 ≤ w3.heap.size from by have h := hb3.size; (try simp at h); omega)
  have O_t2_3 := Lib.hid (Z2.out.below D3); clear Z2
  clear D3 hb3
  clear O_t2_3
  go_wp2_with fail
  refine (toRouteS_c (r0.below (by repeat (first | (with_reducible exact H3.out) | refine Below.alloc ?_ (by have := H3.out.size; simp; try omega) _ | refine Below.drew ?_)))).mono ?_
  rintro e w4 ⟨tv4, rfl, O4, hb4⟩
  obtain ⟨t4a, t4p, t4h, _⟩ := Rep.len_raw O4.raw; obtain rfl : tv4 = _ := (by simpa using t4h)
  clear t4h
  have Z4 := Lib.hid (O4.wide (T := Btw (w3.heap.size) (w4.heap.size)) (fun i hi => ⟨by have h := hi.1; (try simp at h); omega, hi.2⟩)); clear O4
  have D4 : Below w3.heap.size w3 w4 := Below.trans (by repeat (first | (with_reducible exact Below.refl _ _) | refine Below.alloc ?_ (by simp; try omega) _ | refine Below.drew ?_)) (hb4.mono (by first | (simp; done) | (simp; omega)))
  have H4 := Lib.hid (H3.out.trans (D4.mono H3.out.size))
  have L4 := Lib.hid (show w3.heap.size + 0 ≤ w4.heap.size from by have h := hb4.size; (try simp at h); omega)
  clear D4 hb4
  go_wp2_with fail
  refine (implFormatRoutes_c (Z4.out.rd.below (by repeat (first | (with_reducible exact Below.refl _ _) | refine Below.alloc ?_ (by simp; try omega) _ | refine Below.drew ?_))) HWT.out (HT.out.below (by repeat (first | (with_reducible exact H4.out) | refine Below.alloc ?_ (by have := H4.out.size; simp; try omega) _ | refine Below.drew ?_)))).mono ?_
  rintro e w5 ⟨rfl, hb5⟩
  have D5 : Below w4.heap.size w4 w5 := Below.trans (by repeat (first | (with_reducible exact Below.refl _ _) | refine Below.alloc ?_ (by simp; try omega) _ | refine Below.drew ?_)) (hb5.mono (by first | (simp; done) | (simp; omega)))
  have H5 := Lib.hid (H4.out.trans (D5.mono H4.out.size))
  have L5 := Lib.hid (show w4.heap.size + 0 ≤ w5.heap.size from by have h := hb5.size; (try simp at h); omega)
  have O_x0_5 := Lib.hid (Z4.out.below D5); clear Z4
  clear D5 hb5
  go_wp2_with fail
  refine (toRouteS_c (r0.below (by repeat (first | (with_reducible exact H5.out) | refine Below.alloc ?_ (by have := H5.out.size; simp; try omega) _ | refine Below.drew ?_)))).mono ?_
  rintro e w6 ⟨tv6, rfl, O6, hb6⟩
  obtain ⟨t6a, t6p, t6h, _⟩ := Rep.len_raw O6.raw; obtain rfl : tv6 = _ := (by simpa using t6h)
  clear t6h
  have Z6 := Lib.hid (O6.wide (T := Btw (w5.heap.size) (w6.heap.size)) (fun i hi => ⟨by have h := hi.1; (try simp at h); omega, hi.2⟩)); clear O6
  have D6 : Below w5.heap.size w5 w6 := Below.trans (by repeat (first | (with_reducible exact Below.refl _ _) | refine Below.alloc ?_ (by simp; try omega) _ | refine Below.drew ?_)) (hb6.mono (by first | (simp; done) | (simp; omega)))
  have H6 := Lib.hid (H5.out.trans (D6.mono H5.out.size))
  have L6 := Lib.hid (show w5.heap.size + 0 ≤ w6.heap.size from by have h := hb6.size; (try simp at h); omega)
  have O_x0_6 := Lib.hid (O_x0_5.out.below D6); clear O_x0_5
  clear D6 hb6
  go_wp2_with fail
  refine (eqRouteS_c (O_x0_6.out.raw.below (by repeat (first | (with_reducible exact Below.refl _ _) | refine Below.alloc ?_ (by simp; try omega) _ | refine Below.drew ?_))) (Z6.out.raw.below (by repeat (first | (with_reducible exact Below.refl _ _) | refine Below.alloc ?_ (by simp; try omega) _ | refine Below.drew ?_)))).mono ?_
  rintro e w7 ⟨rfl, hb7⟩
  clear Z6
  have D7 : Below w6.heap.size w6 w7 := Below.trans (by repeat (first | (with_reducible exact Below.refl _ _) | refine Below.alloc ?_ (by simp; try omega) _ | refine Below.drew ?_)) (hb7.mono (by first | (simp; done) | (simp; omega)))
  have H7 := Lib.hid (H6.out.trans (D7.mono H6.out.size))
  have L7 := Lib.hid (show w6.heap.size + 0 ≤ w7.heap.size from by have h := hb7.size; (try simp at h); omega)
  have O_x0_7 := Lib.hid (O_x0_6.out.below D7); clear O_x0_6
  clear D7 hb7
  go_wp2
  go_ret
  exact ⟨rfl, H7.out⟩
theorem gTab : Tryd.prog.globalNamed "internal/strconv.uint64pow10" = some 0 := by kernel_rfl
theorem gTabType : (Tryd.prog.globals[0]?).map (·.type) = some 92 := by kernel_rfl
theorem cellsArr : Tryd.prog.cellsOf 92 = 20 := by kernel_rfl
theorem cellsOne : Tryd.prog.cellsOf 82 = 1 := by kernel_rfl
theorem tab_datum : (Rows.laid_internal_strconv_uint64pow10 : DataW Unit) = Lib.tabData .u64 Lib.pow10Tab := by kernel_rfl
theorem tabW_of {W : World} (h : laidMetH Tryd.prog Rows.fnExactFormatRoutesRow.laid W) : TabW Tryd.prog W := by
  have h2 : laidMet Tryd.prog [("internal/strconv.uint64pow10", Rows.laid_internal_strconv_uint64pow10)] W := (laidMet.tail (laidMet.tail h))
  rw [tab_datum] at h2
  exact Lib.tabIs_of_head (rest := []) gTab gTabType Tryd.underlying92 Tryd.underlying82 cellsOne cellsArr h2
noncomputable def laidWorld (os : Os) : World :=
  { World.holding Tryd.prog os ⟨#[], #[], []⟩ with heap := ((((World.holding Tryd.prog os ⟨#[], #[], []⟩).heap.modify 2 fun
      | .cells _ t frozen => .cells #[.int .u8 0, .int .u8 1, .int .u8 28, .int .u8 2, .int .u8 29, .int .u8 14, .int .u8 24, .int .u8 3, .int .u8 30, .int .u8 22, .int .u8 20, .int .u8 15, .int .u8 25, .int .u8 17, .int .u8 4, .int .u8 8, .int .u8 31, .int .u8 27, .int .u8 13, .int .u8 23, .int .u8 21, .int .u8 19, .int .u8 16, .int .u8 7, .int .u8 26, .int .u8 12, .int .u8 18, .int .u8 6, .int .u8 11, .int .u8 5, .int .u8 10, .int .u8 9] t frozen
      | o => o).modify 3 fun
      | .cells _ t frozen => .cells #[.int .u8 0, .int .u8 1, .int .u8 56, .int .u8 2, .int .u8 57, .int .u8 49, .int .u8 28, .int .u8 3, .int .u8 61, .int .u8 58, .int .u8 42, .int .u8 50, .int .u8 38, .int .u8 29, .int .u8 17, .int .u8 4, .int .u8 62, .int .u8 47, .int .u8 59, .int .u8 36, .int .u8 45, .int .u8 43, .int .u8 51, .int .u8 22, .int .u8 53, .int .u8 39, .int .u8 33, .int .u8 30, .int .u8 24, .int .u8 18, .int .u8 12, .int .u8 5, .int .u8 63, .int .u8 55, .int .u8 48, .int .u8 27, .int .u8 60, .int .u8 41, .int .u8 37, .int .u8 16, .int .u8 46, .int .u8 35, .int .u8 44, .int .u8 21, .int .u8 52, .int .u8 32, .int .u8 23, .int .u8 11, .int .u8 54, .int .u8 26, .int .u8 40, .int .u8 15, .int .u8 34, .int .u8 20, .int .u8 31, .int .u8 10, .int .u8 25, .int .u8 14, .int .u8 19, .int .u8 9, .int .u8 13, .int .u8 8, .int .u8 7, .int .u8 6] t frozen
      | o => o).modify 0 fun
      | .cells _ t frozen => .cells #[.int .u64 1, .int .u64 10, .int .u64 100, .int .u64 1000, .int .u64 10000, .int .u64 100000, .int .u64 1000000, .int .u64 10000000, .int .u64 100000000, .int .u64 1000000000, .int .u64 10000000000, .int .u64 100000000000, .int .u64 1000000000000, .int .u64 10000000000000, .int .u64 100000000000000, .int .u64 1000000000000000, .int .u64 10000000000000000, .int .u64 100000000000000000, .int .u64 1000000000000000000, .int .u64 10000000000000000000] t frozen
      | o => o) }
theorem laid_met (os : Os) : laidMet Tryd.prog Rows.fnExactFormatRoutesRow.laid ((laidWorld os).forCall (fun _ _ => 0) ⟨#[], #[.slice none 0 0], []⟩).memory :=
  laidMet_of_run' 8 (by kernel_rfl) (by kernel_rfl)
theorem reads (os : Os) {H : Type} (enc : TypeId × Value → H) : ∃ ds gs places, DataW.whole enc Tryd.prog ((laidWorld os).forCall (fun _ _ => 0) ⟨#[], #[.slice none 0 0], []⟩).memory Tryd.f4.params.toList Rows.fnExactFormatRoutesSpec.vars false (#[.slice none 0 0] : Array Value).toList 8 = some (ds, gs, places) := by
  have h : (DataW.whole enc Tryd.prog ((laidWorld os).forCall (fun _ _ => 0) ⟨#[], #[.slice none 0 0], []⟩).memory Tryd.f4.params.toList Rows.fnExactFormatRoutesSpec.vars false (#[.slice none 0 0] : Array Value).toList 8).isSome = true := by kernel_rfl
  obtain ⟨r, hr⟩ := Option.isSome_iff_exists.1 h
  exact ⟨r.1, r.2.1, r.2.2, hr⟩
set_option maxRecDepth 100000 in
theorem lawFormatRoutes_lifted (os : Os) (started : os.Started) (H : Type) (enc : TypeId × Value → H) (F : Stop.Interp) :
    ReturnsInHanded {} Tryd.checked os 4 .any ((OpenSpec.ofChange Rows.fnExactFormatRoutesSpec).preRow enc Tryd.prog Tryd.f4 Rows.fnExactFormatRoutesRow.domain false Rows.fnExactFormatRoutesRow.laid) (((OpenSpec.ofChange Rows.fnExactFormatRoutesSpec).at F).post enc Tryd.prog Tryd.f4 false true false false) := by
  obtain ⟨ds0, gs0, places, hx⟩ := reads os enc
  refine returnsInHanded_of_row (C := Tryd.checked) (s := OpenSpec.ofChange Rows.fnExactFormatRoutesSpec) law_own started (by kernel_rfl) Tryd.func4
    (witness_row_at (enc := enc) (C := Tryd.checked) false (laidWorld os) #[.slice none 0 0] rfl (by kernel_rfl) (by kernel_rfl) (by kernel_rfl)
      (OpenSpec.preRow_of_cond 8 hx (by kernel_rfl) (fun k hk => by cases hk) (by kernel_rfl) (laid_met os))) ?_
  intro W base args ds gs before hval0 hW _ _ _ hL _ _
  have hval : ∀ (j : Nat) t v, Tryd.f4.params[j]? = some t → args[j]? = some v → Value.okWide Tryd.prog W .any base t v := hval0
  have hW0 : DataW.Whole enc Tryd.prog Tryd.f4.params.toList Rows.fnExactFormatRoutesSpec.vars false W args.toList ds gs before := hW
  obtain ⟨p, q, hA0, hV, rfl, hfz, hnd⟩ := hW
  have hA : DataW.TrodAll enc Tryd.prog W 0 (fun _ => true) true Tryd.f4.params.toList args.toList ds p := hA0
  rw [Tryd.params4] at hA hval
  obtain ⟨v0, vs0, d0, ds0, p0, q0, hargs, rfl, rfl, g0, s0⟩ := trodAll_cons hA
  obtain ⟨rfl, rfl, rfl⟩ := trodAll_nil s0
  obtain rfl : args = #[v0] := by cases args; simp_all
  obtain ⟨rfl, rfl⟩ := trodVars_none hV
  obtain ⟨a0, len0, cap0, rfl⟩ := okWide_slice Tryd.underlying33 (hval 0 33 v0 rfl rfl)
  obtain ⟨fu0, hf0⟩ := g0
  obtain ⟨x0, h0⟩ := bridge_RouteS (w := W) hf0
  have h0 : (Rep.slice 55 RRoute).raw W [.slice a0 len0 cap0] x0 := by simpa [Value.cells] using h0
  refine (lawFormatRoutes_c h0 (tabW_of hL)).mono fun e W' ⟨he, hb⟩ => ?_
  subst he
  refine ⟨_, rfl, law_post (tb := 4) hW0 rfl rfl Tryd.underlying4 ⟨rfl, rfl, rfl⟩ ?_ hb⟩
  rw [Tryd.params4]
  intro t ht
  have hall : ([33].all fun t => Tryd.prog.readableRec t && decide (t < Tryd.prog.types.size)) = true := by kernel_rfl
  have h1 := List.all_eq_true.1 hall t ht
  simpa using h1
theorem lawFormatRoutes_said : Rows.FnExactFormatRoutesSaid :=
  OpenClaim.holds_of_cond 4 Tryd.f4 rfl rfl rfl rfl rfl rfl rfl ⟨rfl, rfl, rfl, rfl, rfl⟩ rfl rfl rfl rfl rfl (by kernel_rfl) Tryd.func4 (by kernel_rfl)
    (of_decide_eq_true (by kernel_rfl)) (by unfold Func.isWrapper; first | (rw [if_pos (by decide +kernel)]; kernel_rfl) | (rw [if_neg (by decide +kernel)]; exact ⟨rfl, rfl⟩))
    (fun os started H enc _ F => by rw [OpenClaim.pre_eq_preRow]; exact lawFormatRoutes_lifted os started H enc F)
theorem plain_looks (f : FuncId) (fn : Func) (hf : Tryd.pinned.checked.prog.funcNamed "loop.example/g00507/laws.FnExactFormatRoutes" = some f) (hfn : Tryd.pinned.checked.prog.funcs[f]? = some fn) :
    false = Tryd.pinned.checked.prog.looks [] ∧ ∀ (j : Nat) t, fn.params[j]? = some t → Tryd.pinned.checked.prog.wantsStandIn t = false := by
  obtain rfl : f = 4 := Option.some.inj ((show Tryd.prog.funcNamed "loop.example/g00507/laws.FnExactFormatRoutes" = some 4 by kernel_rfl).symm.trans hf) |>.symm
  obtain rfl : fn = Tryd.f4 := (Option.some.inj (Tryd.func4.symm.trans hfn)).symm
  refine ⟨by kernel_rfl, fun j t ht => ?_⟩
  rw [Tryd.params4] at ht
  have hm := Array.mem_of_getElem? ht
  have hall : ((#[33] : Array TypeId).all fun t => !Tryd.prog.wantsStandIn t) = true := by kernel_rfl
  have h1 := Array.all_eq_true_iff_forall_mem.1 hall t hm
  show Tryd.prog.wantsStandIn t = false
  simpa using h1
theorem lawFormatRoutes_holds : Rows.FnExactFormatRoutesCardSaid :=
  Claim7.holds_tied_plain_at .later [] _ _ _ _ lawFormatRoutes_said (fun _ h => by cases h) (by kernel_rfl) (fun _ h => by cases h) fnExactFormatRoutes_row_tie rfl ⟨rfl, rfl⟩ (by kernel_rfl) rfl plain_looks (by kernel_rfl)
end Go.Proofs.YtadneiijklnccaaDoor

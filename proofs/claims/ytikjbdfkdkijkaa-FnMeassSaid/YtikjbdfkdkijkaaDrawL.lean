/-
  Measurements as the reference draws them.
-/
import Derived.Test.YtikjbdfkdkijkaaDrawM
import Derived.Test.YtikjbdfkdkijkaaRecF
import Derived.Test.YtikjbdfkdkijkaaRecS
import Derived.IntWalk
import Derived.WalkSpells
import Derived.WalkLawsBesides
import Derived.Deep.Cut
namespace Go.Proofs.Ytikjbdfkdkijkaa
open Go.RowKit
set_option linter.unusedVariables false
set_option linter.unusedSimpArgs false
set_option linter.unnecessarySimpa false
theorem recF_len {n : LName} {f : Int} {l : List LMeasurement} (h : l.length ≤ 24) : (recF n f l).length ≤ 24 := by
  unfold recF
  split
  · split
    · split
      · simp; omega
      · exact h
    · simp; exact h
  · exact h
theorem recS_len {n : LName} {f : Int} {l : List LMeasurement} (h : l.length ≤ 24) : (recS n f l).length ≤ 24 := by
  unfold recS
  split
  · exact h
  · split
    · simp; omega
    · simp; exact h
set_option maxRecDepth 100000 in
set_option maxHeartbeats 2000000 in
theorem specl15Name_c {w0 w : World} {p : Nat} (hc : Cur w0 w p) :
    Calls Try.prog 59 #[.pointer (some ⟨p, 0, none⟩)] w fun e w' => ∃ a c ps, e = .returned (.agg #[.slice a ps.length c]) ∧ RName.own w' [.slice a ps.length c] ps (Btw w.heap.size w'.heap.size) ∧ ps.length ≤ 64 ∧ Cur w0 w' p ∧ Touch (fun k => k = p) w w' := by
  go_enter Try.func59, Try.ntmps59
  obtain ⟨hp0, hp1⟩ := hc.lt
  go_upto_region 1 with fail
  generalize hw_ : World.alloc w _ = w1
  have E_w1 : Below w.heap.size w w1 := by rw [← hw_]; exact (Below.refl _ _).alloc (Nat.le_refl _) _
  have R : w1.heap[w.heap.size]? = some (.cells #[.slice none 0 0] 27 (0, 0)) := by rw [← hw_]; exact heap_new_at rfl
  have z_w1 : w.heap.size + 1 ≤ w1.heap.size := by rw [← hw_]; simp
  clear hw_
  replace hc := hc.below E_w1
  have TE : Touch (fun k => k = p) w w1 := Touch.of_below E_w1
  clear E_w1
  go_wp2_with fail
  refine (specl1Str_c (hc.below ((Below.refl _ _).alloc (Nat.le_refl _) _)) (Rep.lit_str _ [{ data := #[47] }, { data := #[47, 97] }, { data := #[47, 98] }, { data := #[47, 97, 47, 110, 101, 119, 115] }] (by decide) (by decide)) (by omega) (by decide) (by decide)).mono ?_
  rintro e w2 ⟨y, hyM, hyR, rfl, hcN, htN⟩
  replace htN := (Touch.of_below (S := fun k => k = p) ((Below.refl _ _).alloc (Nat.le_refl _) _)).trans htN
  have z_w2 := htN.size
  replace R := htN.keepBox R (by omega)
  replace TE := TE.trans htN
  clear hc htN
  have hc := hcN
  clear hcN
  go_wp2_with fail
  refine (specl4Of_c (Rep.mem_str (by decide) hyM)).mono ?_
  rintro e w3 ⟨a, c, ps, rfl, hr, hl, hb⟩
  have z_w3 := hb.size
  replace R := keepBox R hb
  replace hc := hc.below hb
  replace TE := TE.trans (Touch.of_below hb)
  clear hb
  have HR := Lib.hid (hr)
  clear hr
  have KR_0 : w3.cell? ⟨w.heap.size, 0, none⟩ = some (.slice none 0 0) := boxCell R rfl
  have FR_0 : w3.frozen? ⟨w.heap.size, 0, none⟩ = false := frozen_of_row w3 (w.heap.size) 0 _ _ R
  go_wp2
  refine bodyPost_ret (v := .agg #[.slice a ps.length c]) (by simp [results, Try.results59, go_sem, KR_0, FR_0]) rfl ⟨_, _, ps, rfl, ?_, hl, hc.touch (setCell_touch w3 w.heap.size 0 _) (by omega) (fun k hk => by omega), TE.trans_new (setCell_touch w3 w.heap.size 0 _) (by omega)⟩
  exact (HR.out.touch (setCell_touch w3 w.heap.size 0 _) (fun k hk => by have := hk.1; omega)).wide (fun j hj => ⟨by have := hj.1; omega, by have := hj.2; simp [World.setCell]; omega⟩)
set_option maxRecDepth 100000 in
set_option maxHeartbeats 2000000 in
theorem specl15Draw_c {w0 w : World} {p : Nat} (hc : Cur w0 w p) :
    Calls Try.prog 110 #[.pointer (some ⟨p, 0, none⟩)] w fun e w' => ∃ a c l, e = .returned (.slice a l.length c) ∧ (Rep.slice 76 RMeasurement).own w' [.slice a l.length c] l (Btw w.heap.size w'.heap.size) ∧ l.length ≤ 24 ∧ Cur w0 w' p ∧ Touch (fun k => k = p) w w' := by
  go_enter Try.func110, Try.ntmps110
  obtain ⟨hp0, hp1⟩ := hc.lt
  go_upto_region 2 with fail
  generalize hw_ : World.alloc w _ = w1
  have E_w1 : Below w.heap.size w w1 := by rw [← hw_]; exact (Below.refl _ _).alloc (Nat.le_refl _) _
  have z_w1 : w.heap.size + 1 ≤ w1.heap.size := by rw [← hw_]; simp
  clear hw_
  replace hc := hc.below E_w1
  have TE : Touch (fun k => k = p) w w1 := Touch.of_below E_w1
  clear E_w1
  go_wp2_with fail
  refine (specl1Below_c (n := 14) hc (by decide)).mono ?_
  rintro e w2 ⟨m, hm0, hm1, hm2, rfl, hcN, htN⟩
  have z_w2 := htN.size
  replace TE := TE.trans htN
  clear hc htN
  have hc := hcN
  clear hcN
  replace hm1 := hm1 (by decide)
  clear hm2
  obtain ⟨m, rfl⟩ := Int.eq_ofNat_of_zero_le hm0
  go_wp2
  go_loopw [3, 4] (fun v i wr => ∃ (j : Nat) (a : Option Addr) (n c : Nat) (l : List LMeasurement), v = .slice a n c ∧ i = .int .i64 j ∧ l.length ≤ 24 ∧ Hid (n = l.length) ∧ j < 14 ∧ Hid ((Rep.slice 76 RMeasurement).own wr [.slice a n c] l (Btw w.heap.size wr.heap.size)) ∧ w2.heap.size ≤ wr.heap.size ∧ Cur w0 wr p ∧ Touch (fun k => k = p) w wr) (fun _ i _ => (intOf i).toNat)
  case atStart => exact ⟨m, _, 0, 0, [], rfl, rfl, by simp, Lib.hid rfl, by omega, Lib.hid Rep.void_own, Nat.le_refl _, hc, TE⟩
  case round =>
    clear hc TE
    obtain ⟨j, a, n, c, l, rfl, rfl, hl, HN, hj, HO, hzr, hc, TE⟩ := hrel
    have hzw := TE.size
    cases j with
    | zero =>
      go_wp2
      go_ret
      have hn := HN.out
      subst hn
      exact ⟨_, _, l, rfl, HO.out, hl, hc, TE⟩
    | succ j =>
      have hjI : (0 : Int) < (j : Int) + 1 := by omega
      go_upto_region 5 with fail
      go_wp2_with fail
      refine (specl15Name_c hc).mono ?_
      rintro e w4 ⟨na, nc, nm, rfl, hr, hnl, hcN, htN⟩
      have z_w4 := htN.size
      replace HO := Lib.hid (HO.out.touch htN (fun k hk => by have := hk.1; have := hk.2; omega))
      replace TE := TE.trans htN
      clear hc htN
      have hc := hcN
      clear hcN
      have HR := Lib.hid (hr)
      clear hr
      go_upto_region 6 with fail
      generalize hw_ : World.alloc w4 _ = w5
      have E_w5 : Below w4.heap.size w4 w5 := by rw [← hw_]; exact (Below.refl _ _).alloc (Nat.le_refl _) _
      have B : w5.heap[w4.heap.size]? = some (.cells #[.slice na nm.length nc] 27 (0, 0)) := by rw [← hw_]; exact heap_new_at rfl
      have z_w5 : w4.heap.size + 1 ≤ w5.heap.size := by rw [← hw_]; simp
      clear hw_
      replace HO := Lib.hid (HO.out.below E_w5)
      replace HR := Lib.hid (HR.out.below E_w5)
      replace hc := hc.below E_w5
      replace TE := TE.trans (Touch.of_below E_w5)
      clear E_w5
      refine wp_region_soft (fun W => Touch (fun k => k = p) w5 W ∧ Cur w0 W p) [true, true, true, false, true, false, true] (by kernel_rfl) (by kernel_rfl) (fun c a d v w h => by cases d <;> exact h) (⟨Touch.of_below (Below.refl _ _).drew, hc.below (Below.refl _ _).drew⟩) ?_
      intro wS HS
      refine soft_read (v := ?_) rfl (fun W hW => ?_) ?_; rotate_left; (· go_simp; try with_reducible rfl)
      try simp only [Act.put, List.setIfInBounds_toArray, List.set_cons_zero, List.set_cons_succ]
      refine soft_read (v := ?_) rfl (fun W hW => ?_) ?_; rotate_left; (· have A_0 := boxCell (hW.1.keepBox B (by omega)) (j := 0) (v := .slice na nm.length nc) rfl; clear hW; go_simp; try with_reducible rfl)
      try simp only [Act.put, List.setIfInBounds_toArray, List.set_cons_zero, List.set_cons_succ]
      refine soft_read (v := ?_) rfl (fun W hW => ?_) ?_; rotate_left; (· go_simp; try with_reducible rfl)
      try simp only [Act.put, List.setIfInBounds_toArray, List.set_cons_zero, List.set_cons_succ]
      refine soft_do rfl (fun K hK => ?_); go_simp; refine (specl1Below_c (n := 3) HS.2 (by decide)).mono ?_; rintro e wS1 ⟨x, hx0, hx1, hx2, rfl, hcS, htS⟩; replace hx1 := hx1 (by decide); clear hx2; replace HS := And.intro (HS.1.trans htS) hcS; clear hcS htS; have hw : IntKind.i64.wrap (1 + x) = 1 + x := IntWalk.i64_in _ (by omega); refine hK _ _ HS ?_; clear hK K
      try simp only [Act.put, List.setIfInBounds_toArray, List.set_cons_zero, List.set_cons_succ]
      refine soft_read (v := ?_) rfl (fun W hW => ?_) ?_; rotate_left; (· go_simp; try with_reducible rfl)
      try simp only [Act.put, List.setIfInBounds_toArray, List.set_cons_zero, List.set_cons_succ]
      refine soft_do rfl (fun K hK => ?_); go_simp; have hzA := HS.1.size; refine (specRecordFailure_c ((HO.out.touch HS.1 (fun k hk => by have := hk.1; have := hk.2; omega)).rd) (cn := [.slice na nm.length nc]) (HR.out.touch HS.1 (fun k hk => by have := hk.1; have := hk.2; omega)).rd (by omega)).mono ?_; rintro e wS2 ⟨v2, rfl, hO2, hbS⟩; have hzS := hbS.size; obtain ⟨a2, c2, hv2, _⟩ := Rep.len_raw hO2.raw; obtain rfl : v2 = _ := (by simpa using hv2); replace HS := And.intro (HS.1.trans (Touch.of_below hbS)) (HS.2.below hbS); refine hK _ _ HS ?_; clear hK K
      try simp only [Act.put, List.setIfInBounds_toArray, List.set_cons_zero, List.set_cons_succ]
      refine soft_read (v := ?_) rfl (fun W hW => ?_) ?_; rotate_left; (· go_simp; try with_reducible rfl)
      try simp only [Act.put, List.setIfInBounds_toArray, List.set_cons_zero, List.set_cons_succ]
      refine soft_nil ?_
      have hzS2 := HS.1.size
      have hl2 := recF_len (n := nm) (f := 1 + x) hl
      generalize recF nm (1 + x) l = l2 at *
      have HO2 := Lib.hid (hO2.wide (T := Btw w.heap.size wS2.heap.size) (fun k hk => ⟨by have := hk.1; omega, hk.2⟩))
      have TE2 := TE.trans HS.1
      have hc2 := HS.2
      have B2 := HS.1.keepBox B (by omega)
      have HR2 := Lib.hid (HR.out.touch HS.1 (fun k hk => by have := hk.1; have := hk.2; omega))
      clear hO2 HO TE hc B HR hbS HS hw hv2
      go_wp2_with fail
      refine (specl1Once_c (n := 4) hc2 (by decide)).mono ?_
      rintro e w8 ⟨b, rfl, hc8, ht8⟩
      have hz8 := ht8.size
      have HO8 := Lib.hid (HO2.out.touch ht8 (fun k hk => by have := hk.1; have := hk.2; omega))
      have HR8 := Lib.hid (HR2.out.touch ht8 (fun k hk => by have := hk.1; have := hk.2; omega))
      have B8 := ht8.keepBox B2 (by omega)
      have TE8 := TE2.trans ht8
      clear HO2 HR2 B2 TE2 hc2 ht8
      cases b
      · go_wp2
        go_roundw
        case rel => exact ⟨j, a2, l2.length, c2, l2, rfl, by go_num, hl2, Lib.hid rfl, by omega, Lib.hid (HO8.out.wide (fun k hk => ⟨hk.1, by have := hk.2; omega⟩)), by omega, hc8, TE8⟩
        case measure => simp [intOf]
      · rename Cur w0 w8 p => hc
        have HO := HO8
        have HR := HR8
        have B := B8
        have TE := TE8
        clear HO8 HR8 B8 TE8
        have hz9 := hz8
        go_upto_region 8 with fail
        refine wp_region_soft (fun W => Touch (fun k => k = p) w8 W ∧ Cur w0 W p) [true, true, true, false, true, false, true] (by kernel_rfl) (by kernel_rfl) (fun c a d v w h => by cases d <;> exact h) (⟨Touch.of_below (Below.refl _ _).drew, hc.below (Below.refl _ _).drew⟩) ?_
        intro wS HS
        refine soft_read (v := ?_) rfl (fun W hW => ?_) ?_; rotate_left; (· go_simp; try with_reducible rfl)
        try simp only [Act.put, List.setIfInBounds_toArray, List.set_cons_zero, List.set_cons_succ]
        refine soft_read (v := ?_) rfl (fun W hW => ?_) ?_; rotate_left; (· have A_0 := boxCell (hW.1.keepBox B (by omega)) (j := 0) (v := .slice na nm.length nc) rfl; clear hW; go_simp; try with_reducible rfl)
        try simp only [Act.put, List.setIfInBounds_toArray, List.set_cons_zero, List.set_cons_succ]
        refine soft_read (v := ?_) rfl (fun W hW => ?_) ?_; rotate_left; (· go_simp; try with_reducible rfl)
        try simp only [Act.put, List.setIfInBounds_toArray, List.set_cons_zero, List.set_cons_succ]
        refine soft_do rfl (fun K hK => ?_); go_simp; refine (specl1Below_c (n := 3) HS.2 (by decide)).mono ?_; rintro e wS1 ⟨y, hy0, hy1, hy2, rfl, hcS, htS⟩; replace hy1 := hy1 (by decide); clear hy2; replace HS := And.intro (HS.1.trans htS) hcS; clear hcS htS; have hw : IntKind.i64.wrap (1 + y) = 1 + y := IntWalk.i64_in _ (by omega); refine hK _ _ HS ?_; clear hK K
        try simp only [Act.put, List.setIfInBounds_toArray, List.set_cons_zero, List.set_cons_succ]
        refine soft_read (v := ?_) rfl (fun W hW => ?_) ?_; rotate_left; (· go_simp; try with_reducible rfl)
        try simp only [Act.put, List.setIfInBounds_toArray, List.set_cons_zero, List.set_cons_succ]
        refine soft_do rfl (fun K hK => ?_); go_simp; have hzB := HS.1.size; refine (specRecordSuccess_c ((HO.out.touch HS.1 (fun k hk => by have := hk.1; have := hk.2; omega)).rd) (cn := [.slice na nm.length nc]) (HR.out.touch HS.1 (fun k hk => by have := hk.1; have := hk.2; omega)).rd (by omega)).mono ?_; rintro e wS3 ⟨v3, rfl, hO3, hbS⟩; have hzT := hbS.size; obtain ⟨a3, c3, hv3, _⟩ := Rep.len_raw hO3.raw; obtain rfl : v3 = _ := (by simpa using hv3); replace HS := And.intro (HS.1.trans (Touch.of_below hbS)) (HS.2.below hbS); refine hK _ _ HS ?_; clear hK K
        try simp only [Act.put, List.setIfInBounds_toArray, List.set_cons_zero, List.set_cons_succ]
        refine soft_read (v := ?_) rfl (fun W hW => ?_) ?_; rotate_left; (· go_simp; try with_reducible rfl)
        try simp only [Act.put, List.setIfInBounds_toArray, List.set_cons_zero, List.set_cons_succ]
        refine soft_nil ?_
        have hzS3 := HS.1.size
        have hl3 := recS_len (n := nm) (f := 1 + y) hl2
        generalize recS nm (1 + y) l2 = l3 at *
        have HO3 := Lib.hid (hO3.wide (T := Btw w.heap.size wS3.heap.size) (fun k hk => ⟨by have := hk.1; omega, hk.2⟩))
        have TE3 := TE.trans HS.1
        have hc3 := HS.2
        clear hO3 HO TE hc B HR hbS HS hw hv3
        go_wp2
        go_roundw
        case rel => exact ⟨j, a3, l3.length, c3, l3, rfl, by go_num, hl3, Lib.hid rfl, by omega, HO3, by omega, hc3, TE3⟩
        case measure => simp [intOf]
set_option maxRecDepth 100000 in
set_option maxHeartbeats 2000000 in
theorem specl15Any_c {w0 w : World} {p : Nat} (hc : Cur w0 w p) :
    Calls Try.prog 58 #[.pointer (some ⟨p, 0, none⟩)] w fun e w' => ∃ a c l, e = .returned (.slice a l.length c) ∧ (Rep.slice 76 RMeasurement).own w' [.slice a l.length c] l (Btw w.heap.size w'.heap.size) ∧ l.length ≤ 48 ∧ Cur w0 w' p ∧ Touch (fun k => k = p) w w' := by
  go_enter Try.func58, Try.ntmps58
  obtain ⟨hp0, hp1⟩ := hc.lt
  go_wp2_with fail
  refine (specl15Draw_c hc).mono ?_
  rintro e w1 ⟨a, c, l, rfl, hO, hl, hcN, htN⟩
  have z_w1 := htN.size
  have TE := htN
  clear hc htN
  have hc := hcN
  clear hcN
  have HO := Lib.hid (hO)
  clear hO
  go_wp2_with fail
  refine (specl1Below_c (n := 10) hc (by decide)).mono ?_
  rintro e w2 ⟨m, hm0, hm1, hm2, rfl, hcN, htN⟩
  have z_w2 := htN.size
  replace HO := Lib.hid (HO.out.touch htN (fun k hk => by have := hk.1; have := hk.2; omega))
  replace TE := TE.trans htN
  clear hc htN
  have hc := hcN
  clear hcN
  replace hm1 := hm1 (by decide)
  clear hm2
  obtain ⟨m, rfl⟩ := Int.eq_ofNat_of_zero_le hm0
  by_cases hq0 : m = 0
  · subst hq0
    go_wp2_with fail
    refine (specl4Any_c hc).mono ?_
    rintro e w3 ⟨na, nc, nm, rfl, hr, hnl, hcN, htN⟩
    have z_w3 := htN.size
    replace HO := Lib.hid (HO.out.touch htN (fun k hk => by have := hk.1; have := hk.2; omega))
    replace TE := TE.trans htN
    clear hc htN
    have hc := hcN
    clear hcN
    have HR := Lib.hid (hr)
    clear hr
    go_wp2_with fail
    refine (specl1Below_c (n := 8) hc (by decide)).mono ?_
    rintro e w4 ⟨f, hf0, hf1, hf2, rfl, hcN, htN⟩
    have z_w4 := htN.size
    replace HO := Lib.hid (HO.out.touch htN (fun k hk => by have := hk.1; have := hk.2; omega))
    replace HR := Lib.hid (HR.out.touch htN (fun k hk => by have := hk.1; have := hk.2; omega))
    replace TE := TE.trans htN
    clear hc htN
    have hc := hcN
    clear hcN
    replace hf1 := hf1 (by decide)
    clear hf2
    go_wp2_with fail
    refine (specl1Int_c (hc.below ((Below.refl _ _).alloc (Nat.le_refl _) _)) (Rep.lit_int _ [0, 1, 50, 51, -1] (by decide) (by decide)) (by omega) (by decide) (by decide)).mono ?_
    rintro e w5 ⟨y, hyM, hyR, rfl, hcN, htN⟩
    replace htN := (Touch.of_below (S := fun k => k = p) ((Below.refl _ _).alloc (Nat.le_refl _) _)).trans htN
    have z_w5 := htN.size
    replace HO := Lib.hid (HO.out.touch htN (fun k hk => by have := hk.1; have := hk.2; omega))
    replace HR := Lib.hid (HR.out.touch htN (fun k hk => by have := hk.1; have := hk.2; omega))
    replace TE := TE.trans htN
    clear hc htN
    have hc := hcN
    clear hcN
    have hy := Rep.mem_int (lo := -1) (hi := 51) (by decide) hyM
    go_wp2_with (at_builtin; refine Rep.wpList_pushG1 rfl _ _ 24 rfl (r := RMeasurement) (e := 76) Try.underlying24 infMeasurement rfl (by decide) (by decide) HO.out (Below.refl _ _) (Rep.own_flat HR.out (Rep.flat_pair (Rep.flat_int (by omega)) (Rep.flat_int (by omega)))) (by rfl) (by rfl) (fun k h1 h2 => by have := h1.2; have := h2.1; omega) (by omega) ?_)
    intro v9 w9 ho9 ht9
    have hz9 := ht9.size
    have hlq : (l ++ [(nm, f, y)]).length ≤ 25 := by simp; omega
    generalize l ++ [(nm, f, y)] = q at *
    obtain ⟨a9, c9, hv9, _⟩ := Rep.len_raw ho9.raw
    obtain rfl : v9 = _ := by simpa using hv9
    have HO9 := Lib.hid (ho9.wide (T := Btw w.heap.size w9.heap.size) (fun k q => by rcases q with q | q | q; exact ⟨q.1, by have := q.2; omega⟩; exact ⟨by have := q.1; omega, by have := q.2; omega⟩; exact ⟨by have := q.1; omega, q.2⟩))
    have hc9 := hc.touch ht9 (fun q => by have := q.1.1; omega) (fun k q => by have := q.1.1; omega)
    have TE9 := TE.trans_S ht9 (fun k q => q.1.1)
    clear ho9 ht9 hv9
    go_wp2
    go_ret
    exact ⟨_, _, q, rfl, HO9.out, by omega, hc9, TE9⟩

  have hq0I : ¬ (m : Int) = 0 := by omega
  by_cases hq1 : m = 1
  · subst hq1
    go_wp2_with fail
    refine (specl15Copy_c HO.out.rd).mono ?_
    rintro e w3 ⟨vc, rfl, hr, hb⟩
    have z_w3 := hb.size
    replace HO := Lib.hid (HO.out.below hb)
    replace hc := hc.below hb
    replace TE := TE.trans (Touch.of_below hb)
    clear hb
    have HR := Lib.hid (hr)
    clear hr
    obtain ⟨ya, yn, yc, hv, HYN⟩ := HR.out.parts
    obtain rfl := hv
    go_wp2_with (at_builtin; refine Rep.wpList_pushGO rfl _ _ 24 rfl (r := RMeasurement) (e := 76) Try.underlying24 infMeasurement rfl (by decide) (by decide) HO.out HR.out (by rfl) (by rfl) (fun k h1 h2 => by have := h1.2; have := h2.1; omega) (by omega) ?_)
    intro v9 w9 ho9 ht9
    have hz9 := ht9.size
    have hlq : (l ++ l).length ≤ 48 := by simp; omega
    generalize l ++ l = q at *
    obtain ⟨a9, c9, hv9, _⟩ := Rep.len_raw ho9.raw
    obtain rfl : v9 = _ := by simpa using hv9
    have HO9 := Lib.hid (ho9.wide (T := Btw w.heap.size w9.heap.size) (fun k q => by rcases q with q | q | q; exact ⟨q.1, by have := q.2; omega⟩; exact ⟨by have := q.1; omega, by have := q.2; omega⟩; exact ⟨by have := q.1; omega, q.2⟩))
    have hc9 := hc.touch ht9 (fun q => by have := q.1; omega) (fun k q => by have := q.1; omega)
    have TE9 := TE.trans_S ht9 (fun k q => q.1)
    clear ho9 ht9 hv9
    go_wp2
    go_ret
    exact ⟨_, _, q, rfl, HO9.out, by omega, hc9, TE9⟩

  have hq1I : ¬ (m : Int) = 1 := by omega
  go_wp2
  go_ret
  exact ⟨_, _, l, rfl, HO.out.wide (fun k q => ⟨q.1, by have := q.2; omega⟩), by omega, hc, TE⟩
/-- A list of measurements, a name and a number, drawn. -/
def Trio15 (w : World) (e : Ending) (w' : World) : Prop := ∃ (a : Option Addr) (c : Nat) (l : List LMeasurement) (na : Option Addr) (nc : Nat) (nm : LName) (x : Int), e = .returned (.tuple #[.slice a l.length c, .agg #[.slice na nm.length nc], .int .i64 x]) ∧ (Rep.slice 76 RMeasurement).own w' [.slice a l.length c] l (Btw w.heap.size w'.heap.size) ∧ l.length ≤ 48 ∧ RName.own w' [.slice na nm.length nc] nm (Btw w.heap.size w'.heap.size) ∧ nm.length ≤ 64 ∧ 0 ≤ x ∧ x < 5 ∧ Below w.heap.size w w'
set_option maxRecDepth 100000 in
set_option maxHeartbeats 2000000 in
theorem specl15Trio_c {w : World} {v : Value} {code : List UInt8} (hcode : (Rep.slice 5 Rep.byte).raw w [v] code) :
    Calls Try.prog 50 #[v] w (Trio15 w) := by
  obtain ⟨ca, cc, hcv, _⟩ := Rep.len_raw hcode; obtain rfl : v = _ := by simpa using hcv
  clear hcv
  go_enter Try.func50, Try.ntmps50
  go_upto_region 1 with fail
  generalize hw_ : World.alloc w _ = w1
  have E_w1 : Below w.heap.size w w1 := by rw [← hw_]; exact (Below.refl _ _).alloc (Nat.le_refl _) _
  have R : w1.heap[w.heap.size]? = some (.cells #[.slice none 0 0] 27 (0, 0)) := by rw [← hw_]; exact heap_new_at rfl
  have z_w1 : w.heap.size + 1 ≤ w1.heap.size := by rw [← hw_]; simp
  clear hw_
  have EE := E_w1
  clear E_w1
  go_wp2_with fail
  refine (specl1New_c (hcode.below EE)).mono ?_
  rintro e w2 ⟨p, rfl, hc, hbN⟩
  have z_w2 := hbN.size
  obtain ⟨hp0, hp1⟩ := hc.lt
  replace R := keepBox R hbN
  have TE : Touch (fun k => k = p) w w2 := Touch.of_below (EE.trans (hbN.mono EE.size))
  clear hbN EE
  go_wp2_with fail
  refine (specl15Any_c hc).mono ?_
  rintro e w3 ⟨a, c, l, rfl, hO, hl, hcN, htN⟩
  have z_w3 := htN.size
  replace R := htN.keepBox R (by omega)
  replace TE := TE.trans htN
  clear hc htN
  have hc := hcN
  clear hcN
  have HO := Lib.hid (hO)
  clear hO
  go_wp2_with fail
  refine (specl15Name_c hc).mono ?_
  rintro e w4 ⟨na, nc, nm, rfl, hr, hnl, hcN, htN⟩
  have z_w4 := htN.size
  replace R := htN.keepBox R (by omega)
  replace HO := Lib.hid (HO.out.touch htN (fun k hk => by have := hk.1; have := hk.2; omega))
  replace TE := TE.trans htN
  clear hc htN
  have hc := hcN
  clear hcN
  have HR := Lib.hid (hr)
  clear hr
  go_upto_region 4 with fail
  generalize hw_ : World.alloc w4 _ = w5
  have E_w5 : Below w4.heap.size w4 w5 := by rw [← hw_]; exact (Below.refl _ _).alloc (Nat.le_refl _) _
  have B : w5.heap[w4.heap.size]? = some (.cells #[.slice na nm.length nc] 27 (0, 0)) := by rw [← hw_]; exact heap_new_at rfl
  have z_w5 : w4.heap.size + 1 ≤ w5.heap.size := by rw [← hw_]; simp
  clear hw_
  replace R := keepBox R E_w5
  replace HO := Lib.hid (HO.out.below E_w5)
  replace HR := Lib.hid (HR.out.below E_w5)
  replace hc := hc.below E_w5
  replace TE := TE.trans (Touch.of_below E_w5)
  clear E_w5
  refine wp_region_soft2 (fun W => Touch (fun k => k = p) w5 W ∧ Cur w1 W p) (fun _ => True) [] [(0, true), (1, true), (2, true), (3, false), (4, true)] [(5, false), (6, true)] (by kernel_rfl) (by kernel_rfl) (fun c a d v w h => by cases d <;> exact h) (⟨Touch.of_below (Below.refl _ _).drew, hc.below (Below.refl _ _).drew⟩) ?_
  intro wS HS
  simp only [pickOps, pickNat, List.getElem?_cons_succ, List.getElem?_cons_zero, List.map_cons, List.map_nil]
  refine pre_nil ?_
  refine soft2_read (v := ?_) rfl (fun W hW => ?_) ?_; rotate_left; (· go_simp; try with_reducible rfl)
  try simp only [Act.put, List.setIfInBounds_toArray, List.set_cons_zero, List.set_cons_succ]
  refine soft2_read (v := ?_) rfl (fun W hW => ?_) ?_; rotate_left; (· have A_0 := boxCell (hW.1.keepBox B (by omega)) (j := 0) (v := .slice na nm.length nc) rfl; clear hW; go_simp; try with_reducible rfl)
  try simp only [Act.put, List.setIfInBounds_toArray, List.set_cons_zero, List.set_cons_succ]
  refine soft2_read (v := ?_) rfl (fun W hW => ?_) ?_; rotate_left; (· go_simp; try with_reducible rfl)
  try simp only [Act.put, List.setIfInBounds_toArray, List.set_cons_zero, List.set_cons_succ]
  refine soft2_do rfl (fun K hK => ?_); go_simp; refine (specl1Below_c (n := 5) HS.2 (by decide)).mono ?_; rintro e wS1 ⟨x, hx0, hx1, hx2, rfl, hcS, htS⟩; replace hx1 := hx1 (by decide); clear hx2; replace HS := And.intro (HS.1.trans htS) hcS; clear hcS htS; refine hK _ _ HS ?_; clear hK K
  try simp only [Act.put, List.setIfInBounds_toArray, List.set_cons_zero, List.set_cons_succ]
  refine soft2_read (v := ?_) rfl (fun W hW => ?_) ?_; rotate_left; (· go_simp; try with_reducible rfl)
  try simp only [Act.put, List.setIfInBounds_toArray, List.set_cons_zero, List.set_cons_succ]
  have hzS := HS.1.size
  have RS := HS.1.keepBox R (by omega)
  have TES := TE.trans HS.1
  have HOS := Lib.hid (HO.out.touch HS.1 (fun k hk => by have := hk.1; have := hk.2; omega))
  have HRS := Lib.hid (HR.out.touch HS.1 (fun k hk => by have := hk.1; have := hk.2; omega))
  have KR : wS1.cell? ⟨w.heap.size, 0, none⟩ = some (.slice none 0 0) := boxCell RS rfl
  have FR : wS1.frozen? ⟨w.heap.size, 0, none⟩ = false := frozen_of_row wS1 w.heap.size 0 _ _ RS
  refine soft2_switch trivial ?_
  refine soft_do rfl (fun K hK => ?_); go_simp; refine hK _ _ trivial ?_; clear hK K
  try simp only [Act.put, List.setIfInBounds_toArray, List.set_cons_zero, List.set_cons_succ]
  refine soft_read (v := ?_) rfl (fun W hW => ?_) ?_; rotate_left; (· go_simp; try with_reducible rfl)
  try simp only [Act.put, List.setIfInBounds_toArray, List.set_cons_zero, List.set_cons_succ]
  refine soft_nil ?_
  go_wp2
  refine bodyPost_ret (v := .tuple #[.slice a l.length c, .agg #[.slice na nm.length nc], .int .i64 x]) (by simp [results, Try.results50, go_sem, KR, FR]) rfl ⟨a, c, l, na, nc, nm, x, rfl, ?_, hl, ?_, hnl, hx0, hx1, ?_⟩
  · exact (HOS.out.touch (setCell_touch wS1 w.heap.size 0 _) (fun k hk => by have := hk.1; omega)).wide (fun j hj => ⟨by have := hj.1; omega, by have := hj.2; simp [World.setCell]; omega⟩)
  · exact (HRS.out.touch (setCell_touch wS1 w.heap.size 0 _) (fun k hk => by have := hk.1; omega)).wide (fun j hj => ⟨by have := hj.1; omega, by have := hj.2; simp [World.setCell]; omega⟩)
  · exact (TES.below (Nat.le_refl _) (fun k hk => by omega)).setCell (by simp) _
set_option maxRecDepth 100000 in
set_option maxHeartbeats 2000000 in
theorem specDrawRecordFailure_c {w : World} {v : Value} {code : List UInt8} (hcode : (Rep.slice 5 Rep.byte).raw w [v] code) :
    Calls Try.prog 6 #[v] w (Trio15 w) := by
  obtain ⟨ca, cc, hcv, _⟩ := Rep.len_raw hcode; obtain rfl : v = _ := by simpa using hcv
  clear hcv
  go_enter Try.func6, Try.ntmps6
  go_upto_region 1 with fail
  generalize hw_ : World.alloc w _ = w1
  have E_w1 : Below w.heap.size w w1 := by rw [← hw_]; exact (Below.refl _ _).alloc (Nat.le_refl _) _
  have R : w1.heap[w.heap.size]? = some (.cells #[.slice none 0 0] 27 (0, 0)) := by rw [← hw_]; exact heap_new_at rfl
  have z_w1 : w.heap.size + 1 ≤ w1.heap.size := by rw [← hw_]; simp
  clear hw_
  have EE := E_w1
  clear E_w1
  go_wp2_with fail
  refine (specl15Trio_c (hcode.below EE)).mono ?_
  rintro e w2 ⟨a, c, l, na, nc, nm, x, rfl, hO, hl, hr, hnl, hx0, hx1, hb⟩
  have z_w2 := hb.size
  replace R := keepBox R hb
  replace EE := EE.trans (hb.mono EE.size)
  clear hb
  have HO := Lib.hid (hO)
  have HR := Lib.hid (hr)
  clear hO hr
  have KR_0 : w2.cell? ⟨w.heap.size, 0, none⟩ = some (.slice none 0 0) := boxCell R rfl
  have FR_0 : w2.frozen? ⟨w.heap.size, 0, none⟩ = false := frozen_of_row w2 (w.heap.size) 0 _ _ R
  go_wp2
  refine bodyPost_ret (v := .tuple #[.slice a l.length c, .agg #[.slice na nm.length nc], .int .i64 x]) (by simp [results, Try.results6, go_sem, KR_0, FR_0]) rfl ⟨a, c, l, na, nc, nm, x, rfl, ?_, hl, ?_, hnl, hx0, hx1, ?_⟩
  · exact (HO.out.touch (setCell_touch w2 w.heap.size 0 _) (fun k hk => by have := hk.1; omega)).wide (fun j hj => ⟨by have := hj.1; omega, by have := hj.2; simp [World.setCell]; omega⟩)
  · exact (HR.out.touch (setCell_touch w2 w.heap.size 0 _) (fun k hk => by have := hk.1; omega)).wide (fun j hj => ⟨by have := hj.1; omega, by have := hj.2; simp [World.setCell]; omega⟩)
  · exact EE.setCell (by simp) _
set_option maxRecDepth 100000 in
set_option maxHeartbeats 2000000 in
theorem specDrawRecordSuccess_c {w : World} {v : Value} {code : List UInt8} (hcode : (Rep.slice 5 Rep.byte).raw w [v] code) :
    Calls Try.prog 8 #[v] w (Trio15 w) := by
  obtain ⟨ca, cc, hcv, _⟩ := Rep.len_raw hcode; obtain rfl : v = _ := by simpa using hcv
  clear hcv
  go_enter Try.func8, Try.ntmps8
  go_upto_region 1 with fail
  generalize hw_ : World.alloc w _ = w1
  have E_w1 : Below w.heap.size w w1 := by rw [← hw_]; exact (Below.refl _ _).alloc (Nat.le_refl _) _
  have R : w1.heap[w.heap.size]? = some (.cells #[.slice none 0 0] 27 (0, 0)) := by rw [← hw_]; exact heap_new_at rfl
  have z_w1 : w.heap.size + 1 ≤ w1.heap.size := by rw [← hw_]; simp
  clear hw_
  have EE := E_w1
  clear E_w1
  go_wp2_with fail
  refine (specl15Trio_c (hcode.below EE)).mono ?_
  rintro e w2 ⟨a, c, l, na, nc, nm, x, rfl, hO, hl, hr, hnl, hx0, hx1, hb⟩
  have z_w2 := hb.size
  replace R := keepBox R hb
  replace EE := EE.trans (hb.mono EE.size)
  clear hb
  have HO := Lib.hid (hO)
  have HR := Lib.hid (hr)
  clear hO hr
  have KR_0 : w2.cell? ⟨w.heap.size, 0, none⟩ = some (.slice none 0 0) := boxCell R rfl
  have FR_0 : w2.frozen? ⟨w.heap.size, 0, none⟩ = false := frozen_of_row w2 (w.heap.size) 0 _ _ R
  go_wp2
  refine bodyPost_ret (v := .tuple #[.slice a l.length c, .agg #[.slice na nm.length nc], .int .i64 x]) (by simp [results, Try.results8, go_sem, KR_0, FR_0]) rfl ⟨a, c, l, na, nc, nm, x, rfl, ?_, hl, ?_, hnl, hx0, hx1, ?_⟩
  · exact (HO.out.touch (setCell_touch w2 w.heap.size 0 _) (fun k hk => by have := hk.1; omega)).wide (fun j hj => ⟨by have := hj.1; omega, by have := hj.2; simp [World.setCell]; omega⟩)
  · exact (HR.out.touch (setCell_touch w2 w.heap.size 0 _) (fun k hk => by have := hk.1; omega)).wide (fun j hj => ⟨by have := hj.1; omega, by have := hj.2; simp [World.setCell]; omega⟩)
  · exact EE.setCell (by simp) _
def Rank15 (w : World) (e : Ending) (w' : World) : Prop := ∃ (a : Option Addr) (c : Nat) (l : List LMeasurement) (na : Option Addr) (nc : Nat) (nm : LName) (sa : Option Addr) (sc : Nat) (fs : List Int), e = .returned (.tuple #[.slice a l.length c, .agg #[.slice na nm.length nc], .slice sa fs.length sc]) ∧ (Rep.slice 76 RMeasurement).own w' [.slice a l.length c] l (Btw w.heap.size w'.heap.size) ∧ l.length ≤ 48 ∧ RName.own w' [.slice na nm.length nc] nm (Btw w.heap.size w'.heap.size) ∧ nm.length ≤ 64 ∧ (Rep.slice 3 Rep.int).own w' [.slice sa fs.length sc] fs (Btw w.heap.size w'.heap.size) ∧ fs.length ≤ 5 ∧ Below w.heap.size w w'
set_option maxRecDepth 100000 in
set_option maxHeartbeats 2000000 in
theorem specDrawRankFaces_c {w : World} {v : Value} {code : List UInt8} (hcode : (Rep.slice 5 Rep.byte).raw w [v] code) :
    Calls Try.prog 10 #[v] w (Rank15 w) := by
  obtain ⟨ca, cc, hcv, _⟩ := Rep.len_raw hcode; obtain rfl : v = _ := by simpa using hcv
  clear hcv
  go_enter Try.func10, Try.ntmps10
  go_upto_region 1 with fail
  generalize hw_ : World.alloc w _ = w1
  have E_w1 : Below w.heap.size w w1 := by rw [← hw_]; exact (Below.refl _ _).alloc (Nat.le_refl _) _
  have R : w1.heap[w.heap.size]? = some (.cells #[.slice none 0 0] 27 (0, 0)) := by rw [← hw_]; exact heap_new_at rfl
  have z_w1 : w.heap.size + 1 ≤ w1.heap.size := by rw [← hw_]; simp
  clear hw_
  have EE := E_w1
  clear E_w1
  go_wp2_with fail
  refine (specl1New_c (hcode.below EE)).mono ?_
  rintro e w2 ⟨p, rfl, hc, hbN⟩
  have z_w2 := hbN.size
  obtain ⟨hp0, hp1⟩ := hc.lt
  replace R := keepBox R hbN
  have TE : Touch (fun k => k = p) w w2 := Touch.of_below (EE.trans (hbN.mono EE.size))
  clear hbN EE
  go_wp2_with fail
  refine (specl15Any_c hc).mono ?_
  rintro e w3 ⟨a, c, l, rfl, hO, hl, hcN, htN⟩
  have z_w3 := htN.size
  replace R := htN.keepBox R (by omega)
  replace TE := TE.trans htN
  clear hc htN
  have hc := hcN
  clear hcN
  have HO := Lib.hid (hO)
  clear hO
  go_wp2_with fail
  refine (specl15Name_c hc).mono ?_
  rintro e w4 ⟨na, nc, nm, rfl, hr, hnl, hcN, htN⟩
  have z_w4 := htN.size
  replace R := htN.keepBox R (by omega)
  replace HO := Lib.hid (HO.out.touch htN (fun k hk => by have := hk.1; have := hk.2; omega))
  replace TE := TE.trans htN
  clear hc htN
  have hc := hcN
  clear hcN
  have HR := Lib.hid (hr)
  clear hr
  go_upto_region 4 with fail
  generalize hw_ : World.alloc w4 _ = w5
  have E_w5 : Below w4.heap.size w4 w5 := by rw [← hw_]; exact (Below.refl _ _).alloc (Nat.le_refl _) _
  have B : w5.heap[w4.heap.size]? = some (.cells #[.slice na nm.length nc] 27 (0, 0)) := by rw [← hw_]; exact heap_new_at rfl
  have z_w5 : w4.heap.size + 1 ≤ w5.heap.size := by rw [← hw_]; simp
  clear hw_
  replace R := keepBox R E_w5
  replace HO := Lib.hid (HO.out.below E_w5)
  replace HR := Lib.hid (HR.out.below E_w5)
  replace hc := hc.below E_w5
  replace TE := TE.trans (Touch.of_below E_w5)
  clear E_w5
  go_upto_region 5 with fail
  generalize hw_ : World.alloc w5 _ = w6
  have E_w6 : Below w5.heap.size w5 w6 := by rw [← hw_]; exact (Below.refl _ _).alloc (Nat.le_refl _) _
  have z_w6 : w5.heap.size + 1 ≤ w6.heap.size := by rw [← hw_]; simp
  clear hw_
  replace R := keepBox R E_w6
  replace B := keepBox B E_w6
  replace HO := Lib.hid (HO.out.below E_w6)
  replace HR := Lib.hid (HR.out.below E_w6)
  replace hc := hc.below E_w6
  replace TE := TE.trans (Touch.of_below E_w6)
  clear E_w6
  go_wp2_with fail
  refine (specl1Below_c (n := 5) hc (by decide)).mono ?_
  rintro e w7 ⟨m, hm0, hm1, hm2, rfl, hcN, htN⟩
  have z_w7 := htN.size
  replace R := htN.keepBox R (by omega)
  replace B := htN.keepBox B (by omega)
  replace HO := Lib.hid (HO.out.touch htN (fun k hk => by have := hk.1; have := hk.2; omega))
  replace HR := Lib.hid (HR.out.touch htN (fun k hk => by have := hk.1; have := hk.2; omega))
  replace TE := TE.trans htN
  clear hc htN
  have hc := hcN
  clear hcN
  replace hm1 := hm1 (by decide)
  clear hm2
  obtain ⟨m, rfl⟩ := Int.eq_ofNat_of_zero_le hm0
  go_wp2
  go_loopw [8, 9] (fun v i wr => ∃ (j : Nat) (sa : Option Addr) (sn sc : Nat) (fs : List Int), v = .slice sa sn sc ∧ i = .int .i64 j ∧ fs.length + j ≤ 5 ∧ Hid (sn = fs.length) ∧ Hid ((Rep.slice 3 Rep.int).own wr [.slice sa sn sc] fs (Btw w5.heap.size wr.heap.size)) ∧ Hid ((Rep.slice 76 RMeasurement).own wr [.slice a l.length c] l (Btw w2.heap.size w3.heap.size)) ∧ Hid (RName.own wr [.slice na nm.length nc] nm (Btw w3.heap.size w4.heap.size)) ∧ wr.heap[w.heap.size]? = some (.cells #[.slice none 0 0] 27 (0, 0)) ∧ wr.heap[w4.heap.size]? = some (.cells #[.slice na nm.length nc] 27 (0, 0)) ∧ w7.heap.size ≤ wr.heap.size ∧ Cur w1 wr p ∧ Touch (fun k => k = p) w wr) (fun _ i _ => (intOf i).toNat)
  case atStart => exact ⟨m, _, 0, 0, [], rfl, rfl, by simp; omega, Lib.hid rfl, Lib.hid Rep.void_own, HO, HR, R, B, Nat.le_refl _, hc, TE⟩
  case round =>
    clear hc TE R B HO HR
    obtain ⟨j, sa, sn, sc, fs, rfl, rfl, hj, HN, HS_, HO, HR, R, B, hzr, hc, TE⟩ := hrel
    cases j with
    | zero =>
      have hn := HN.out
      subst hn
      go_upto_region 9 with fail
      refine wp_region_soft2 (fun W => Touch (fun k => k = p) wr W ∧ Cur w1 W p) (fun _ => True) [2] [(0, true), (1, true), (3, true)] [(4, false), (5, true)] (by kernel_rfl) (by kernel_rfl) (fun c a d v w h => by cases d <;> exact h) (⟨Touch.of_below (Below.refl _ _).drew, hc.below (Below.refl _ _).drew⟩) ?_
      intro wS HS
      simp only [pickOps, pickNat, List.getElem?_cons_succ, List.getElem?_cons_zero, List.map_cons, List.map_nil]
      refine pre_read (v := ?_) rfl (fun W => ?_) ?_; rotate_left; (· go_simp; try with_reducible rfl)
      try simp only [Act.put, List.setIfInBounds_toArray, List.set_cons_zero, List.set_cons_succ]
      refine pre_nil ?_
      refine soft2_read (v := ?_) rfl (fun W hW => ?_) ?_; rotate_left; (· go_simp; try with_reducible rfl)
      try simp only [Act.put, List.setIfInBounds_toArray, List.set_cons_zero, List.set_cons_succ]
      refine soft2_read (v := ?_) rfl (fun W hW => ?_) ?_; rotate_left; (· have A_0 := boxCell (hW.1.keepBox B (by omega)) (j := 0) (v := .slice na nm.length nc) rfl; clear hW; go_simp; try with_reducible rfl)
      try simp only [Act.put, List.setIfInBounds_toArray, List.set_cons_zero, List.set_cons_succ]
      refine soft2_read (v := ?_) rfl (fun W hW => ?_) ?_; rotate_left; (· go_simp; try with_reducible rfl)
      try simp only [Act.put, List.setIfInBounds_toArray, List.set_cons_zero, List.set_cons_succ]
      have hzS := HS.1.size
      have RS := HS.1.keepBox R (by omega)
      have TES := TE.trans HS.1
      have HOS := Lib.hid (HO.out.touch HS.1 (fun k hk => by have := hk.1; have := hk.2; omega))
      have HRS := Lib.hid (HR.out.touch HS.1 (fun k hk => by have := hk.1; have := hk.2; omega))
      have HS_S := Lib.hid (HS_.out.touch HS.1 (fun k hk => by have := hk.1; have := hk.2; omega))
      have KR : wS.cell? ⟨w.heap.size, 0, none⟩ = some (.slice none 0 0) := boxCell RS rfl
      have FR : wS.frozen? ⟨w.heap.size, 0, none⟩ = false := frozen_of_row wS w.heap.size 0 _ _ RS
      refine soft2_switch trivial ?_
      refine soft_do rfl (fun K hK => ?_); go_simp; refine hK _ _ trivial ?_; clear hK K
      try simp only [Act.put, List.setIfInBounds_toArray, List.set_cons_zero, List.set_cons_succ]
      refine soft_read (v := ?_) rfl (fun W hW => ?_) ?_; rotate_left; (· go_simp; try with_reducible rfl)
      try simp only [Act.put, List.setIfInBounds_toArray, List.set_cons_zero, List.set_cons_succ]
      refine soft_nil ?_
      go_wp2
      refine bodyPost_ret (v := .tuple #[.slice a l.length c, .agg #[.slice na nm.length nc], .slice sa fs.length sc]) (by simp [results, Try.results10, go_sem, KR, FR]) rfl ⟨a, c, l, na, nc, nm, sa, sc, fs, rfl, ?_, hl, ?_, hnl, ?_, by omega, ?_⟩
      · exact (HOS.out.touch (setCell_touch wS w.heap.size 0 _) (fun k hk => by have := hk.1; omega)).wide (fun j hj => ⟨by have := hj.1; omega, by have := hj.2; simp [World.setCell]; omega⟩)
      · exact (HRS.out.touch (setCell_touch wS w.heap.size 0 _) (fun k hk => by have := hk.1; omega)).wide (fun j hj => ⟨by have := hj.1; omega, by have := hj.2; simp [World.setCell]; omega⟩)
      · exact (HS_S.out.touch (setCell_touch wS w.heap.size 0 _) (fun k hk => by have := hk.1; omega)).wide (fun j hj => ⟨by have := hj.1; omega, by have := hj.2; simp [World.setCell]; omega⟩)
      · exact (TES.below (Nat.le_refl _) (fun k hk => by omega)).setCell (by simp) _

    | succ j =>
      have hjI : (0 : Int) < (j : Int) + 1 := by omega
      go_wp2_with fail
      refine (specl1Below_c (n := 4) hc (by decide)).mono ?_
      rintro e w9 ⟨x, hx0, hx1, hx2, rfl, hcN, htN⟩
      have z_w9 := htN.size
      replace R := htN.keepBox R (by omega)
      replace B := htN.keepBox B (by omega)
      replace HO := Lib.hid (HO.out.touch htN (fun k hk => by have := hk.1; have := hk.2; omega))
      replace HR := Lib.hid (HR.out.touch htN (fun k hk => by have := hk.1; have := hk.2; omega))
      replace HS_ := Lib.hid (HS_.out.touch htN (fun k hk => by have := hk.1; have := hk.2; omega))
      replace TE := TE.trans htN
      clear hc htN
      have hc := hcN
      clear hcN
      replace hx1 := hx1 (by decide)
      clear hx2
      have hw : IntKind.i64.wrap (1 + x) = 1 + x := IntWalk.i64_in _ (by omega)
      go_wp2_with (at_builtin; refine Rep.wpList_pushG1 rfl _ _ 31 rfl (r := Rep.int) (e := 3) Try.underlying31 infInt rfl (by decide) (by decide) HS_.out (Below.refl _ _) (Rep.flat.own (S := fun _ => False) (Rep.flat_int (n := 1 + x) (by omega))) (by rfl) (by rfl) (fun _ _ h => h.elim) (by omega) ?_)
      intro v9 w9 ho9 ht9
      have hz9 := ht9.size
      have hlq : (fs ++ [1 + x]).length = fs.length + 1 := by simp
      generalize fs ++ [1 + x] = q at *
      obtain ⟨a9, c9, hv9, _⟩ := Rep.len_raw ho9.raw
      obtain rfl : v9 = _ := by simpa using hv9
      have HS9 := Lib.hid (ho9.wide (T := Btw w5.heap.size w9.heap.size) (fun k q => q.elim (fun q => ⟨q.1, by have := q.2; omega⟩) (fun q => ⟨by have := q.1; omega, q.2⟩)))
      have hc9 := hc.touch ht9 (fun q => by have := q.1.1; omega) (fun k q => by have := q.1.1; omega)
      have TE9 := TE.trans_S ht9 (fun k q => by have := q.1.1; omega)
      have HO9 := Lib.hid (HO.out.touch ht9 (fun k q r => by have := q.2; have := r.1.1; omega))
      have HR9 := Lib.hid (HR.out.touch ht9 (fun k q r => by have := q.2; have := r.1.1; omega))
      have R9 := ht9.keepBox R (fun q => by have := q.1.1; omega)
      have B9 := ht9.keepBox B (fun q => by have := q.1.1; omega)
      have HLQ := Lib.hid hlq
      clear ho9 ht9 hv9 hlq hw HO HR HS_ R B hc TE
      go_wp2
      go_roundw
      case rel => exact ⟨j, a9, q.length, c9, q, rfl, by go_num, by have := HLQ.out; omega, Lib.hid rfl, HS9, HO9, HR9, R9, B9, by omega, hc9, TE9⟩
      case measure => simp [intOf]
def Two15 (w : World) (e : Ending) (w' : World) : Prop := ∃ (a : Option Addr) (c : Nat) (l : List LMeasurement) (a2 : Option Addr) (c2 : Nat) (l2 : List LMeasurement), e = .returned (.tuple #[.slice a l.length c, .slice a2 l2.length c2]) ∧ (Rep.slice 76 RMeasurement).own w' [.slice a l.length c] l (Btw w.heap.size w'.heap.size) ∧ l.length ≤ 48 ∧ (Rep.slice 76 RMeasurement).own w' [.slice a2 l2.length c2] l2 (Btw w.heap.size w'.heap.size) ∧ l2.length ≤ 48 ∧ Below w.heap.size w w'
set_option maxRecDepth 100000 in
set_option maxHeartbeats 2000000 in
theorem specDrawEqualMeasurements_c {w : World} {v : Value} {code : List UInt8} (hcode : (Rep.slice 5 Rep.byte).raw w [v] code) :
    Calls Try.prog 12 #[v] w (Two15 w) := by
  obtain ⟨ca, cc, hcv, _⟩ := Rep.len_raw hcode; obtain rfl : v = _ := by simpa using hcv
  clear hcv
  go_enter Try.func12, Try.ntmps12
  go_wp2_with fail
  refine (specl1New_c hcode).mono ?_
  rintro e w1 ⟨p, rfl, hc, hbN⟩
  have z_w1 := hbN.size
  obtain ⟨hp0, hp1⟩ := hc.lt
  have TE : Touch (fun k => k = p) w w1 := Touch.of_below (hbN)
  clear hbN
  go_wp2_with fail
  refine (specl15Any_c hc).mono ?_
  rintro e w2 ⟨a, c, l, rfl, hO, hl, hcN, htN⟩
  have z_w2 := htN.size
  replace TE := TE.trans htN
  clear hc htN
  have hc := hcN
  clear hcN
  have HO := Lib.hid (hO)
  clear hO
  go_wp2_with fail
  refine (specl1Once_c (n := 2) hc (by decide)).mono ?_
  rintro e w3 ⟨b, rfl, hcN, htN⟩
  have z_w3 := htN.size
  replace HO := Lib.hid (HO.out.touch htN (fun k hk => by have := hk.1; have := hk.2; omega))
  replace TE := TE.trans htN
  clear hc htN
  have hc := hcN
  clear hcN
  cases b
  · go_wp2_with fail
    refine (specl15Any_c hc).mono ?_
    rintro e w4 ⟨a2, c2, l2, rfl, hr, hl2, hcN, htN⟩
    have z_w4 := htN.size
    replace HO := Lib.hid (HO.out.touch htN (fun k hk => by have := hk.1; have := hk.2; omega))
    replace TE := TE.trans htN
    clear hc htN
    have hc := hcN
    clear hcN
    have HR := Lib.hid (hr)
    clear hr
    go_wp2
    go_ret2
    exact ⟨a, c, l, a2, c2, l2, rfl, HO.out.wide (fun j hj => ⟨by have := hj.1; omega, by have := hj.2; omega⟩), hl, HR.out.wide (fun j hj => ⟨by have := hj.1; omega, by have := hj.2; omega⟩), hl2, TE.below (Nat.le_refl _) (fun k hk => by omega)⟩

  · go_wp2_with fail
    refine (specl15Copy_c HO.out.rd).mono ?_
    rintro e w4 ⟨vc, rfl, hr, hb⟩
    have z_w4 := hb.size
    replace HO := Lib.hid (HO.out.below hb)
    replace hc := hc.below hb
    replace TE := TE.trans (Touch.of_below hb)
    clear hb
    have HR := Lib.hid (hr)
    clear hr
    obtain ⟨ya, yn, yc, hv, HYN⟩ := HR.out.parts
    obtain rfl := hv
    have hyn := HYN.out
    subst hyn
    go_wp2
    go_ret2
    exact ⟨a, c, l, ya, yc, l, rfl, HO.out.wide (fun j hj => ⟨by have := hj.1; omega, by have := hj.2; omega⟩), hl, (HR.out.own (by unfold Big; omega)).wide (fun j hj => ⟨by have := hj.1; omega, by have := hj.2; omega⟩), hl, TE.below (Nat.le_refl _) (fun k hk => by omega)⟩
end Go.Proofs.Ytikjbdfkdkijkaa

/-
  Names as the reference draws them.
-/
import Derived.Test.YtikjbdfkdkijkaaDrawN
import Derived.Test.YtikjbdfkdkijkaaDrawB
import Derived.Test.YtikjbdfkdkijkaaCut
import Derived.Test.YtikjbdfkdkijkaaSoft4
import Derived.IntWalk
import Derived.WalkSpells
import Derived.WalkLawsBesides
import Derived.Deep.Cut
namespace Go.Proofs.Ytikjbdfkdkijkaa
open Go.RowKit
set_option linter.unusedVariables false
set_option linter.unusedSimpArgs false
set_option linter.unnecessarySimpa false
set_option maxRecDepth 100000 in
set_option maxHeartbeats 1000000 in
theorem specl4Copy_0 {w : World} {ca : List Value} {x : LName} (ha : RName.rd w ca x) : Calls Try.prog 72 #[.agg ca.toArray] w fun e w' => ∃ a n c, e = .returned (.agg #[.slice a n c]) ∧ Rep.own0 9 Rep.str w' (.slice a n c) x (Btw w.heap.size w'.heap.size) ∧ Below w.heap.size w w' := by
  have HA := Lib.hid ha
  obtain ⟨av, rfl, a_0⟩ := RName_raw ha.1
  obtain ⟨aa, capa, hva, la⟩ := Rep.len_raw a_0; obtain rfl : av = _ := by simpa using hva
  have hb : x.length ≤ 16777216 := ha.2.1
  clear hva ha
  go_enter Try.func72, Try.ntmps72
  have O0 : Rep.own0 9 Rep.str (((w.alloc (.cells #[.slice aa x.length capa] 27)).alloc (.cells #[.slice none 0 0] 27)).alloc (.cells #[] 9)) (.slice (some ⟨w.heap.size + 1 + 1, 0, none⟩) 0 0) [] (fun k => k = w.heap.size + 1 + 1) := by
    have h := Rep.own0_lit (e := 9) (r := Rep.str) (w := (w.alloc (.cells #[.slice aa x.length capa] 27)).alloc (.cells #[.slice none 0 0] 27)) (cs := []) (xs := []) (T := fun _ => False) (S := fun k => k = w.heap.size + 1 + 1) (by simp) (by simp) rfl (fun _ h => h.elim) (by simp)
    simpa using h
  go_wp2_with (at_builtin; refine Rep.wpList_pushN rfl _ _ 25 rfl (r := Rep.str) (e := 9) Try.underlying25 infString rfl (by decide) (by decide) Rep.isFlat_str (B := w.heap.size + 1 + 1) O0 (by rfl) (by rfl) (HA.out.below (by repeat (first | (with_reducible exact Below.refl _ _) | refine Below.alloc ?_ (by simp; try omega) _ | refine Below.drew ?_ | refine Below.setCell ?_ (by simp; try omega) _))) (fun k hk => ⟨by omega, by simp; omega⟩) (by simp) (by simp; omega) ?_)
  intro v2 w2 hown hbel hz
  obtain ⟨a2, c2, hv⟩ := hown.none_iff
  obtain rfl := hv
  replace hown := hown.cast (List.nil_append _)
  have HO := Lib.hid hown
  have EG : Below w.heap.size w w2 := Below.trans (by repeat (first | (with_reducible exact Below.refl _ _) | refine Below.alloc ?_ (by simp; try omega) _ | refine Below.drew ?_ | refine Below.setCell ?_ (by simp; try omega) _)) (hbel.mono (by first | omega | (simp; try omega)))
  clear hown O0
  have R0 : w2.cell? ⟨w.heap.size + 1, 0, none⟩ = some (.slice none 0 0) := (hbel.cell (p := ⟨w.heap.size + 1, 0, none⟩) (by simp)).trans (by simp [go_sem])
  have F0 : w2.frozen? ⟨w.heap.size + 1, 0, none⟩ = false := (hbel.frozen (p := ⟨w.heap.size + 1, 0, none⟩) (by simp)).trans (by simp [go_sem])
  clear hbel
  go_wp2
  refine bodyPost_ret (v := .agg #[.slice a2 x.length c2]) (by simp [results, Try.results72, go_sem, R0, F0]) rfl ⟨_, _, _, rfl, ?_, ?_⟩
  · exact (HO.out.setCell (by intro q; have := q.1; first | omega | (simp at this; omega) | (simp at this))).wide (fun j hj => ⟨by have := hj.1; omega, by simpa [World.setCell] using hj.2⟩)
  · exact EG.setCell (by simp) _
set_option maxRecDepth 100000 in
set_option maxHeartbeats 2000000 in
theorem specAppendPart_c {w : World} {cn : List Value} {n : LName} (hn : RName.rd w cn n) (hnl : n.length ≤ 1000) {s : ByteArray} (hs : s.size ≤ Big) :
    Calls Try.prog 122 #[.agg cn.toArray, .string s] w fun e w' => ∃ a m c b, e = .returned (.tuple #[.agg #[.slice a m c], .bool b]) ∧ b = vName (n ++ [s]) ∧ Rep.own0 9 Rep.str w' (.slice a m c) (if b then n ++ [s] else n) (Btw w.heap.size w'.heap.size) ∧ Below w.heap.size w w' := by
  have HN := Lib.hid hn
  obtain ⟨av, rfl, a_0⟩ := RName_raw hn.1
  obtain ⟨aa, capa, hva, la⟩ := Rep.len_raw a_0; obtain rfl : av = _ := by simpa using hva
  clear hva hn a_0
  have HS := Lib.hid hs
  clear hs
  go_enter Try.func122, Try.ntmps122
  go_upto_region 1 with fail
  generalize hwB : World.alloc (World.alloc w _) _ = wB
  have EB : Below w.heap.size w wB := by rw [← hwB]; exact (by repeat (first | (with_reducible exact Below.refl _ _) | refine Below.alloc ?_ (by simp; try omega) _ | refine Below.drew ?_ | refine Below.setCell ?_ (by simp; try omega) _))
  have hzB : w.heap.size + 2 ≤ wB.heap.size := by rw [← hwB]; simp
  have B0 : wB.heap[w.heap.size]? = some (.cells #[.slice aa n.length capa] 27 (0, 0)) := by rw [← hwB]; exact heap_keep (heap_new_at rfl)
  have B1 : wB.heap[w.heap.size + 1]? = some (.cells #[.slice none 0 0] 27 (0, 0)) := by rw [← hwB]; exact heap_new_at (by simp)
  have K0 := cell_later (Rep.below_alloc wB (.cells #[] 9)) (boxCell B0 (j := 0) rfl)
  clear hwB
  have O0 : Rep.own0 9 Rep.str (wB.alloc (.cells #[] 9)) (.slice (some ⟨wB.heap.size, 0, none⟩) 0 0) [] (fun k => k = wB.heap.size) := Rep.own0.void
  go_wp2_with (at_builtin; refine Rep.wpList_pushN rfl _ _ 25 rfl (r := Rep.str) (e := 9) Try.underlying25 infString rfl (by decide) (by decide) Rep.isFlat_str (B := wB.heap.size) O0 (by rfl) (by rfl) ((HN.out.below EB).below ((Below.refl _ _).alloc (Nat.le_refl _) _)) (fun k hk => ⟨by omega, by simp; omega⟩) (by simp) (by simp; omega) ?_)
  intro v2 w2 hown hbel hz
  have HO := Lib.hid (hown.cast (List.nil_append _))
  obtain ⟨a2, n2, c2, hv, HN2⟩ := HO.out.parts; obtain rfl := hv
  have E2B : Below wB.heap.size wB w2 := Below.trans ((Below.refl _ _).alloc (Nat.le_refl _) _) hbel
  have E2 : Below w.heap.size w w2 := EB.trans (E2B.mono (by omega))
  have hz2 := E2B.size
  clear hown O0 hbel
  go_wp2_with (at_builtin; refine Rep.wpList_pushB rfl _ _ 25 rfl (r := Rep.str) (e := 9) Try.underlying25 infString rfl (by decide) (by decide) (B := wB.heap.size) HO.out (by rfl) (by rfl) rfl (Rep.flat.own (S := fun _ => False) (Rep.flat_str HS.out)) rfl (fun _ _ h => h) (fun j hj => ⟨hj.1, by have := hj.2; omega⟩) (fun _ h => h.elim) (by omega) (by first | omega | (simp; omega)) ?_)
  intro v3 w3 ho3 hb3 hz3
  have HO3 := Lib.hid ho3
  obtain ⟨a3, n3, c3, hv, HN3⟩ := HO3.out.parts; obtain rfl := hv
  have E3 := E2.trans (hb3.mono (by omega))
  have E3B := E2B.trans hb3
  clear ho3 hb3
  go_upto_region 2 with fail
  generalize hwC : World.alloc w3 _ = wC
  have EC : Below w3.heap.size w3 wC := by rw [← hwC]; exact (Below.refl _ _).alloc (Nat.le_refl _) _
  have B6 : wC.heap[w3.heap.size]? = some (.cells #[.slice a3 n3 c3] 27 (0, 0)) := by rw [← hwC]; exact heap_new_at rfl
  have K6 := boxCell B6 (j := 0) rfl
  clear hwC
  have hz3 := E3B.size
  have hzC := EC.size
  have ECB := E3B.trans (EC.mono hz3)
  have E4 := E3.trans (EC.mono E3.size)
  replace B0 := keepBox B0 ECB
  replace B1 := keepBox B1 ECB
  clear K0
  have K0 := boxCell B0 (j := 0) rfl
  have HOC := Lib.hid (HO3.out.below EC)
  clear HO HO3
  go_wp2_with fail
  refine (specValidName_c (n := n ++ [s]) HOC.out.raw0).mono ?_
  rintro e w4 ⟨rfl, hb4⟩
  have hz4 := hb4.size
  have HO4 := Lib.hid (HOC.out.below hb4)
  have E5 := E4.trans (hb4.mono E4.size)
  replace K0 := cell_later hb4 K0
  replace K6 := cell_later hb4 K6
  replace B1 := keepBox B1 hb4
  have K1 := boxCell B1 (j := 0) rfl
  have F1 := frozen_of_row w4 (w.heap.size + 1) 0 _ _ B1
  clear HOC B0 B6 hb4
  generalize hv : vName (n ++ [s]) = b
  cases b
  · go_wp2_with fail
    refine (specl4Copy_0 (HN.out.below E5)).mono ?_
    rintro e w5 ⟨a5, n5, c5, rfl, O5, hb5⟩
    have hz5 := hb5.size
    have HO5 := Lib.hid O5
    have E6 := E5.trans (hb5.mono E5.size)
    have R1 := cell_later hb5 K1
    have F2 := frozen_of_row w5 (w.heap.size + 1) 0 _ _ (keepBox B1 hb5)
    clear O5 hb5 K1 F1
    go_wp2
    refine bodyPost_ret (v := .tuple #[.agg #[.slice a5 n5 c5], .bool false]) (by simp [results, Try.results122, go_sem, R1, F2]) rfl ⟨_, _, _, _, rfl, hv.symm, ?_, ?_⟩
    · exact (HO5.out.setCell (fun q => by have := q.1; simp at this; omega)).wide (fun j hj => ⟨by have := hj.1; omega, by simpa [World.setCell] using hj.2⟩)
    · exact E6.setCell (by simp) _
  · go_wp2
    refine bodyPost_ret (v := .tuple #[.agg #[.slice a3 n3 c3], .bool true]) (by simp [results, Try.results122, go_sem, K1, F1]) rfl ⟨_, _, _, _, rfl, hv.symm, ?_, ?_⟩
    · exact (HO4.out.setCell (fun q => by have := q.1; simp at this; omega)).wide (fun j hj => ⟨by have := hj.1; omega, by have := hj.2; simp [World.setCell]; omega⟩)
    · exact E5.setCell (by simp) _
def ParsedName (w : World) (e : Ending) (w' : World) : Prop := ∃ a c b ps, e = .returned (.tuple #[.agg #[.slice a ps.length c], .bool b]) ∧ RName.own w' [.slice a ps.length c] ps (Btw w.heap.size w'.heap.size) ∧ ps.length ≤ 64 ∧ Below w.heap.size w w'
set_option maxRecDepth 100000 in
set_option maxHeartbeats 2000000 in
theorem specParseName_c {w : World} {s : ByteArray} (hs : s.size ≤ 64) :
    Calls Try.prog 136 #[.string s] w (ParsedName w) := by
  go_enter Try.func136, Try.ntmps136
  cases hq : (s.toList == [47])
  case true =>
    go_wp2
    refine bodyPost_ret (v := .tuple #[.agg #[.slice none 0 0], .bool true]) (by simp [results, Try.results136, go_sem]) rfl ⟨none, 0, true, [], rfl, Rep.void_own, by simp, ?_⟩
    exact (by repeat (first | (with_reducible exact Below.refl _ _) | refine Below.alloc ?_ (by simp; try omega) _ | refine Below.drew ?_ | refine Below.setCell ?_ (by simp; try omega) _))
  case false =>
    go_wp2_with fail
    refine (specl4Split_c (by0 := 47) hs (by decide)).mono ?_
    rintro e w2 ⟨v, rfl, ps, O2, hp0, hp1, hb2⟩
    obtain ⟨b2, c2, rfl, hS2, hlt2, hc2, hc3⟩ := Rep.own0_addr O2 hp0
    have hz2 := hb2.size
    have HO := Lib.hid O2
    clear O2
    have hp0I : (0 : Int) < ps.length := by omega
    have h1I : (1 : Int) ≤ ps.length := by omega
    have hcI : (ps.length : Int) ≤ c2 := by omega
    have hcb : c2 ≤ 9223372036854775807 := hc3
    go_upto_region 5 with fail
    have HD : Hid (1 < ps.length → (Rep.slice 9 Rep.str).own w2 [.slice (if c2 = 1 then some ⟨b2, 0, none⟩ else some ⟨b2, 1, none⟩) (ps.length - 1) (c2 - 1)] (ps.drop 1) (Btw (w.heap.size + 1) w2.heap.size)) := Lib.hid (by
      intro h1
      have h := (HO.out.own (by unfold Big; omega)).wide (T := Btw (w.heap.size + 1) w2.heap.size) (fun j hj => ⟨by have := hj.1; simp at this; omega, hj.2⟩)
      have hc1 : ¬ c2 = 1 := by omega
      rw [if_neg hc1]
      exact Rep.drop_own h (k := 1) (by omega))
    generalize (if c2 = 1 then some ⟨b2, 0, none⟩ else some ⟨b2, 1, none⟩ : Option Addr) = A at *
    obtain ⟨cb, co, he, c0, cr, AC0⟩ := Rep.get1 (HO.out.raw0) (i := 0) hp0 rfl
    simp only [Option.some.injEq, Addr.mk.injEq, and_true] at he
    obtain ⟨rfl, rfl⟩ := he
    have cr2 : [c0] = [.string ps[0]] := (Rep.str_raw cr).1
    obtain rfl : c0 = .string ps[0] := by simpa using cr2
    clear cr cr2
    generalize ps[0] = y0 at *
    have HPL := Lib.hid (show (ps.drop 1).length = ps.length - 1 by simp)
    generalize ps.drop 1 = qs at *
    have HM := Lib.hid hp1
    generalize hwC : World.alloc w2 _ = wC
    have EC : Below w2.heap.size w2 wC := by rw [← hwC]; exact (Below.refl _ _).alloc (Nat.le_refl _) _
    have B2 : w2.heap[w.heap.size]? = some (.cells #[.slice none 0 0] 27 (0, 0)) := keepBox (heap_new_at rfl) hb2
    have B5 : wC.heap[w2.heap.size]? = some (.cells #[.slice A (ps.length - 1) (c2 - 1)] 27 (0, 0)) := by rw [← hwC]; exact heap_new_at rfl
    clear hwC
    have hzC := EC.size
    have hz0 : w.heap.size + 1 ≤ w2.heap.size := by simpa using hz2
    have E2 : Below w.heap.size w wC := Below.trans ((Below.refl _ _).alloc (Nat.le_refl _) _) ((hb2.trans (EC.mono hz2)).mono (by simp))
    replace B2 := keepBox B2 EC
    replace HD := Lib.hid (fun q => (HD.out q).below EC)
    have AC := cell_later EC AC0
    have K5 := boxCell B5 (j := 0) rfl
    clear AC0 hb2 hS2 HO hz2
    by_cases h2 : (ps.length : Int) < 2
    · have K2 := boxCell B2 (j := 0) rfl
      have F2 := frozen_of_row wC w.heap.size 0 _ _ B2
      clear AC
      go_wp2
      refine bodyPost_ret (v := .tuple #[.agg #[.slice none 0 0], .bool false]) (by simp [results, Try.results136, go_sem, K2, F2]) rfl ⟨none, 0, false, [], rfl, Rep.void_own, by simp, ?_⟩
      exact E2.setCell (by simp) _
    · cases hy : y0.toList.isEmpty
      case false =>
        have K2 := boxCell B2 (j := 0) rfl
        have F2 := frozen_of_row wC w.heap.size 0 _ _ B2
        go_wp2
        refine bodyPost_ret (v := .tuple #[.agg #[.slice none 0 0], .bool false]) (by simp [results, Try.results136, go_sem, K2, F2]) rfl ⟨none, 0, false, [], rfl, Rep.void_own, by simp, ?_⟩
        exact E2.setCell (by simp) _
      case true =>
        replace HD := Lib.hid (HD.out (by omega))
        go_wp2_with fail
        refine (specValidName_c (n := qs) HD.out.rd.1).mono ?_
        rintro e w3 ⟨rfl, hb3⟩
        have hz3 := hb3.size
        replace HD := Lib.hid (HD.out.below hb3)
        have E3 := E2.trans (hb3.mono E2.size)
        replace K5 := cell_later hb3 K5
        replace B2 := keepBox B2 hb3
        have K2 := boxCell B2 (j := 0) rfl
        have F2 := frozen_of_row w3 w.heap.size 0 _ _ B2
        clear AC
        generalize hv : vName qs = b
        cases b
        · go_wp2
          refine bodyPost_ret (v := .tuple #[.agg #[.slice none 0 0], .bool false]) (by simp [results, Try.results136, go_sem, K2, F2]) rfl ⟨none, 0, false, [], rfl, Rep.void_own, by simp, ?_⟩
          exact E3.setCell (by simp) _
        · go_wp2
          refine bodyPost_ret (v := .tuple #[.agg #[.slice A (ps.length - 1) (c2 - 1)], .bool true]) (by simp [results, Try.results136, go_sem, K2, F2]) rfl ⟨A, c2 - 1, true, qs, by rw [HPL.out], ?_, by rw [HPL.out]; omega, E3.setCell (by simp) _⟩
          rw [HPL.out]
          exact ((HD.out.touch (setCell_touch w3 w.heap.size 0 _) (fun k hk => by have := hk.1; omega)).wide (fun j hj => ⟨by have := hj.1; omega, by have := hj.2; simp [World.setCell]; omega⟩))
set_option maxRecDepth 100000 in
set_option maxHeartbeats 2000000 in
theorem specl4Of_c {w : World} {s : ByteArray} (hs : s.size ≤ 64) :
    Calls Try.prog 113 #[.string s] w fun e w' => ∃ a c ps, e = .returned (.agg #[.slice a ps.length c]) ∧ RName.own w' [.slice a ps.length c] ps (Btw w.heap.size w'.heap.size) ∧ ps.length ≤ 64 ∧ Below w.heap.size w w' := by
  go_enter Try.func113, Try.ntmps113
  go_upto_region 1 with fail
  generalize hw_ : World.alloc w _ = w1
  have E_w1 : Below w.heap.size w w1 := by rw [← hw_]; exact (Below.refl _ _).alloc (Nat.le_refl _) _
  have R : w1.heap[w.heap.size]? = some (.cells #[.slice none 0 0] 27 (0, 0)) := by rw [← hw_]; exact heap_new_at rfl
  have z_w1 : w.heap.size + 1 ≤ w1.heap.size := by rw [← hw_]; simp
  clear hw_
  have EE := E_w1
  clear E_w1
  go_wp2_with fail
  refine (specParseName_c hs).mono ?_
  rintro e w2 ⟨a, c, b, ps, rfl, hr, hl, hb⟩
  have z_w2 := hb.size
  replace R := keepBox R hb
  replace EE := EE.trans (hb.mono EE.size)
  clear hb
  have HR := Lib.hid (hr.wide (T := Btw (w.heap.size + 1) w2.heap.size) (fun j hj => ⟨by have := hj.1; omega, hj.2⟩))
  clear hr
  go_upto_region 2 with fail
  generalize hw_ : World.alloc w2 _ = w3
  have E_w3 : Below w2.heap.size w2 w3 := by rw [← hw_]; exact (Below.refl _ _).alloc (Nat.le_refl _) _
  have B : w3.heap[w2.heap.size]? = some (.cells #[.slice a ps.length c] 27 (0, 0)) := by rw [← hw_]; exact heap_new_at rfl
  have z_w3 : w2.heap.size + 1 ≤ w3.heap.size := by rw [← hw_]; simp
  clear hw_
  replace R := keepBox R E_w3
  replace HR := Lib.hid (HR.out.below E_w3)
  replace EE := EE.trans (E_w3.mono EE.size)
  clear E_w3
  have KR_0 : w3.cell? ⟨w.heap.size, 0, none⟩ = some (.slice none 0 0) := boxCell R rfl
  have KB_0 : w3.cell? ⟨w2.heap.size, 0, none⟩ = some (.slice a ps.length c) := boxCell B rfl
  have FR_0 : w3.frozen? ⟨w.heap.size, 0, none⟩ = false := frozen_of_row w3 (w.heap.size) 0 _ _ R
  go_wp2
  refine bodyPost_ret (v := .agg #[.slice a ps.length c]) (by simp [results, Try.results113, go_sem, KR_0, FR_0]) rfl ⟨_, _, ps, rfl, ?_, hl, EE.setCell (by simp) _⟩
  exact (HR.out.touch (setCell_touch w3 w.heap.size 0 _) (fun k hk => by have := hk.1; omega)).wide (fun j hj => ⟨by have := hj.1; omega, by have := hj.2; simp [World.setCell]; omega⟩)
set_option maxRecDepth 100000 in
set_option maxHeartbeats 2000000 in
theorem specl4Name_c {w0 w : World} {p : Nat} (hc : Cur w0 w p) :
    Calls Try.prog 135 #[.pointer (some ⟨p, 0, none⟩)] w fun e w' => ∃ a n c ps, e = .returned (.agg #[.slice a n c]) ∧ Rep.own0 9 Rep.str w' (.slice a n c) ps (Btw w.heap.size w'.heap.size) ∧ ps.length ≤ 3 ∧ Cur w0 w' p ∧ Touch (fun k => k = p) w w' := by
  go_enter Try.func135, Try.ntmps135
  obtain ⟨hp0, hp1⟩ := hc.lt
  go_upto_region 1 with fail
  generalize hw_ : World.alloc w _ = w1
  have E_w1 : Below w.heap.size w w1 := by rw [← hw_]; exact (Below.refl _ _).alloc (Nat.le_refl _) _
  have R : w1.heap[w.heap.size]? = some (.cells #[.slice none 0 0] 27 (0, 0)) := by rw [← hw_]; exact heap_new_at rfl
  have z_w1 : w.heap.size + 1 ≤ w1.heap.size := by rw [← hw_]; simp
  clear hw_
  replace hc := hc.below E_w1
  have TE : Touch (fun k => k = p) w w1 := Touch.of_below E_w1
  clear E_w1
  go_upto_region 2 with fail
  generalize hw_ : World.alloc w1 _ = w2
  have E_w2 : Below w1.heap.size w1 w2 := by rw [← hw_]; exact (Below.refl _ _).alloc (Nat.le_refl _) _
  have B : w2.heap[w1.heap.size]? = some (.cells #[.slice none 0 0] 27 (0, 0)) := by rw [← hw_]; exact heap_new_at rfl
  have z_w2 : w1.heap.size + 1 ≤ w2.heap.size := by rw [← hw_]; simp
  clear hw_
  replace R := keepBox R E_w2
  replace hc := hc.below E_w2
  replace TE := TE.trans (Touch.of_below E_w2)
  clear E_w2
  go_wp2_with fail
  refine (specl1Below_c (n := 4) hc (by decide)).mono ?_
  rintro e w3 ⟨m, hm0, hm1, hm2, rfl, hcN, htN⟩
  have z_w3 := htN.size
  replace R := htN.keepBox R (by omega)
  replace B := htN.keepBox B (by omega)
  replace TE := TE.trans htN
  clear hc htN
  have hc := hcN
  clear hcN
  replace hm1 := hm1 (by decide)
  clear hm2
  obtain ⟨m, rfl⟩ := Int.eq_ofNat_of_zero_le hm0
  go_wp2
  go_loopw [4] (fun i wr => ∃ (j : Nat) (a : Option Addr) (n c : Nat) (ps : List ByteArray), i = .int .i64 j ∧ ps.length + j ≤ 3 ∧ Hid (Rep.own0 9 Rep.str wr (.slice a n c) ps (Btw w2.heap.size wr.heap.size)) ∧ wr.heap[w.heap.size]? = some (.cells #[.slice none 0 0] 27 (0, 0)) ∧ wr.heap[w1.heap.size]? = some (.cells #[.slice a n c] 27 (0, 0)) ∧ w2.heap.size ≤ wr.heap.size ∧ Cur w0 wr p ∧ Touch (fun k => k = p) w wr) (fun i _ => (intOf i).toNat)
  case atStart => exact ⟨m, none, 0, 0, [], rfl, by simp; omega, Lib.hid Rep.own0.void, R, B, z_w3, hc, TE⟩
  case round =>
    clear hc TE R B
    obtain ⟨j, a, n, c, ps, rfl, hj, HO, R, B, hzr, hc, TE⟩ := hrel
    cases j with
    | zero =>
      have KR_0 : wr.cell? ⟨w.heap.size, 0, none⟩ = some (.slice none 0 0) := boxCell R rfl
      have KB_0 : wr.cell? ⟨w1.heap.size, 0, none⟩ = some (.slice a n c) := boxCell B rfl
      have FR_0 : wr.frozen? ⟨w.heap.size, 0, none⟩ = false := frozen_of_row wr (w.heap.size) 0 _ _ R
      go_wp2
      refine bodyPost_ret (v := .agg #[.slice a n c]) (by simp [results, Try.results135, go_sem, KR_0, FR_0]) rfl ⟨_, _, _, ps, rfl, ?_, by omega, hc.touch (setCell_touch wr w.heap.size 0 _) (by omega) (fun k hk => by omega), TE.trans_new (setCell_touch wr w.heap.size 0 _) (by omega)⟩
      exact (HO.out.touch (setCell_touch wr w.heap.size 0 _) (fun k hk => by have := hk.1; omega)).wide (fun j hj => ⟨by have := hj.1; omega, by have := hj.2; simp [World.setCell]; omega⟩)

    | succ j =>
      have hjI : (0 : Int) < (j : Int) + 1 := by omega
      go_upto_region 5 with fail
      refine wp_region_soft2 (fun W => Touch (fun k => k = p) wr W ∧ Cur w0 W p) (fun _ => True) [] [(0, true), (1, true), (2, false), (3, false), (4, false)] [(5, true), (6, true), (7, true), (8, false)] (by kernel_rfl) (by kernel_rfl) (fun c a d v w h => by cases d <;> exact h) (⟨Touch.of_below (Below.refl _ _).drew, hc.below (Below.refl _ _).drew⟩) ?_
      intro wS HS
      simp only [pickOps, pickNat, List.getElem?_cons_succ, List.getElem?_cons_zero, List.map_cons, List.map_nil]
      refine pre_nil ?_
      refine soft2_read (v := ?_) rfl (fun W hW => ?_) ?_; rotate_left; (· have A_0 := boxCell (hW.1.keepBox B (by omega)) (j := 0) (v := .slice a n c) rfl; clear hW; go_simp; try with_reducible rfl)
      try simp only [Act.put, List.setIfInBounds_toArray, List.set_cons_zero, List.set_cons_succ]
      refine soft2_read (v := ?_) rfl (fun W hW => ?_) ?_; rotate_left; (· go_simp; try with_reducible rfl)
      try simp only [Act.put, List.setIfInBounds_toArray, List.set_cons_zero, List.set_cons_succ]
      refine soft2_do rfl (fun K hK => ?_); go_simp; refine hK _ _ ⟨HS.1.trans (Touch.of_below ((Below.refl _ _).alloc (Nat.le_refl _) _)), HS.2.below ((Below.refl _ _).alloc (Nat.le_refl _) _)⟩ ?_; clear hK K
      try simp only [Act.put, List.setIfInBounds_toArray, List.set_cons_zero, List.set_cons_succ]
      refine soft2_do rfl (fun K hK => ?_); go_simp; refine (specl1Str_c (HS.2.below ((Below.refl _ _).alloc (Nat.le_refl _) _)) (Rep.lit_str _ [{ data := #[97] }, { data := #[98] }, { data := #[110, 101, 119, 115] }, { data := #[120, 45, 49] }, { data := #[49] }, { data := #[107, 101, 121] }] (by decide) (by decide)) (by have := HS.1.size; omega) (by decide) (by decide)).mono ?_; rintro e wS1 ⟨y, hyM, hyR, rfl, hcS, htS⟩; replace HS := And.intro ((HS.1.trans (Touch.of_below ((Below.refl _ _).alloc (Nat.le_refl _) _))).trans htS) hcS; clear hcS htS; refine hK _ _ HS ?_; clear hK K
      try simp only [Act.put, List.setIfInBounds_toArray, List.set_cons_zero, List.set_cons_succ]
      refine soft2_do rfl (fun K hK => ?_); go_simp; have hzA := HS.1.size; refine (specAppendPart_c ((HO.out.touch HS.1 (fun k hk => by have := hk.1; omega)).own (by unfold Big; omega)).rd (by omega) (by have := Rep.mem_str (by decide) hyM; unfold Big; omega)).mono ?_; rintro e wS2 ⟨a2, n2, c2, b2, rfl, hb2, hO2, hbS⟩; replace HS := And.intro (HS.1.trans (Touch.of_below hbS)) (HS.2.below hbS); refine hK _ _ HS ?_; clear hK K
      try simp only [Act.put, List.setIfInBounds_toArray, List.set_cons_zero, List.set_cons_succ]
      have hz4 := HS.1.size
      have hz5 := hbS.size
      have R4 := HS.1.keepBox R (by omega)
      have B4 := HS.1.keepBox B (by omega)
      have TE4 := TE.trans HS.1
      have hc4 := HS.2
      have hlq : (if b2 then ps ++ [y] else ps).length ≤ ps.length + 1 := by split <;> simp
      generalize (if b2 then ps ++ [y] else ps) = qs at *
      have HO4 := Lib.hid (hO2.wide (T := Btw w2.heap.size wS2.heap.size) (fun k hk => ⟨by have := hk.1; omega, hk.2⟩))
      clear hO2 HO R B TE hc HS hbS
      have K4 : wS2.cell? ⟨w1.heap.size, 0, none⟩ = some (.slice a n c) := boxCell B4 rfl
      have F4 : wS2.frozen? ⟨w1.heap.size, 0, none⟩ = false := frozen_of_row wS2 w1.heap.size 0 _ _ B4
      refine soft2_switch trivial ?_
      refine soft_read (v := ?_) rfl (fun W hW => ?_) ?_; rotate_left; (· go_simp; try with_reducible rfl)
      try simp only [Act.put, List.setIfInBounds_toArray, List.set_cons_zero, List.set_cons_succ]
      refine soft_read (v := ?_) rfl (fun W hW => ?_) ?_; rotate_left; (· go_simp; try with_reducible rfl)
      try simp only [Act.put, List.setIfInBounds_toArray, List.set_cons_zero, List.set_cons_succ]
      refine soft_read (v := ?_) rfl (fun W hW => ?_) ?_; rotate_left; (· go_simp; try with_reducible rfl)
      try simp only [Act.put, List.setIfInBounds_toArray, List.set_cons_zero, List.set_cons_succ]
      refine soft_do rfl (fun K hK => ?_); go_simp; refine hK _ _ trivial ?_; clear hK K
      try simp only [Act.put, List.setIfInBounds_toArray, List.set_cons_zero, List.set_cons_succ]
      refine soft_nil ?_
      generalize hw_ : World.setCell wS2 _ _ = w5
      have T5 : Touch (fun k => k = w1.heap.size) wS2 w5 := by rw [← hw_]; exact setCell_touch _ _ _ _
      have B5 : w5.heap[w1.heap.size]? = some (.cells #[.slice a2 n2 c2] 27 (0, 0)) := by rw [← hw_]; exact setCell_row B4 0
      have hz5 : w5.heap.size = wS2.heap.size := by rw [← hw_]; simp [World.setCell]
      clear hw_ K4 F4
      have HO5 := Lib.hid ((HO4.out.touch T5 (fun k hk => by have := hk.1; omega)).wide (T := Btw w2.heap.size w5.heap.size) (fun k hk => ⟨hk.1, by have := hk.2; omega⟩))
      have H5 := Lib.hid hz5
      clear hz5
      go_wp2
      go_roundw
      case rel => exact ⟨j, a2, n2, c2, qs, by go_num, by omega, HO5, T5.keepBox R4 (by omega), B5, by have := H5.out; omega, hc4.touch T5 (by omega) (fun k hk => by omega), TE4.trans_new T5 (by omega)⟩
      case measure => simp [intOf]
set_option maxRecDepth 100000 in
set_option maxHeartbeats 2000000 in
theorem specl4Any_c {w0 w : World} {p : Nat} (hc : Cur w0 w p) :
    Calls Try.prog 111 #[.pointer (some ⟨p, 0, none⟩)] w fun e w' => ∃ a c ps, e = .returned (.agg #[.slice a ps.length c]) ∧ RName.own w' [.slice a ps.length c] ps (Btw w.heap.size w'.heap.size) ∧ ps.length ≤ 8 ∧ Cur w0 w' p ∧ Touch (fun k => k = p) w w' := by
  go_enter Try.func111, Try.ntmps111
  obtain ⟨hp0, hp1⟩ := hc.lt
  go_upto_region 1 with fail
  generalize hw_ : World.alloc w _ = w1
  have E_w1 : Below w.heap.size w w1 := by rw [← hw_]; exact (Below.refl _ _).alloc (Nat.le_refl _) _
  have R : w1.heap[w.heap.size]? = some (.cells #[.slice none 0 0] 27 (0, 0)) := by rw [← hw_]; exact heap_new_at rfl
  have z_w1 : w.heap.size + 1 ≤ w1.heap.size := by rw [← hw_]; simp
  clear hw_
  replace hc := hc.below E_w1
  have TE : Touch (fun k => k = p) w w1 := Touch.of_below E_w1
  clear E_w1
  go_wp2_with fail
  refine (specl4Name_c hc).mono ?_
  rintro e w2 ⟨a, n, c, ps, rfl, hO, hps, hcN, htN⟩
  have z_w2 := htN.size
  replace R := htN.keepBox R (by omega)
  replace TE := TE.trans htN
  clear hc htN
  have hc := hcN
  clear hcN
  have HO := Lib.hid (hO.wide (T := Btw w1.heap.size w2.heap.size) (fun _ h => h))
  clear hO
  go_upto_region 2 with fail
  generalize hw_ : World.alloc w2 _ = w3
  have E_w3 : Below w2.heap.size w2 w3 := by rw [← hw_]; exact (Below.refl _ _).alloc (Nat.le_refl _) _
  have B : w3.heap[w2.heap.size]? = some (.cells #[.slice a n c] 27 (0, 0)) := by rw [← hw_]; exact heap_new_at rfl
  have z_w3 : w2.heap.size + 1 ≤ w3.heap.size := by rw [← hw_]; simp
  clear hw_
  replace R := keepBox R E_w3
  replace HO := Lib.hid (HO.out.below E_w3)
  replace hc := hc.below E_w3
  replace TE := TE.trans (Touch.of_below E_w3)
  clear E_w3
  go_wp2_with fail
  refine (specl1Below_c (n := 8) hc (by decide)).mono ?_
  rintro e w4 ⟨x, hx0, hx1, hx2, rfl, hcN, htN⟩
  have z_w4 := htN.size
  replace R := htN.keepBox R (by omega)
  replace B := htN.keepBox B (by omega)
  replace HO := Lib.hid (HO.out.touch htN (fun k hk => by have := hk.1; have := hk.2; omega))
  replace TE := TE.trans htN
  clear hc htN
  have hc := hcN
  clear hcN
  replace hx1 := hx1 (by decide)
  clear hx2
  obtain ⟨m, rfl⟩ := Int.eq_ofNat_of_zero_le hx0
  by_cases hm0 : m = 0
  · subst hm0
    go_upto_region 4 with fail
    refine wp_region_soft2 (fun W => Touch (fun k => k = p) w4 W ∧ Cur w0 W p) (fun _ => True) [] [(0, true), (1, true), (2, true), (3, false), (4, false), (5, false)] [(6, false), (7, true), (8, false)] (by kernel_rfl) (by kernel_rfl) (fun c a d v w h => by cases d <;> exact h) (⟨Touch.of_below (Below.refl _ _).drew, hc.below (Below.refl _ _).drew⟩) ?_
    intro wS HS
    simp only [pickOps, pickNat, List.getElem?_cons_succ, List.getElem?_cons_zero, List.map_cons, List.map_nil]
    refine pre_nil ?_
    refine soft2_read (v := ?_) rfl (fun W hW => ?_) ?_; rotate_left; (· go_simp; try with_reducible rfl)
    try simp only [Act.put, List.setIfInBounds_toArray, List.set_cons_zero, List.set_cons_succ]
    refine soft2_read (v := ?_) rfl (fun W hW => ?_) ?_; rotate_left; (· have A_0 := boxCell (hW.1.keepBox B (by omega)) (j := 0) (v := .slice a n c) rfl; clear hW; go_simp; try with_reducible rfl)
    try simp only [Act.put, List.setIfInBounds_toArray, List.set_cons_zero, List.set_cons_succ]
    refine soft2_read (v := ?_) rfl (fun W hW => ?_) ?_; rotate_left; (· go_simp; try with_reducible rfl)
    try simp only [Act.put, List.setIfInBounds_toArray, List.set_cons_zero, List.set_cons_succ]
    refine soft2_do rfl (fun K hK => ?_); go_simp; refine hK _ _ ⟨HS.1.trans (Touch.of_below ((Below.refl _ _).alloc (Nat.le_refl _) _)), HS.2.below ((Below.refl _ _).alloc (Nat.le_refl _) _)⟩ ?_; clear hK K
    try simp only [Act.put, List.setIfInBounds_toArray, List.set_cons_zero, List.set_cons_succ]
    refine soft2_do rfl (fun K hK => ?_); go_simp; refine (specl1Str_c (HS.2.below ((Below.refl _ _).alloc (Nat.le_refl _) _)) (Rep.lit_str _ [{ data := #[] }, { data := #[65] }, { data := #[116, 111, 111, 108, 111, 110, 103, 120, 120] }, { data := #[97, 47, 98] }, { data := #[32] }, { data := #[101, 105, 103, 104, 116, 56, 56, 56] }] (by decide) (by decide)) (by have := HS.1.size; omega) (by decide) (by decide)).mono ?_; rintro e wS1 ⟨y, hyM, hyR, rfl, hcS, htS⟩; replace HS := And.intro ((HS.1.trans (Touch.of_below ((Below.refl _ _).alloc (Nat.le_refl _) _))).trans htS) hcS; clear hcS htS; refine hK _ _ HS ?_; clear hK K
    try simp only [Act.put, List.setIfInBounds_toArray, List.set_cons_zero, List.set_cons_succ]
    refine soft2_do rfl (fun K hK => ?_); go_simp; have HLit := Lib.hid (Rep.lit_one (e := 9) wS1 (Rep.flat_str (s := y) (by have := Rep.mem_str (by decide) hyM; unfold Big; omega))); have HS5 : Touch (fun k => k = p) w4 (World.alloc wS1 (Obj.cells #[Value.string y] 9)) ∧ Cur w0 (World.alloc wS1 (Obj.cells #[Value.string y] 9)) p := ⟨HS.1.trans (Touch.of_below ((Below.refl _ _).alloc (Nat.le_refl _) _)), HS.2.below ((Below.refl _ _).alloc (Nat.le_refl _) _)⟩; generalize hwU : World.alloc wS1 (Obj.cells #[Value.string y] 9) = wU at HLit HS5 ⊢; clear hwU; refine hK _ _ HS5 ?_; clear hK K HS
    try simp only [Act.put, List.setIfInBounds_toArray, List.set_cons_zero, List.set_cons_succ]
    have hz5 := HS5.1.size
    have R5 := HS5.1.keepBox R (by omega)
    have B5 := HS5.1.keepBox B (by omega)
    have TE5 := TE.trans HS5.1
    have hc5 := HS5.2
    replace HO := Lib.hid (HO.out.touch HS5.1 (fun k hk => by have := hk.1; have := hk.2; omega))
    clear R B TE hc
    obtain ⟨v3, u3, hr3, ho3, ht3⟩ := Rep.run_pushF (P := Try.prog) (t := 25) (ty := 25) (r := Rep.str) (e := 9) (v := .slice a n c) (xs := ps) Try.underlying25 infString rfl (by decide) (by decide) Rep.isFlat_str HO.out (HLit.out.own (by simp [Big])).rd (by simp; omega)
    have hz6 := ht3.size
    have B6 := ht3.keepBox B5 (fun q => by have := q.2; omega)
    have R6 := ht3.keepBox R5 (fun q => by have := q.1; omega)
    have TE6 := TE5.trans_S ht3 (fun k hk => by have := hk.1; omega)
    have hc6 := hc5.touch ht3 (fun q => by have := q.1; omega) (fun k hk => by have := hk.1; omega)
    obtain ⟨a3, n3, c3, hv3, HN3⟩ := ho3.parts
    obtain rfl := hv3
    have HO6 := Lib.hid ho3
    generalize hqs : ps ++ [y] = qs at *
    have hql : qs.length ≤ 4 := by rw [← hqs]; simp; omega
    have K6 : u3.cell? ⟨w2.heap.size, 0, none⟩ = some (.slice a n c) := boxCell B6 rfl
    have F6 : u3.frozen? ⟨w2.heap.size, 0, none⟩ = false := frozen_of_row u3 w2.heap.size 0 _ _ B6
    clear hqs ho3 HO HLit B5 R5 TE5 hc5 HS5 ht3
    refine soft2_switch trivial ?_
    refine soft_do rfl (fun K hK => ?_); refine Rep.wp_append _ _ _ rfl (by rfl) (by rfl) hr3 ?_; refine hK _ _ trivial ?_; clear hK K
    try simp only [Act.put, List.setIfInBounds_toArray, List.set_cons_zero, List.set_cons_succ]
    refine soft_read (v := ?_) rfl (fun W hW => ?_) ?_; rotate_left; (· go_simp; try with_reducible rfl)
    try simp only [Act.put, List.setIfInBounds_toArray, List.set_cons_zero, List.set_cons_succ]
    refine soft_do rfl (fun K hK => ?_); go_simp; refine hK _ _ trivial ?_; clear hK K
    try simp only [Act.put, List.setIfInBounds_toArray, List.set_cons_zero, List.set_cons_succ]
    refine soft_nil ?_
    generalize hw_ : World.setCell u3 _ _ = w7
    have T7 : Touch (fun k => k = w2.heap.size) u3 w7 := by rw [← hw_]; exact setCell_touch _ _ _ _
    have B7 : w7.heap[w2.heap.size]? = some (.cells #[.slice a3 n3 c3] 27 (0, 0)) := by rw [← hw_]; exact setCell_row B6 0
    have z7 := T7.size
    clear hw_ K6 F6
    have HO7 := Lib.hid (HO6.out.touch T7 (fun k hk => by rcases hk with hk | hk; (have := hk.2; omega); omega))
    have R7 := T7.keepBox R6 (by omega)
    have hc7 := hc6.touch T7 (by omega) (fun k hk => by omega)
    have TE7 := TE6.trans_new T7 (by omega)
    clear HO6 R6 hc6 TE6 T7
    have KR : w7.cell? ⟨w.heap.size, 0, none⟩ = some (.slice none 0 0) := boxCell R7 rfl
    have KB := boxCell B7 (j := 0) (v := .slice a3 n3 c3) rfl
    have FR : w7.frozen? ⟨w.heap.size, 0, none⟩ = false := frozen_of_row w7 w.heap.size 0 _ _ R7
    obtain ⟨_, _, _, hpe, HPN⟩ := HO7.out.parts
    simp only [Value.slice.injEq] at hpe
    have hnl := Lib.hid (hpe.2.1.trans HPN.out)
    clear hpe HPN
    go_wp2
    refine bodyPost_ret (v := .agg #[.slice a3 n3 c3]) (by simp [results, Try.results111, go_sem, KR, FR]) rfl ⟨_, _, qs, by rw [hnl.out], ?_, by omega, hc7.touch (setCell_touch w7 w.heap.size 0 _) (by omega) (fun k hk => by omega), TE7.trans_new (setCell_touch w7 w.heap.size 0 _) (by omega)⟩
    have hq := (HO7.out.touch (setCell_touch w7 w.heap.size 0 (.slice a3 n3 c3)) (fun k hk => by rcases hk with hk | hk; (have := hk.1; omega); omega)).own (by unfold Big; omega)
    rw [hnl.out] at hq ⊢
    exact hq.wide (fun j hj => ⟨by rcases hj with hj | hj; (have := hj.1; omega); omega, by rcases hj with hj | hj; (have := hj.2; simp [World.setCell]; omega); (simp [World.setCell]; omega)⟩)

  have hm0I : ¬ (m : Int) = 0 := by omega
  by_cases hm1 : m = 1
  · subst hm1
    go_wp2
    go_loopw [] (fun wr => ∃ (a : Option Addr) (n c : Nat) (ps : List ByteArray), ps.length ≤ 8 ∧ Hid (n = ps.length) ∧ Hid (Rep.own0 9 Rep.str wr (.slice a n c) ps (fun k => (w1.heap.size ≤ k ∧ k < w2.heap.size) ∨ (w4.heap.size ≤ k ∧ k < wr.heap.size))) ∧ wr.heap[w.heap.size]? = some (.cells #[.slice none 0 0] 27 (0, 0)) ∧ wr.heap[w2.heap.size]? = some (.cells #[.slice a n c] 27 (0, 0)) ∧ w4.heap.size ≤ wr.heap.size ∧ Cur w0 wr p ∧ Touch (fun k => k = p) w wr) (fun wr => match wr.cell? ⟨w2.heap.size, 0, none⟩ with | some (.slice _ n _) => 9 - n | _ => 0)
    case atStart =>
      obtain ⟨_, _, _, hpe, HPN⟩ := HO.out.parts
      simp only [Value.slice.injEq] at hpe
      exact ⟨a, n, c, ps, by omega, Lib.hid (hpe.2.1.trans HPN.out), Lib.hid (HO.out.wide (fun k hk => .inl hk)), R, B, Nat.le_refl _, hc, TE⟩
    case round =>
      clear hc TE R B HO hps
      obtain ⟨a, n, c, ps, hps, HN, HO, R, B, hzr, hc, TE⟩ := hrel
      have KM := Lib.hid (show wr.cell? ⟨w2.heap.size, 0, none⟩ = some (.slice a n c) from boxCell B rfl)
      have hnI : (n : Int) = ps.length := by rw [HN.out]
      have HNI := Lib.hid hnI
      clear hnI
      go_upto_region 6 with fail
      refine wp_region_soft (fun W => Touch (fun k => k = p) wr W ∧ Cur w0 W p) [true, true, true, true, false, true, true] (by kernel_rfl) (by kernel_rfl) (fun c a d v w h => by cases d <;> exact h) (⟨Touch.of_below (Below.refl _ _).drew, hc.below (Below.refl _ _).drew⟩) ?_
      intro wS HS
      all_goals first | (refine soft_pass rfl HS ?_) | (refine soft_read (v := ?_) rfl (fun W hW => ?_) ?_; rotate_left; (· go_simp; try with_reducible rfl))
      all_goals try simp only [Act.put, List.setIfInBounds_toArray, List.set_cons_zero, List.set_cons_succ]
      all_goals first | (refine soft_pass rfl HS ?_) | (refine soft_read (v := ?_) rfl (fun W hW => ?_) ?_; rotate_left; (· have A_0 := boxCell (hW.1.keepBox B (by omega)) (j := 0) (v := .slice a n c) rfl; clear hW; go_simp; try with_reducible rfl))
      all_goals try simp only [Act.put, List.setIfInBounds_toArray, List.set_cons_zero, List.set_cons_succ]
      all_goals first | (refine soft_pass rfl HS ?_) | (refine soft_read (v := ?_) rfl (fun W hW => ?_) ?_; rotate_left; (· go_simp; try with_reducible rfl))
      all_goals try simp only [Act.put, List.setIfInBounds_toArray, List.set_cons_zero, List.set_cons_succ]
      all_goals first | (refine soft_pass rfl HS ?_) | (refine soft_read (v := ?_) rfl (fun W hW => ?_) ?_; rotate_left; (· go_simp; try with_reducible rfl))
      all_goals try simp only [Act.put, List.setIfInBounds_toArray, List.set_cons_zero, List.set_cons_succ]
      all_goals first | (refine soft_pass rfl HS ?_) | (refine soft_do rfl (fun K hK => ?_); go_simp; refine (specl1Below_c (n := 3) HS.2 (by decide)).mono ?_; rintro e wS1 ⟨x, hx0, hx1, hx2, rfl, hcS, htS⟩; replace hx1 := hx1 (by decide); clear hx2; replace HS := And.intro (HS.1.trans htS) hcS; clear hcS htS; have hw : IntKind.i64.wrap (5 + x) = 5 + x := IntWalk.i64_in _ (by omega); refine hK _ _ HS ?_; clear hK K)
      all_goals try simp only [Act.put, List.setIfInBounds_toArray, List.set_cons_zero, List.set_cons_succ]
      all_goals first | (refine soft_pass rfl HS ?_) | (refine soft_read (v := ?_) rfl (fun W hW => ?_) ?_; rotate_left; (· go_simp; try with_reducible rfl))
      all_goals try simp only [Act.put, List.setIfInBounds_toArray, List.set_cons_zero, List.set_cons_succ]
      all_goals first | (refine soft_pass rfl HS ?_; have hg6 := True.intro) | (refine soft_part (v := ?_) (b := ?_) rfl (fun W hW => ?_) ?_ (fun b hg6 => ?_); rotate_left; rotate_left; (· go_simp; try with_reducible rfl); (· with_reducible rfl); cases b; all_goals first | (exact Bool.noConfusion hg6) | (simp only [Bool.not_eq_true', Bool.not_eq_false'] at hg6) | skip)
      all_goals try simp only [Act.put, List.setIfInBounds_toArray, List.set_cons_zero, List.set_cons_succ]
      all_goals refine soft_nil ?_
      all_goals have hzs := HS.1.size
      all_goals replace R := HS.1.keepBox R (by omega)
      all_goals replace B := HS.1.keepBox B (by omega)
      all_goals replace TE := TE.trans HS.1
      all_goals have hc5 := HS.2
      all_goals replace HO := Lib.hid (HO.out.touch HS.1 (fun k hk => by rcases hk with hk | hk <;> omega))
      all_goals clear hc HS
      · clear hg6
        have KR : wS1.cell? ⟨w.heap.size, 0, none⟩ = some (.slice none 0 0) := boxCell R rfl
        have KB := boxCell B (j := 0) (v := .slice a n c) rfl
        have FR : wS1.frozen? ⟨w.heap.size, 0, none⟩ = false := frozen_of_row wS1 w.heap.size 0 _ _ R
        obtain ⟨_, _, _, hpe, HPN⟩ := HO.out.parts
        simp only [Value.slice.injEq] at hpe
        have hnl := Lib.hid (hpe.2.1.trans HPN.out)
        clear hpe HPN
        go_wp2
        refine bodyPost_ret (v := .agg #[.slice a n c]) (by simp [results, Try.results111, go_sem, KR, FR]) rfl ⟨_, _, ps, by rw [hnl.out], ?_, by omega, hc5.touch (setCell_touch wS1 w.heap.size 0 _) (by omega) (fun k hk => by omega), TE.trans_new (setCell_touch wS1 w.heap.size 0 _) (by omega)⟩
        have hq := (HO.out.touch (setCell_touch wS1 w.heap.size 0 (.slice a n c)) (fun k hk => by rcases hk with hk | hk <;> omega)).own (by unfold Big; omega)
        rw [hnl.out] at hq ⊢
        exact hq.wide (fun j hj => ⟨by rcases hj with hj | hj <;> omega, by rcases hj with hj | hj <;> (simp [World.setCell]; omega)⟩)

      · have hlt : (n : Int) < 5 + x := by simpa using hg6
        have hnl := HN.out
        have KB : wS1.cell? ⟨w2.heap.size, 0, none⟩ = some (.slice a n c) := boxCell B rfl
        have KB2 := cell_later (Rep.below_alloc wS1 (.cells #[.string { data := #[109] }] 9)) KB
        clear hg6 hnl
        go_wp2_with (at_builtin; refine Rep.wpList_pushF rfl _ _ 25 rfl (r := Rep.str) (e := 9) Try.underlying25 infString rfl (by decide) (by decide) Rep.isFlat_str (HO.out.below (Rep.below_alloc wS1 (.cells #[.string { data := #[109] }] 9))) (by rfl) (by rfl) ((Rep.lit_one (e := 9) wS1 (Rep.flat_str (s := { data := #[109] }) (by decide))).own (by simp [Big])).rd (by simp; omega) ?_)
        intro v6 w6 ho6 ht6
        have T6 := (Touch.of_below (S := fun k => (w1.heap.size ≤ k ∧ k < w2.heap.size) ∨ (w4.heap.size ≤ k ∧ k < wr.heap.size)) (Rep.below_alloc wS1 (.cells #[.string { data := #[109] }] 9))).trans ht6
        have z6 := T6.size
        have zA : wS1.heap.size + 1 ≤ w6.heap.size := by have := ht6.size; simpa using this
        have R6 := T6.keepBox R (fun q => by rcases q with q | q <;> omega)
        have B6 := T6.keepBox B (fun q => by rcases q with q | q <;> omega)
        have TE6 := TE.trans_S T6 (fun k q => by rcases q with q | q <;> omega)
        have hc6 := hc5.touch T6 (fun q => by rcases q with q | q <;> omega) (fun k q => by rcases q with q | q <;> omega)
        have HO6 := Lib.hid (ho6.wide (T := fun k => (w1.heap.size ≤ k ∧ k < w2.heap.size) ∨ (w4.heap.size ≤ k ∧ k < w6.heap.size)) (fun k q => by rcases q with (q | q) | q; exact .inl q; exact .inr ⟨q.1, by omega⟩; exact .inr ⟨by have := q.1; omega, q.2⟩))
        obtain ⟨a6, n6, c6, hv6, HN6⟩ := ho6.parts
        obtain rfl := hv6
        have hql : (ps ++ [({ data := #[109] } : ByteArray)]).length = ps.length + 1 := by simp
        generalize ps ++ [({ data := #[109] } : ByteArray)] = qs at *
        have HQL := Lib.hid hql
        clear hql ho6 ht6 T6 R B TE hc5 HO KB KB2
        have K6 : w6.cell? ⟨w2.heap.size, 0, none⟩ = some (.slice a n c) := boxCell B6 rfl
        have F6 : w6.frozen? ⟨w2.heap.size, 0, none⟩ = false := frozen_of_row w6 w2.heap.size 0 _ _ B6
        go_wp2
        generalize hw_ : World.setCell w6 _ _ = w7
        have T7 : Touch (fun k => k = w2.heap.size) w6 w7 := by rw [← hw_]; exact setCell_touch _ _ _ _
        have B7 : w7.heap[w2.heap.size]? = some (.cells #[.slice a6 n6 c6] 27 (0, 0)) := by rw [← hw_]; exact setCell_row B6 0
        have z7 := T7.size
        clear hw_ K6 F6
        have HO7 := Lib.hid ((HO6.out.touch T7 (fun k q => by rcases q with q | q <;> omega)).wide (T := fun k => (w1.heap.size ≤ k ∧ k < w2.heap.size) ∨ (w4.heap.size ≤ k ∧ k < w7.heap.size)) (fun k q => by rcases q with q | q; exact .inl q; exact .inr ⟨q.1, by omega⟩))
        go_roundw
        case rel => exact ⟨a6, n6, c6, qs, by have := HQL.out; have := HNI.out; omega, Lib.hid HN6.out, HO7, T7.keepBox R6 (by omega), B7, by omega, hc6.touch T7 (by omega) (fun k hk => by omega), TE6.trans_new T7 (by omega)⟩
        case measure => simp only [KM.out, boxCell B7 (j := 0) (v := .slice a6 n6 c6) rfl]; have h1 := HQL.out; have h2 := HN6.out; have h3 := HNI.out; omega

  have hm1I : ¬ (m : Int) = 1 := by omega
  have KR : w4.cell? ⟨w.heap.size, 0, none⟩ = some (.slice none 0 0) := boxCell R rfl
  have KB := boxCell B (j := 0) (v := .slice a n c) rfl
  have FR : w4.frozen? ⟨w.heap.size, 0, none⟩ = false := frozen_of_row w4 w.heap.size 0 _ _ R
  obtain ⟨_, _, _, hpe, HPN⟩ := HO.out.parts
  simp only [Value.slice.injEq] at hpe
  have hnl := Lib.hid (hpe.2.1.trans HPN.out)
  clear hpe HPN
  go_wp2
  refine bodyPost_ret (v := .agg #[.slice a n c]) (by simp [results, Try.results111, go_sem, KR, FR]) rfl ⟨_, _, ps, by rw [hnl.out], ?_, by omega, hc.touch (setCell_touch w4 w.heap.size 0 _) (by omega) (fun k hk => by omega), TE.trans_new (setCell_touch w4 w.heap.size 0 _) (by omega)⟩
  have hq := (HO.out.touch (setCell_touch w4 w.heap.size 0 (.slice a n c)) (fun k hk => by have := hk.1; omega)).own (by unfold Big; omega)
  rw [hnl.out] at hq ⊢
  exact hq.wide (fun j hj => ⟨by have := hj.1; omega, by have := hj.2; simp [World.setCell]; omega⟩)
end Go.Proofs.Ytikjbdfkdkijkaa

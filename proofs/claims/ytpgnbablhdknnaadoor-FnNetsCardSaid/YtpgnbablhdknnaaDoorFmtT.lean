/-
  A topology, written as text.
-/
import Derived.Test.YtpgnbablhdknnaaDoorFInt
import Derived.Test.YtpgnbablhdknnaaDoorShelf
import Derived.Test.YtpgnbablhdknnaaDoorTypes
import Derived.Test.YtpgnbablhdknnaaDoorLib
import Derived.Test.YtpgnbablhdknnaaDoorSoft2
import Derived.IntWalk
import Derived.Deep.Cut
import Derived.WalkSpells
import Derived.WalkLawsBesides
import Derived.Lib.AppendIntMem
namespace Go.Proofs.YtpgnbablhdknnaaDoor
open Go.RowKit
set_option linter.unusedVariables false
set_option linter.unusedSimpArgs false
set_option linter.unnecessarySimpa false
theorem grow_below (w : World) (q : Nat) (os : Array Obj) : Below w.heap.size w (Sort.grow (w.drewN q) os) :=
  ⟨rfl, rfl, rfl, by simp [Sort.grow], fun k hk => by simp [Sort.grow, Array.getElem?_append, hk]⟩
def TabW (P : Program) (w : World) : Prop := Lib.TabIs P w "internal/strconv.uint64pow10" .u64 Lib.pow10Tab
theorem TabW.below {P : Program} {w w' : World} (h : TabW P w) (hb : Below w.heap.size w w') : TabW P w' := Lib.tabBelow_of_tabIs h w' hb
def linkB (l : LLink) : ByteArray := ⟨#[32]⟩ ++ itoaB l.1 ++ ⟨#[45]⟩ ++ itoaB l.2
def topoB (x : LTopology) : Nat → ByteArray
  | 0 => itoaB x.1
  | k + 1 => topoB x k ++ linkB (x.2.getD k (0, 0))
theorem topoB_succ {x : LTopology} {k : Nat} (h : k < x.2.length) : topoB x (k + 1) = topoB x k ++ linkB x.2[k] := by show topoB x k ++ linkB (x.2.getD k (0, 0)) = _; rw [getD_get h]
theorem linkB_size {l : LLink} (h1 : -9223372036854775808 ≤ l.1 ∧ l.1 ≤ 9223372036854775807) (h2 : -9223372036854775808 ≤ l.2 ∧ l.2 ≤ 9223372036854775807) : (linkB l).size ≤ 42 := by
  have a := itoaB_size h1
  have b := itoaB_size h2
  have c : (⟨#[32]⟩ : ByteArray).size = 1 := rfl
  have d : (⟨#[45]⟩ : ByteArray).size = 1 := rfl
  unfold linkB; simp only [ByteArray.size_append]; omega
theorem implFormatInt_c {w : World} {n : Int} (hn : -9223372036854775808 ≤ n ∧ n ≤ 9223372036854775807) (ht : TabW Tryd.prog w) :
    Calls Tryd.prog 43 #[.int .i64 n] w fun e w' => e = .returned (.string (itoaB n)) ∧ Below w.heap.size w w' := by
  have HT := Lib.hid (Tryd.strconv_Itoa n hn.1 hn.2 w ht)
  clear ht
  go_enter Tryd.func43, Tryd.ntmps43
  go_wp2_with fail
  refine (HT.out).mono ?_
  rintro e w1 ⟨rfl, k, os, hw⟩
  have HB : Below w.heap.size w w1 := hw ▸ grow_below w k os
  clear hw
  go_wp2
  go_ret
  exact ⟨rfl, HB⟩
set_option maxRecDepth 100000 in
set_option maxHeartbeats 4000000 in
theorem specFormatTopology_c {w : World} {ca : List Value} {x : LTopology} (ha : RTopology.rd w ca x) :
    Calls Tryd.prog 25 #[.agg ca.toArray] w fun e w' => e = .returned (.string (topoB x x.2.length)) ∧ Below w.heap.size w w' := by
  obtain ⟨av1, rfl, a_0, a_1⟩ := RTopology_raw ha.1
  have HL := ha.2.2.1
  obtain ⟨x0, x1⟩ := x
  obtain ⟨aa, capa, hva, la⟩ := Rep.len_raw a_1; obtain rfl : av1 = _ := by simpa using hva
  have HA := Lib.hid a_1
  clear hva ha a_1
  have HL2 : x1.length ≤ 16777216 := HL
  clear HL
  go_enter Tryd.func25, Tryd.ntmps25
  go_wp2_with fail
  generalize hwB : World.alloc w _ = wB
  have EB : Below w.heap.size w wB := by rw [← hwB]; exact (by repeat (first | (with_reducible exact Below.refl _ _) | refine Below.alloc ?_ (by simp; try omega) _ | refine Below.drew ?_ | refine Below.setCell ?_ (by simp; try omega) _))
  have K1 : wB.cell? ⟨w.heap.size, 1, none⟩ = some (.slice aa x1.length capa) := by rw [← hwB]; simp [go_sem]
  have K0 : wB.cell? ⟨w.heap.size, 0, none⟩ = some (.int .i64 x0) := by rw [← hwB]; simp [go_sem]
  clear hwB
  refine (specFormatInt_c a_0).mono ?_
  rintro e w3 ⟨rfl, hb3⟩
  replace K1 := cell_later hb3 K1
  have EG := EB.trans (hb3.mono EB.size)
  have hs0 := itoaB_size a_0
  clear K0 EB hb3
  have HK1 := Lib.hid K1
  go_wp2
  go_loopw [3, 4] (fun sv iv wr => ∃ (k : Nat) (s : ByteArray), k ≤ x1.length ∧ iv = .int .i64 k ∧ sv = .string s ∧ s.size ≤ 20 + 42 * k ∧ Hid (s = topoB (x0, x1) k) ∧ Below w3.heap.size w3 wr) (fun _ iv _ => x1.length - (intOf iv).toNat)
  case atStart => exact ⟨0, itoaB x0, Nat.zero_le _, rfl, rfl, by omega, Lib.hid rfl, Below.refl _ _⟩
  case round =>
    clear K1
    obtain ⟨k, s, hk, rfl, rfl, hs, HP, hbel⟩ := hrel
    have EW := EG.trans (hbel.mono EG.size)
    have K1 := cell_later hbel HK1.out
    by_cases hlt : k < x1.length
    · obtain ⟨ba, offa, rfl, c0, c1, hr, A0, A1⟩ := Rep.get2 (HA.out.below EW) hlt rfl
      obtain ⟨he, hr1, hr2⟩ := RLink_raw hr
      simp only [List.cons.injEq, and_true] at he
      obtain ⟨rfl, rfl⟩ := he
      have HX := Lib.hid (topoB_succ (x := (x0, x1)) hlt)
      have hls := linkB_size hr1 hr2
      clear hr
      simp only at HX
      generalize x1[k] = y at *
      obtain ⟨y1, y2⟩ := y
      simp only at hr1 hr2 A0 A1
      have hq1 := itoaB_size hr1
      have hq2 := itoaB_size hr2
      go_upto_region 5 with fail
      refine wp_region_softP (fun W => Below wr.heap.size wr W) [(0, true), (1, true), (2, true), (3, true), (4, true), (5, true), (6, true), (7, true), (11, true), (12, true), (13, true), (14, true), (15, true), (16, true), (8, false), (9, true), (10, true), (17, false), (18, true), (19, true)] (by kernel_rfl) (by kernel_rfl) (fun c a d v w h => by cases d <;> exact h) ((Below.refl _ _).drew) ?_
      intro wS HS
      simp only [pickOps, List.getElem?_cons_succ, List.getElem?_cons_zero, List.map_cons, List.map_nil]
      all_goals first | (refine soft_pass rfl HS ?_) | (refine soft_read (v := ?_) rfl (fun W hW => ?_) ?_; rotate_left; (· go_simp; try with_reducible rfl))
      all_goals try simp only [Act.put, List.setIfInBounds_toArray, List.set_cons_zero, List.set_cons_succ]
      all_goals first | (refine soft_pass rfl HS ?_) | (refine soft_read (v := ?_) rfl (fun W hW => ?_) ?_; rotate_left; (· go_simp; (try rw [if_neg (by simp [ByteArray.size_append]; omega)]); try with_reducible rfl))
      all_goals try simp only [Act.put, List.setIfInBounds_toArray, List.set_cons_zero, List.set_cons_succ]
      all_goals first | (refine soft_pass rfl HS ?_) | (refine soft_read (v := ?_) rfl (fun W hW => ?_) ?_; rotate_left; (· go_simp; try with_reducible rfl))
      all_goals try simp only [Act.put, List.setIfInBounds_toArray, List.set_cons_zero, List.set_cons_succ]
      all_goals first | (refine soft_pass rfl HS ?_) | (refine soft_read (v := ?_) rfl (fun W hW => ?_) ?_; rotate_left; (· have A_K1 := cell_later hW K1; have A_A0 := cell_later hW A0; have A_A1 := cell_later hW A1; clear hW; go_simp; try with_reducible rfl))
      all_goals try simp only [Act.put, List.setIfInBounds_toArray, List.set_cons_zero, List.set_cons_succ]
      all_goals first | (refine soft_pass rfl HS ?_) | (refine soft_read (v := ?_) rfl (fun W hW => ?_) ?_; rotate_left; (· go_simp; try with_reducible rfl))
      all_goals try simp only [Act.put, List.setIfInBounds_toArray, List.set_cons_zero, List.set_cons_succ]
      all_goals first | (refine soft_pass rfl HS ?_) | (refine soft_read (v := ?_) rfl (fun W hW => ?_) ?_; rotate_left; (· go_simp; try with_reducible rfl))
      all_goals try simp only [Act.put, List.setIfInBounds_toArray, List.set_cons_zero, List.set_cons_succ]
      all_goals first | (refine soft_pass rfl HS ?_) | (refine soft_read (v := ?_) rfl (fun W hW => ?_) ?_; rotate_left; (· go_simp; try with_reducible rfl))
      all_goals try simp only [Act.put, List.setIfInBounds_toArray, List.set_cons_zero, List.set_cons_succ]
      all_goals first | (refine soft_pass rfl HS ?_) | (refine soft_read (v := ?_) rfl (fun W hW => ?_) ?_; rotate_left; (· have A_K1 := cell_later hW K1; have A_A0 := cell_later hW A0; have A_A1 := cell_later hW A1; clear hW; go_simp; try with_reducible rfl))
      all_goals try simp only [Act.put, List.setIfInBounds_toArray, List.set_cons_zero, List.set_cons_succ]
      all_goals first | (refine soft_pass rfl HS ?_) | (refine soft_read (v := ?_) rfl (fun W hW => ?_) ?_; rotate_left; (· go_simp; try with_reducible rfl))
      all_goals try simp only [Act.put, List.setIfInBounds_toArray, List.set_cons_zero, List.set_cons_succ]
      all_goals first | (refine soft_pass rfl HS ?_) | (refine soft_read (v := ?_) rfl (fun W hW => ?_) ?_; rotate_left; (· have A_K1 := cell_later hW K1; have A_A0 := cell_later hW A0; have A_A1 := cell_later hW A1; clear hW; go_simp; try with_reducible rfl))
      all_goals try simp only [Act.put, List.setIfInBounds_toArray, List.set_cons_zero, List.set_cons_succ]
      all_goals first | (refine soft_pass rfl HS ?_) | (refine soft_read (v := ?_) rfl (fun W hW => ?_) ?_; rotate_left; (· go_simp; try with_reducible rfl))
      all_goals try simp only [Act.put, List.setIfInBounds_toArray, List.set_cons_zero, List.set_cons_succ]
      all_goals first | (refine soft_pass rfl HS ?_) | (refine soft_read (v := ?_) rfl (fun W hW => ?_) ?_; rotate_left; (· go_simp; try with_reducible rfl))
      all_goals try simp only [Act.put, List.setIfInBounds_toArray, List.set_cons_zero, List.set_cons_succ]
      all_goals first | (refine soft_pass rfl HS ?_) | (refine soft_read (v := ?_) rfl (fun W hW => ?_) ?_; rotate_left; (· go_simp; try with_reducible rfl))
      all_goals try simp only [Act.put, List.setIfInBounds_toArray, List.set_cons_zero, List.set_cons_succ]
      all_goals first | (refine soft_pass rfl HS ?_) | (refine soft_read (v := ?_) rfl (fun W hW => ?_) ?_; rotate_left; (· have A_K1 := cell_later hW K1; have A_A0 := cell_later hW A0; have A_A1 := cell_later hW A1; clear hW; go_simp; try with_reducible rfl))
      all_goals try simp only [Act.put, List.setIfInBounds_toArray, List.set_cons_zero, List.set_cons_succ]
      all_goals first | (refine soft_pass rfl HS ?_) | (refine soft_do rfl (fun K hK => ?_); go_simp; refine (specFormatInt_c hr1).mono ?_; rintro e wS1 ⟨rfl, hbS⟩; replace HS := HS.trans (hbS.mono HS.size); refine hK _ _ HS ?_; clear hK K hbS)
      all_goals try simp only [Act.put, List.setIfInBounds_toArray, List.set_cons_zero, List.set_cons_succ]
      all_goals first | (refine soft_pass rfl HS ?_) | (refine soft_read (v := ?_) rfl (fun W hW => ?_) ?_; rotate_left; (· go_simp; (try rw [if_neg (by simp [ByteArray.size_append]; omega)]); try with_reducible rfl))
      all_goals try simp only [Act.put, List.setIfInBounds_toArray, List.set_cons_zero, List.set_cons_succ]
      all_goals first | (refine soft_pass rfl HS ?_) | (refine soft_read (v := ?_) rfl (fun W hW => ?_) ?_; rotate_left; (· go_simp; (try rw [if_neg (by simp [ByteArray.size_append]; omega)]); try with_reducible rfl))
      all_goals try simp only [Act.put, List.setIfInBounds_toArray, List.set_cons_zero, List.set_cons_succ]
      all_goals first | (refine soft_pass rfl HS ?_) | (refine soft_do rfl (fun K hK => ?_); go_simp; refine (specFormatInt_c hr2).mono ?_; rintro e wS1 ⟨rfl, hbS⟩; replace HS := HS.trans (hbS.mono HS.size); refine hK _ _ HS ?_; clear hK K hbS)
      all_goals try simp only [Act.put, List.setIfInBounds_toArray, List.set_cons_zero, List.set_cons_succ]
      all_goals first | (refine soft_pass rfl HS ?_) | (refine soft_read (v := ?_) rfl (fun W hW => ?_) ?_; rotate_left; (· go_simp; (try rw [if_neg (by simp [ByteArray.size_append]; omega)]); try with_reducible rfl))
      all_goals try simp only [Act.put, List.setIfInBounds_toArray, List.set_cons_zero, List.set_cons_succ]
      all_goals first | (refine soft_pass rfl HS ?_) | (refine soft_read (v := ?_) rfl (fun W hW => ?_) ?_; rotate_left; (· go_simp; try with_reducible rfl))
      all_goals try simp only [Act.put, List.setIfInBounds_toArray, List.set_cons_zero, List.set_cons_succ]
      all_goals refine soft_nil ?_
      have EWR := hbel.trans (HS.mono hbel.size)
      clear HS K1 A0 A1
      go_wp2
      go_roundw
      case rel => exact ⟨k + 1, _, by omega, by go_num, rfl, (by have c1 : (⟨#[32]⟩ : ByteArray).size = 1 := rfl; have c2 : (⟨#[45]⟩ : ByteArray).size = 1 := rfl; simp only [ByteArray.size_append] at *; omega), Lib.hid (by rw [HX.out, ← HP.out]; unfold linkB; simp only [ByteArray.append_assoc]), EWR⟩
      case measure => simp [intOf]; omega
    · obtain rfl : k = x1.length := by omega
      go_wp2
      go_ret
      exact ⟨by rw [← HP.out]; rfl, EW⟩
set_option maxRecDepth 100000 in
set_option maxHeartbeats 4000000 in
theorem implFormatTopology_c {w : World} {ca : List Value} {x : LTopology} (ha : RTopology.rd w ca x) (ht : TabW Tryd.prog w) :
    Calls Tryd.prog 24 #[.agg ca.toArray] w fun e w' => e = .returned (.string (topoB x x.2.length)) ∧ Below w.heap.size w w' := by
  obtain ⟨av1, rfl, a_0, a_1⟩ := RTopology_raw ha.1
  have HL := ha.2.2.1
  obtain ⟨x0, x1⟩ := x
  obtain ⟨aa, capa, hva, la⟩ := Rep.len_raw a_1; obtain rfl : av1 = _ := by simpa using hva
  have HA := Lib.hid a_1
  clear hva ha a_1
  have HL2 : x1.length ≤ 16777216 := HL
  clear HL
  have HT := Lib.hid ht
  clear ht
  go_enter Tryd.func24, Tryd.ntmps24
  go_wp2_with fail
  generalize hwB : World.alloc w _ = wB
  have EB : Below w.heap.size w wB := by rw [← hwB]; exact (by repeat (first | (with_reducible exact Below.refl _ _) | refine Below.alloc ?_ (by simp; try omega) _ | refine Below.drew ?_ | refine Below.setCell ?_ (by simp; try omega) _))
  have K1 : wB.cell? ⟨w.heap.size, 1, none⟩ = some (.slice aa x1.length capa) := by rw [← hwB]; simp [go_sem]
  have K0 : wB.cell? ⟨w.heap.size, 0, none⟩ = some (.int .i64 x0) := by rw [← hwB]; simp [go_sem]
  clear hwB
  refine (implFormatInt_c a_0 (HT.out.below EB)).mono ?_
  rintro e w3 ⟨rfl, hb3⟩
  replace K1 := cell_later hb3 K1
  have EG := EB.trans (hb3.mono EB.size)
  have hs0 := itoaB_size a_0
  have HT3 := Lib.hid ((HT.out.below EB).below hb3)
  clear K0 EB hb3
  have HK1 := Lib.hid K1
  go_wp2
  go_loopw [3, 12] (fun sv iv wr => ∃ (k : Nat) (s : ByteArray), k ≤ x1.length ∧ iv = .int .i64 k ∧ sv = .string s ∧ s.size ≤ 20 + 42 * k ∧ Hid (s = topoB (x0, x1) k) ∧ Below w3.heap.size w3 wr) (fun _ iv _ => x1.length - (intOf iv).toNat)
  case atStart => exact ⟨0, itoaB x0, Nat.zero_le _, rfl, rfl, by omega, Lib.hid rfl, Below.refl _ _⟩
  case round =>
    clear K1
    obtain ⟨k, s, hk, rfl, rfl, hs, HP, hbel⟩ := hrel
    have EW := EG.trans (hbel.mono EG.size)
    have K1 := cell_later hbel HK1.out
    by_cases hlt : k < x1.length
    · obtain ⟨ba, offa, rfl, c0, c1, hr, A0, A1⟩ := Rep.get2 (HA.out.below EW) hlt rfl
      obtain ⟨he, hr1, hr2⟩ := RLink_raw hr
      simp only [List.cons.injEq, and_true] at he
      obtain ⟨rfl, rfl⟩ := he
      have HX := Lib.hid (topoB_succ (x := (x0, x1)) hlt)
      have hls := linkB_size hr1 hr2
      clear hr
      simp only at HX
      generalize x1[k] = y at *
      obtain ⟨y1, y2⟩ := y
      simp only at hr1 hr2 A0 A1
      have hq1 := itoaB_size hr1
      have hq2 := itoaB_size hr2
      go_upto_region 5 with fail
      generalize hwC : World.alloc wr _ = wC
      have EC : Below wr.heap.size wr wC := by rw [← hwC]; exact (Below.refl _ _).alloc (Nat.le_refl _) _
      have M0 : wC.cell? ⟨wr.heap.size, 0, none⟩ = some (.int .i64 y1) := by rw [← hwC]; simp [go_sem]
      have M1 : wC.cell? ⟨wr.heap.size, 1, none⟩ = some (.int .i64 y2) := by rw [← hwC]; simp [go_sem]
      clear hwC A0 A1
      have HTC := Lib.hid ((HT3.out.below hbel).below EC)
      refine wp_region_softP (fun W => Below wC.heap.size wC W) [(0, true), (1, true), (2, true), (6, true), (7, true), (3, false), (4, true), (5, true), (8, false), (9, true), (10, true), (11, true)] (by kernel_rfl) (by kernel_rfl) (fun c a d v w h => by cases d <;> exact h) ((Below.refl _ _).drew) ?_
      intro wS HS
      simp only [pickOps, List.getElem?_cons_succ, List.getElem?_cons_zero, List.map_cons, List.map_nil]
      all_goals first | (refine soft_pass rfl HS ?_) | (refine soft_read (v := ?_) rfl (fun W hW => ?_) ?_; rotate_left; (· go_simp; try with_reducible rfl))
      all_goals try simp only [Act.put, List.setIfInBounds_toArray, List.set_cons_zero, List.set_cons_succ]
      all_goals first | (refine soft_pass rfl HS ?_) | (refine soft_read (v := ?_) rfl (fun W hW => ?_) ?_; rotate_left; (· go_simp; try with_reducible rfl))
      all_goals try simp only [Act.put, List.setIfInBounds_toArray, List.set_cons_zero, List.set_cons_succ]
      all_goals first | (refine soft_pass rfl HS ?_) | (refine soft_read (v := ?_) rfl (fun W hW => ?_) ?_; rotate_left; (· have A_M0 := cell_later hW M0; have A_M1 := cell_later hW M1; clear hW; go_simp; try with_reducible rfl))
      all_goals try simp only [Act.put, List.setIfInBounds_toArray, List.set_cons_zero, List.set_cons_succ]
      all_goals first | (refine soft_pass rfl HS ?_) | (refine soft_read (v := ?_) rfl (fun W hW => ?_) ?_; rotate_left; (· go_simp; try with_reducible rfl))
      all_goals try simp only [Act.put, List.setIfInBounds_toArray, List.set_cons_zero, List.set_cons_succ]
      all_goals first | (refine soft_pass rfl HS ?_) | (refine soft_read (v := ?_) rfl (fun W hW => ?_) ?_; rotate_left; (· have A_M0 := cell_later hW M0; have A_M1 := cell_later hW M1; clear hW; go_simp; try with_reducible rfl))
      all_goals try simp only [Act.put, List.setIfInBounds_toArray, List.set_cons_zero, List.set_cons_succ]
      all_goals first | (refine soft_pass rfl HS ?_) | (refine soft_do rfl (fun K hK => ?_); go_simp; refine (implFormatInt_c hr1 (HTC.out.below HS)).mono ?_; rintro e wS1 ⟨rfl, hbS⟩; replace HS := HS.trans (hbS.mono HS.size); refine hK _ _ HS ?_; clear hK K hbS)
      all_goals try simp only [Act.put, List.setIfInBounds_toArray, List.set_cons_zero, List.set_cons_succ]
      all_goals first | (refine soft_pass rfl HS ?_) | (refine soft_read (v := ?_) rfl (fun W hW => ?_) ?_; rotate_left; (· go_simp; (try rw [if_neg (by simp [ByteArray.size_append]; omega)]); try with_reducible rfl))
      all_goals try simp only [Act.put, List.setIfInBounds_toArray, List.set_cons_zero, List.set_cons_succ]
      all_goals first | (refine soft_pass rfl HS ?_) | (refine soft_read (v := ?_) rfl (fun W hW => ?_) ?_; rotate_left; (· go_simp; (try rw [if_neg (by simp [ByteArray.size_append]; omega)]); try with_reducible rfl))
      all_goals try simp only [Act.put, List.setIfInBounds_toArray, List.set_cons_zero, List.set_cons_succ]
      all_goals first | (refine soft_pass rfl HS ?_) | (refine soft_do rfl (fun K hK => ?_); go_simp; refine (implFormatInt_c hr2 (HTC.out.below HS)).mono ?_; rintro e wS1 ⟨rfl, hbS⟩; replace HS := HS.trans (hbS.mono HS.size); refine hK _ _ HS ?_; clear hK K hbS)
      all_goals try simp only [Act.put, List.setIfInBounds_toArray, List.set_cons_zero, List.set_cons_succ]
      all_goals first | (refine soft_pass rfl HS ?_) | (refine soft_read (v := ?_) rfl (fun W hW => ?_) ?_; rotate_left; (· go_simp; (try rw [if_neg (by simp [ByteArray.size_append]; omega)]); try with_reducible rfl))
      all_goals try simp only [Act.put, List.setIfInBounds_toArray, List.set_cons_zero, List.set_cons_succ]
      all_goals first | (refine soft_pass rfl HS ?_) | (refine soft_read (v := ?_) rfl (fun W hW => ?_) ?_; rotate_left; (· go_simp; (try rw [if_neg (by simp [ByteArray.size_append]; omega)]); try with_reducible rfl))
      all_goals try simp only [Act.put, List.setIfInBounds_toArray, List.set_cons_zero, List.set_cons_succ]
      all_goals first | (refine soft_pass rfl HS ?_) | (refine soft_read (v := ?_) rfl (fun W hW => ?_) ?_; rotate_left; (· go_simp; try with_reducible rfl))
      all_goals try simp only [Act.put, List.setIfInBounds_toArray, List.set_cons_zero, List.set_cons_succ]
      all_goals refine soft_nil ?_
      have EWR := hbel.trans ((EC.trans (HS.mono EC.size)).mono hbel.size)
      clear HS K1 M0 M1 EC
      go_wp2
      go_roundw
      case rel => exact ⟨k + 1, _, by omega, by go_num, rfl, (by have c1 : (⟨#[32]⟩ : ByteArray).size = 1 := rfl; have c2 : (⟨#[45]⟩ : ByteArray).size = 1 := rfl; simp only [ByteArray.size_append] at *; omega), Lib.hid (by rw [HX.out, ← HP.out]; unfold linkB; simp only [ByteArray.append_assoc]), EWR⟩
      case measure => simp [intOf]; omega
    · obtain rfl : k = x1.length := by omega
      go_wp2
      go_ret
      exact ⟨by rw [← HP.out]; rfl, EW⟩
end Go.Proofs.YtpgnbablhdknnaaDoor

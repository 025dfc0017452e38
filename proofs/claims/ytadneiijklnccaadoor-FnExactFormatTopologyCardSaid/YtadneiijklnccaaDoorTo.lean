/-
  The laws' copies: each makes new memory that stands for the same data. Printed by gento.py.
-/
import Derived.Test.YtadneiijklnccaaDoorProg
import Derived.Test.YtadneiijklnccaaDoorTypes
import Derived.WalkKit
import Derived.WalkSpells
import Derived.WalkLawsBesides
import Derived.BigQuiet
import Derived.Deep.QuietTactic
import Derived.StillTailTactics
namespace Go.Proofs.YtadneiijklnccaaDoor
open Go.RowKit
set_option linter.unusedSimpArgs false
set_option linter.unnecessarySimpa false
set_option linter.unusedVariables false
set_option maxRecDepth 100000 in
set_option maxHeartbeats 1000000 in
theorem toLink_c {w : World} {ca : List Value} {x : LLink} (ha : RLink.rd w ca x) : Calls Tryd.prog 26 #[.agg ca.toArray] w (MadeAgg RLink x w) := by
  obtain ⟨ha, hbd⟩ := ha
  obtain ⟨rfl, a_0, a_1⟩ := RLink_raw ha
  obtain ⟨x0, x1⟩ := x
  have N0 := Lib.hid a_0
  have N1 := Lib.hid a_1
  clear ha hbd a_0 a_1
  go_enter Tryd.func26, Tryd.ntmps26
  go_wp2
  refine bodyPost_ret (v := .agg #[.int .i64 x0, .int .i64 x1]) (by simp [results, Tryd.results26, go_sem]) rfl ⟨[_, _], rfl, ?_, ?_⟩
  · exact Rep.flat.own (Rep.flat_pair (Rep.flat_int N0.out) (Rep.flat_int N1.out))
  · exact (((Below.refl _ _).alloc (Nat.le_refl _) _).alloc (by simp) _).alloc (by simp; omega) _
theorem infoLink : (Tryd.prog.info? 43).map (fun i => (i.zero, i.size, i.bytes)) = some (some (.agg #[.int .i64 0, .int .i64 0]), 2, 16) := by kernel_rfl
set_option maxRecDepth 100000 in
set_option maxHeartbeats 400000 in
theorem toLinkS_c {w : World} {va : Value} {x : List LLink} (ha : (Rep.slice 43 RLink).rd w [va] x) : Calls Tryd.prog 17 #[va] w (MadePost (Rep.slice 43 RLink) x w) := by
  obtain ⟨aa, capa, hva, la⟩ := Rep.len_raw ha.1; obtain rfl : va = _ := by simpa using hva
  clear hva
  have lb : x.length ≤ 16777216 := ha.2.1
  obtain ⟨i0, hi, hz0, hz1, hz2⟩ := info_parts infoLink
  have hmk : ∀ W : World, (Instr.makeSlice 27 (.int .i64 (x.length : Int)) (.int .i64 (x.length : Int))).run Tryd.prog W = .ok (.slice (some ⟨W.heap.size, 0, none⟩) x.length x.length) (W.alloc (.cells (madeCells #[.int .i64 0, .int .i64 0] (x.length * 2)) 43)) := by
    intro W
    have h := run_make (P := Tryd.prog) W 27 43 i0 _ (by kernel_rfl) hi hz0 .i64 .i64 (x.length : Int) (x.length : Int) (by omega) (by omega) (by rw [hz2]; omega) (by omega)
    rw [hz1] at h
    simpa [Value.cells] using h
  clear hz0 hz1 hz2 hi
  go_enter Tryd.func17, Tryd.ntmps17
  go_wp2; clear hmk
  have h0 := Rep.own0_make (e := 43) (w := w) (r := RLink) (zs := #[.int .i64 0, .int .i64 0]) (n := x.length) (S := Btw w.heap.size (w.heap.size + 1)) rfl rfl (by decide) (by unfold maxLen; omega) ⟨Nat.le_refl _, by omega⟩
  have h1 : (Rep.slice 43 RLink).own (w.alloc (.cells (madeCells #[.int .i64 0, .int .i64 0] (x.length * 2)) 43)) _ _ _ := h0.own (by simpa using ha.2.1)
  clear h0
  go_loopw [4] (fun i wr => ∃ k : Nat, k ≤ x.length ∧ i = .int .i64 k ∧ (Rep.slice 43 RLink).own wr [.slice (some ⟨w.heap.size, 0, none⟩) x.length x.length] (x.take k ++ List.replicate (x.length - k) RLink.zero) (Btw w.heap.size wr.heap.size) ∧ Below w.heap.size w wr ∧ w.heap.size < wr.heap.size) (fun i _ => x.length - (intOf i).toNat)
  case atStart => exact ⟨0, Nat.zero_le _, rfl, by simpa using h1, (Below.refl _ _).alloc (Nat.le_refl _) _, by simp⟩
  case round =>
    obtain ⟨k, hk, rfl, hout, hbel, hgt⟩ := hrel
    by_cases hlt : k < x.length
    · obtain ⟨ba, offa, rfl, c0, c1, hr, A0, A1⟩ := Rep.get2 (ha.1.below hbel) hlt rfl
      have hlen : (x.take k ++ List.replicate (x.length - k) RLink.zero).length = x.length := Rep.fill_length hk
      have hrd : RLink.rd wr [c0, c1] x[k] := ⟨hr, Rep.raw_bdd ha hlt⟩
      clear hr
      go_wp2_with fail
      refine (toLink_c hrd).mono ?_
      rintro e w2 ⟨cs, rfl, hown, hb2⟩
      obtain ⟨rfl, t_0, t_1⟩ := RLink_raw hown.raw
      clear t_0 t_1
      have hout2 := hout.below hb2
      obtain ⟨o0, o1, hro, O0, O1⟩ := Rep.at2 hout2.raw (i := k) (by omega) rfl
      have hfz := Rep.own_frozen hout2 (by omega)
      have Z0 := hfz (k * 2)
      have Z1 := hfz (k * 2 + 1)
      obtain ⟨hs, ht⟩ := Rep.own_set hout2 (i := k) (p := k * 2) (by omega) hown (fun j h1 h2 => by have a1 := h1.2; have a2 := h2.1; omega) (show k * 2 = 0 + k * 2 by omega)
      rw [Rep.fill_set hlt] at hs
      have hsz := hb2.size
      have hbel2 := hbel.trans (hb2.mono hbel.size)
      have HS := Lib.hid hs; have HT := Lib.hid ht; clear hs ht hout hout2 hro hlen hrd hfz hown hb2
      go_wp2
      go_roundw
      case rel => exact ⟨k + 1, by omega, by go_num, HS.out.wide (fun j hj => hj.elim (fun q => ⟨q.1, by have := q.2; simp [World.setCell] at this ⊢; omega⟩) (fun q => ⟨by have := q.1; omega, by have := q.2; simp [World.setCell] at this ⊢; omega⟩)), ((hbel2.setCell (Nat.le_refl _) _).setCell (Nat.le_refl _) _), by simp [World.setCell]; omega⟩
      case measure => simp [intOf]; omega
    · rw [Rep.fill_all hk hlt] at hout
      have HO := Lib.hid hout; clear hout
      go_wp2
      go_ret
      exact ⟨_, rfl, HO.out, hbel⟩
set_option maxRecDepth 100000 in
set_option maxHeartbeats 1000000 in
theorem toTopology_c {w : World} {ca : List Value} {x : LTopology} (ha : RTopology.rd w ca x) : Calls Tryd.prog 7 #[.agg ca.toArray] w (MadeAgg RTopology x w) := by
  obtain ⟨ha, hbd⟩ := ha
  obtain ⟨av1, rfl, a_0, a_1⟩ := RTopology_raw ha
  obtain ⟨x0, x1⟩ := x
  have N0 := Lib.hid a_0
  have r1 : (Rep.slice 43 RLink).rd w _ x1 := ⟨a_1, hbd.2⟩
  clear ha hbd a_0 a_1
  go_enter Tryd.func7, Tryd.ntmps7
  go_wp2_with fail
  refine (toLinkS_c (((r1.alloc _).alloc _).alloc _)).mono ?_
  rintro e w1 ⟨v1, rfl, O1, hb1⟩
  obtain ⟨ta1, tp1, th1, _⟩ := Rep.len_raw O1.raw; obtain rfl : v1 = _ := by simpa using th1
  clear th1
  have L1 : w.heap.size + 3 ≤ w1.heap.size := by have h := hb1.size; simp at h; omega
  have HO1 := Lib.hid (Rep.own.wide (T := Btw (w.heap.size + 3) w1.heap.size) O1 (fun j hj => ⟨by have h := hj.1; simp at h; omega, hj.2⟩)); clear O1
  have E1 : Below w.heap.size w w1 := ((((Below.refl _ _).alloc (Nat.le_refl _) _).alloc (by simp) _).alloc (by simp; omega) _).trans (hb1.mono (by simp; omega))
  have HE1 := Lib.hid E1; clear E1
  have g1_0 : w.heap.size < w1.heap.size := by omega
  have g1_1 : w.heap.size + 1 < w1.heap.size := by omega
  have g1_2 : w.heap.size + 1 + 1 < w1.heap.size := by omega
  obtain ⟨hc1, hf1⟩ := bcell hb1
  clear hb1
  go_wp2
  refine bodyPost_ret (v := .agg #[.int .i64 x0, .slice ta1 x1.length tp1]) (by simp [results, Tryd.results7, go_sem, hc1, g1_0, g1_1, g1_2]) rfl ⟨[_, _], rfl, ?_, ?_⟩
  · refine Rep.own.wide (S := Btw (w.heap.size + 3) (w1.heap.size)) ?_ (fun j hj => ⟨by have := hj.1; omega, by have := hj.2; simp [World.setCell]; omega⟩)
    exact Rep.flat_own (r := Rep.int) (q := (Rep.slice 43 RLink)) (cs := [.int .i64 x0]) (ds := [.slice ta1 x1.length tp1]) (x := x0) (y := x1) (Rep.flat_int N0.out) (Rep.own.out HO1.out (fun j h1 h2 => by simp (discharger := (simp; omega)) only [heap_setCell_other]))
  · repeat (first | (with_reducible exact HE1.out) | refine Below.setCell ?_ (by simp; try omega) _)
end Go.Proofs.YtadneiijklnccaaDoor

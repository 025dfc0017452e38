/-
  The laws' copies: each makes new memory that stands for the same data. Printed by gento.py.
-/
import Derived.Test.YtdgncogfmchhmaaProg
import Derived.Test.YtdgncogfmchhmaaTypes
import Derived.WalkKit
import Derived.WalkSpells
import Derived.WalkLawsBesides
import Derived.BigQuiet
import Derived.Deep.QuietTactic
import Derived.StillTailTactics
namespace Go.Proofs.Ytdgncogfmchhmaa
open Go.RowKit
set_option linter.unusedSimpArgs false
set_option linter.unnecessarySimpa false
set_option linter.unusedVariables false

theorem infoString : (Try.prog.info? 9).map (fun i => (i.zero, i.size, i.bytes)) = some (some (.string ByteArray.empty), 1, 16) := by kernel_rfl
set_option maxRecDepth 100000 in
set_option maxHeartbeats 400000 in
theorem toStringS_c {w : World} {va : Value} {x : List ByteArray} (ha : (Rep.slice 9 Rep.str).rd w [va] x) : Calls Try.prog 47 #[va] w (MadePost (Rep.slice 9 Rep.str) x w) := by
  obtain ⟨aa, capa, hva, la⟩ := Rep.len_raw ha.1; obtain rfl : va = _ := by simpa using hva
  clear hva
  have lb : x.length ≤ 16777216 := ha.2.1
  obtain ⟨i0, hi, hz0, hz1, hz2⟩ := info_parts infoString
  have hmk : ∀ W : World, (Instr.makeSlice 23 (.int .i64 (x.length : Int)) (.int .i64 (x.length : Int))).run Try.prog W = .ok (.slice (some ⟨W.heap.size, 0, none⟩) x.length x.length) (W.alloc (.cells (madeCells #[.string ByteArray.empty] (x.length * 1)) 9)) := by
    intro W
    have h := run_make (P := Try.prog) W 23 9 i0 _ (by kernel_rfl) hi hz0 .i64 .i64 (x.length : Int) (x.length : Int) (by omega) (by omega) (by rw [hz2]; omega) (by omega)
    rw [hz1] at h
    simpa [Value.cells] using h
  clear hz0 hz1 hz2 hi
  go_enter Try.func47, Try.ntmps47
  go_wp2; clear hmk
  have h0 := Rep.own0_make (e := 9) (w := w) (r := Rep.str) (zs := #[.string ByteArray.empty]) (n := x.length) (S := Btw w.heap.size (w.heap.size + 1)) rfl rfl (by decide) (by unfold maxLen; omega) ⟨Nat.le_refl _, by omega⟩
  have h1 : (Rep.slice 9 Rep.str).own (w.alloc (.cells (madeCells #[.string ByteArray.empty] (x.length * 1)) 9)) _ _ _ := h0.own (by simpa using ha.2.1)
  rw [Nat.mul_one] at h1
  clear h0
  go_loopw [4] (fun i wr => ∃ k : Nat, k ≤ x.length ∧ i = .int .i64 k ∧ (Rep.slice 9 Rep.str).own wr [.slice (some ⟨w.heap.size, 0, none⟩) x.length x.length] (x.take k ++ List.replicate (x.length - k) Rep.str.zero) (Btw w.heap.size wr.heap.size) ∧ Below w.heap.size w wr ∧ w.heap.size < wr.heap.size) (fun i _ => x.length - (intOf i).toNat)
  case atStart => exact ⟨0, Nat.zero_le _, rfl, by simpa using h1, (Below.refl _ _).alloc (Nat.le_refl _) _, by simp⟩
  case round =>
    obtain ⟨k, hk, rfl, hout, hbel, hgt⟩ := hrel
    by_cases hlt : k < x.length
    · obtain ⟨ba, offa, rfl, c0, hr, A0⟩ := Rep.get1 (ha.1.below hbel) hlt rfl
      have hlen : (x.take k ++ List.replicate (x.length - k) Rep.str.zero).length = x.length := Rep.fill_length hk
      have hbd := Rep.raw_bdd ha hlt
      obtain ⟨he, hrg⟩ := Rep.str_raw hr
      obtain rfl : c0 = _ := by simpa using he
      have hfl := Rep.flat_str hbd
      obtain ⟨o0, hro, O0⟩ := Rep.at1 hout.raw (i := k) (by omega) rfl
      have hfz := Rep.own_frozen hout (by omega) k
      clear he hr
      obtain ⟨hs, ht⟩ := Rep.own_set hout (i := k) (p := k) (by omega) (hfl wr) (fun _ _ h => h) (show k = 0 + k * 1 by omega)
      rw [Rep.fill_set hlt] at hs
      have HS := Lib.hid hs; have HT := Lib.hid ht; clear hs ht hout hro hlen hfl hbd hrg
      go_wp2
      go_roundw
      case rel => exact ⟨k + 1, by omega, by go_num, HS.out.wide (fun j hj => hj.elim (fun q => ⟨q.1, by simpa [World.setCell] using q.2⟩) (fun q => q.elim)), hbel.setCell (Nat.le_refl _) _, by simpa [World.setCell] using hgt⟩
      case measure => simp [intOf]; omega
    · rw [Rep.fill_all hk hlt] at hout
      have HO := Lib.hid hout; clear hout
      go_wp2
      go_ret
      exact ⟨_, rfl, HO.out, hbel⟩
set_option maxRecDepth 100000 in
set_option maxHeartbeats 1000000 in
theorem toName_c {w : World} {ca : List Value} {x : LName} (ha : RName.rd w ca x) : Calls Try.prog 24 #[.agg ca.toArray] w (MadeAgg RName x w) := by
  obtain ⟨ha, hbd⟩ := ha
  obtain ⟨av0, rfl, a_0⟩ := RName_raw ha
  obtain ⟨x0, rfl⟩ : ∃ x0, x0 = x := ⟨_, rfl⟩
  have r0 : (Rep.slice 9 Rep.str).rd w _ x0 := ⟨a_0, hbd⟩
  clear ha hbd a_0
  go_enter Try.func24, Try.ntmps24
  go_wp2_with fail
  refine (toStringS_c (((r0.alloc _).alloc _).alloc _)).mono ?_
  rintro e w1 ⟨v1, rfl, O1, hb1⟩
  obtain ⟨ta1, tp1, th1, _⟩ := Rep.len_raw O1.raw; obtain rfl : v1 = _ := by simpa using th1
  clear th1
  have L1 : w.heap.size + 3 ≤ w1.heap.size := by have h := hb1.size; simp at h; omega
  have HO1 := Lib.hid (Rep.own.wide (T := Btw (w.heap.size + 3) w1.heap.size) O1 (fun j hj => ⟨by have h := hj.1; simp at h; omega, hj.2⟩)); clear O1
  have E1 : Below w.heap.size w w1 := ((((Below.refl _ _).alloc (Nat.le_refl _) _).alloc (by simp) _).alloc (by simp; omega) _).trans (hb1.mono (by simp; omega))
  have HE1 := Lib.hid E1; clear E1
  have g1_0 : w.heap.size < w1.heap.size := by omega
  have g1_1 : w.heap.size + 1 < w1.heap.size := by omega
  have g1_2 : w.heap.size + 1 + 1 < w1.heap.size := by omega
  obtain ⟨hc1, hf1⟩ := bcell hb1
  clear hb1
  go_wp2
  refine bodyPost_ret (v := .agg #[.slice ta1 x0.length tp1]) (by simp [results, Try.results24, go_sem, hc1, g1_0, g1_1, g1_2]) rfl ⟨[_], rfl, ?_, ?_⟩
  · refine Rep.own.wide (S := Btw (w.heap.size + 3) (w1.heap.size)) ?_ (fun j hj => ⟨by have := hj.1; omega, by have := hj.2; simp [World.setCell]; omega⟩)
    exact Rep.own.out HO1.out (fun j h1 h2 => by simp (discharger := (simp; omega)) only [heap_setCell_other])
  · repeat (first | (with_reducible exact HE1.out) | refine Below.setCell ?_ (by simp; try omega) _)
set_option maxRecDepth 100000 in
set_option maxHeartbeats 1000000 in
theorem toRequester_c {w : World} {ca : List Value} {x : LRequester} (ha : RRequester.rd w ca x) : Calls Try.prog 61 #[.agg ca.toArray] w (MadeAgg RRequester x w) := by
  obtain ⟨ha, hbd⟩ := ha
  obtain ⟨rfl, a_0, a_1, a_2⟩ := RRequester_raw ha
  obtain ⟨x0, x1, x2⟩ := x
  have N0 := Lib.hid a_0
  have N1 := Lib.hid a_1
  have N2 := Lib.hid a_2
  clear ha hbd a_0 a_1 a_2
  go_enter Try.func61, Try.ntmps61
  go_wp2
  refine bodyPost_ret (v := .agg #[.int .i64 x0, .int .i64 x1, .int .i64 x2]) (by simp [results, Try.results61, go_sem]) rfl ⟨[_, _, _], rfl, ?_, ?_⟩
  · exact Rep.flat.own (Rep.flat_pair (Rep.flat_int N0.out) (Rep.flat_pair (Rep.flat_int N1.out) (Rep.flat_int N2.out)))
  · exact (((Below.refl _ _).alloc (Nat.le_refl _) _).alloc (by simp) _).alloc (by simp; omega) _
theorem infoRequester : (Try.prog.info? 53).map (fun i => (i.zero, i.size, i.bytes)) = some (some (.agg #[.int .i64 0, .int .i64 0, .int .i64 0]), 3, 24) := by kernel_rfl
set_option maxRecDepth 100000 in
set_option maxHeartbeats 400000 in
theorem toRequesterS_c {w : World} {va : Value} {x : List LRequester} (ha : (Rep.slice 53 RRequester).rd w [va] x) : Calls Try.prog 46 #[va] w (MadePost (Rep.slice 53 RRequester) x w) := by
  obtain ⟨aa, capa, hva, la⟩ := Rep.len_raw ha.1; obtain rfl : va = _ := by simpa using hva
  clear hva
  have lb : x.length ≤ 16777216 := ha.2.1
  obtain ⟨i0, hi, hz0, hz1, hz2⟩ := info_parts infoRequester
  have hmk : ∀ W : World, (Instr.makeSlice 55 (.int .i64 (x.length : Int)) (.int .i64 (x.length : Int))).run Try.prog W = .ok (.slice (some ⟨W.heap.size, 0, none⟩) x.length x.length) (W.alloc (.cells (madeCells #[.int .i64 0, .int .i64 0, .int .i64 0] (x.length * 3)) 53)) := by
    intro W
    have h := run_make (P := Try.prog) W 55 53 i0 _ (by kernel_rfl) hi hz0 .i64 .i64 (x.length : Int) (x.length : Int) (by omega) (by omega) (by rw [hz2]; omega) (by omega)
    rw [hz1] at h
    simpa [Value.cells] using h
  clear hz0 hz1 hz2 hi
  go_enter Try.func46, Try.ntmps46
  go_wp2; clear hmk
  have h0 := Rep.own0_make (e := 53) (w := w) (r := RRequester) (zs := #[.int .i64 0, .int .i64 0, .int .i64 0]) (n := x.length) (S := Btw w.heap.size (w.heap.size + 1)) rfl rfl (by decide) (by unfold maxLen; omega) ⟨Nat.le_refl _, by omega⟩
  have h1 : (Rep.slice 53 RRequester).own (w.alloc (.cells (madeCells #[.int .i64 0, .int .i64 0, .int .i64 0] (x.length * 3)) 53)) _ _ _ := h0.own (by simpa using ha.2.1)
  clear h0
  go_loopw [4] (fun i wr => ∃ k : Nat, k ≤ x.length ∧ i = .int .i64 k ∧ (Rep.slice 53 RRequester).own wr [.slice (some ⟨w.heap.size, 0, none⟩) x.length x.length] (x.take k ++ List.replicate (x.length - k) RRequester.zero) (Btw w.heap.size wr.heap.size) ∧ Below w.heap.size w wr ∧ w.heap.size < wr.heap.size) (fun i _ => x.length - (intOf i).toNat)
  case atStart => exact ⟨0, Nat.zero_le _, rfl, by simpa using h1, (Below.refl _ _).alloc (Nat.le_refl _) _, by simp⟩
  case round =>
    obtain ⟨k, hk, rfl, hout, hbel, hgt⟩ := hrel
    by_cases hlt : k < x.length
    · obtain ⟨ba, offa, rfl, c0, c1, c2, hr, A0, A1, A2⟩ := Rep.get3 (ha.1.below hbel) hlt rfl
      have hlen : (x.take k ++ List.replicate (x.length - k) RRequester.zero).length = x.length := Rep.fill_length hk
      have hrd : RRequester.rd wr [c0, c1, c2] x[k] := ⟨hr, Rep.raw_bdd ha hlt⟩
      clear hr
      go_wp2_with fail
      refine (toRequester_c hrd).mono ?_
      rintro e w2 ⟨cs, rfl, hown, hb2⟩
      obtain ⟨rfl, t_0, t_1, t_2⟩ := RRequester_raw hown.raw
      clear t_0 t_1 t_2
      have hout2 := hout.below hb2
      obtain ⟨o0, o1, o2, hro, O0, O1, O2⟩ := Rep.at3 hout2.raw (i := k) (by omega) rfl
      have hfz := Rep.own_frozen hout2 (by omega)
      have Z0 := hfz (k * 3)
      have Z1 := hfz (k * 3 + 1)
      have Z2 := hfz (k * 3 + 2)
      obtain ⟨hs, ht⟩ := Rep.own_set hout2 (i := k) (p := k * 3) (by omega) hown (fun j h1 h2 => by have a1 := h1.2; have a2 := h2.1; omega) (show k * 3 = 0 + k * 3 by omega)
      rw [Rep.fill_set hlt] at hs
      have hsz := hb2.size
      have hbel2 := hbel.trans (hb2.mono hbel.size)
      have HS := Lib.hid hs; have HT := Lib.hid ht; clear hs ht hout hout2 hro hlen hrd hfz hown hb2
      go_wp2
      go_roundw
      case rel => exact ⟨k + 1, by omega, by go_num, HS.out.wide (fun j hj => hj.elim (fun q => ⟨q.1, by have := q.2; simp [World.setCell] at this ⊢; omega⟩) (fun q => ⟨by have := q.1; omega, by have := q.2; simp [World.setCell] at this ⊢; omega⟩)), (((hbel2.setCell (Nat.le_refl _) _).setCell (Nat.le_refl _) _).setCell (Nat.le_refl _) _), by simp [World.setCell]; omega⟩
      case measure => simp [intOf]; omega
    · rw [Rep.fill_all hk hlt] at hout
      have HO := Lib.hid hout; clear hout
      go_wp2
      go_ret
      exact ⟨_, rfl, HO.out, hbel⟩
set_option maxRecDepth 100000 in
set_option maxHeartbeats 1000000 in
theorem toPendingInterest_c {w : World} {ca : List Value} {x : LPendingInterest} (ha : RPendingInterest.rd w ca x) : Calls Try.prog 23 #[.agg ca.toArray] w (MadeAgg RPendingInterest x w) := by
  obtain ⟨ha, hbd⟩ := ha
  obtain ⟨av0, av1, rfl, a_0, a_1, a_2, a_3⟩ := RPendingInterest_raw ha
  obtain ⟨x0, x1, x2⟩ := x
  have r0 : RName.rd w _ x0 := ⟨a_0, hbd.1⟩
  have r1 : (Rep.slice 53 RRequester).rd w _ x1 := ⟨a_2, hbd.2.1⟩
  have N2 := Lib.hid a_3
  clear ha hbd a_0 a_1 a_2 a_3
  go_enter Try.func23, Try.ntmps23
  go_wp2_with fail
  refine (toName_c (((r0.alloc _).alloc _).alloc _)).mono ?_
  rintro e w1 ⟨cs1, rfl, O1, hb1⟩
  obtain ⟨t1v0, rfl, t1_0⟩ := RName_raw O1.raw
  obtain ⟨t1a0, t1p0, t1h0, t1l0⟩ := Rep.len_raw t1_0; obtain rfl : t1v0 = _ := by simpa using t1h0
  clear t1h0
  clear t1_0
  have L1 : w.heap.size + 3 ≤ w1.heap.size := by have h := hb1.size; simp at h; omega
  have HO1 := Lib.hid (Rep.own.wide (T := Btw (w.heap.size + 3) w1.heap.size) O1 (fun j hj => ⟨by have h := hj.1; simp at h; omega, hj.2⟩)); clear O1
  have E1 : Below w.heap.size w w1 := ((((Below.refl _ _).alloc (Nat.le_refl _) _).alloc (by simp) _).alloc (by simp; omega) _).trans (hb1.mono (by simp; omega))
  have HE1 := Lib.hid E1; clear E1
  have g1_0 : w.heap.size < w1.heap.size := by omega
  have g1_1 : w.heap.size + 1 < w1.heap.size := by omega
  have g1_2 : w.heap.size + 1 + 1 < w1.heap.size := by omega
  obtain ⟨hc1, hf1⟩ := bcell hb1
  clear hb1
  go_wp2_with fail
  refine (toRequesterS_c (r1.below (by repeat (first | (with_reducible exact HE1.out) | refine Below.setCell ?_ (by simp; try omega) _)))).mono ?_
  rintro e w2 ⟨v2, rfl, O2, hb2⟩
  obtain ⟨ta2, tp2, th2, _⟩ := Rep.len_raw O2.raw; obtain rfl : v2 = _ := by simpa using th2
  clear th2
  have L2 : w1.heap.size ≤ w2.heap.size := by have h := hb2.size; simp at h; omega
  have HO2 := Lib.hid (Rep.own.wide (T := Btw (w1.heap.size) w2.heap.size) O2 (fun j hj => ⟨by have h := hj.1; simp at h; omega, hj.2⟩)); clear O2
  have E2 : Below w.heap.size w w2 := Below.trans (by repeat (first | (with_reducible exact HE1.out) | refine Below.setCell ?_ (by simp; try omega) _)) (hb2.mono (by simp; omega))
  have HE2 := Lib.hid E2; clear E2
  have HP1_2 := Lib.hid ((HO1.out).out (w' := w2) (fun j h1 h2 => (hb2.block j (by simp; omega)).trans (by simp (discharger := (simp; omega)) only [heap_setCell_other]))); clear HO1
  have g2_0 : w.heap.size < w2.heap.size := by omega
  have g2_1 : w.heap.size + 1 < w2.heap.size := by omega
  have g2_2 : w.heap.size + 1 + 1 < w2.heap.size := by omega
  obtain ⟨hc2, hf2⟩ := bcell hb2
  clear hb2
  go_wp2
  refine bodyPost_ret (v := .agg #[.slice t1a0 x0.length t1p0, .slice ta2 x1.length tp2, .int .i64 x2]) (by simp [results, Try.results23, go_sem, hc1, g1_0, g1_1, g1_2, hc2, g2_0, g2_1, g2_2]) rfl ⟨[_, _, _], rfl, ?_, ?_⟩
  · refine Rep.own.wide (S := Btw (w.heap.size + 3) (w2.heap.size)) ?_ (fun j hj => ⟨by have := hj.1; omega, by have := hj.2; simp [World.setCell]; omega⟩)
    exact Rep.own_pair (r := RName) (q := (Rep.pair (Rep.slice 53 RRequester) Rep.int)) (cs := [.slice t1a0 x0.length t1p0]) (ds := [.slice ta2 x1.length tp2, .int .i64 x2]) (x := x0) (y := (x1, x2)) (S := Btw (w.heap.size + 3) (w2.heap.size)) (Rep.own.out HP1_2.out (fun j h1 h2 => by simp (discharger := (simp; omega)) only [heap_setCell_other])) (Rep.own_flat (r := (Rep.slice 53 RRequester)) (q := Rep.int) (cs := [.slice ta2 x1.length tp2]) (ds := [.int .i64 x2]) (x := x1) (y := x2) (Rep.own.out HO2.out (fun j h1 h2 => by simp (discharger := (simp; omega)) only [heap_setCell_other])) (Rep.flat_int N2.out)) (fun j hj => ⟨hj.1, by have := hj.2; omega⟩) (fun j hj => ⟨by have := hj.1; omega, hj.2⟩) (fun j h1 h2 => by have p := h1.2; have q := h2.1; omega)
  · repeat (first | (with_reducible exact HE2.out) | refine Below.setCell ?_ (by simp; try omega) _)
theorem infoPendingInterest : (Try.prog.info? 57).map (fun i => (i.zero, i.size, i.bytes)) = some (some (.agg #[.slice none 0 0, .slice none 0 0, .int .i64 0]), 3, 56) := by kernel_rfl
set_option maxRecDepth 100000 in
set_option maxHeartbeats 400000 in
theorem toPendingInterestS_c {w : World} {va : Value} {x : List LPendingInterest} (ha : (Rep.slice 57 RPendingInterest).rd w [va] x) : Calls Try.prog 7 #[va] w (MadePost (Rep.slice 57 RPendingInterest) x w) := by
  obtain ⟨aa, capa, hva, la⟩ := Rep.len_raw ha.1; obtain rfl : va = _ := by simpa using hva
  clear hva
  have lb : x.length ≤ 16777216 := ha.2.1
  obtain ⟨i0, hi, hz0, hz1, hz2⟩ := info_parts infoPendingInterest
  have hmk : ∀ W : World, (Instr.makeSlice 30 (.int .i64 (x.length : Int)) (.int .i64 (x.length : Int))).run Try.prog W = .ok (.slice (some ⟨W.heap.size, 0, none⟩) x.length x.length) (W.alloc (.cells (madeCells #[.slice none 0 0, .slice none 0 0, .int .i64 0] (x.length * 3)) 57)) := by
    intro W
    have h := run_make (P := Try.prog) W 30 57 i0 _ (by kernel_rfl) hi hz0 .i64 .i64 (x.length : Int) (x.length : Int) (by omega) (by omega) (by rw [hz2]; omega) (by omega)
    rw [hz1] at h
    simpa [Value.cells] using h
  clear hz0 hz1 hz2 hi
  go_enter Try.func7, Try.ntmps7
  go_wp2; clear hmk
  have h0 := Rep.own0_make (e := 57) (w := w) (r := RPendingInterest) (zs := #[.slice none 0 0, .slice none 0 0, .int .i64 0]) (n := x.length) (S := Btw w.heap.size (w.heap.size + 1)) rfl rfl (by decide) (by unfold maxLen; omega) ⟨Nat.le_refl _, by omega⟩
  have h1 : (Rep.slice 57 RPendingInterest).own (w.alloc (.cells (madeCells #[.slice none 0 0, .slice none 0 0, .int .i64 0] (x.length * 3)) 57)) _ _ _ := h0.own (by simpa using ha.2.1)
  clear h0
  go_loopw [4] (fun i wr => ∃ k : Nat, k ≤ x.length ∧ i = .int .i64 k ∧ (Rep.slice 57 RPendingInterest).own wr [.slice (some ⟨w.heap.size, 0, none⟩) x.length x.length] (x.take k ++ List.replicate (x.length - k) RPendingInterest.zero) (Btw w.heap.size wr.heap.size) ∧ Below w.heap.size w wr ∧ w.heap.size < wr.heap.size) (fun i _ => x.length - (intOf i).toNat)
  case atStart => exact ⟨0, Nat.zero_le _, rfl, by simpa using h1, (Below.refl _ _).alloc (Nat.le_refl _) _, by simp⟩
  case round =>
    obtain ⟨k, hk, rfl, hout, hbel, hgt⟩ := hrel
    by_cases hlt : k < x.length
    · obtain ⟨ba, offa, rfl, c0, c1, c2, hr, A0, A1, A2⟩ := Rep.get3 (ha.1.below hbel) hlt rfl
      have hlen : (x.take k ++ List.replicate (x.length - k) RPendingInterest.zero).length = x.length := Rep.fill_length hk
      have hrd : RPendingInterest.rd wr [c0, c1, c2] x[k] := ⟨hr, Rep.raw_bdd ha hlt⟩
      clear hr
      go_wp2_with fail
      refine (toPendingInterest_c hrd).mono ?_
      rintro e w2 ⟨cs, rfl, hown, hb2⟩
      obtain ⟨tv0, tv1, rfl, t_0, t_1, t_2, t_3⟩ := RPendingInterest_raw hown.raw
      obtain ⟨ta0, tp0, th0, tl0⟩ := Rep.len_raw t_1; obtain rfl : tv0 = _ := by simpa using th0
      clear th0
      obtain ⟨ta1, tp1, th1, tl1⟩ := Rep.len_raw t_2; obtain rfl : tv1 = _ := by simpa using th1
      clear th1
      clear t_0 t_1 t_2 t_3
      have hout2 := hout.below hb2
      obtain ⟨o0, o1, o2, hro, O0, O1, O2⟩ := Rep.at3 hout2.raw (i := k) (by omega) rfl
      have hfz := Rep.own_frozen hout2 (by omega)
      have Z0 := hfz (k * 3)
      have Z1 := hfz (k * 3 + 1)
      have Z2 := hfz (k * 3 + 2)
      obtain ⟨hs, ht⟩ := Rep.own_set hout2 (i := k) (p := k * 3) (by omega) hown (fun j h1 h2 => by have a1 := h1.2; have a2 := h2.1; omega) (show k * 3 = 0 + k * 3 by omega)
      rw [Rep.fill_set hlt] at hs
      have hsz := hb2.size
      have hbel2 := hbel.trans (hb2.mono hbel.size)
      have HS := Lib.hid hs; have HT := Lib.hid ht; clear hs ht hout hout2 hro hlen hrd hfz hown hb2
      go_wp2
      go_roundw
      case rel => exact ⟨k + 1, by omega, by go_num, HS.out.wide (fun j hj => hj.elim (fun q => ⟨q.1, by have := q.2; simp [World.setCell] at this ⊢; omega⟩) (fun q => ⟨by have := q.1; omega, by have := q.2; simp [World.setCell] at this ⊢; omega⟩)), (((hbel2.setCell (Nat.le_refl _) _).setCell (Nat.le_refl _) _).setCell (Nat.le_refl _) _), by simp [World.setCell]; omega⟩
      case measure => simp [intOf]; omega
    · rw [Rep.fill_all hk hlt] at hout
      have HO := Lib.hid hout; clear hout
      go_wp2
      go_ret
      exact ⟨_, rfl, HO.out, hbel⟩
set_option maxRecDepth 100000 in
set_option maxHeartbeats 1000000 in
theorem toInterest_c {w : World} {ca : List Value} {x : LInterest} (ha : RInterest.rd w ca x) : Calls Try.prog 8 #[.agg ca.toArray] w (MadeAgg RInterest x w) := by
  obtain ⟨ha, hbd⟩ := ha
  obtain ⟨av0, rfl, a_0, a_1, a_2, a_3, a_4⟩ := RInterest_raw ha
  obtain ⟨x0, x1, x2, x3⟩ := x
  have r0 : RName.rd w _ x0 := ⟨a_0, hbd.1⟩
  have N1 := Lib.hid a_2
  have N2 := Lib.hid a_3
  have N3 := Lib.hid a_4
  clear ha hbd a_0 a_1 a_2 a_3 a_4
  go_enter Try.func8, Try.ntmps8
  go_wp2_with fail
  refine (toName_c (((r0.alloc _).alloc _).alloc _)).mono ?_
  rintro e w1 ⟨cs1, rfl, O1, hb1⟩
  obtain ⟨t1v0, rfl, t1_0⟩ := RName_raw O1.raw
  obtain ⟨t1a0, t1p0, t1h0, t1l0⟩ := Rep.len_raw t1_0; obtain rfl : t1v0 = _ := by simpa using t1h0
  clear t1h0
  clear t1_0
  have L1 : w.heap.size + 3 ≤ w1.heap.size := by have h := hb1.size; simp at h; omega
  have HO1 := Lib.hid (Rep.own.wide (T := Btw (w.heap.size + 3) w1.heap.size) O1 (fun j hj => ⟨by have h := hj.1; simp at h; omega, hj.2⟩)); clear O1
  have E1 : Below w.heap.size w w1 := ((((Below.refl _ _).alloc (Nat.le_refl _) _).alloc (by simp) _).alloc (by simp; omega) _).trans (hb1.mono (by simp; omega))
  have HE1 := Lib.hid E1; clear E1
  have g1_0 : w.heap.size < w1.heap.size := by omega
  have g1_1 : w.heap.size + 1 < w1.heap.size := by omega
  have g1_2 : w.heap.size + 1 + 1 < w1.heap.size := by omega
  obtain ⟨hc1, hf1⟩ := bcell hb1
  clear hb1
  go_wp2
  refine bodyPost_ret (v := .agg #[.slice t1a0 x0.length t1p0, .int .i64 x1, .int .i64 x2, .int .i64 x3]) (by simp [results, Try.results8, go_sem, hc1, g1_0, g1_1, g1_2]) rfl ⟨[_, _, _, _], rfl, ?_, ?_⟩
  · refine Rep.own.wide (S := Btw (w.heap.size + 3) (w1.heap.size)) ?_ (fun j hj => ⟨by have := hj.1; omega, by have := hj.2; simp [World.setCell]; omega⟩)
    exact Rep.own_flat (r := RName) (q := (Rep.pair Rep.int (Rep.pair Rep.int Rep.int))) (cs := [.slice t1a0 x0.length t1p0]) (ds := [.int .i64 x1, .int .i64 x2, .int .i64 x3]) (x := x0) (y := (x1, x2, x3)) (Rep.own.out HO1.out (fun j h1 h2 => by simp (discharger := (simp; omega)) only [heap_setCell_other])) (Rep.flat_pair (r := Rep.int) (q := (Rep.pair Rep.int Rep.int)) (cs := [.int .i64 x1]) (ds := [.int .i64 x2, .int .i64 x3]) (x := x1) (y := (x2, x3)) (Rep.flat_int N1.out) (Rep.flat_pair (r := Rep.int) (q := Rep.int) (cs := [.int .i64 x2]) (ds := [.int .i64 x3]) (x := x2) (y := x3) (Rep.flat_int N2.out) (Rep.flat_int N3.out)))
  · repeat (first | (with_reducible exact HE1.out) | refine Below.setCell ?_ (by simp; try omega) _)
end Go.Proofs.Ytdgncogfmchhmaa

/-
  The laws' copies: each makes new memory that stands for the same data. Printed by gento.py.
-/
import Derived.Test.YtlfblpgkegeaeaaGreatProg
import Derived.Test.YtlfblpgkegeaeaaGreatTypes
import Derived.WalkKit
import Derived.WalkSpells
import Derived.WalkLawsBesides
import Derived.BigQuiet
import Derived.Deep.QuietTactic
import Derived.StillTailTactics
namespace Go.Proofs.YtlfblpgkegeaeaaGreat
open Go.RowKit
set_option linter.unusedSimpArgs false
set_option linter.unnecessarySimpa false
set_option linter.unusedVariables false

theorem infoString : (Tryz.prog.info? 9).map (fun i => (i.zero, i.size, i.bytes)) = some (some (.string ByteArray.empty), 1, 16) := by kernel_rfl
set_option maxRecDepth 100000 in
set_option maxHeartbeats 400000 in
theorem toStringS_c {w : World} {va : Value} {x : List ByteArray} (ha : (Rep.slice 9 Rep.str).rd w [va] x) : Calls Tryz.prog 111 #[va] w (MadePost (Rep.slice 9 Rep.str) x w) := by
  obtain ⟨aa, capa, hva, la⟩ := Rep.len_raw ha.1; obtain rfl : va = _ := by simpa using hva
  clear hva
  have lb : x.length ≤ 16777216 := ha.2.1
  obtain ⟨i0, hi, hz0, hz1, hz2⟩ := info_parts infoString
  have hmk : ∀ W : World, (Instr.makeSlice 37 (.int .i64 (x.length : Int)) (.int .i64 (x.length : Int))).run Tryz.prog W = .ok (.slice (some ⟨W.heap.size, 0, none⟩) x.length x.length) (W.alloc (.cells (madeCells #[.string ByteArray.empty] (x.length * 1)) 9)) := by
    intro W
    have h := run_make (P := Tryz.prog) W 37 9 i0 _ (by kernel_rfl) hi hz0 .i64 .i64 (x.length : Int) (x.length : Int) (by omega) (by omega) (by rw [hz2]; omega) (by omega)
    rw [hz1] at h
    simpa [Value.cells] using h
  clear hz0 hz1 hz2 hi
  go_enter Tryz.func111, Tryz.ntmps111
  go_wp2; clear hmk
  have h0 := Rep.own0_make (e := 9) (w := w) (r := Rep.str) (zs := #[.string ByteArray.empty]) (n := x.length) (S := Btw w.heap.size (w.heap.size + 1)) rfl rfl (by decide) (by unfold maxLen; omega) ⟨Nat.le_refl _, by omega⟩
  have h1 : (Rep.slice 9 Rep.str).own (w.alloc (.cells (madeCells #[.string ByteArray.empty] (x.length * 1)) 9)) _ _ _ := h0.own (by simpa using ha.2.1)
  rw [Nat.mul_one] at h1
  clear h0
  go_loopw [4] (fun i wr => ∃ k : Nat, k ≤ x.length ∧ i = .int .i64 k ∧ (Rep.slice 9 Rep.str).own wr [.slice (some ⟨w.heap.size, 0, none⟩) x.length x.length] (x.take k ++ List.replicate (x.length - k) Rep.str.zero) (Btw w.heap.size wr.heap.size) ∧ Below w.heap.size w wr ∧ w.heap.size < wr.heap.size) (fun i _ => x.length - (intOf i).toNat)
  case atStart => exact ⟨0, Nat.zero_le _, rfl, by simpa using h1, (Below.refl _ _).alloc (Nat.le_refl _) _, by simp⟩
  case round =>
    obtain ⟨k, hk, rfl, hout, hbel, hgt⟩ := hrel
    by_cases hlt : k < x.length
    · obtain ⟨ba, offa, rfl, c0, hr, A0⟩ := Rep.get1 (ha.1.below hbel) hlt rfl
      have hlen : (x.take k ++ List.replicate (x.length - k) Rep.str.zero).length = x.length := Rep.fill_length hk
      have hbd := Rep.raw_bdd ha hlt
      obtain ⟨he, hrg⟩ := Rep.str_raw hr
      obtain rfl : c0 = _ := by simpa using he
      have hfl := Rep.flat_str hbd
      obtain ⟨o0, hro, O0⟩ := Rep.at1 hout.raw (i := k) (by omega) rfl
      have hfz := Rep.own_frozen hout (by omega) k
      clear he hr
      obtain ⟨hs, ht⟩ := Rep.own_set hout (i := k) (p := k) (by omega) (hfl wr) (fun _ _ h => h) (show k = 0 + k * 1 by omega)
      rw [Rep.fill_set hlt] at hs
      have HS := Lib.hid hs; have HT := Lib.hid ht; clear hs ht hout hro hlen hfl hbd hrg
      go_wp2
      go_roundw
      case rel => exact ⟨k + 1, by omega, by go_num, HS.out.wide (fun j hj => hj.elim (fun q => ⟨q.1, by simpa [World.setCell] using q.2⟩) (fun q => q.elim)), hbel.setCell (Nat.le_refl _) _, by simpa [World.setCell] using hgt⟩
      case measure => simp [intOf]; omega
    · rw [Rep.fill_all hk hlt] at hout
      have HO := Lib.hid hout; clear hout
      go_wp2
      go_ret
      exact ⟨_, rfl, HO.out, hbel⟩
theorem infoByte : (Tryz.prog.info? 5).map (fun i => (i.zero, i.size, i.bytes)) = some (some (.int .u8 0), 1, 1) := by kernel_rfl
set_option maxRecDepth 100000 in
set_option maxHeartbeats 400000 in
theorem toByteS_c {w : World} {va : Value} {x : List UInt8} (ha : (Rep.slice 5 Rep.byte).rd w [va] x) : Calls Tryz.prog 47 #[va] w (MadePost (Rep.slice 5 Rep.byte) x w) := by
  obtain ⟨aa, capa, hva, la⟩ := Rep.len_raw ha.1; obtain rfl : va = _ := by simpa using hva
  clear hva
  have lb : x.length ≤ 16777216 := ha.2.1
  obtain ⟨i0, hi, hz0, hz1, hz2⟩ := info_parts infoByte
  have hmk : ∀ W : World, (Instr.makeSlice 40 (.int .i64 (x.length : Int)) (.int .i64 (x.length : Int))).run Tryz.prog W = .ok (.slice (some ⟨W.heap.size, 0, none⟩) x.length x.length) (W.alloc (.cells (madeCells #[.int .u8 0] (x.length * 1)) 5)) := by
    intro W
    have h := run_make (P := Tryz.prog) W 40 5 i0 _ (by kernel_rfl) hi hz0 .i64 .i64 (x.length : Int) (x.length : Int) (by omega) (by omega) (by rw [hz2]; omega) (by omega)
    rw [hz1] at h
    simpa [Value.cells] using h
  clear hz0 hz1 hz2 hi
  go_enter Tryz.func47, Tryz.ntmps47
  go_wp2; clear hmk
  have h0 := Rep.own0_make (e := 5) (w := w) (r := Rep.byte) (zs := #[.int .u8 0]) (n := x.length) (S := Btw w.heap.size (w.heap.size + 1)) rfl rfl (by decide) (by unfold maxLen; omega) ⟨Nat.le_refl _, by omega⟩
  have h1 : (Rep.slice 5 Rep.byte).own (w.alloc (.cells (madeCells #[.int .u8 0] (x.length * 1)) 5)) _ _ _ := h0.own (by simpa using ha.2.1)
  rw [Nat.mul_one] at h1
  clear h0
  go_loopw [4] (fun i wr => ∃ k : Nat, k ≤ x.length ∧ i = .int .i64 k ∧ (Rep.slice 5 Rep.byte).own wr [.slice (some ⟨w.heap.size, 0, none⟩) x.length x.length] (x.take k ++ List.replicate (x.length - k) Rep.byte.zero) (Btw w.heap.size wr.heap.size) ∧ Below w.heap.size w wr ∧ w.heap.size < wr.heap.size) (fun i _ => x.length - (intOf i).toNat)
  case atStart => exact ⟨0, Nat.zero_le _, rfl, by simpa using h1, (Below.refl _ _).alloc (Nat.le_refl _) _, by simp⟩
  case round =>
    obtain ⟨k, hk, rfl, hout, hbel, hgt⟩ := hrel
    by_cases hlt : k < x.length
    · obtain ⟨ba, offa, rfl, c0, hr, A0⟩ := Rep.get1 (ha.1.below hbel) hlt rfl
      have hlen : (x.take k ++ List.replicate (x.length - k) Rep.byte.zero).length = x.length := Rep.fill_length hk
      have hbd := Rep.raw_bdd ha hlt
      obtain he := Rep.byte_raw hr
      obtain rfl : c0 = _ := by simpa using he
      have hfl := Rep.flat_byte x[k]
      obtain ⟨o0, hro, O0⟩ := Rep.at1 hout.raw (i := k) (by omega) rfl
      have hfz := Rep.own_frozen hout (by omega) k
      clear he hr
      obtain ⟨hs, ht⟩ := Rep.own_set hout (i := k) (p := k) (by omega) (hfl wr) (fun _ _ h => h) (show k = 0 + k * 1 by omega)
      rw [Rep.fill_set hlt] at hs
      have HS := Lib.hid hs; have HT := Lib.hid ht; clear hs ht hout hro hlen hfl hbd
      go_wp2
      go_roundw
      case rel => exact ⟨k + 1, by omega, by go_num, HS.out.wide (fun j hj => hj.elim (fun q => ⟨q.1, by simpa [World.setCell] using q.2⟩) (fun q => q.elim)), hbel.setCell (Nat.le_refl _) _, by simpa [World.setCell] using hgt⟩
      case measure => simp [intOf]; omega
    · rw [Rep.fill_all hk hlt] at hout
      have HO := Lib.hid hout; clear hout
      go_wp2
      go_ret
      exact ⟨_, rfl, HO.out, hbel⟩
set_option maxRecDepth 100000 in
set_option maxHeartbeats 1000000 in
theorem toName_c {w : World} {ca : List Value} {x : LName} (ha : RName.rd w ca x) : Calls Tryz.prog 46 #[.agg ca.toArray] w (MadeAgg RName x w) := by
  obtain ⟨ha, hbd⟩ := ha
  obtain ⟨av0, rfl, a_0⟩ := RName_raw ha
  obtain ⟨x0, rfl⟩ : ∃ x0, x0 = x := ⟨_, rfl⟩
  have r0 : (Rep.slice 9 Rep.str).rd w _ x0 := ⟨a_0, hbd⟩
  clear ha hbd a_0
  go_enter Tryz.func46, Tryz.ntmps46
  go_wp2_with fail
  refine (toStringS_c (((r0.alloc _).alloc _).alloc _)).mono ?_
  rintro e w1 ⟨v1, rfl, O1, hb1⟩
  obtain ⟨ta1, tp1, th1, _⟩ := Rep.len_raw O1.raw; obtain rfl : v1 = _ := by simpa using th1
  clear th1
  have L1 : w.heap.size + 3 ≤ w1.heap.size := by have h := hb1.size; simp at h; omega
  have HO1 := Lib.hid (Rep.own.wide (T := Btw (w.heap.size + 3) w1.heap.size) O1 (fun j hj => ⟨by have h := hj.1; simp at h; omega, hj.2⟩)); clear O1
  have E1 : Below w.heap.size w w1 := ((((Below.refl _ _).alloc (Nat.le_refl _) _).alloc (by simp) _).alloc (by simp; omega) _).trans (hb1.mono (by simp; omega))
  have HE1 := Lib.hid E1; clear E1
  have g1_0 : w.heap.size < w1.heap.size := by omega
  have g1_1 : w.heap.size + 1 < w1.heap.size := by omega
  have g1_2 : w.heap.size + 1 + 1 < w1.heap.size := by omega
  obtain ⟨hc1, hf1⟩ := bcell hb1
  clear hb1
  go_wp2
  refine bodyPost_ret (v := .agg #[.slice ta1 x0.length tp1]) (by simp [results, Tryz.results46, go_sem, hc1, g1_0, g1_1, g1_2]) rfl ⟨[_], rfl, ?_, ?_⟩
  · refine Rep.own.wide (S := Btw (w.heap.size + 3) (w1.heap.size)) ?_ (fun j hj => ⟨by have := hj.1; omega, by have := hj.2; simp [World.setCell]; omega⟩)
    exact Rep.own.out HO1.out (fun j h1 h2 => by simp (discharger := (simp; omega)) only [heap_setCell_other])
  · repeat (first | (with_reducible exact HE1.out) | refine Below.setCell ?_ (by simp; try omega) _)
theorem infoName : (Tryz.prog.info? 64).map (fun i => (i.zero, i.size, i.bytes)) = some (some (.agg #[.slice none 0 0]), 1, 24) := by kernel_rfl
set_option maxRecDepth 100000 in
set_option maxHeartbeats 400000 in
theorem toNameS_c {w : World} {va : Value} {x : List LName} (ha : (Rep.slice 64 RName).rd w [va] x) : Calls Tryz.prog 45 #[va] w (MadePost (Rep.slice 64 RName) x w) := by
  obtain ⟨aa, capa, hva, la⟩ := Rep.len_raw ha.1; obtain rfl : va = _ := by simpa using hva
  clear hva
  have lb : x.length ≤ 16777216 := ha.2.1
  obtain ⟨i0, hi, hz0, hz1, hz2⟩ := info_parts infoName
  have hmk : ∀ W : World, (Instr.makeSlice 60 (.int .i64 (x.length : Int)) (.int .i64 (x.length : Int))).run Tryz.prog W = .ok (.slice (some ⟨W.heap.size, 0, none⟩) x.length x.length) (W.alloc (.cells (madeCells #[.slice none 0 0] (x.length * 1)) 64)) := by
    intro W
    have h := run_make (P := Tryz.prog) W 60 64 i0 _ (by kernel_rfl) hi hz0 .i64 .i64 (x.length : Int) (x.length : Int) (by omega) (by omega) (by rw [hz2]; omega) (by omega)
    rw [hz1] at h
    simpa [Value.cells] using h
  clear hz0 hz1 hz2 hi
  go_enter Tryz.func45, Tryz.ntmps45
  go_wp2; clear hmk
  have h0 := Rep.own0_make (e := 64) (w := w) (r := RName) (zs := #[.slice none 0 0]) (n := x.length) (S := Btw w.heap.size (w.heap.size + 1)) rfl rfl (by decide) (by unfold maxLen; omega) ⟨Nat.le_refl _, by omega⟩
  have h1 : (Rep.slice 64 RName).own (w.alloc (.cells (madeCells #[.slice none 0 0] (x.length * 1)) 64)) _ _ _ := h0.own (by simpa using ha.2.1)
  rw [Nat.mul_one] at h1
  clear h0
  go_loopw [4] (fun i wr => ∃ k : Nat, k ≤ x.length ∧ i = .int .i64 k ∧ (Rep.slice 64 RName).own wr [.slice (some ⟨w.heap.size, 0, none⟩) x.length x.length] (x.take k ++ List.replicate (x.length - k) RName.zero) (Btw w.heap.size wr.heap.size) ∧ Below w.heap.size w wr ∧ w.heap.size < wr.heap.size) (fun i _ => x.length - (intOf i).toNat)
  case atStart => exact ⟨0, Nat.zero_le _, rfl, by simpa using h1, (Below.refl _ _).alloc (Nat.le_refl _) _, by simp⟩
  case round =>
    obtain ⟨k, hk, rfl, hout, hbel, hgt⟩ := hrel
    by_cases hlt : k < x.length
    · obtain ⟨ba, offa, rfl, c0, hr, A0⟩ := Rep.get1 (ha.1.below hbel) hlt rfl
      have hlen : (x.take k ++ List.replicate (x.length - k) RName.zero).length = x.length := Rep.fill_length hk
      have hrd : RName.rd wr [c0] x[k] := ⟨hr, Rep.raw_bdd ha hlt⟩
      clear hr
      go_wp2_with fail
      refine (toName_c hrd).mono ?_
      rintro e w2 ⟨cs, rfl, hown, hb2⟩
      obtain ⟨tv0, rfl, t_0⟩ := RName_raw hown.raw
      obtain ⟨ta0, tp0, th0, tl0⟩ := Rep.len_raw t_0; obtain rfl : tv0 = _ := by simpa using th0
      clear th0
      clear t_0
      have hout2 := hout.below hb2
      obtain ⟨o0, hro, O0⟩ := Rep.at1 hout2.raw (i := k) (by omega) rfl
      have hfz := Rep.own_frozen hout2 (by omega)
      have Z0 := hfz (k)
      obtain ⟨hs, ht⟩ := Rep.own_set hout2 (i := k) (p := k) (by omega) hown (fun j h1 h2 => by have a1 := h1.2; have a2 := h2.1; omega) (show k = 0 + k * 1 by omega)
      rw [Rep.fill_set hlt] at hs
      have hsz := hb2.size
      have hbel2 := hbel.trans (hb2.mono hbel.size)
      have HS := Lib.hid hs; have HT := Lib.hid ht; clear hs ht hout hout2 hro hlen hrd hfz hown hb2
      go_wp2
      go_roundw
      case rel => exact ⟨k + 1, by omega, by go_num, HS.out.wide (fun j hj => hj.elim (fun q => ⟨q.1, by have := q.2; simp [World.setCell] at this ⊢; omega⟩) (fun q => ⟨by have := q.1; omega, by have := q.2; simp [World.setCell] at this ⊢; omega⟩)), (hbel2.setCell (Nat.le_refl _) _), by simp [World.setCell]; omega⟩
      case measure => simp [intOf]; omega
    · rw [Rep.fill_all hk hlt] at hout
      have HO := Lib.hid hout; clear hout
      go_wp2
      go_ret
      exact ⟨_, rfl, HO.out, hbel⟩
set_option maxRecDepth 100000 in
set_option maxHeartbeats 1000000 in
theorem toMeasurement_c {w : World} {ca : List Value} {x : LMeasurement} (ha : RMeasurement.rd w ca x) : Calls Tryz.prog 108 #[.agg ca.toArray] w (MadeAgg RMeasurement x w) := by
  obtain ⟨ha, hbd⟩ := ha
  obtain ⟨av0, rfl, a_0, a_1, a_2, a_3⟩ := RMeasurement_raw ha
  obtain ⟨x0, x1, x2⟩ := x
  have r0 : RName.rd w _ x0 := ⟨a_0, hbd.1⟩
  have N1 := Lib.hid a_2
  have N2 := Lib.hid a_3
  clear ha hbd a_0 a_1 a_2 a_3
  go_enter Tryz.func108, Tryz.ntmps108
  go_wp2_with fail
  refine (toName_c (((r0.alloc _).alloc _).alloc _)).mono ?_
  rintro e w1 ⟨cs1, rfl, O1, hb1⟩
  obtain ⟨t1v0, rfl, t1_0⟩ := RName_raw O1.raw
  obtain ⟨t1a0, t1p0, t1h0, t1l0⟩ := Rep.len_raw t1_0; obtain rfl : t1v0 = _ := by simpa using t1h0
  clear t1h0
  clear t1_0
  have L1 : w.heap.size + 3 ≤ w1.heap.size := by have h := hb1.size; simp at h; omega
  have HO1 := Lib.hid (Rep.own.wide (T := Btw (w.heap.size + 3) w1.heap.size) O1 (fun j hj => ⟨by have h := hj.1; simp at h; omega, hj.2⟩)); clear O1
  have E1 : Below w.heap.size w w1 := ((((Below.refl _ _).alloc (Nat.le_refl _) _).alloc (by simp) _).alloc (by simp; omega) _).trans (hb1.mono (by simp; omega))
  have HE1 := Lib.hid E1; clear E1
  have g1_0 : w.heap.size < w1.heap.size := by omega
  have g1_1 : w.heap.size + 1 < w1.heap.size := by omega
  have g1_2 : w.heap.size + 1 + 1 < w1.heap.size := by omega
  obtain ⟨hc1, hf1⟩ := bcell hb1
  clear hb1
  go_wp2
  refine bodyPost_ret (v := .agg #[.slice t1a0 x0.length t1p0, .int .i64 x1, .int .i64 x2]) (by simp [results, Tryz.results108, go_sem, hc1, g1_0, g1_1, g1_2]) rfl ⟨[_, _, _], rfl, ?_, ?_⟩
  · refine Rep.own.wide (S := Btw (w.heap.size + 3) (w1.heap.size)) ?_ (fun j hj => ⟨by have := hj.1; omega, by have := hj.2; simp [World.setCell]; omega⟩)
    exact Rep.own_flat (r := RName) (q := (Rep.pair Rep.int Rep.int)) (cs := [.slice t1a0 x0.length t1p0]) (ds := [.int .i64 x1, .int .i64 x2]) (x := x0) (y := (x1, x2)) (Rep.own.out HO1.out (fun j h1 h2 => by simp (discharger := (simp; omega)) only [heap_setCell_other])) (Rep.flat_pair (r := Rep.int) (q := Rep.int) (cs := [.int .i64 x1]) (ds := [.int .i64 x2]) (x := x1) (y := x2) (Rep.flat_int N1.out) (Rep.flat_int N2.out))
  · repeat (first | (with_reducible exact HE1.out) | refine Below.setCell ?_ (by simp; try omega) _)
theorem infoMeasurement : (Tryz.prog.info? 184).map (fun i => (i.zero, i.size, i.bytes)) = some (some (.agg #[.slice none 0 0, .int .i64 0, .int .i64 0]), 3, 40) := by kernel_rfl
set_option maxRecDepth 100000 in
set_option maxHeartbeats 400000 in
theorem toMeasurementS_c {w : World} {va : Value} {x : List LMeasurement} (ha : (Rep.slice 184 RMeasurement).rd w [va] x) : Calls Tryz.prog 42 #[va] w (MadePost (Rep.slice 184 RMeasurement) x w) := by
  obtain ⟨aa, capa, hva, la⟩ := Rep.len_raw ha.1; obtain rfl : va = _ := by simpa using hva
  clear hva
  have lb : x.length ≤ 16777216 := ha.2.1
  obtain ⟨i0, hi, hz0, hz1, hz2⟩ := info_parts infoMeasurement
  have hmk : ∀ W : World, (Instr.makeSlice 54 (.int .i64 (x.length : Int)) (.int .i64 (x.length : Int))).run Tryz.prog W = .ok (.slice (some ⟨W.heap.size, 0, none⟩) x.length x.length) (W.alloc (.cells (madeCells #[.slice none 0 0, .int .i64 0, .int .i64 0] (x.length * 3)) 184)) := by
    intro W
    have h := run_make (P := Tryz.prog) W 54 184 i0 _ (by kernel_rfl) hi hz0 .i64 .i64 (x.length : Int) (x.length : Int) (by omega) (by omega) (by rw [hz2]; omega) (by omega)
    rw [hz1] at h
    simpa [Value.cells] using h
  clear hz0 hz1 hz2 hi
  go_enter Tryz.func42, Tryz.ntmps42
  go_wp2; clear hmk
  have h0 := Rep.own0_make (e := 184) (w := w) (r := RMeasurement) (zs := #[.slice none 0 0, .int .i64 0, .int .i64 0]) (n := x.length) (S := Btw w.heap.size (w.heap.size + 1)) rfl rfl (by decide) (by unfold maxLen; omega) ⟨Nat.le_refl _, by omega⟩
  have h1 : (Rep.slice 184 RMeasurement).own (w.alloc (.cells (madeCells #[.slice none 0 0, .int .i64 0, .int .i64 0] (x.length * 3)) 184)) _ _ _ := h0.own (by simpa using ha.2.1)
  clear h0
  go_loopw [4] (fun i wr => ∃ k : Nat, k ≤ x.length ∧ i = .int .i64 k ∧ (Rep.slice 184 RMeasurement).own wr [.slice (some ⟨w.heap.size, 0, none⟩) x.length x.length] (x.take k ++ List.replicate (x.length - k) RMeasurement.zero) (Btw w.heap.size wr.heap.size) ∧ Below w.heap.size w wr ∧ w.heap.size < wr.heap.size) (fun i _ => x.length - (intOf i).toNat)
  case atStart => exact ⟨0, Nat.zero_le _, rfl, by simpa using h1, (Below.refl _ _).alloc (Nat.le_refl _) _, by simp⟩
  case round =>
    obtain ⟨k, hk, rfl, hout, hbel, hgt⟩ := hrel
    by_cases hlt : k < x.length
    · obtain ⟨ba, offa, rfl, c0, c1, c2, hr, A0, A1, A2⟩ := Rep.get3 (ha.1.below hbel) hlt rfl
      have hlen : (x.take k ++ List.replicate (x.length - k) RMeasurement.zero).length = x.length := Rep.fill_length hk
      have hrd : RMeasurement.rd wr [c0, c1, c2] x[k] := ⟨hr, Rep.raw_bdd ha hlt⟩
      clear hr
      go_wp2_with fail
      refine (toMeasurement_c hrd).mono ?_
      rintro e w2 ⟨cs, rfl, hown, hb2⟩
      obtain ⟨tv0, rfl, t_0, t_1, t_2, t_3⟩ := RMeasurement_raw hown.raw
      obtain ⟨ta0, tp0, th0, tl0⟩ := Rep.len_raw t_1; obtain rfl : tv0 = _ := by simpa using th0
      clear th0
      clear t_0 t_1 t_2 t_3
      have hout2 := hout.below hb2
      obtain ⟨o0, o1, o2, hro, O0, O1, O2⟩ := Rep.at3 hout2.raw (i := k) (by omega) rfl
      have hfz := Rep.own_frozen hout2 (by omega)
      have Z0 := hfz (k * 3)
      have Z1 := hfz (k * 3 + 1)
      have Z2 := hfz (k * 3 + 2)
      obtain ⟨hs, ht⟩ := Rep.own_set hout2 (i := k) (p := k * 3) (by omega) hown (fun j h1 h2 => by have a1 := h1.2; have a2 := h2.1; omega) (show k * 3 = 0 + k * 3 by omega)
      rw [Rep.fill_set hlt] at hs
      have hsz := hb2.size
      have hbel2 := hbel.trans (hb2.mono hbel.size)
      have HS := Lib.hid hs; have HT := Lib.hid ht; clear hs ht hout hout2 hro hlen hrd hfz hown hb2
      go_wp2
      go_roundw
      case rel => exact ⟨k + 1, by omega, by go_num, HS.out.wide (fun j hj => hj.elim (fun q => ⟨q.1, by have := q.2; simp [World.setCell] at this ⊢; omega⟩) (fun q => ⟨by have := q.1; omega, by have := q.2; simp [World.setCell] at this ⊢; omega⟩)), (((hbel2.setCell (Nat.le_refl _) _).setCell (Nat.le_refl _) _).setCell (Nat.le_refl _) _), by simp [World.setCell]; omega⟩
      case measure => simp [intOf]; omega
    · rw [Rep.fill_all hk hlt] at hout
      have HO := Lib.hid hout; clear hout
      go_wp2
      go_ret
      exact ⟨_, rfl, HO.out, hbel⟩
set_option maxRecDepth 100000 in
set_option maxHeartbeats 1000000 in
theorem toRoute_c {w : World} {ca : List Value} {x : LRoute} (ha : RRoute.rd w ca x) : Calls Tryz.prog 107 #[.agg ca.toArray] w (MadeAgg RRoute x w) := by
  obtain ⟨ha, hbd⟩ := ha
  obtain ⟨av0, rfl, a_0, a_1, a_2, a_3⟩ := RRoute_raw ha
  obtain ⟨x0, x1, x2⟩ := x
  have r0 : RName.rd w _ x0 := ⟨a_0, hbd.1⟩
  have N1 := Lib.hid a_2
  have N2 := Lib.hid a_3
  clear ha hbd a_0 a_1 a_2 a_3
  go_enter Tryz.func107, Tryz.ntmps107
  go_wp2_with fail
  refine (toName_c (((r0.alloc _).alloc _).alloc _)).mono ?_
  rintro e w1 ⟨cs1, rfl, O1, hb1⟩
  obtain ⟨t1v0, rfl, t1_0⟩ := RName_raw O1.raw
  obtain ⟨t1a0, t1p0, t1h0, t1l0⟩ := Rep.len_raw t1_0; obtain rfl : t1v0 = _ := by simpa using t1h0
  clear t1h0
  clear t1_0
  have L1 : w.heap.size + 3 ≤ w1.heap.size := by have h := hb1.size; simp at h; omega
  have HO1 := Lib.hid (Rep.own.wide (T := Btw (w.heap.size + 3) w1.heap.size) O1 (fun j hj => ⟨by have h := hj.1; simp at h; omega, hj.2⟩)); clear O1
  have E1 : Below w.heap.size w w1 := ((((Below.refl _ _).alloc (Nat.le_refl _) _).alloc (by simp) _).alloc (by simp; omega) _).trans (hb1.mono (by simp; omega))
  have HE1 := Lib.hid E1; clear E1
  have g1_0 : w.heap.size < w1.heap.size := by omega
  have g1_1 : w.heap.size + 1 < w1.heap.size := by omega
  have g1_2 : w.heap.size + 1 + 1 < w1.heap.size := by omega
  obtain ⟨hc1, hf1⟩ := bcell hb1
  clear hb1
  go_wp2
  refine bodyPost_ret (v := .agg #[.slice t1a0 x0.length t1p0, .int .i64 x1, .int .i64 x2]) (by simp [results, Tryz.results107, go_sem, hc1, g1_0, g1_1, g1_2]) rfl ⟨[_, _, _], rfl, ?_, ?_⟩
  · refine Rep.own.wide (S := Btw (w.heap.size + 3) (w1.heap.size)) ?_ (fun j hj => ⟨by have := hj.1; omega, by have := hj.2; simp [World.setCell]; omega⟩)
    exact Rep.own_flat (r := RName) (q := (Rep.pair Rep.int Rep.int)) (cs := [.slice t1a0 x0.length t1p0]) (ds := [.int .i64 x1, .int .i64 x2]) (x := x0) (y := (x1, x2)) (Rep.own.out HO1.out (fun j h1 h2 => by simp (discharger := (simp; omega)) only [heap_setCell_other])) (Rep.flat_pair (r := Rep.int) (q := Rep.int) (cs := [.int .i64 x1]) (ds := [.int .i64 x2]) (x := x1) (y := x2) (Rep.flat_int N1.out) (Rep.flat_int N2.out))
  · repeat (first | (with_reducible exact HE1.out) | refine Below.setCell ?_ (by simp; try omega) _)
theorem infoRoute : (Tryz.prog.info? 181).map (fun i => (i.zero, i.size, i.bytes)) = some (some (.agg #[.slice none 0 0, .int .i64 0, .int .i64 0]), 3, 40) := by kernel_rfl
set_option maxRecDepth 100000 in
set_option maxHeartbeats 400000 in
theorem toRouteS_c {w : World} {va : Value} {x : List LRoute} (ha : (Rep.slice 181 RRoute).rd w [va] x) : Calls Tryz.prog 41 #[va] w (MadePost (Rep.slice 181 RRoute) x w) := by
  obtain ⟨aa, capa, hva, la⟩ := Rep.len_raw ha.1; obtain rfl : va = _ := by simpa using hva
  clear hva
  have lb : x.length ≤ 16777216 := ha.2.1
  obtain ⟨i0, hi, hz0, hz1, hz2⟩ := info_parts infoRoute
  have hmk : ∀ W : World, (Instr.makeSlice 53 (.int .i64 (x.length : Int)) (.int .i64 (x.length : Int))).run Tryz.prog W = .ok (.slice (some ⟨W.heap.size, 0, none⟩) x.length x.length) (W.alloc (.cells (madeCells #[.slice none 0 0, .int .i64 0, .int .i64 0] (x.length * 3)) 181)) := by
    intro W
    have h := run_make (P := Tryz.prog) W 53 181 i0 _ (by kernel_rfl) hi hz0 .i64 .i64 (x.length : Int) (x.length : Int) (by omega) (by omega) (by rw [hz2]; omega) (by omega)
    rw [hz1] at h
    simpa [Value.cells] using h
  clear hz0 hz1 hz2 hi
  go_enter Tryz.func41, Tryz.ntmps41
  go_wp2; clear hmk
  have h0 := Rep.own0_make (e := 181) (w := w) (r := RRoute) (zs := #[.slice none 0 0, .int .i64 0, .int .i64 0]) (n := x.length) (S := Btw w.heap.size (w.heap.size + 1)) rfl rfl (by decide) (by unfold maxLen; omega) ⟨Nat.le_refl _, by omega⟩
  have h1 : (Rep.slice 181 RRoute).own (w.alloc (.cells (madeCells #[.slice none 0 0, .int .i64 0, .int .i64 0] (x.length * 3)) 181)) _ _ _ := h0.own (by simpa using ha.2.1)
  clear h0
  go_loopw [4] (fun i wr => ∃ k : Nat, k ≤ x.length ∧ i = .int .i64 k ∧ (Rep.slice 181 RRoute).own wr [.slice (some ⟨w.heap.size, 0, none⟩) x.length x.length] (x.take k ++ List.replicate (x.length - k) RRoute.zero) (Btw w.heap.size wr.heap.size) ∧ Below w.heap.size w wr ∧ w.heap.size < wr.heap.size) (fun i _ => x.length - (intOf i).toNat)
  case atStart => exact ⟨0, Nat.zero_le _, rfl, by simpa using h1, (Below.refl _ _).alloc (Nat.le_refl _) _, by simp⟩
  case round =>
    obtain ⟨k, hk, rfl, hout, hbel, hgt⟩ := hrel
    by_cases hlt : k < x.length
    · obtain ⟨ba, offa, rfl, c0, c1, c2, hr, A0, A1, A2⟩ := Rep.get3 (ha.1.below hbel) hlt rfl
      have hlen : (x.take k ++ List.replicate (x.length - k) RRoute.zero).length = x.length := Rep.fill_length hk
      have hrd : RRoute.rd wr [c0, c1, c2] x[k] := ⟨hr, Rep.raw_bdd ha hlt⟩
      clear hr
      go_wp2_with fail
      refine (toRoute_c hrd).mono ?_
      rintro e w2 ⟨cs, rfl, hown, hb2⟩
      obtain ⟨tv0, rfl, t_0, t_1, t_2, t_3⟩ := RRoute_raw hown.raw
      obtain ⟨ta0, tp0, th0, tl0⟩ := Rep.len_raw t_1; obtain rfl : tv0 = _ := by simpa using th0
      clear th0
      clear t_0 t_1 t_2 t_3
      have hout2 := hout.below hb2
      obtain ⟨o0, o1, o2, hro, O0, O1, O2⟩ := Rep.at3 hout2.raw (i := k) (by omega) rfl
      have hfz := Rep.own_frozen hout2 (by omega)
      have Z0 := hfz (k * 3)
      have Z1 := hfz (k * 3 + 1)
      have Z2 := hfz (k * 3 + 2)
      obtain ⟨hs, ht⟩ := Rep.own_set hout2 (i := k) (p := k * 3) (by omega) hown (fun j h1 h2 => by have a1 := h1.2; have a2 := h2.1; omega) (show k * 3 = 0 + k * 3 by omega)
      rw [Rep.fill_set hlt] at hs
      have hsz := hb2.size
      have hbel2 := hbel.trans (hb2.mono hbel.size)
      have HS := Lib.hid hs; have HT := Lib.hid ht; clear hs ht hout hout2 hro hlen hrd hfz hown hb2
      go_wp2
      go_roundw
      case rel => exact ⟨k + 1, by omega, by go_num, HS.out.wide (fun j hj => hj.elim (fun q => ⟨q.1, by have := q.2; simp [World.setCell] at this ⊢; omega⟩) (fun q => ⟨by have := q.1; omega, by have := q.2; simp [World.setCell] at this ⊢; omega⟩)), (((hbel2.setCell (Nat.le_refl _) _).setCell (Nat.le_refl _) _).setCell (Nat.le_refl _) _), by simp [World.setCell]; omega⟩
      case measure => simp [intOf]; omega
    · rw [Rep.fill_all hk hlt] at hout
      have HO := Lib.hid hout; clear hout
      go_wp2
      go_ret
      exact ⟨_, rfl, HO.out, hbel⟩
set_option maxRecDepth 100000 in
set_option maxHeartbeats 1000000 in
theorem toRequester_c {w : World} {ca : List Value} {x : LRequester} (ha : RRequester.rd w ca x) : Calls Tryz.prog 207 #[.agg ca.toArray] w (MadeAgg RRequester x w) := by
  obtain ⟨ha, hbd⟩ := ha
  obtain ⟨rfl, a_0, a_1, a_2⟩ := RRequester_raw ha
  obtain ⟨x0, x1, x2⟩ := x
  have N0 := Lib.hid a_0
  have N1 := Lib.hid a_1
  have N2 := Lib.hid a_2
  clear ha hbd a_0 a_1 a_2
  go_enter Tryz.func207, Tryz.ntmps207
  go_wp2
  refine bodyPost_ret (v := .agg #[.int .i64 x0, .int .i64 x1, .int .i64 x2]) (by simp [results, Tryz.results207, go_sem]) rfl ⟨[_, _, _], rfl, ?_, ?_⟩
  · exact Rep.flat.own (Rep.flat_pair (Rep.flat_int N0.out) (Rep.flat_pair (Rep.flat_int N1.out) (Rep.flat_int N2.out)))
  · exact (((Below.refl _ _).alloc (Nat.le_refl _) _).alloc (by simp) _).alloc (by simp; omega) _
theorem infoRequester : (Tryz.prog.info? 123).map (fun i => (i.zero, i.size, i.bytes)) = some (some (.agg #[.int .i64 0, .int .i64 0, .int .i64 0]), 3, 24) := by kernel_rfl
set_option maxRecDepth 100000 in
set_option maxHeartbeats 400000 in
theorem toRequesterS_c {w : World} {va : Value} {x : List LRequester} (ha : (Rep.slice 123 RRequester).rd w [va] x) : Calls Tryz.prog 175 #[va] w (MadePost (Rep.slice 123 RRequester) x w) := by
  obtain ⟨aa, capa, hva, la⟩ := Rep.len_raw ha.1; obtain rfl : va = _ := by simpa using hva
  clear hva
  have lb : x.length ≤ 16777216 := ha.2.1
  obtain ⟨i0, hi, hz0, hz1, hz2⟩ := info_parts infoRequester
  have hmk : ∀ W : World, (Instr.makeSlice 119 (.int .i64 (x.length : Int)) (.int .i64 (x.length : Int))).run Tryz.prog W = .ok (.slice (some ⟨W.heap.size, 0, none⟩) x.length x.length) (W.alloc (.cells (madeCells #[.int .i64 0, .int .i64 0, .int .i64 0] (x.length * 3)) 123)) := by
    intro W
    have h := run_make (P := Tryz.prog) W 119 123 i0 _ (by kernel_rfl) hi hz0 .i64 .i64 (x.length : Int) (x.length : Int) (by omega) (by omega) (by rw [hz2]; omega) (by omega)
    rw [hz1] at h
    simpa [Value.cells] using h
  clear hz0 hz1 hz2 hi
  go_enter Tryz.func175, Tryz.ntmps175
  go_wp2; clear hmk
  have h0 := Rep.own0_make (e := 123) (w := w) (r := RRequester) (zs := #[.int .i64 0, .int .i64 0, .int .i64 0]) (n := x.length) (S := Btw w.heap.size (w.heap.size + 1)) rfl rfl (by decide) (by unfold maxLen; omega) ⟨Nat.le_refl _, by omega⟩
  have h1 : (Rep.slice 123 RRequester).own (w.alloc (.cells (madeCells #[.int .i64 0, .int .i64 0, .int .i64 0] (x.length * 3)) 123)) _ _ _ := h0.own (by simpa using ha.2.1)
  clear h0
  go_loopw [4] (fun i wr => ∃ k : Nat, k ≤ x.length ∧ i = .int .i64 k ∧ (Rep.slice 123 RRequester).own wr [.slice (some ⟨w.heap.size, 0, none⟩) x.length x.length] (x.take k ++ List.replicate (x.length - k) RRequester.zero) (Btw w.heap.size wr.heap.size) ∧ Below w.heap.size w wr ∧ w.heap.size < wr.heap.size) (fun i _ => x.length - (intOf i).toNat)
  case atStart => exact ⟨0, Nat.zero_le _, rfl, by simpa using h1, (Below.refl _ _).alloc (Nat.le_refl _) _, by simp⟩
  case round =>
    obtain ⟨k, hk, rfl, hout, hbel, hgt⟩ := hrel
    by_cases hlt : k < x.length
    · obtain ⟨ba, offa, rfl, c0, c1, c2, hr, A0, A1, A2⟩ := Rep.get3 (ha.1.below hbel) hlt rfl
      have hlen : (x.take k ++ List.replicate (x.length - k) RRequester.zero).length = x.length := Rep.fill_length hk
      have hrd : RRequester.rd wr [c0, c1, c2] x[k] := ⟨hr, Rep.raw_bdd ha hlt⟩
      clear hr
      go_wp2_with fail
      refine (toRequester_c hrd).mono ?_
      rintro e w2 ⟨cs, rfl, hown, hb2⟩
      obtain ⟨rfl, t_0, t_1, t_2⟩ := RRequester_raw hown.raw
      clear t_0 t_1 t_2
      have hout2 := hout.below hb2
      obtain ⟨o0, o1, o2, hro, O0, O1, O2⟩ := Rep.at3 hout2.raw (i := k) (by omega) rfl
      have hfz := Rep.own_frozen hout2 (by omega)
      have Z0 := hfz (k * 3)
      have Z1 := hfz (k * 3 + 1)
      have Z2 := hfz (k * 3 + 2)
      obtain ⟨hs, ht⟩ := Rep.own_set hout2 (i := k) (p := k * 3) (by omega) hown (fun j h1 h2 => by have a1 := h1.2; have a2 := h2.1; omega) (show k * 3 = 0 + k * 3 by omega)
      rw [Rep.fill_set hlt] at hs
      have hsz := hb2.size
      have hbel2 := hbel.trans (hb2.mono hbel.size)
      have HS := Lib.hid hs; have HT := Lib.hid ht; clear hs ht hout hout2 hro hlen hrd hfz hown hb2
      go_wp2
      go_roundw
      case rel => exact ⟨k + 1, by omega, by go_num, HS.out.wide (fun j hj => hj.elim (fun q => ⟨q.1, by have := q.2; simp [World.setCell] at this ⊢; omega⟩) (fun q => ⟨by have := q.1; omega, by have := q.2; simp [World.setCell] at this ⊢; omega⟩)), (((hbel2.setCell (Nat.le_refl _) _).setCell (Nat.le_refl _) _).setCell (Nat.le_refl _) _), by simp [World.setCell]; omega⟩
      case measure => simp [intOf]; omega
    · rw [Rep.fill_all hk hlt] at hout
      have HO := Lib.hid hout; clear hout
      go_wp2
      go_ret
      exact ⟨_, rfl, HO.out, hbel⟩
set_option maxRecDepth 100000 in
set_option maxHeartbeats 1000000 in
theorem toPendingInterest_c {w : World} {ca : List Value} {x : LPendingInterest} (ha : RPendingInterest.rd w ca x) : Calls Tryz.prog 105 #[.agg ca.toArray] w (MadeAgg RPendingInterest x w) := by
  obtain ⟨ha, hbd⟩ := ha
  obtain ⟨av0, av1, rfl, a_0, a_1, a_2, a_3⟩ := RPendingInterest_raw ha
  obtain ⟨x0, x1, x2⟩ := x
  have r0 : RName.rd w _ x0 := ⟨a_0, hbd.1⟩
  have r1 : (Rep.slice 123 RRequester).rd w _ x1 := ⟨a_2, hbd.2.1⟩
  have N2 := Lib.hid a_3
  clear ha hbd a_0 a_1 a_2 a_3
  go_enter Tryz.func105, Tryz.ntmps105
  go_wp2_with fail
  refine (toName_c (((r0.alloc _).alloc _).alloc _)).mono ?_
  rintro e w1 ⟨cs1, rfl, O1, hb1⟩
  obtain ⟨t1v0, rfl, t1_0⟩ := RName_raw O1.raw
  obtain ⟨t1a0, t1p0, t1h0, t1l0⟩ := Rep.len_raw t1_0; obtain rfl : t1v0 = _ := by simpa using t1h0
  clear t1h0
  clear t1_0
  have L1 : w.heap.size + 3 ≤ w1.heap.size := by have h := hb1.size; simp at h; omega
  have HO1 := Lib.hid (Rep.own.wide (T := Btw (w.heap.size + 3) w1.heap.size) O1 (fun j hj => ⟨by have h := hj.1; simp at h; omega, hj.2⟩)); clear O1
  have E1 : Below w.heap.size w w1 := ((((Below.refl _ _).alloc (Nat.le_refl _) _).alloc (by simp) _).alloc (by simp; omega) _).trans (hb1.mono (by simp; omega))
  have HE1 := Lib.hid E1; clear E1
  have g1_0 : w.heap.size < w1.heap.size := by omega
  have g1_1 : w.heap.size + 1 < w1.heap.size := by omega
  have g1_2 : w.heap.size + 1 + 1 < w1.heap.size := by omega
  obtain ⟨hc1, hf1⟩ := bcell hb1
  clear hb1
  go_wp2_with fail
  refine (toRequesterS_c (r1.below (by repeat (first | (with_reducible exact HE1.out) | refine Below.setCell ?_ (by simp; try omega) _)))).mono ?_
  rintro e w2 ⟨v2, rfl, O2, hb2⟩
  obtain ⟨ta2, tp2, th2, _⟩ := Rep.len_raw O2.raw; obtain rfl : v2 = _ := by simpa using th2
  clear th2
  have L2 : w1.heap.size ≤ w2.heap.size := by have h := hb2.size; simp at h; omega
  have HO2 := Lib.hid (Rep.own.wide (T := Btw (w1.heap.size) w2.heap.size) O2 (fun j hj => ⟨by have h := hj.1; simp at h; omega, hj.2⟩)); clear O2
  have E2 : Below w.heap.size w w2 := Below.trans (by repeat (first | (with_reducible exact HE1.out) | refine Below.setCell ?_ (by simp; try omega) _)) (hb2.mono (by simp; omega))
  have HE2 := Lib.hid E2; clear E2
  have HP1_2 := Lib.hid ((HO1.out).out (w' := w2) (fun j h1 h2 => (hb2.block j (by simp; omega)).trans (by simp (discharger := (simp; omega)) only [heap_setCell_other]))); clear HO1
  have g2_0 : w.heap.size < w2.heap.size := by omega
  have g2_1 : w.heap.size + 1 < w2.heap.size := by omega
  have g2_2 : w.heap.size + 1 + 1 < w2.heap.size := by omega
  obtain ⟨hc2, hf2⟩ := bcell hb2
  clear hb2
  go_wp2
  refine bodyPost_ret (v := .agg #[.slice t1a0 x0.length t1p0, .slice ta2 x1.length tp2, .int .i64 x2]) (by simp [results, Tryz.results105, go_sem, hc1, g1_0, g1_1, g1_2, hc2, g2_0, g2_1, g2_2]) rfl ⟨[_, _, _], rfl, ?_, ?_⟩
  · refine Rep.own.wide (S := Btw (w.heap.size + 3) (w2.heap.size)) ?_ (fun j hj => ⟨by have := hj.1; omega, by have := hj.2; simp [World.setCell]; omega⟩)
    exact Rep.own_pair (r := RName) (q := (Rep.pair (Rep.slice 123 RRequester) Rep.int)) (cs := [.slice t1a0 x0.length t1p0]) (ds := [.slice ta2 x1.length tp2, .int .i64 x2]) (x := x0) (y := (x1, x2)) (S := Btw (w.heap.size + 3) (w2.heap.size)) (Rep.own.out HP1_2.out (fun j h1 h2 => by simp (discharger := (simp; omega)) only [heap_setCell_other])) (Rep.own_flat (r := (Rep.slice 123 RRequester)) (q := Rep.int) (cs := [.slice ta2 x1.length tp2]) (ds := [.int .i64 x2]) (x := x1) (y := x2) (Rep.own.out HO2.out (fun j h1 h2 => by simp (discharger := (simp; omega)) only [heap_setCell_other])) (Rep.flat_int N2.out)) (fun j hj => ⟨hj.1, by have := hj.2; omega⟩) (fun j hj => ⟨by have := hj.1; omega, hj.2⟩) (fun j h1 h2 => by have p := h1.2; have q := h2.1; omega)
  · repeat (first | (with_reducible exact HE2.out) | refine Below.setCell ?_ (by simp; try omega) _)
theorem infoPendingInterest : (Tryz.prog.info? 175).map (fun i => (i.zero, i.size, i.bytes)) = some (some (.agg #[.slice none 0 0, .slice none 0 0, .int .i64 0]), 3, 56) := by kernel_rfl
set_option maxRecDepth 100000 in
set_option maxHeartbeats 400000 in
theorem toPendingInterestS_c {w : World} {va : Value} {x : List LPendingInterest} (ha : (Rep.slice 175 RPendingInterest).rd w [va] x) : Calls Tryz.prog 39 #[va] w (MadePost (Rep.slice 175 RPendingInterest) x w) := by
  obtain ⟨aa, capa, hva, la⟩ := Rep.len_raw ha.1; obtain rfl : va = _ := by simpa using hva
  clear hva
  have lb : x.length ≤ 16777216 := ha.2.1
  obtain ⟨i0, hi, hz0, hz1, hz2⟩ := info_parts infoPendingInterest
  have hmk : ∀ W : World, (Instr.makeSlice 51 (.int .i64 (x.length : Int)) (.int .i64 (x.length : Int))).run Tryz.prog W = .ok (.slice (some ⟨W.heap.size, 0, none⟩) x.length x.length) (W.alloc (.cells (madeCells #[.slice none 0 0, .slice none 0 0, .int .i64 0] (x.length * 3)) 175)) := by
    intro W
    have h := run_make (P := Tryz.prog) W 51 175 i0 _ (by kernel_rfl) hi hz0 .i64 .i64 (x.length : Int) (x.length : Int) (by omega) (by omega) (by rw [hz2]; omega) (by omega)
    rw [hz1] at h
    simpa [Value.cells] using h
  clear hz0 hz1 hz2 hi
  go_enter Tryz.func39, Tryz.ntmps39
  go_wp2; clear hmk
  have h0 := Rep.own0_make (e := 175) (w := w) (r := RPendingInterest) (zs := #[.slice none 0 0, .slice none 0 0, .int .i64 0]) (n := x.length) (S := Btw w.heap.size (w.heap.size + 1)) rfl rfl (by decide) (by unfold maxLen; omega) ⟨Nat.le_refl _, by omega⟩
  have h1 : (Rep.slice 175 RPendingInterest).own (w.alloc (.cells (madeCells #[.slice none 0 0, .slice none 0 0, .int .i64 0] (x.length * 3)) 175)) _ _ _ := h0.own (by simpa using ha.2.1)
  clear h0
  go_loopw [4] (fun i wr => ∃ k : Nat, k ≤ x.length ∧ i = .int .i64 k ∧ (Rep.slice 175 RPendingInterest).own wr [.slice (some ⟨w.heap.size, 0, none⟩) x.length x.length] (x.take k ++ List.replicate (x.length - k) RPendingInterest.zero) (Btw w.heap.size wr.heap.size) ∧ Below w.heap.size w wr ∧ w.heap.size < wr.heap.size) (fun i _ => x.length - (intOf i).toNat)
  case atStart => exact ⟨0, Nat.zero_le _, rfl, by simpa using h1, (Below.refl _ _).alloc (Nat.le_refl _) _, by simp⟩
  case round =>
    obtain ⟨k, hk, rfl, hout, hbel, hgt⟩ := hrel
    by_cases hlt : k < x.length
    · obtain ⟨ba, offa, rfl, c0, c1, c2, hr, A0, A1, A2⟩ := Rep.get3 (ha.1.below hbel) hlt rfl
      have hlen : (x.take k ++ List.replicate (x.length - k) RPendingInterest.zero).length = x.length := Rep.fill_length hk
      have hrd : RPendingInterest.rd wr [c0, c1, c2] x[k] := ⟨hr, Rep.raw_bdd ha hlt⟩
      clear hr
      go_wp2_with fail
      refine (toPendingInterest_c hrd).mono ?_
      rintro e w2 ⟨cs, rfl, hown, hb2⟩
      obtain ⟨tv0, tv1, rfl, t_0, t_1, t_2, t_3⟩ := RPendingInterest_raw hown.raw
      obtain ⟨ta0, tp0, th0, tl0⟩ := Rep.len_raw t_1; obtain rfl : tv0 = _ := by simpa using th0
      clear th0
      obtain ⟨ta1, tp1, th1, tl1⟩ := Rep.len_raw t_2; obtain rfl : tv1 = _ := by simpa using th1
      clear th1
      clear t_0 t_1 t_2 t_3
      have hout2 := hout.below hb2
      obtain ⟨o0, o1, o2, hro, O0, O1, O2⟩ := Rep.at3 hout2.raw (i := k) (by omega) rfl
      have hfz := Rep.own_frozen hout2 (by omega)
      have Z0 := hfz (k * 3)
      have Z1 := hfz (k * 3 + 1)
      have Z2 := hfz (k * 3 + 2)
      obtain ⟨hs, ht⟩ := Rep.own_set hout2 (i := k) (p := k * 3) (by omega) hown (fun j h1 h2 => by have a1 := h1.2; have a2 := h2.1; omega) (show k * 3 = 0 + k * 3 by omega)
      rw [Rep.fill_set hlt] at hs
      have hsz := hb2.size
      have hbel2 := hbel.trans (hb2.mono hbel.size)
      have HS := Lib.hid hs; have HT := Lib.hid ht; clear hs ht hout hout2 hro hlen hrd hfz hown hb2
      go_wp2
      go_roundw
      case rel => exact ⟨k + 1, by omega, by go_num, HS.out.wide (fun j hj => hj.elim (fun q => ⟨q.1, by have := q.2; simp [World.setCell] at this ⊢; omega⟩) (fun q => ⟨by have := q.1; omega, by have := q.2; simp [World.setCell] at this ⊢; omega⟩)), (((hbel2.setCell (Nat.le_refl _) _).setCell (Nat.le_refl _) _).setCell (Nat.le_refl _) _), by simp [World.setCell]; omega⟩
      case measure => simp [intOf]; omega
    · rw [Rep.fill_all hk hlt] at hout
      have HO := Lib.hid hout; clear hout
      go_wp2
      go_ret
      exact ⟨_, rfl, HO.out, hbel⟩
set_option maxRecDepth 100000 in
set_option maxHeartbeats 1000000 in
theorem toSeenNonce_c {w : World} {ca : List Value} {x : LSeenNonce} (ha : RSeenNonce.rd w ca x) : Calls Tryz.prog 106 #[.agg ca.toArray] w (MadeAgg RSeenNonce x w) := by
  obtain ⟨ha, hbd⟩ := ha
  obtain ⟨av0, rfl, a_0, a_1, a_2⟩ := RSeenNonce_raw ha
  obtain ⟨x0, x1⟩ := x
  have r0 : RName.rd w _ x0 := ⟨a_0, hbd.1⟩
  have N1 := Lib.hid a_2
  clear ha hbd a_0 a_1 a_2
  go_enter Tryz.func106, Tryz.ntmps106
  go_wp2_with fail
  refine (toName_c (((r0.alloc _).alloc _).alloc _)).mono ?_
  rintro e w1 ⟨cs1, rfl, O1, hb1⟩
  obtain ⟨t1v0, rfl, t1_0⟩ := RName_raw O1.raw
  obtain ⟨t1a0, t1p0, t1h0, t1l0⟩ := Rep.len_raw t1_0; obtain rfl : t1v0 = _ := by simpa using t1h0
  clear t1h0
  clear t1_0
  have L1 : w.heap.size + 3 ≤ w1.heap.size := by have h := hb1.size; simp at h; omega
  have HO1 := Lib.hid (Rep.own.wide (T := Btw (w.heap.size + 3) w1.heap.size) O1 (fun j hj => ⟨by have h := hj.1; simp at h; omega, hj.2⟩)); clear O1
  have E1 : Below w.heap.size w w1 := ((((Below.refl _ _).alloc (Nat.le_refl _) _).alloc (by simp) _).alloc (by simp; omega) _).trans (hb1.mono (by simp; omega))
  have HE1 := Lib.hid E1; clear E1
  have g1_0 : w.heap.size < w1.heap.size := by omega
  have g1_1 : w.heap.size + 1 < w1.heap.size := by omega
  have g1_2 : w.heap.size + 1 + 1 < w1.heap.size := by omega
  obtain ⟨hc1, hf1⟩ := bcell hb1
  clear hb1
  go_wp2
  refine bodyPost_ret (v := .agg #[.slice t1a0 x0.length t1p0, .int .i64 x1]) (by simp [results, Tryz.results106, go_sem, hc1, g1_0, g1_1, g1_2]) rfl ⟨[_, _], rfl, ?_, ?_⟩
  · refine Rep.own.wide (S := Btw (w.heap.size + 3) (w1.heap.size)) ?_ (fun j hj => ⟨by have := hj.1; omega, by have := hj.2; simp [World.setCell]; omega⟩)
    exact Rep.own_flat (r := RName) (q := Rep.int) (cs := [.slice t1a0 x0.length t1p0]) (ds := [.int .i64 x1]) (x := x0) (y := x1) (Rep.own.out HO1.out (fun j h1 h2 => by simp (discharger := (simp; omega)) only [heap_setCell_other])) (Rep.flat_int N1.out)
  · repeat (first | (with_reducible exact HE1.out) | refine Below.setCell ?_ (by simp; try omega) _)
theorem infoSeenNonce : (Tryz.prog.info? 178).map (fun i => (i.zero, i.size, i.bytes)) = some (some (.agg #[.slice none 0 0, .int .i64 0]), 2, 32) := by kernel_rfl
set_option maxRecDepth 100000 in
set_option maxHeartbeats 400000 in
theorem toSeenNonceS_c {w : World} {va : Value} {x : List LSeenNonce} (ha : (Rep.slice 178 RSeenNonce).rd w [va] x) : Calls Tryz.prog 40 #[va] w (MadePost (Rep.slice 178 RSeenNonce) x w) := by
  obtain ⟨aa, capa, hva, la⟩ := Rep.len_raw ha.1; obtain rfl : va = _ := by simpa using hva
  clear hva
  have lb : x.length ≤ 16777216 := ha.2.1
  obtain ⟨i0, hi, hz0, hz1, hz2⟩ := info_parts infoSeenNonce
  have hmk : ∀ W : World, (Instr.makeSlice 52 (.int .i64 (x.length : Int)) (.int .i64 (x.length : Int))).run Tryz.prog W = .ok (.slice (some ⟨W.heap.size, 0, none⟩) x.length x.length) (W.alloc (.cells (madeCells #[.slice none 0 0, .int .i64 0] (x.length * 2)) 178)) := by
    intro W
    have h := run_make (P := Tryz.prog) W 52 178 i0 _ (by kernel_rfl) hi hz0 .i64 .i64 (x.length : Int) (x.length : Int) (by omega) (by omega) (by rw [hz2]; omega) (by omega)
    rw [hz1] at h
    simpa [Value.cells] using h
  clear hz0 hz1 hz2 hi
  go_enter Tryz.func40, Tryz.ntmps40
  go_wp2; clear hmk
  have h0 := Rep.own0_make (e := 178) (w := w) (r := RSeenNonce) (zs := #[.slice none 0 0, .int .i64 0]) (n := x.length) (S := Btw w.heap.size (w.heap.size + 1)) rfl rfl (by decide) (by unfold maxLen; omega) ⟨Nat.le_refl _, by omega⟩
  have h1 : (Rep.slice 178 RSeenNonce).own (w.alloc (.cells (madeCells #[.slice none 0 0, .int .i64 0] (x.length * 2)) 178)) _ _ _ := h0.own (by simpa using ha.2.1)
  clear h0
  go_loopw [4] (fun i wr => ∃ k : Nat, k ≤ x.length ∧ i = .int .i64 k ∧ (Rep.slice 178 RSeenNonce).own wr [.slice (some ⟨w.heap.size, 0, none⟩) x.length x.length] (x.take k ++ List.replicate (x.length - k) RSeenNonce.zero) (Btw w.heap.size wr.heap.size) ∧ Below w.heap.size w wr ∧ w.heap.size < wr.heap.size) (fun i _ => x.length - (intOf i).toNat)
  case atStart => exact ⟨0, Nat.zero_le _, rfl, by simpa using h1, (Below.refl _ _).alloc (Nat.le_refl _) _, by simp⟩
  case round =>
    obtain ⟨k, hk, rfl, hout, hbel, hgt⟩ := hrel
    by_cases hlt : k < x.length
    · obtain ⟨ba, offa, rfl, c0, c1, hr, A0, A1⟩ := Rep.get2 (ha.1.below hbel) hlt rfl
      have hlen : (x.take k ++ List.replicate (x.length - k) RSeenNonce.zero).length = x.length := Rep.fill_length hk
      have hrd : RSeenNonce.rd wr [c0, c1] x[k] := ⟨hr, Rep.raw_bdd ha hlt⟩
      clear hr
      go_wp2_with fail
      refine (toSeenNonce_c hrd).mono ?_
      rintro e w2 ⟨cs, rfl, hown, hb2⟩
      obtain ⟨tv0, rfl, t_0, t_1, t_2⟩ := RSeenNonce_raw hown.raw
      obtain ⟨ta0, tp0, th0, tl0⟩ := Rep.len_raw t_1; obtain rfl : tv0 = _ := by simpa using th0
      clear th0
      clear t_0 t_1 t_2
      have hout2 := hout.below hb2
      obtain ⟨o0, o1, hro, O0, O1⟩ := Rep.at2 hout2.raw (i := k) (by omega) rfl
      have hfz := Rep.own_frozen hout2 (by omega)
      have Z0 := hfz (k * 2)
      have Z1 := hfz (k * 2 + 1)
      obtain ⟨hs, ht⟩ := Rep.own_set hout2 (i := k) (p := k * 2) (by omega) hown (fun j h1 h2 => by have a1 := h1.2; have a2 := h2.1; omega) (show k * 2 = 0 + k * 2 by omega)
      rw [Rep.fill_set hlt] at hs
      have hsz := hb2.size
      have hbel2 := hbel.trans (hb2.mono hbel.size)
      have HS := Lib.hid hs; have HT := Lib.hid ht; clear hs ht hout hout2 hro hlen hrd hfz hown hb2
      go_wp2
      go_roundw
      case rel => exact ⟨k + 1, by omega, by go_num, HS.out.wide (fun j hj => hj.elim (fun q => ⟨q.1, by have := q.2; simp [World.setCell] at this ⊢; omega⟩) (fun q => ⟨by have := q.1; omega, by have := q.2; simp [World.setCell] at this ⊢; omega⟩)), ((hbel2.setCell (Nat.le_refl _) _).setCell (Nat.le_refl _) _), by simp [World.setCell]; omega⟩
      case measure => simp [intOf]; omega
    · rw [Rep.fill_all hk hlt] at hout
      have HO := Lib.hid hout; clear hout
      go_wp2
      go_ret
      exact ⟨_, rfl, HO.out, hbel⟩
set_option maxRecDepth 100000 in
set_option maxHeartbeats 1000000 in
theorem toData_c {w : World} {ca : List Value} {x : LData} (ha : RData.rd w ca x) : Calls Tryz.prog 11 #[.agg ca.toArray] w (MadeAgg RData x w) := by
  obtain ⟨ha, hbd⟩ := ha
  obtain ⟨av0, av1, av2, rfl, a_0, a_1, a_2, a_3, a_4, a_5, a_6⟩ := RData_raw ha
  obtain ⟨x0, x1, x2, x3, x4⟩ := x
  have r0 : RName.rd w _ x0 := ⟨a_0, hbd.1⟩
  have r1 : (Rep.slice 5 Rep.byte).rd w _ x1 := ⟨a_2, hbd.2.1⟩
  have r2 : RName.rd w _ x2 := ⟨a_3, hbd.2.2.1⟩
  have N3 := Lib.hid a_5
  have N4 := Lib.hid a_6
  clear ha hbd a_0 a_1 a_2 a_3 a_4 a_5 a_6
  go_enter Tryz.func11, Tryz.ntmps11
  go_wp2_with fail
  refine (toName_c (((r0.alloc _).alloc _).alloc _)).mono ?_
  rintro e w1 ⟨cs1, rfl, O1, hb1⟩
  obtain ⟨t1v0, rfl, t1_0⟩ := RName_raw O1.raw
  obtain ⟨t1a0, t1p0, t1h0, t1l0⟩ := Rep.len_raw t1_0; obtain rfl : t1v0 = _ := by simpa using t1h0
  clear t1h0
  clear t1_0
  have L1 : w.heap.size + 3 ≤ w1.heap.size := by have h := hb1.size; simp at h; omega
  have HO1 := Lib.hid (Rep.own.wide (T := Btw (w.heap.size + 3) w1.heap.size) O1 (fun j hj => ⟨by have h := hj.1; simp at h; omega, hj.2⟩)); clear O1
  have E1 : Below w.heap.size w w1 := ((((Below.refl _ _).alloc (Nat.le_refl _) _).alloc (by simp) _).alloc (by simp; omega) _).trans (hb1.mono (by simp; omega))
  have HE1 := Lib.hid E1; clear E1
  have g1_0 : w.heap.size < w1.heap.size := by omega
  have g1_1 : w.heap.size + 1 < w1.heap.size := by omega
  have g1_2 : w.heap.size + 1 + 1 < w1.heap.size := by omega
  obtain ⟨hc1, hf1⟩ := bcell hb1
  clear hb1
  go_wp2_with fail
  refine (toByteS_c (r1.below (by repeat (first | (with_reducible exact HE1.out) | refine Below.setCell ?_ (by simp; try omega) _)))).mono ?_
  rintro e w2 ⟨v2, rfl, O2, hb2⟩
  obtain ⟨ta2, tp2, th2, _⟩ := Rep.len_raw O2.raw; obtain rfl : v2 = _ := by simpa using th2
  clear th2
  have L2 : w1.heap.size ≤ w2.heap.size := by have h := hb2.size; simp at h; omega
  have HO2 := Lib.hid (Rep.own.wide (T := Btw (w1.heap.size) w2.heap.size) O2 (fun j hj => ⟨by have h := hj.1; simp at h; omega, hj.2⟩)); clear O2
  have E2 : Below w.heap.size w w2 := Below.trans (by repeat (first | (with_reducible exact HE1.out) | refine Below.setCell ?_ (by simp; try omega) _)) (hb2.mono (by simp; omega))
  have HE2 := Lib.hid E2; clear E2
  have HP1_2 := Lib.hid ((HO1.out).out (w' := w2) (fun j h1 h2 => (hb2.block j (by simp; omega)).trans (by simp (discharger := (simp; omega)) only [heap_setCell_other]))); clear HO1
  have g2_0 : w.heap.size < w2.heap.size := by omega
  have g2_1 : w.heap.size + 1 < w2.heap.size := by omega
  have g2_2 : w.heap.size + 1 + 1 < w2.heap.size := by omega
  obtain ⟨hc2, hf2⟩ := bcell hb2
  clear hb2
  go_wp2_with fail
  refine (toName_c (r2.below (by repeat (first | (with_reducible exact HE2.out) | refine Below.setCell ?_ (by simp; try omega) _)))).mono ?_
  rintro e w3 ⟨cs3, rfl, O3, hb3⟩
  obtain ⟨t3v0, rfl, t3_0⟩ := RName_raw O3.raw
  obtain ⟨t3a0, t3p0, t3h0, t3l0⟩ := Rep.len_raw t3_0; obtain rfl : t3v0 = _ := by simpa using t3h0
  clear t3h0
  clear t3_0
  have L3 : w2.heap.size ≤ w3.heap.size := by have h := hb3.size; simp at h; omega
  have HO3 := Lib.hid (Rep.own.wide (T := Btw (w2.heap.size) w3.heap.size) O3 (fun j hj => ⟨by have h := hj.1; simp at h; omega, hj.2⟩)); clear O3
  have E3 : Below w.heap.size w w3 := Below.trans (by repeat (first | (with_reducible exact HE2.out) | refine Below.setCell ?_ (by simp; try omega) _)) (hb3.mono (by simp; omega))
  have HE3 := Lib.hid E3; clear E3
  have HP1_3 := Lib.hid ((HP1_2.out).out (w' := w3) (fun j h1 h2 => (hb3.block j (by simp; omega)).trans (by simp (discharger := (simp; omega)) only [heap_setCell_other]))); clear HP1_2
  have HP2_3 := Lib.hid ((HO2.out).out (w' := w3) (fun j h1 h2 => (hb3.block j (by simp; omega)).trans (by simp (discharger := (simp; omega)) only [heap_setCell_other]))); clear HO2
  have g3_0 : w.heap.size < w3.heap.size := by omega
  have g3_1 : w.heap.size + 1 < w3.heap.size := by omega
  have g3_2 : w.heap.size + 1 + 1 < w3.heap.size := by omega
  obtain ⟨hc3, hf3⟩ := bcell hb3
  clear hb3
  go_wp2
  refine bodyPost_ret (v := .agg #[.slice t1a0 x0.length t1p0, .slice ta2 x1.length tp2, .slice t3a0 x2.length t3p0, .int .i64 x3, .int .i64 x4]) (by simp [results, Tryz.results11, go_sem, hc1, g1_0, g1_1, g1_2, hc2, g2_0, g2_1, g2_2, hc3, g3_0, g3_1, g3_2]) rfl ⟨[_, _, _, _, _], rfl, ?_, ?_⟩
  · refine Rep.own.wide (S := Btw (w.heap.size + 3) (w3.heap.size)) ?_ (fun j hj => ⟨by have := hj.1; omega, by have := hj.2; simp [World.setCell]; omega⟩)
    exact Rep.own_pair (r := RName) (q := (Rep.pair (Rep.slice 5 Rep.byte) (Rep.pair RName (Rep.pair Rep.int Rep.int)))) (cs := [.slice t1a0 x0.length t1p0]) (ds := [.slice ta2 x1.length tp2, .slice t3a0 x2.length t3p0, .int .i64 x3, .int .i64 x4]) (x := x0) (y := (x1, x2, x3, x4)) (S := Btw (w.heap.size + 3) (w3.heap.size)) (Rep.own.out HP1_3.out (fun j h1 h2 => by simp (discharger := (simp; omega)) only [heap_setCell_other])) (Rep.own_pair (r := (Rep.slice 5 Rep.byte)) (q := (Rep.pair RName (Rep.pair Rep.int Rep.int))) (cs := [.slice ta2 x1.length tp2]) (ds := [.slice t3a0 x2.length t3p0, .int .i64 x3, .int .i64 x4]) (x := x1) (y := (x2, x3, x4)) (S := Btw (w1.heap.size) (w3.heap.size)) (Rep.own.out HP2_3.out (fun j h1 h2 => by simp (discharger := (simp; omega)) only [heap_setCell_other])) (Rep.own_flat (r := RName) (q := (Rep.pair Rep.int Rep.int)) (cs := [.slice t3a0 x2.length t3p0]) (ds := [.int .i64 x3, .int .i64 x4]) (x := x2) (y := (x3, x4)) (Rep.own.out HO3.out (fun j h1 h2 => by simp (discharger := (simp; omega)) only [heap_setCell_other])) (Rep.flat_pair (r := Rep.int) (q := Rep.int) (cs := [.int .i64 x3]) (ds := [.int .i64 x4]) (x := x3) (y := x4) (Rep.flat_int N3.out) (Rep.flat_int N4.out))) (fun j hj => ⟨hj.1, by have := hj.2; omega⟩) (fun j hj => ⟨by have := hj.1; omega, hj.2⟩) (fun j h1 h2 => by have p := h1.2; have q := h2.1; omega)) (fun j hj => ⟨hj.1, by have := hj.2; omega⟩) (fun j hj => ⟨by have := hj.1; omega, hj.2⟩) (fun j h1 h2 => by have p := h1.2; have q := h2.1; omega)
  · repeat (first | (with_reducible exact HE3.out) | refine Below.setCell ?_ (by simp; try omega) _)
theorem infoData : (Tryz.prog.info? 66).map (fun i => (i.zero, i.size, i.bytes)) = some (some (.agg #[.slice none 0 0, .slice none 0 0, .slice none 0 0, .int .i64 0, .int .i64 0]), 5, 88) := by kernel_rfl
set_option maxRecDepth 100000 in
set_option maxHeartbeats 400000 in
theorem toDataS_c {w : World} {va : Value} {x : List LData} (ha : (Rep.slice 66 RData).rd w [va] x) : Calls Tryz.prog 37 #[va] w (MadePost (Rep.slice 66 RData) x w) := by
  obtain ⟨aa, capa, hva, la⟩ := Rep.len_raw ha.1; obtain rfl : va = _ := by simpa using hva
  clear hva
  have lb : x.length ≤ 16777216 := ha.2.1
  obtain ⟨i0, hi, hz0, hz1, hz2⟩ := info_parts infoData
  have hmk : ∀ W : World, (Instr.makeSlice 47 (.int .i64 (x.length : Int)) (.int .i64 (x.length : Int))).run Tryz.prog W = .ok (.slice (some ⟨W.heap.size, 0, none⟩) x.length x.length) (W.alloc (.cells (madeCells #[.slice none 0 0, .slice none 0 0, .slice none 0 0, .int .i64 0, .int .i64 0] (x.length * 5)) 66)) := by
    intro W
    have h := run_make (P := Tryz.prog) W 47 66 i0 _ (by kernel_rfl) hi hz0 .i64 .i64 (x.length : Int) (x.length : Int) (by omega) (by omega) (by rw [hz2]; omega) (by omega)
    rw [hz1] at h
    simpa [Value.cells] using h
  clear hz0 hz1 hz2 hi
  go_enter Tryz.func37, Tryz.ntmps37
  go_wp2; clear hmk
  have h0 := Rep.own0_make (e := 66) (w := w) (r := RData) (zs := #[.slice none 0 0, .slice none 0 0, .slice none 0 0, .int .i64 0, .int .i64 0]) (n := x.length) (S := Btw w.heap.size (w.heap.size + 1)) rfl rfl (by decide) (by unfold maxLen; omega) ⟨Nat.le_refl _, by omega⟩
  have h1 : (Rep.slice 66 RData).own (w.alloc (.cells (madeCells #[.slice none 0 0, .slice none 0 0, .slice none 0 0, .int .i64 0, .int .i64 0] (x.length * 5)) 66)) _ _ _ := h0.own (by simpa using ha.2.1)
  clear h0
  go_loopw [4] (fun i wr => ∃ k : Nat, k ≤ x.length ∧ i = .int .i64 k ∧ (Rep.slice 66 RData).own wr [.slice (some ⟨w.heap.size, 0, none⟩) x.length x.length] (x.take k ++ List.replicate (x.length - k) RData.zero) (Btw w.heap.size wr.heap.size) ∧ Below w.heap.size w wr ∧ w.heap.size < wr.heap.size) (fun i _ => x.length - (intOf i).toNat)
  case atStart => exact ⟨0, Nat.zero_le _, rfl, by simpa using h1, (Below.refl _ _).alloc (Nat.le_refl _) _, by simp⟩
  case round =>
    obtain ⟨k, hk, rfl, hout, hbel, hgt⟩ := hrel
    by_cases hlt : k < x.length
    · obtain ⟨ba, offa, rfl, c0, c1, c2, c3, c4, hr, A0, A1, A2, A3, A4⟩ := Rep.get5 (ha.1.below hbel) hlt rfl
      have hlen : (x.take k ++ List.replicate (x.length - k) RData.zero).length = x.length := Rep.fill_length hk
      have hrd : RData.rd wr [c0, c1, c2, c3, c4] x[k] := ⟨hr, Rep.raw_bdd ha hlt⟩
      clear hr
      go_wp2_with fail
      refine (toData_c hrd).mono ?_
      rintro e w2 ⟨cs, rfl, hown, hb2⟩
      obtain ⟨tv0, tv1, tv2, rfl, t_0, t_1, t_2, t_3, t_4, t_5, t_6⟩ := RData_raw hown.raw
      obtain ⟨ta0, tp0, th0, tl0⟩ := Rep.len_raw t_1; obtain rfl : tv0 = _ := by simpa using th0
      clear th0
      obtain ⟨ta1, tp1, th1, tl1⟩ := Rep.len_raw t_2; obtain rfl : tv1 = _ := by simpa using th1
      clear th1
      obtain ⟨ta2, tp2, th2, tl2⟩ := Rep.len_raw t_4; obtain rfl : tv2 = _ := by simpa using th2
      clear th2
      clear t_0 t_1 t_2 t_3 t_4 t_5 t_6
      have hout2 := hout.below hb2
      obtain ⟨o0, o1, o2, o3, o4, hro, O0, O1, O2, O3, O4⟩ := Rep.at5 hout2.raw (i := k) (by omega) rfl
      have hfz := Rep.own_frozen hout2 (by omega)
      have Z0 := hfz (k * 5)
      have Z1 := hfz (k * 5 + 1)
      have Z2 := hfz (k * 5 + 2)
      have Z3 := hfz (k * 5 + 3)
      have Z4 := hfz (k * 5 + 4)
      obtain ⟨hs, ht⟩ := Rep.own_set hout2 (i := k) (p := k * 5) (by omega) hown (fun j h1 h2 => by have a1 := h1.2; have a2 := h2.1; omega) (show k * 5 = 0 + k * 5 by omega)
      rw [Rep.fill_set hlt] at hs
      have hsz := hb2.size
      have hbel2 := hbel.trans (hb2.mono hbel.size)
      have HS := Lib.hid hs; have HT := Lib.hid ht; clear hs ht hout hout2 hro hlen hrd hfz hown hb2
      go_wp2
      go_roundw
      case rel => exact ⟨k + 1, by omega, by go_num, HS.out.wide (fun j hj => hj.elim (fun q => ⟨q.1, by have := q.2; simp [World.setCell] at this ⊢; omega⟩) (fun q => ⟨by have := q.1; omega, by have := q.2; simp [World.setCell] at this ⊢; omega⟩)), (((((hbel2.setCell (Nat.le_refl _) _).setCell (Nat.le_refl _) _).setCell (Nat.le_refl _) _).setCell (Nat.le_refl _) _).setCell (Nat.le_refl _) _), by simp [World.setCell]; omega⟩
      case measure => simp [intOf]; omega
    · rw [Rep.fill_all hk hlt] at hout
      have HO := Lib.hid hout; clear hout
      go_wp2
      go_ret
      exact ⟨_, rfl, HO.out, hbel⟩
set_option maxRecDepth 100000 in
set_option maxHeartbeats 1000000 in
theorem toCacheEntry_c {w : World} {ca : List Value} {x : LCacheEntry} (ha : RCacheEntry.rd w ca x) : Calls Tryz.prog 174 #[.agg ca.toArray] w (MadeAgg RCacheEntry x w) := by
  obtain ⟨ha, hbd⟩ := ha
  obtain ⟨av0, av1, av2, rfl, a_0, a_1, a_2, a_3, a_4, a_5, a_6, a_7, a_8⟩ := RCacheEntry_raw ha
  obtain ⟨x0, x1⟩ := x
  have r0 : RData.rd w _ x0 := ⟨a_0, hbd.1⟩
  have N1 := Lib.hid a_8
  clear ha hbd a_0 a_1 a_2 a_3 a_4 a_5 a_6 a_7 a_8
  go_enter Tryz.func174, Tryz.ntmps174
  go_wp2_with fail
  refine (toData_c (((r0.alloc _).alloc _).alloc _)).mono ?_
  rintro e w1 ⟨cs1, rfl, O1, hb1⟩
  obtain ⟨t1v0, t1v1, t1v2, rfl, t1_0, t1_1, t1_2, t1_3, t1_4, t1_5, t1_6⟩ := RData_raw O1.raw
  obtain ⟨t1a0, t1p0, t1h0, t1l0⟩ := Rep.len_raw t1_1; obtain rfl : t1v0 = _ := by simpa using t1h0
  clear t1h0
  obtain ⟨t1a1, t1p1, t1h1, t1l1⟩ := Rep.len_raw t1_2; obtain rfl : t1v1 = _ := by simpa using t1h1
  clear t1h1
  obtain ⟨t1a2, t1p2, t1h2, t1l2⟩ := Rep.len_raw t1_4; obtain rfl : t1v2 = _ := by simpa using t1h2
  clear t1h2
  clear t1_0 t1_1 t1_2 t1_3 t1_4 t1_5 t1_6
  have L1 : w.heap.size + 3 ≤ w1.heap.size := by have h := hb1.size; simp at h; omega
  have HO1 := Lib.hid (Rep.own.wide (T := Btw (w.heap.size + 3) w1.heap.size) O1 (fun j hj => ⟨by have h := hj.1; simp at h; omega, hj.2⟩)); clear O1
  have E1 : Below w.heap.size w w1 := ((((Below.refl _ _).alloc (Nat.le_refl _) _).alloc (by simp) _).alloc (by simp; omega) _).trans (hb1.mono (by simp; omega))
  have HE1 := Lib.hid E1; clear E1
  have g1_0 : w.heap.size < w1.heap.size := by omega
  have g1_1 : w.heap.size + 1 < w1.heap.size := by omega
  have g1_2 : w.heap.size + 1 + 1 < w1.heap.size := by omega
  obtain ⟨hc1, hf1⟩ := bcell hb1
  clear hb1
  go_wp2
  refine bodyPost_ret (v := .agg #[.slice t1a0 x0.1.length t1p0, .slice t1a1 x0.2.1.length t1p1, .slice t1a2 x0.2.2.1.length t1p2, .int .i64 x0.2.2.2.1, .int .i64 x0.2.2.2.2, .int .i64 x1]) (by simp [results, Tryz.results174, go_sem, hc1, g1_0, g1_1, g1_2]) rfl ⟨[_, _, _, _, _, _], rfl, ?_, ?_⟩
  · refine Rep.own.wide (S := Btw (w.heap.size + 3) (w1.heap.size)) ?_ (fun j hj => ⟨by have := hj.1; omega, by have := hj.2; simp [World.setCell]; omega⟩)
    exact Rep.own_flat (r := RData) (q := Rep.int) (cs := [.slice t1a0 x0.1.length t1p0, .slice t1a1 x0.2.1.length t1p1, .slice t1a2 x0.2.2.1.length t1p2, .int .i64 x0.2.2.2.1, .int .i64 x0.2.2.2.2]) (ds := [.int .i64 x1]) (x := x0) (y := x1) (Rep.own.out HO1.out (fun j h1 h2 => by simp (discharger := (simp; omega)) only [heap_setCell_other])) (Rep.flat_int N1.out)
  · repeat (first | (with_reducible exact HE1.out) | refine Below.setCell ?_ (by simp; try omega) _)
theorem infoCacheEntry : (Tryz.prog.info? 212).map (fun i => (i.zero, i.size, i.bytes)) = some (some (.agg #[.slice none 0 0, .slice none 0 0, .slice none 0 0, .int .i64 0, .int .i64 0, .int .i64 0]), 6, 96) := by kernel_rfl
set_option maxRecDepth 100000 in
set_option maxHeartbeats 400000 in
theorem toCacheEntryS_c {w : World} {va : Value} {x : List LCacheEntry} (ha : (Rep.slice 212 RCacheEntry).rd w [va] x) : Calls Tryz.prog 104 #[va] w (MadePost (Rep.slice 212 RCacheEntry) x w) := by
  obtain ⟨aa, capa, hva, la⟩ := Rep.len_raw ha.1; obtain rfl : va = _ := by simpa using hva
  clear hva
  have lb : x.length ≤ 16777216 := ha.2.1
  obtain ⟨i0, hi, hz0, hz1, hz2⟩ := info_parts infoCacheEntry
  have hmk : ∀ W : World, (Instr.makeSlice 48 (.int .i64 (x.length : Int)) (.int .i64 (x.length : Int))).run Tryz.prog W = .ok (.slice (some ⟨W.heap.size, 0, none⟩) x.length x.length) (W.alloc (.cells (madeCells #[.slice none 0 0, .slice none 0 0, .slice none 0 0, .int .i64 0, .int .i64 0, .int .i64 0] (x.length * 6)) 212)) := by
    intro W
    have h := run_make (P := Tryz.prog) W 48 212 i0 _ (by kernel_rfl) hi hz0 .i64 .i64 (x.length : Int) (x.length : Int) (by omega) (by omega) (by rw [hz2]; omega) (by omega)
    rw [hz1] at h
    simpa [Value.cells] using h
  clear hz0 hz1 hz2 hi
  go_enter Tryz.func104, Tryz.ntmps104
  go_wp2; clear hmk
  have h0 := Rep.own0_make (e := 212) (w := w) (r := RCacheEntry) (zs := #[.slice none 0 0, .slice none 0 0, .slice none 0 0, .int .i64 0, .int .i64 0, .int .i64 0]) (n := x.length) (S := Btw w.heap.size (w.heap.size + 1)) rfl rfl (by decide) (by unfold maxLen; omega) ⟨Nat.le_refl _, by omega⟩
  have h1 : (Rep.slice 212 RCacheEntry).own (w.alloc (.cells (madeCells #[.slice none 0 0, .slice none 0 0, .slice none 0 0, .int .i64 0, .int .i64 0, .int .i64 0] (x.length * 6)) 212)) _ _ _ := h0.own (by simpa using ha.2.1)
  clear h0
  go_loopw [4] (fun i wr => ∃ k : Nat, k ≤ x.length ∧ i = .int .i64 k ∧ (Rep.slice 212 RCacheEntry).own wr [.slice (some ⟨w.heap.size, 0, none⟩) x.length x.length] (x.take k ++ List.replicate (x.length - k) RCacheEntry.zero) (Btw w.heap.size wr.heap.size) ∧ Below w.heap.size w wr ∧ w.heap.size < wr.heap.size) (fun i _ => x.length - (intOf i).toNat)
  case atStart => exact ⟨0, Nat.zero_le _, rfl, by simpa using h1, (Below.refl _ _).alloc (Nat.le_refl _) _, by simp⟩
  case round =>
    obtain ⟨k, hk, rfl, hout, hbel, hgt⟩ := hrel
    by_cases hlt : k < x.length
    · obtain ⟨ba, offa, rfl, c0, c1, c2, c3, c4, c5, hr, A0, A1, A2, A3, A4, A5⟩ := Rep.get6 (ha.1.below hbel) hlt rfl
      have hlen : (x.take k ++ List.replicate (x.length - k) RCacheEntry.zero).length = x.length := Rep.fill_length hk
      have hrd : RCacheEntry.rd wr [c0, c1, c2, c3, c4, c5] x[k] := ⟨hr, Rep.raw_bdd ha hlt⟩
      clear hr
      go_wp2_with fail
      refine (toCacheEntry_c hrd).mono ?_
      rintro e w2 ⟨cs, rfl, hown, hb2⟩
      obtain ⟨tv0, tv1, tv2, rfl, t_0, t_1, t_2, t_3, t_4, t_5, t_6, t_7, t_8⟩ := RCacheEntry_raw hown.raw
      obtain ⟨ta0, tp0, th0, tl0⟩ := Rep.len_raw t_2; obtain rfl : tv0 = _ := by simpa using th0
      clear th0
      obtain ⟨ta1, tp1, th1, tl1⟩ := Rep.len_raw t_3; obtain rfl : tv1 = _ := by simpa using th1
      clear th1
      obtain ⟨ta2, tp2, th2, tl2⟩ := Rep.len_raw t_5; obtain rfl : tv2 = _ := by simpa using th2
      clear th2
      clear t_0 t_1 t_2 t_3 t_4 t_5 t_6 t_7 t_8
      have hout2 := hout.below hb2
      obtain ⟨o0, o1, o2, o3, o4, o5, hro, O0, O1, O2, O3, O4, O5⟩ := Rep.at6 hout2.raw (i := k) (by omega) rfl
      have hfz := Rep.own_frozen hout2 (by omega)
      have Z0 := hfz (k * 6)
      have Z1 := hfz (k * 6 + 1)
      have Z2 := hfz (k * 6 + 2)
      have Z3 := hfz (k * 6 + 3)
      have Z4 := hfz (k * 6 + 4)
      have Z5 := hfz (k * 6 + 5)
      obtain ⟨hs, ht⟩ := Rep.own_set hout2 (i := k) (p := k * 6) (by omega) hown (fun j h1 h2 => by have a1 := h1.2; have a2 := h2.1; omega) (show k * 6 = 0 + k * 6 by omega)
      rw [Rep.fill_set hlt] at hs
      have hsz := hb2.size
      have hbel2 := hbel.trans (hb2.mono hbel.size)
      have HS := Lib.hid hs; have HT := Lib.hid ht; clear hs ht hout hout2 hro hlen hrd hfz hown hb2
      go_wp2
      go_roundw
      case rel => exact ⟨k + 1, by omega, by go_num, HS.out.wide (fun j hj => hj.elim (fun q => ⟨q.1, by have := q.2; simp [World.setCell] at this ⊢; omega⟩) (fun q => ⟨by have := q.1; omega, by have := q.2; simp [World.setCell] at this ⊢; omega⟩)), ((((((hbel2.setCell (Nat.le_refl _) _).setCell (Nat.le_refl _) _).setCell (Nat.le_refl _) _).setCell (Nat.le_refl _) _).setCell (Nat.le_refl _) _).setCell (Nat.le_refl _) _), by simp [World.setCell]; omega⟩
      case measure => simp [intOf]; omega
    · rw [Rep.fill_all hk hlt] at hout
      have HO := Lib.hid hout; clear hout
      go_wp2
      go_ret
      exact ⟨_, rfl, HO.out, hbel⟩
set_option maxRecDepth 100000 in
set_option maxHeartbeats 1000000 in
theorem toContentStore_c {w : World} {ca : List Value} {x : LContentStore} (ha : RContentStore.rd w ca x) : Calls Tryz.prog 38 #[.agg ca.toArray] w (MadeAgg RContentStore x w) := by
  obtain ⟨ha, hbd⟩ := ha
  obtain ⟨av1, rfl, a_0, a_1⟩ := RContentStore_raw ha
  obtain ⟨x0, x1⟩ := x
  have N0 := Lib.hid a_0
  have r1 : (Rep.slice 212 RCacheEntry).rd w _ x1 := ⟨a_1, hbd.2⟩
  clear ha hbd a_0 a_1
  go_enter Tryz.func38, Tryz.ntmps38
  go_wp2_with fail
  refine (toCacheEntryS_c (((r1.alloc _).alloc _).alloc _)).mono ?_
  rintro e w1 ⟨v1, rfl, O1, hb1⟩
  obtain ⟨ta1, tp1, th1, _⟩ := Rep.len_raw O1.raw; obtain rfl : v1 = _ := by simpa using th1
  clear th1
  have L1 : w.heap.size + 3 ≤ w1.heap.size := by have h := hb1.size; simp at h; omega
  have HO1 := Lib.hid (Rep.own.wide (T := Btw (w.heap.size + 3) w1.heap.size) O1 (fun j hj => ⟨by have h := hj.1; simp at h; omega, hj.2⟩)); clear O1
  have E1 : Below w.heap.size w w1 := ((((Below.refl _ _).alloc (Nat.le_refl _) _).alloc (by simp) _).alloc (by simp; omega) _).trans (hb1.mono (by simp; omega))
  have HE1 := Lib.hid E1; clear E1
  have g1_0 : w.heap.size < w1.heap.size := by omega
  have g1_1 : w.heap.size + 1 < w1.heap.size := by omega
  have g1_2 : w.heap.size + 1 + 1 < w1.heap.size := by omega
  obtain ⟨hc1, hf1⟩ := bcell hb1
  clear hb1
  go_wp2
  refine bodyPost_ret (v := .agg #[.int .i64 x0, .slice ta1 x1.length tp1]) (by simp [results, Tryz.results38, go_sem, hc1, g1_0, g1_1, g1_2]) rfl ⟨[_, _], rfl, ?_, ?_⟩
  · refine Rep.own.wide (S := Btw (w.heap.size + 3) (w1.heap.size)) ?_ (fun j hj => ⟨by have := hj.1; omega, by have := hj.2; simp [World.setCell]; omega⟩)
    exact Rep.flat_own (r := Rep.int) (q := (Rep.slice 212 RCacheEntry)) (cs := [.int .i64 x0]) (ds := [.slice ta1 x1.length tp1]) (x := x0) (y := x1) (Rep.flat_int N0.out) (Rep.own.out HO1.out (fun j h1 h2 => by simp (discharger := (simp; omega)) only [heap_setCell_other]))
  · repeat (first | (with_reducible exact HE1.out) | refine Below.setCell ?_ (by simp; try omega) _)
set_option maxRecDepth 100000 in
set_option maxHeartbeats 1000000 in
theorem toNode_c {w : World} {ca : List Value} {x : LNode} (ha : RNode.rd w ca x) : Calls Tryz.prog 9 #[.agg ca.toArray] w (MadeAgg RNode x w) := by
  obtain ⟨ha, hbd⟩ := ha
  obtain ⟨av0, av2, av3, av4, av5, av6, rfl, a_0, a_1, a_2, a_3, a_4, a_5, a_6, a_7, a_8⟩ := RNode_raw ha
  obtain ⟨x0, x1, x2, x3, x4, x5, x6⟩ := x
  have r0 : (Rep.slice 66 RData).rd w _ x0 := ⟨a_0, hbd.1⟩
  have r1 : RContentStore.rd w _ x1 := ⟨a_1, hbd.2.1⟩
  have r2 : (Rep.slice 175 RPendingInterest).rd w _ x2 := ⟨a_4, hbd.2.2.1⟩
  have r3 : (Rep.slice 178 RSeenNonce).rd w _ x3 := ⟨a_5, hbd.2.2.2.1⟩
  have r4 : (Rep.slice 181 RRoute).rd w _ x4 := ⟨a_6, hbd.2.2.2.2.1⟩
  have r5 : (Rep.slice 184 RMeasurement).rd w _ x5 := ⟨a_7, hbd.2.2.2.2.2.1⟩
  have N6 := Lib.hid a_8
  clear ha hbd a_0 a_1 a_2 a_3 a_4 a_5 a_6 a_7 a_8
  go_enter Tryz.func9, Tryz.ntmps9
  go_wp2_with fail
  refine (toDataS_c (((r0.alloc _).alloc _).alloc _)).mono ?_
  rintro e w1 ⟨v1, rfl, O1, hb1⟩
  obtain ⟨ta1, tp1, th1, _⟩ := Rep.len_raw O1.raw; obtain rfl : v1 = _ := by simpa using th1
  clear th1
  have L1 : w.heap.size + 3 ≤ w1.heap.size := by have h := hb1.size; simp at h; omega
  have HO1 := Lib.hid (Rep.own.wide (T := Btw (w.heap.size + 3) w1.heap.size) O1 (fun j hj => ⟨by have h := hj.1; simp at h; omega, hj.2⟩)); clear O1
  have E1 : Below w.heap.size w w1 := ((((Below.refl _ _).alloc (Nat.le_refl _) _).alloc (by simp) _).alloc (by simp; omega) _).trans (hb1.mono (by simp; omega))
  have HE1 := Lib.hid E1; clear E1
  have g1_0 : w.heap.size < w1.heap.size := by omega
  have g1_1 : w.heap.size + 1 < w1.heap.size := by omega
  have g1_2 : w.heap.size + 1 + 1 < w1.heap.size := by omega
  obtain ⟨hc1, hf1⟩ := bcell hb1
  clear hb1
  go_wp2_with fail
  refine (toContentStore_c (r1.below (by repeat (first | (with_reducible exact HE1.out) | refine Below.setCell ?_ (by simp; try omega) _)))).mono ?_
  rintro e w2 ⟨cs2, rfl, O2, hb2⟩
  obtain ⟨t2v1, rfl, t2_0, t2_1⟩ := RContentStore_raw O2.raw
  obtain ⟨t2a1, t2p1, t2h1, t2l1⟩ := Rep.len_raw t2_1; obtain rfl : t2v1 = _ := by simpa using t2h1
  clear t2h1
  clear t2_0 t2_1
  have L2 : w1.heap.size ≤ w2.heap.size := by have h := hb2.size; simp at h; omega
  have HO2 := Lib.hid (Rep.own.wide (T := Btw (w1.heap.size) w2.heap.size) O2 (fun j hj => ⟨by have h := hj.1; simp at h; omega, hj.2⟩)); clear O2
  have E2 : Below w.heap.size w w2 := Below.trans (by repeat (first | (with_reducible exact HE1.out) | refine Below.setCell ?_ (by simp; try omega) _)) (hb2.mono (by simp; omega))
  have HE2 := Lib.hid E2; clear E2
  have HP1_2 := Lib.hid ((HO1.out).out (w' := w2) (fun j h1 h2 => (hb2.block j (by simp; omega)).trans (by simp (discharger := (simp; omega)) only [heap_setCell_other]))); clear HO1
  have g2_0 : w.heap.size < w2.heap.size := by omega
  have g2_1 : w.heap.size + 1 < w2.heap.size := by omega
  have g2_2 : w.heap.size + 1 + 1 < w2.heap.size := by omega
  obtain ⟨hc2, hf2⟩ := bcell hb2
  clear hb2
  go_wp2_with fail
  refine (toPendingInterestS_c (r2.below (by repeat (first | (with_reducible exact HE2.out) | refine Below.setCell ?_ (by simp; try omega) _)))).mono ?_
  rintro e w3 ⟨v3, rfl, O3, hb3⟩
  obtain ⟨ta3, tp3, th3, _⟩ := Rep.len_raw O3.raw; obtain rfl : v3 = _ := by simpa using th3
  clear th3
  have L3 : w2.heap.size ≤ w3.heap.size := by have h := hb3.size; simp at h; omega
  have HO3 := Lib.hid (Rep.own.wide (T := Btw (w2.heap.size) w3.heap.size) O3 (fun j hj => ⟨by have h := hj.1; simp at h; omega, hj.2⟩)); clear O3
  have E3 : Below w.heap.size w w3 := Below.trans (by repeat (first | (with_reducible exact HE2.out) | refine Below.setCell ?_ (by simp; try omega) _)) (hb3.mono (by simp; omega))
  have HE3 := Lib.hid E3; clear E3
  have HP1_3 := Lib.hid ((HP1_2.out).out (w' := w3) (fun j h1 h2 => (hb3.block j (by simp; omega)).trans (by simp (discharger := (simp; omega)) only [heap_setCell_other]))); clear HP1_2
  have HP2_3 := Lib.hid ((HO2.out).out (w' := w3) (fun j h1 h2 => (hb3.block j (by simp; omega)).trans (by simp (discharger := (simp; omega)) only [heap_setCell_other]))); clear HO2
  have g3_0 : w.heap.size < w3.heap.size := by omega
  have g3_1 : w.heap.size + 1 < w3.heap.size := by omega
  have g3_2 : w.heap.size + 1 + 1 < w3.heap.size := by omega
  obtain ⟨hc3, hf3⟩ := bcell hb3
  clear hb3
  go_wp2_with fail
  refine (toSeenNonceS_c (r3.below (by repeat (first | (with_reducible exact HE3.out) | refine Below.setCell ?_ (by simp; try omega) _)))).mono ?_
  rintro e w4 ⟨v4, rfl, O4, hb4⟩
  obtain ⟨ta4, tp4, th4, _⟩ := Rep.len_raw O4.raw; obtain rfl : v4 = _ := by simpa using th4
  clear th4
  have L4 : w3.heap.size ≤ w4.heap.size := by have h := hb4.size; simp at h; omega
  have HO4 := Lib.hid (Rep.own.wide (T := Btw (w3.heap.size) w4.heap.size) O4 (fun j hj => ⟨by have h := hj.1; simp at h; omega, hj.2⟩)); clear O4
  have E4 : Below w.heap.size w w4 := Below.trans (by repeat (first | (with_reducible exact HE3.out) | refine Below.setCell ?_ (by simp; try omega) _)) (hb4.mono (by simp; omega))
  have HE4 := Lib.hid E4; clear E4
  have HP1_4 := Lib.hid ((HP1_3.out).out (w' := w4) (fun j h1 h2 => (hb4.block j (by simp; omega)).trans (by simp (discharger := (simp; omega)) only [heap_setCell_other]))); clear HP1_3
  have HP2_4 := Lib.hid ((HP2_3.out).out (w' := w4) (fun j h1 h2 => (hb4.block j (by simp; omega)).trans (by simp (discharger := (simp; omega)) only [heap_setCell_other]))); clear HP2_3
  have HP3_4 := Lib.hid ((HO3.out).out (w' := w4) (fun j h1 h2 => (hb4.block j (by simp; omega)).trans (by simp (discharger := (simp; omega)) only [heap_setCell_other]))); clear HO3
  have g4_0 : w.heap.size < w4.heap.size := by omega
  have g4_1 : w.heap.size + 1 < w4.heap.size := by omega
  have g4_2 : w.heap.size + 1 + 1 < w4.heap.size := by omega
  obtain ⟨hc4, hf4⟩ := bcell hb4
  clear hb4
  go_wp2_with fail
  refine (toRouteS_c (r4.below (by repeat (first | (with_reducible exact HE4.out) | refine Below.setCell ?_ (by simp; try omega) _)))).mono ?_
  rintro e w5 ⟨v5, rfl, O5, hb5⟩
  obtain ⟨ta5, tp5, th5, _⟩ := Rep.len_raw O5.raw; obtain rfl : v5 = _ := by simpa using th5
  clear th5
  have L5 : w4.heap.size ≤ w5.heap.size := by have h := hb5.size; simp at h; omega
  have HO5 := Lib.hid (Rep.own.wide (T := Btw (w4.heap.size) w5.heap.size) O5 (fun j hj => ⟨by have h := hj.1; simp at h; omega, hj.2⟩)); clear O5
  have E5 : Below w.heap.size w w5 := Below.trans (by repeat (first | (with_reducible exact HE4.out) | refine Below.setCell ?_ (by simp; try omega) _)) (hb5.mono (by simp; omega))
  have HE5 := Lib.hid E5; clear E5
  have HP1_5 := Lib.hid ((HP1_4.out).out (w' := w5) (fun j h1 h2 => (hb5.block j (by simp; omega)).trans (by simp (discharger := (simp; omega)) only [heap_setCell_other]))); clear HP1_4
  have HP2_5 := Lib.hid ((HP2_4.out).out (w' := w5) (fun j h1 h2 => (hb5.block j (by simp; omega)).trans (by simp (discharger := (simp; omega)) only [heap_setCell_other]))); clear HP2_4
  have HP3_5 := Lib.hid ((HP3_4.out).out (w' := w5) (fun j h1 h2 => (hb5.block j (by simp; omega)).trans (by simp (discharger := (simp; omega)) only [heap_setCell_other]))); clear HP3_4
  have HP4_5 := Lib.hid ((HO4.out).out (w' := w5) (fun j h1 h2 => (hb5.block j (by simp; omega)).trans (by simp (discharger := (simp; omega)) only [heap_setCell_other]))); clear HO4
  have g5_0 : w.heap.size < w5.heap.size := by omega
  have g5_1 : w.heap.size + 1 < w5.heap.size := by omega
  have g5_2 : w.heap.size + 1 + 1 < w5.heap.size := by omega
  obtain ⟨hc5, hf5⟩ := bcell hb5
  clear hb5
  go_wp2_with fail
  refine (toMeasurementS_c (r5.below (by repeat (first | (with_reducible exact HE5.out) | refine Below.setCell ?_ (by simp; try omega) _)))).mono ?_
  rintro e w6 ⟨v6, rfl, O6, hb6⟩
  obtain ⟨ta6, tp6, th6, _⟩ := Rep.len_raw O6.raw; obtain rfl : v6 = _ := by simpa using th6
  clear th6
  have L6 : w5.heap.size ≤ w6.heap.size := by have h := hb6.size; simp at h; omega
  have HO6 := Lib.hid (Rep.own.wide (T := Btw (w5.heap.size) w6.heap.size) O6 (fun j hj => ⟨by have h := hj.1; simp at h; omega, hj.2⟩)); clear O6
  have E6 : Below w.heap.size w w6 := Below.trans (by repeat (first | (with_reducible exact HE5.out) | refine Below.setCell ?_ (by simp; try omega) _)) (hb6.mono (by simp; omega))
  have HE6 := Lib.hid E6; clear E6
  have HP1_6 := Lib.hid ((HP1_5.out).out (w' := w6) (fun j h1 h2 => (hb6.block j (by simp; omega)).trans (by simp (discharger := (simp; omega)) only [heap_setCell_other]))); clear HP1_5
  have HP2_6 := Lib.hid ((HP2_5.out).out (w' := w6) (fun j h1 h2 => (hb6.block j (by simp; omega)).trans (by simp (discharger := (simp; omega)) only [heap_setCell_other]))); clear HP2_5
  have HP3_6 := Lib.hid ((HP3_5.out).out (w' := w6) (fun j h1 h2 => (hb6.block j (by simp; omega)).trans (by simp (discharger := (simp; omega)) only [heap_setCell_other]))); clear HP3_5
  have HP4_6 := Lib.hid ((HP4_5.out).out (w' := w6) (fun j h1 h2 => (hb6.block j (by simp; omega)).trans (by simp (discharger := (simp; omega)) only [heap_setCell_other]))); clear HP4_5
  have HP5_6 := Lib.hid ((HO5.out).out (w' := w6) (fun j h1 h2 => (hb6.block j (by simp; omega)).trans (by simp (discharger := (simp; omega)) only [heap_setCell_other]))); clear HO5
  have g6_0 : w.heap.size < w6.heap.size := by omega
  have g6_1 : w.heap.size + 1 < w6.heap.size := by omega
  have g6_2 : w.heap.size + 1 + 1 < w6.heap.size := by omega
  obtain ⟨hc6, hf6⟩ := bcell hb6
  clear hb6
  go_wp2
  refine bodyPost_ret (v := .agg #[.slice ta1 x0.length tp1, .int .i64 x1.1, .slice t2a1 x1.2.length t2p1, .slice ta3 x2.length tp3, .slice ta4 x3.length tp4, .slice ta5 x4.length tp5, .slice ta6 x5.length tp6, .int .i64 x6]) (by simp [results, Tryz.results9, go_sem, hc1, g1_0, g1_1, g1_2, hc2, g2_0, g2_1, g2_2, hc3, g3_0, g3_1, g3_2, hc4, g4_0, g4_1, g4_2, hc5, g5_0, g5_1, g5_2, hc6, g6_0, g6_1, g6_2]) rfl ⟨[_, _, _, _, _, _, _, _], rfl, ?_, ?_⟩
  · refine Rep.own.wide (S := Btw (w.heap.size + 3) (w6.heap.size)) ?_ (fun j hj => ⟨by have := hj.1; omega, by have := hj.2; simp [World.setCell]; omega⟩)
    exact Rep.own_pair (r := (Rep.slice 66 RData)) (q := (Rep.pair RContentStore (Rep.pair (Rep.slice 175 RPendingInterest) (Rep.pair (Rep.slice 178 RSeenNonce) (Rep.pair (Rep.slice 181 RRoute) (Rep.pair (Rep.slice 184 RMeasurement) Rep.int)))))) (cs := [.slice ta1 x0.length tp1]) (ds := [.int .i64 x1.1, .slice t2a1 x1.2.length t2p1, .slice ta3 x2.length tp3, .slice ta4 x3.length tp4, .slice ta5 x4.length tp5, .slice ta6 x5.length tp6, .int .i64 x6]) (x := x0) (y := (x1, x2, x3, x4, x5, x6)) (S := Btw (w.heap.size + 3) (w6.heap.size)) (Rep.own.out HP1_6.out (fun j h1 h2 => by simp (discharger := (simp; omega)) only [heap_setCell_other])) (Rep.own_pair (r := RContentStore) (q := (Rep.pair (Rep.slice 175 RPendingInterest) (Rep.pair (Rep.slice 178 RSeenNonce) (Rep.pair (Rep.slice 181 RRoute) (Rep.pair (Rep.slice 184 RMeasurement) Rep.int))))) (cs := [.int .i64 x1.1, .slice t2a1 x1.2.length t2p1]) (ds := [.slice ta3 x2.length tp3, .slice ta4 x3.length tp4, .slice ta5 x4.length tp5, .slice ta6 x5.length tp6, .int .i64 x6]) (x := x1) (y := (x2, x3, x4, x5, x6)) (S := Btw (w1.heap.size) (w6.heap.size)) (Rep.own.out HP2_6.out (fun j h1 h2 => by simp (discharger := (simp; omega)) only [heap_setCell_other])) (Rep.own_pair (r := (Rep.slice 175 RPendingInterest)) (q := (Rep.pair (Rep.slice 178 RSeenNonce) (Rep.pair (Rep.slice 181 RRoute) (Rep.pair (Rep.slice 184 RMeasurement) Rep.int)))) (cs := [.slice ta3 x2.length tp3]) (ds := [.slice ta4 x3.length tp4, .slice ta5 x4.length tp5, .slice ta6 x5.length tp6, .int .i64 x6]) (x := x2) (y := (x3, x4, x5, x6)) (S := Btw (w2.heap.size) (w6.heap.size)) (Rep.own.out HP3_6.out (fun j h1 h2 => by simp (discharger := (simp; omega)) only [heap_setCell_other])) (Rep.own_pair (r := (Rep.slice 178 RSeenNonce)) (q := (Rep.pair (Rep.slice 181 RRoute) (Rep.pair (Rep.slice 184 RMeasurement) Rep.int))) (cs := [.slice ta4 x3.length tp4]) (ds := [.slice ta5 x4.length tp5, .slice ta6 x5.length tp6, .int .i64 x6]) (x := x3) (y := (x4, x5, x6)) (S := Btw (w3.heap.size) (w6.heap.size)) (Rep.own.out HP4_6.out (fun j h1 h2 => by simp (discharger := (simp; omega)) only [heap_setCell_other])) (Rep.own_pair (r := (Rep.slice 181 RRoute)) (q := (Rep.pair (Rep.slice 184 RMeasurement) Rep.int)) (cs := [.slice ta5 x4.length tp5]) (ds := [.slice ta6 x5.length tp6, .int .i64 x6]) (x := x4) (y := (x5, x6)) (S := Btw (w4.heap.size) (w6.heap.size)) (Rep.own.out HP5_6.out (fun j h1 h2 => by simp (discharger := (simp; omega)) only [heap_setCell_other])) (Rep.own_flat (r := (Rep.slice 184 RMeasurement)) (q := Rep.int) (cs := [.slice ta6 x5.length tp6]) (ds := [.int .i64 x6]) (x := x5) (y := x6) (Rep.own.out HO6.out (fun j h1 h2 => by simp (discharger := (simp; omega)) only [heap_setCell_other])) (Rep.flat_int N6.out)) (fun j hj => ⟨hj.1, by have := hj.2; omega⟩) (fun j hj => ⟨by have := hj.1; omega, hj.2⟩) (fun j h1 h2 => by have p := h1.2; have q := h2.1; omega)) (fun j hj => ⟨hj.1, by have := hj.2; omega⟩) (fun j hj => ⟨by have := hj.1; omega, hj.2⟩) (fun j h1 h2 => by have p := h1.2; have q := h2.1; omega)) (fun j hj => ⟨hj.1, by have := hj.2; omega⟩) (fun j hj => ⟨by have := hj.1; omega, hj.2⟩) (fun j h1 h2 => by have p := h1.2; have q := h2.1; omega)) (fun j hj => ⟨hj.1, by have := hj.2; omega⟩) (fun j hj => ⟨by have := hj.1; omega, hj.2⟩) (fun j h1 h2 => by have p := h1.2; have q := h2.1; omega)) (fun j hj => ⟨hj.1, by have := hj.2; omega⟩) (fun j hj => ⟨by have := hj.1; omega, hj.2⟩) (fun j h1 h2 => by have p := h1.2; have q := h2.1; omega)
  · repeat (first | (with_reducible exact HE6.out) | refine Below.setCell ?_ (by simp; try omega) _)
set_option maxRecDepth 100000 in
set_option maxHeartbeats 1000000 in
theorem toKey_c {w : World} {ca : List Value} {x : LKey} (ha : RKey.rd w ca x) : Calls Tryz.prog 109 #[.agg ca.toArray] w (MadeAgg RKey x w) := by
  obtain ⟨ha, hbd⟩ := ha
  obtain ⟨av0, rfl, a_0, a_1, a_2⟩ := RKey_raw ha
  obtain ⟨x0, x1⟩ := x
  have r0 : RName.rd w _ x0 := ⟨a_0, hbd.1⟩
  have N1 := Lib.hid a_2
  clear ha hbd a_0 a_1 a_2
  go_enter Tryz.func109, Tryz.ntmps109
  go_wp2_with fail
  refine (toName_c (((r0.alloc _).alloc _).alloc _)).mono ?_
  rintro e w1 ⟨cs1, rfl, O1, hb1⟩
  obtain ⟨t1v0, rfl, t1_0⟩ := RName_raw O1.raw
  obtain ⟨t1a0, t1p0, t1h0, t1l0⟩ := Rep.len_raw t1_0; obtain rfl : t1v0 = _ := by simpa using t1h0
  clear t1h0
  clear t1_0
  have L1 : w.heap.size + 3 ≤ w1.heap.size := by have h := hb1.size; simp at h; omega
  have HO1 := Lib.hid (Rep.own.wide (T := Btw (w.heap.size + 3) w1.heap.size) O1 (fun j hj => ⟨by have h := hj.1; simp at h; omega, hj.2⟩)); clear O1
  have E1 : Below w.heap.size w w1 := ((((Below.refl _ _).alloc (Nat.le_refl _) _).alloc (by simp) _).alloc (by simp; omega) _).trans (hb1.mono (by simp; omega))
  have HE1 := Lib.hid E1; clear E1
  have g1_0 : w.heap.size < w1.heap.size := by omega
  have g1_1 : w.heap.size + 1 < w1.heap.size := by omega
  have g1_2 : w.heap.size + 1 + 1 < w1.heap.size := by omega
  obtain ⟨hc1, hf1⟩ := bcell hb1
  clear hb1
  go_wp2
  refine bodyPost_ret (v := .agg #[.slice t1a0 x0.length t1p0, .int .i64 x1]) (by simp [results, Tryz.results109, go_sem, hc1, g1_0, g1_1, g1_2]) rfl ⟨[_, _], rfl, ?_, ?_⟩
  · refine Rep.own.wide (S := Btw (w.heap.size + 3) (w1.heap.size)) ?_ (fun j hj => ⟨by have := hj.1; omega, by have := hj.2; simp [World.setCell]; omega⟩)
    exact Rep.own_flat (r := RName) (q := Rep.int) (cs := [.slice t1a0 x0.length t1p0]) (ds := [.int .i64 x1]) (x := x0) (y := x1) (Rep.own.out HO1.out (fun j h1 h2 => by simp (discharger := (simp; omega)) only [heap_setCell_other])) (Rep.flat_int N1.out)
  · repeat (first | (with_reducible exact HE1.out) | refine Below.setCell ?_ (by simp; try omega) _)
theorem infoKey : (Tryz.prog.info? 187).map (fun i => (i.zero, i.size, i.bytes)) = some (some (.agg #[.slice none 0 0, .int .i64 0]), 2, 32) := by kernel_rfl
set_option maxRecDepth 100000 in
set_option maxHeartbeats 400000 in
theorem toKeyS_c {w : World} {va : Value} {x : List LKey} (ha : (Rep.slice 187 RKey).rd w [va] x) : Calls Tryz.prog 43 #[va] w (MadePost (Rep.slice 187 RKey) x w) := by
  obtain ⟨aa, capa, hva, la⟩ := Rep.len_raw ha.1; obtain rfl : va = _ := by simpa using hva
  clear hva
  have lb : x.length ≤ 16777216 := ha.2.1
  obtain ⟨i0, hi, hz0, hz1, hz2⟩ := info_parts infoKey
  have hmk : ∀ W : World, (Instr.makeSlice 58 (.int .i64 (x.length : Int)) (.int .i64 (x.length : Int))).run Tryz.prog W = .ok (.slice (some ⟨W.heap.size, 0, none⟩) x.length x.length) (W.alloc (.cells (madeCells #[.slice none 0 0, .int .i64 0] (x.length * 2)) 187)) := by
    intro W
    have h := run_make (P := Tryz.prog) W 58 187 i0 _ (by kernel_rfl) hi hz0 .i64 .i64 (x.length : Int) (x.length : Int) (by omega) (by omega) (by rw [hz2]; omega) (by omega)
    rw [hz1] at h
    simpa [Value.cells] using h
  clear hz0 hz1 hz2 hi
  go_enter Tryz.func43, Tryz.ntmps43
  go_wp2; clear hmk
  have h0 := Rep.own0_make (e := 187) (w := w) (r := RKey) (zs := #[.slice none 0 0, .int .i64 0]) (n := x.length) (S := Btw w.heap.size (w.heap.size + 1)) rfl rfl (by decide) (by unfold maxLen; omega) ⟨Nat.le_refl _, by omega⟩
  have h1 : (Rep.slice 187 RKey).own (w.alloc (.cells (madeCells #[.slice none 0 0, .int .i64 0] (x.length * 2)) 187)) _ _ _ := h0.own (by simpa using ha.2.1)
  clear h0
  go_loopw [4] (fun i wr => ∃ k : Nat, k ≤ x.length ∧ i = .int .i64 k ∧ (Rep.slice 187 RKey).own wr [.slice (some ⟨w.heap.size, 0, none⟩) x.length x.length] (x.take k ++ List.replicate (x.length - k) RKey.zero) (Btw w.heap.size wr.heap.size) ∧ Below w.heap.size w wr ∧ w.heap.size < wr.heap.size) (fun i _ => x.length - (intOf i).toNat)
  case atStart => exact ⟨0, Nat.zero_le _, rfl, by simpa using h1, (Below.refl _ _).alloc (Nat.le_refl _) _, by simp⟩
  case round =>
    obtain ⟨k, hk, rfl, hout, hbel, hgt⟩ := hrel
    by_cases hlt : k < x.length
    · obtain ⟨ba, offa, rfl, c0, c1, hr, A0, A1⟩ := Rep.get2 (ha.1.below hbel) hlt rfl
      have hlen : (x.take k ++ List.replicate (x.length - k) RKey.zero).length = x.length := Rep.fill_length hk
      have hrd : RKey.rd wr [c0, c1] x[k] := ⟨hr, Rep.raw_bdd ha hlt⟩
      clear hr
      go_wp2_with fail
      refine (toKey_c hrd).mono ?_
      rintro e w2 ⟨cs, rfl, hown, hb2⟩
      obtain ⟨tv0, rfl, t_0, t_1, t_2⟩ := RKey_raw hown.raw
      obtain ⟨ta0, tp0, th0, tl0⟩ := Rep.len_raw t_1; obtain rfl : tv0 = _ := by simpa using th0
      clear th0
      clear t_0 t_1 t_2
      have hout2 := hout.below hb2
      obtain ⟨o0, o1, hro, O0, O1⟩ := Rep.at2 hout2.raw (i := k) (by omega) rfl
      have hfz := Rep.own_frozen hout2 (by omega)
      have Z0 := hfz (k * 2)
      have Z1 := hfz (k * 2 + 1)
      obtain ⟨hs, ht⟩ := Rep.own_set hout2 (i := k) (p := k * 2) (by omega) hown (fun j h1 h2 => by have a1 := h1.2; have a2 := h2.1; omega) (show k * 2 = 0 + k * 2 by omega)
      rw [Rep.fill_set hlt] at hs
      have hsz := hb2.size
      have hbel2 := hbel.trans (hb2.mono hbel.size)
      have HS := Lib.hid hs; have HT := Lib.hid ht; clear hs ht hout hout2 hro hlen hrd hfz hown hb2
      go_wp2
      go_roundw
      case rel => exact ⟨k + 1, by omega, by go_num, HS.out.wide (fun j hj => hj.elim (fun q => ⟨q.1, by have := q.2; simp [World.setCell] at this ⊢; omega⟩) (fun q => ⟨by have := q.1; omega, by have := q.2; simp [World.setCell] at this ⊢; omega⟩)), ((hbel2.setCell (Nat.le_refl _) _).setCell (Nat.le_refl _) _), by simp [World.setCell]; omega⟩
      case measure => simp [intOf]; omega
    · rw [Rep.fill_all hk hlt] at hout
      have HO := Lib.hid hout; clear hout
      go_wp2
      go_ret
      exact ⟨_, rfl, HO.out, hbel⟩
set_option maxRecDepth 100000 in
set_option maxHeartbeats 1000000 in
theorem toPattern_c {w : World} {ca : List Value} {x : LPattern} (ha : RPattern.rd w ca x) : Calls Tryz.prog 176 #[.agg ca.toArray] w (MadeAgg RPattern x w) := by
  obtain ⟨ha, hbd⟩ := ha
  obtain ⟨av0, rfl, a_0⟩ := RPattern_raw ha
  obtain ⟨x0, rfl⟩ : ∃ x0, x0 = x := ⟨_, rfl⟩
  have r0 : (Rep.slice 9 Rep.str).rd w _ x0 := ⟨a_0, hbd⟩
  clear ha hbd a_0
  go_enter Tryz.func176, Tryz.ntmps176
  go_wp2_with fail
  refine (toStringS_c (((r0.alloc _).alloc _).alloc _)).mono ?_
  rintro e w1 ⟨v1, rfl, O1, hb1⟩
  obtain ⟨ta1, tp1, th1, _⟩ := Rep.len_raw O1.raw; obtain rfl : v1 = _ := by simpa using th1
  clear th1
  have L1 : w.heap.size + 3 ≤ w1.heap.size := by have h := hb1.size; simp at h; omega
  have HO1 := Lib.hid (Rep.own.wide (T := Btw (w.heap.size + 3) w1.heap.size) O1 (fun j hj => ⟨by have h := hj.1; simp at h; omega, hj.2⟩)); clear O1
  have E1 : Below w.heap.size w w1 := ((((Below.refl _ _).alloc (Nat.le_refl _) _).alloc (by simp) _).alloc (by simp; omega) _).trans (hb1.mono (by simp; omega))
  have HE1 := Lib.hid E1; clear E1
  have g1_0 : w.heap.size < w1.heap.size := by omega
  have g1_1 : w.heap.size + 1 < w1.heap.size := by omega
  have g1_2 : w.heap.size + 1 + 1 < w1.heap.size := by omega
  obtain ⟨hc1, hf1⟩ := bcell hb1
  clear hb1
  go_wp2
  refine bodyPost_ret (v := .agg #[.slice ta1 x0.length tp1]) (by simp [results, Tryz.results176, go_sem, hc1, g1_0, g1_1, g1_2]) rfl ⟨[_], rfl, ?_, ?_⟩
  · refine Rep.own.wide (S := Btw (w.heap.size + 3) (w1.heap.size)) ?_ (fun j hj => ⟨by have := hj.1; omega, by have := hj.2; simp [World.setCell]; omega⟩)
    exact Rep.own.out HO1.out (fun j h1 h2 => by simp (discharger := (simp; omega)) only [heap_setCell_other])
  · repeat (first | (with_reducible exact HE1.out) | refine Below.setCell ?_ (by simp; try omega) _)
set_option maxRecDepth 100000 in
set_option maxHeartbeats 1000000 in
theorem toRule_c {w : World} {ca : List Value} {x : LRule} (ha : RRule.rd w ca x) : Calls Tryz.prog 110 #[.agg ca.toArray] w (MadeAgg RRule x w) := by
  obtain ⟨ha, hbd⟩ := ha
  obtain ⟨av0, av1, rfl, a_0, a_1, a_2, a_3⟩ := RRule_raw ha
  obtain ⟨x0, x1⟩ := x
  have r0 : RPattern.rd w _ x0 := ⟨a_0, hbd.1⟩
  have r1 : RPattern.rd w _ x1 := ⟨a_2, hbd.2⟩
  clear ha hbd a_0 a_1 a_2 a_3
  go_enter Tryz.func110, Tryz.ntmps110
  go_wp2_with fail
  refine (toPattern_c (((r0.alloc _).alloc _).alloc _)).mono ?_
  rintro e w1 ⟨cs1, rfl, O1, hb1⟩
  obtain ⟨t1v0, rfl, t1_0⟩ := RPattern_raw O1.raw
  obtain ⟨t1a0, t1p0, t1h0, t1l0⟩ := Rep.len_raw t1_0; obtain rfl : t1v0 = _ := by simpa using t1h0
  clear t1h0
  clear t1_0
  have L1 : w.heap.size + 3 ≤ w1.heap.size := by have h := hb1.size; simp at h; omega
  have HO1 := Lib.hid (Rep.own.wide (T := Btw (w.heap.size + 3) w1.heap.size) O1 (fun j hj => ⟨by have h := hj.1; simp at h; omega, hj.2⟩)); clear O1
  have E1 : Below w.heap.size w w1 := ((((Below.refl _ _).alloc (Nat.le_refl _) _).alloc (by simp) _).alloc (by simp; omega) _).trans (hb1.mono (by simp; omega))
  have HE1 := Lib.hid E1; clear E1
  have g1_0 : w.heap.size < w1.heap.size := by omega
  have g1_1 : w.heap.size + 1 < w1.heap.size := by omega
  have g1_2 : w.heap.size + 1 + 1 < w1.heap.size := by omega
  obtain ⟨hc1, hf1⟩ := bcell hb1
  clear hb1
  go_wp2_with fail
  refine (toPattern_c (r1.below (by repeat (first | (with_reducible exact HE1.out) | refine Below.setCell ?_ (by simp; try omega) _)))).mono ?_
  rintro e w2 ⟨cs2, rfl, O2, hb2⟩
  obtain ⟨t2v0, rfl, t2_0⟩ := RPattern_raw O2.raw
  obtain ⟨t2a0, t2p0, t2h0, t2l0⟩ := Rep.len_raw t2_0; obtain rfl : t2v0 = _ := by simpa using t2h0
  clear t2h0
  clear t2_0
  have L2 : w1.heap.size ≤ w2.heap.size := by have h := hb2.size; simp at h; omega
  have HO2 := Lib.hid (Rep.own.wide (T := Btw (w1.heap.size) w2.heap.size) O2 (fun j hj => ⟨by have h := hj.1; simp at h; omega, hj.2⟩)); clear O2
  have E2 : Below w.heap.size w w2 := Below.trans (by repeat (first | (with_reducible exact HE1.out) | refine Below.setCell ?_ (by simp; try omega) _)) (hb2.mono (by simp; omega))
  have HE2 := Lib.hid E2; clear E2
  have HP1_2 := Lib.hid ((HO1.out).out (w' := w2) (fun j h1 h2 => (hb2.block j (by simp; omega)).trans (by simp (discharger := (simp; omega)) only [heap_setCell_other]))); clear HO1
  have g2_0 : w.heap.size < w2.heap.size := by omega
  have g2_1 : w.heap.size + 1 < w2.heap.size := by omega
  have g2_2 : w.heap.size + 1 + 1 < w2.heap.size := by omega
  obtain ⟨hc2, hf2⟩ := bcell hb2
  clear hb2
  go_wp2
  refine bodyPost_ret (v := .agg #[.slice t1a0 x0.length t1p0, .slice t2a0 x1.length t2p0]) (by simp [results, Tryz.results110, go_sem, hc1, g1_0, g1_1, g1_2, hc2, g2_0, g2_1, g2_2]) rfl ⟨[_, _], rfl, ?_, ?_⟩
  · refine Rep.own.wide (S := Btw (w.heap.size + 3) (w2.heap.size)) ?_ (fun j hj => ⟨by have := hj.1; omega, by have := hj.2; simp [World.setCell]; omega⟩)
    exact Rep.own_pair (r := RPattern) (q := RPattern) (cs := [.slice t1a0 x0.length t1p0]) (ds := [.slice t2a0 x1.length t2p0]) (x := x0) (y := x1) (S := Btw (w.heap.size + 3) (w2.heap.size)) (Rep.own.out HP1_2.out (fun j h1 h2 => by simp (discharger := (simp; omega)) only [heap_setCell_other])) (Rep.own.out HO2.out (fun j h1 h2 => by simp (discharger := (simp; omega)) only [heap_setCell_other])) (fun j hj => ⟨hj.1, by have := hj.2; omega⟩) (fun j hj => ⟨by have := hj.1; omega, hj.2⟩) (fun j h1 h2 => by have p := h1.2; have q := h2.1; omega)
  · repeat (first | (with_reducible exact HE2.out) | refine Below.setCell ?_ (by simp; try omega) _)
theorem infoRule : (Tryz.prog.info? 191).map (fun i => (i.zero, i.size, i.bytes)) = some (some (.agg #[.slice none 0 0, .slice none 0 0]), 2, 48) := by kernel_rfl
set_option maxRecDepth 100000 in
set_option maxHeartbeats 400000 in
theorem toRuleS_c {w : World} {va : Value} {x : List LRule} (ha : (Rep.slice 191 RRule).rd w [va] x) : Calls Tryz.prog 44 #[va] w (MadePost (Rep.slice 191 RRule) x w) := by
  obtain ⟨aa, capa, hva, la⟩ := Rep.len_raw ha.1; obtain rfl : va = _ := by simpa using hva
  clear hva
  have lb : x.length ≤ 16777216 := ha.2.1
  obtain ⟨i0, hi, hz0, hz1, hz2⟩ := info_parts infoRule
  have hmk : ∀ W : World, (Instr.makeSlice 59 (.int .i64 (x.length : Int)) (.int .i64 (x.length : Int))).run Tryz.prog W = .ok (.slice (some ⟨W.heap.size, 0, none⟩) x.length x.length) (W.alloc (.cells (madeCells #[.slice none 0 0, .slice none 0 0] (x.length * 2)) 191)) := by
    intro W
    have h := run_make (P := Tryz.prog) W 59 191 i0 _ (by kernel_rfl) hi hz0 .i64 .i64 (x.length : Int) (x.length : Int) (by omega) (by omega) (by rw [hz2]; omega) (by omega)
    rw [hz1] at h
    simpa [Value.cells] using h
  clear hz0 hz1 hz2 hi
  go_enter Tryz.func44, Tryz.ntmps44
  go_wp2; clear hmk
  have h0 := Rep.own0_make (e := 191) (w := w) (r := RRule) (zs := #[.slice none 0 0, .slice none 0 0]) (n := x.length) (S := Btw w.heap.size (w.heap.size + 1)) rfl rfl (by decide) (by unfold maxLen; omega) ⟨Nat.le_refl _, by omega⟩
  have h1 : (Rep.slice 191 RRule).own (w.alloc (.cells (madeCells #[.slice none 0 0, .slice none 0 0] (x.length * 2)) 191)) _ _ _ := h0.own (by simpa using ha.2.1)
  clear h0
  go_loopw [4] (fun i wr => ∃ k : Nat, k ≤ x.length ∧ i = .int .i64 k ∧ (Rep.slice 191 RRule).own wr [.slice (some ⟨w.heap.size, 0, none⟩) x.length x.length] (x.take k ++ List.replicate (x.length - k) RRule.zero) (Btw w.heap.size wr.heap.size) ∧ Below w.heap.size w wr ∧ w.heap.size < wr.heap.size) (fun i _ => x.length - (intOf i).toNat)
  case atStart => exact ⟨0, Nat.zero_le _, rfl, by simpa using h1, (Below.refl _ _).alloc (Nat.le_refl _) _, by simp⟩
  case round =>
    obtain ⟨k, hk, rfl, hout, hbel, hgt⟩ := hrel
    by_cases hlt : k < x.length
    · obtain ⟨ba, offa, rfl, c0, c1, hr, A0, A1⟩ := Rep.get2 (ha.1.below hbel) hlt rfl
      have hlen : (x.take k ++ List.replicate (x.length - k) RRule.zero).length = x.length := Rep.fill_length hk
      have hrd : RRule.rd wr [c0, c1] x[k] := ⟨hr, Rep.raw_bdd ha hlt⟩
      clear hr
      go_wp2_with fail
      refine (toRule_c hrd).mono ?_
      rintro e w2 ⟨cs, rfl, hown, hb2⟩
      obtain ⟨tv0, tv1, rfl, t_0, t_1, t_2, t_3⟩ := RRule_raw hown.raw
      obtain ⟨ta0, tp0, th0, tl0⟩ := Rep.len_raw t_1; obtain rfl : tv0 = _ := by simpa using th0
      clear th0
      obtain ⟨ta1, tp1, th1, tl1⟩ := Rep.len_raw t_3; obtain rfl : tv1 = _ := by simpa using th1
      clear th1
      clear t_0 t_1 t_2 t_3
      have hout2 := hout.below hb2
      obtain ⟨o0, o1, hro, O0, O1⟩ := Rep.at2 hout2.raw (i := k) (by omega) rfl
      have hfz := Rep.own_frozen hout2 (by omega)
      have Z0 := hfz (k * 2)
      have Z1 := hfz (k * 2 + 1)
      obtain ⟨hs, ht⟩ := Rep.own_set hout2 (i := k) (p := k * 2) (by omega) hown (fun j h1 h2 => by have a1 := h1.2; have a2 := h2.1; omega) (show k * 2 = 0 + k * 2 by omega)
      rw [Rep.fill_set hlt] at hs
      have hsz := hb2.size
      have hbel2 := hbel.trans (hb2.mono hbel.size)
      have HS := Lib.hid hs; have HT := Lib.hid ht; clear hs ht hout hout2 hro hlen hrd hfz hown hb2
      go_wp2
      go_roundw
      case rel => exact ⟨k + 1, by omega, by go_num, HS.out.wide (fun j hj => hj.elim (fun q => ⟨q.1, by have := q.2; simp [World.setCell] at this ⊢; omega⟩) (fun q => ⟨by have := q.1; omega, by have := q.2; simp [World.setCell] at this ⊢; omega⟩)), ((hbel2.setCell (Nat.le_refl _) _).setCell (Nat.le_refl _) _), by simp [World.setCell]; omega⟩
      case measure => simp [intOf]; omega
    · rw [Rep.fill_all hk hlt] at hout
      have HO := Lib.hid hout; clear hout
      go_wp2
      go_ret
      exact ⟨_, rfl, HO.out, hbel⟩
set_option maxRecDepth 100000 in
set_option maxHeartbeats 1000000 in
theorem toTrustPolicy_c {w : World} {ca : List Value} {x : LTrustPolicy} (ha : RTrustPolicy.rd w ca x) : Calls Tryz.prog 10 #[.agg ca.toArray] w (MadeAgg RTrustPolicy x w) := by
  obtain ⟨ha, hbd⟩ := ha
  obtain ⟨av0, av1, av2, av3, rfl, a_0, a_1, a_2, a_3⟩ := RTrustPolicy_raw ha
  obtain ⟨x0, x1, x2, x3⟩ := x
  have r0 : (Rep.slice 187 RKey).rd w _ x0 := ⟨a_0, hbd.1⟩
  have r1 : (Rep.slice 191 RRule).rd w _ x1 := ⟨a_1, hbd.2.1⟩
  have r2 : (Rep.slice 64 RName).rd w _ x2 := ⟨a_2, hbd.2.2.1⟩
  have r3 : (Rep.slice 66 RData).rd w _ x3 := ⟨a_3, hbd.2.2.2⟩
  clear ha hbd a_0 a_1 a_2 a_3
  go_enter Tryz.func10, Tryz.ntmps10
  go_wp2_with fail
  refine (toKeyS_c (((r0.alloc _).alloc _).alloc _)).mono ?_
  rintro e w1 ⟨v1, rfl, O1, hb1⟩
  obtain ⟨ta1, tp1, th1, _⟩ := Rep.len_raw O1.raw; obtain rfl : v1 = _ := by simpa using th1
  clear th1
  have L1 : w.heap.size + 3 ≤ w1.heap.size := by have h := hb1.size; simp at h; omega
  have HO1 := Lib.hid (Rep.own.wide (T := Btw (w.heap.size + 3) w1.heap.size) O1 (fun j hj => ⟨by have h := hj.1; simp at h; omega, hj.2⟩)); clear O1
  have E1 : Below w.heap.size w w1 := ((((Below.refl _ _).alloc (Nat.le_refl _) _).alloc (by simp) _).alloc (by simp; omega) _).trans (hb1.mono (by simp; omega))
  have HE1 := Lib.hid E1; clear E1
  have g1_0 : w.heap.size < w1.heap.size := by omega
  have g1_1 : w.heap.size + 1 < w1.heap.size := by omega
  have g1_2 : w.heap.size + 1 + 1 < w1.heap.size := by omega
  obtain ⟨hc1, hf1⟩ := bcell hb1
  clear hb1
  go_wp2_with fail
  refine (toRuleS_c (r1.below (by repeat (first | (with_reducible exact HE1.out) | refine Below.setCell ?_ (by simp; try omega) _)))).mono ?_
  rintro e w2 ⟨v2, rfl, O2, hb2⟩
  obtain ⟨ta2, tp2, th2, _⟩ := Rep.len_raw O2.raw; obtain rfl : v2 = _ := by simpa using th2
  clear th2
  have L2 : w1.heap.size ≤ w2.heap.size := by have h := hb2.size; simp at h; omega
  have HO2 := Lib.hid (Rep.own.wide (T := Btw (w1.heap.size) w2.heap.size) O2 (fun j hj => ⟨by have h := hj.1; simp at h; omega, hj.2⟩)); clear O2
  have E2 : Below w.heap.size w w2 := Below.trans (by repeat (first | (with_reducible exact HE1.out) | refine Below.setCell ?_ (by simp; try omega) _)) (hb2.mono (by simp; omega))
  have HE2 := Lib.hid E2; clear E2
  have HP1_2 := Lib.hid ((HO1.out).out (w' := w2) (fun j h1 h2 => (hb2.block j (by simp; omega)).trans (by simp (discharger := (simp; omega)) only [heap_setCell_other]))); clear HO1
  have g2_0 : w.heap.size < w2.heap.size := by omega
  have g2_1 : w.heap.size + 1 < w2.heap.size := by omega
  have g2_2 : w.heap.size + 1 + 1 < w2.heap.size := by omega
  obtain ⟨hc2, hf2⟩ := bcell hb2
  clear hb2
  go_wp2_with fail
  refine (toNameS_c (r2.below (by repeat (first | (with_reducible exact HE2.out) | refine Below.setCell ?_ (by simp; try omega) _)))).mono ?_
  rintro e w3 ⟨v3, rfl, O3, hb3⟩
  obtain ⟨ta3, tp3, th3, _⟩ := Rep.len_raw O3.raw; obtain rfl : v3 = _ := by simpa using th3
  clear th3
  have L3 : w2.heap.size ≤ w3.heap.size := by have h := hb3.size; simp at h; omega
  have HO3 := Lib.hid (Rep.own.wide (T := Btw (w2.heap.size) w3.heap.size) O3 (fun j hj => ⟨by have h := hj.1; simp at h; omega, hj.2⟩)); clear O3
  have E3 : Below w.heap.size w w3 := Below.trans (by repeat (first | (with_reducible exact HE2.out) | refine Below.setCell ?_ (by simp; try omega) _)) (hb3.mono (by simp; omega))
  have HE3 := Lib.hid E3; clear E3
  have HP1_3 := Lib.hid ((HP1_2.out).out (w' := w3) (fun j h1 h2 => (hb3.block j (by simp; omega)).trans (by simp (discharger := (simp; omega)) only [heap_setCell_other]))); clear HP1_2
  have HP2_3 := Lib.hid ((HO2.out).out (w' := w3) (fun j h1 h2 => (hb3.block j (by simp; omega)).trans (by simp (discharger := (simp; omega)) only [heap_setCell_other]))); clear HO2
  have g3_0 : w.heap.size < w3.heap.size := by omega
  have g3_1 : w.heap.size + 1 < w3.heap.size := by omega
  have g3_2 : w.heap.size + 1 + 1 < w3.heap.size := by omega
  obtain ⟨hc3, hf3⟩ := bcell hb3
  clear hb3
  go_wp2_with fail
  refine (toDataS_c (r3.below (by repeat (first | (with_reducible exact HE3.out) | refine Below.setCell ?_ (by simp; try omega) _)))).mono ?_
  rintro e w4 ⟨v4, rfl, O4, hb4⟩
  obtain ⟨ta4, tp4, th4, _⟩ := Rep.len_raw O4.raw; obtain rfl : v4 = _ := by simpa using th4
  clear th4
  have L4 : w3.heap.size ≤ w4.heap.size := by have h := hb4.size; simp at h; omega
  have HO4 := Lib.hid (Rep.own.wide (T := Btw (w3.heap.size) w4.heap.size) O4 (fun j hj => ⟨by have h := hj.1; simp at h; omega, hj.2⟩)); clear O4
  have E4 : Below w.heap.size w w4 := Below.trans (by repeat (first | (with_reducible exact HE3.out) | refine Below.setCell ?_ (by simp; try omega) _)) (hb4.mono (by simp; omega))
  have HE4 := Lib.hid E4; clear E4
  have HP1_4 := Lib.hid ((HP1_3.out).out (w' := w4) (fun j h1 h2 => (hb4.block j (by simp; omega)).trans (by simp (discharger := (simp; omega)) only [heap_setCell_other]))); clear HP1_3
  have HP2_4 := Lib.hid ((HP2_3.out).out (w' := w4) (fun j h1 h2 => (hb4.block j (by simp; omega)).trans (by simp (discharger := (simp; omega)) only [heap_setCell_other]))); clear HP2_3
  have HP3_4 := Lib.hid ((HO3.out).out (w' := w4) (fun j h1 h2 => (hb4.block j (by simp; omega)).trans (by simp (discharger := (simp; omega)) only [heap_setCell_other]))); clear HO3
  have g4_0 : w.heap.size < w4.heap.size := by omega
  have g4_1 : w.heap.size + 1 < w4.heap.size := by omega
  have g4_2 : w.heap.size + 1 + 1 < w4.heap.size := by omega
  obtain ⟨hc4, hf4⟩ := bcell hb4
  clear hb4
  go_wp2
  refine bodyPost_ret (v := .agg #[.slice ta1 x0.length tp1, .slice ta2 x1.length tp2, .slice ta3 x2.length tp3, .slice ta4 x3.length tp4]) (by simp [results, Tryz.results10, go_sem, hc1, g1_0, g1_1, g1_2, hc2, g2_0, g2_1, g2_2, hc3, g3_0, g3_1, g3_2, hc4, g4_0, g4_1, g4_2]) rfl ⟨[_, _, _, _], rfl, ?_, ?_⟩
  · refine Rep.own.wide (S := Btw (w.heap.size + 3) (w4.heap.size)) ?_ (fun j hj => ⟨by have := hj.1; omega, by have := hj.2; simp [World.setCell]; omega⟩)
    exact Rep.own_pair (r := (Rep.slice 187 RKey)) (q := (Rep.pair (Rep.slice 191 RRule) (Rep.pair (Rep.slice 64 RName) (Rep.slice 66 RData)))) (cs := [.slice ta1 x0.length tp1]) (ds := [.slice ta2 x1.length tp2, .slice ta3 x2.length tp3, .slice ta4 x3.length tp4]) (x := x0) (y := (x1, x2, x3)) (S := Btw (w.heap.size + 3) (w4.heap.size)) (Rep.own.out HP1_4.out (fun j h1 h2 => by simp (discharger := (simp; omega)) only [heap_setCell_other])) (Rep.own_pair (r := (Rep.slice 191 RRule)) (q := (Rep.pair (Rep.slice 64 RName) (Rep.slice 66 RData))) (cs := [.slice ta2 x1.length tp2]) (ds := [.slice ta3 x2.length tp3, .slice ta4 x3.length tp4]) (x := x1) (y := (x2, x3)) (S := Btw (w1.heap.size) (w4.heap.size)) (Rep.own.out HP2_4.out (fun j h1 h2 => by simp (discharger := (simp; omega)) only [heap_setCell_other])) (Rep.own_pair (r := (Rep.slice 64 RName)) (q := (Rep.slice 66 RData)) (cs := [.slice ta3 x2.length tp3]) (ds := [.slice ta4 x3.length tp4]) (x := x2) (y := x3) (S := Btw (w2.heap.size) (w4.heap.size)) (Rep.own.out HP3_4.out (fun j h1 h2 => by simp (discharger := (simp; omega)) only [heap_setCell_other])) (Rep.own.out HO4.out (fun j h1 h2 => by simp (discharger := (simp; omega)) only [heap_setCell_other])) (fun j hj => ⟨hj.1, by have := hj.2; omega⟩) (fun j hj => ⟨by have := hj.1; omega, hj.2⟩) (fun j h1 h2 => by have p := h1.2; have q := h2.1; omega)) (fun j hj => ⟨hj.1, by have := hj.2; omega⟩) (fun j hj => ⟨by have := hj.1; omega, hj.2⟩) (fun j h1 h2 => by have p := h1.2; have q := h2.1; omega)) (fun j hj => ⟨hj.1, by have := hj.2; omega⟩) (fun j hj => ⟨by have := hj.1; omega, hj.2⟩) (fun j h1 h2 => by have p := h1.2; have q := h2.1; omega)
  · repeat (first | (with_reducible exact HE4.out) | refine Below.setCell ?_ (by simp; try omega) _)
end Go.Proofs.YtlfblpgkegeaeaaGreat

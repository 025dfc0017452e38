/-
  The laws' copies: each makes new memory that stands for the same data. Printed by gento.py.
-/
import Derived.Test.YtclhapbahkjljaaProg
import Derived.Test.YtclhapbahkjljaaTypes
import Derived.WalkKit
import Derived.WalkSpells
import Derived.WalkLawsBesides
import Derived.BigQuiet
import Derived.Deep.QuietTactic
import Derived.StillTailTactics
namespace Go.Proofs.Ytclhapbahkjljaa
open Go.RowKit
set_option linter.unusedSimpArgs false
set_option linter.unnecessarySimpa false
set_option linter.unusedVariables false

theorem infoInt : (Try.prog.info? 3).map (fun i => (i.zero, i.size, i.bytes)) = some (some (.int .i64 0), 1, 8) := by kernel_rfl
set_option maxRecDepth 100000 in
set_option maxHeartbeats 400000 in
theorem toIntS_c {w : World} {va : Value} {x : List Int} (ha : (Rep.slice 3 Rep.int).rd w [va] x) : Calls Try.prog 49 #[va] w (MadePost (Rep.slice 3 Rep.int) x w) := by
  obtain ⟨aa, capa, hva, la⟩ := Rep.len_raw ha.1; obtain rfl : va = _ := by simpa using hva
  clear hva
  have lb : x.length ≤ 16777216 := ha.2.1
  obtain ⟨i0, hi, hz0, hz1, hz2⟩ := info_parts infoInt
  have hmk : ∀ W : World, (Instr.makeSlice 22 (.int .i64 (x.length : Int)) (.int .i64 (x.length : Int))).run Try.prog W = .ok (.slice (some ⟨W.heap.size, 0, none⟩) x.length x.length) (W.alloc (.cells (madeCells #[.int .i64 0] (x.length * 1)) 3)) := by
    intro W
    have h := run_make (P := Try.prog) W 22 3 i0 _ (by kernel_rfl) hi hz0 .i64 .i64 (x.length : Int) (x.length : Int) (by omega) (by omega) (by rw [hz2]; omega) (by omega)
    rw [hz1] at h
    simpa [Value.cells] using h
  clear hz0 hz1 hz2 hi
  go_enter Try.func49, Try.ntmps49
  go_wp2; clear hmk
  have h0 := Rep.own0_make (e := 3) (w := w) (r := Rep.int) (zs := #[.int .i64 0]) (n := x.length) (S := Btw w.heap.size (w.heap.size + 1)) rfl rfl (by decide) (by unfold maxLen; omega) ⟨Nat.le_refl _, by omega⟩
  have h1 : (Rep.slice 3 Rep.int).own (w.alloc (.cells (madeCells #[.int .i64 0] (x.length * 1)) 3)) _ _ _ := h0.own (by simpa using ha.2.1)
  rw [Nat.mul_one] at h1
  clear h0
  go_loopw [4] (fun i wr => ∃ k : Nat, k ≤ x.length ∧ i = .int .i64 k ∧ (Rep.slice 3 Rep.int).own wr [.slice (some ⟨w.heap.size, 0, none⟩) x.length x.length] (x.take k ++ List.replicate (x.length - k) Rep.int.zero) (Btw w.heap.size wr.heap.size) ∧ Below w.heap.size w wr ∧ w.heap.size < wr.heap.size) (fun i _ => x.length - (intOf i).toNat)
  case atStart => exact ⟨0, Nat.zero_le _, rfl, by simpa using h1, (Below.refl _ _).alloc (Nat.le_refl _) _, by simp⟩
  case round =>
    obtain ⟨k, hk, rfl, hout, hbel, hgt⟩ := hrel
    by_cases hlt : k < x.length
    · obtain ⟨ba, offa, rfl, c0, hr, A0⟩ := Rep.get1 (ha.1.below hbel) hlt rfl
      have hlen : (x.take k ++ List.replicate (x.length - k) Rep.int.zero).length = x.length := Rep.fill_length hk
      have hbd := Rep.raw_bdd ha hlt
      obtain ⟨he, hrg⟩ := Rep.int_raw hr
      obtain rfl : c0 = _ := by simpa using he
      have hfl := Rep.flat_int hrg
      obtain ⟨o0, hro, O0⟩ := Rep.at1 hout.raw (i := k) (by omega) rfl
      have hfz := Rep.own_frozen hout (by omega) k
      clear he hr
      obtain ⟨hs, ht⟩ := Rep.own_set hout (i := k) (p := k) (by omega) (hfl wr) (fun _ _ h => h) (show k = 0 + k * 1 by omega)
      rw [Rep.fill_set hlt] at hs
      have HS := Lib.hid hs; have HT := Lib.hid ht; clear hs ht hout hro hlen hfl hbd hrg
      go_wp2
      go_roundw
      case rel => exact ⟨k + 1, by omega, by go_num, HS.out.wide (fun j hj => hj.elim (fun q => ⟨q.1, by simpa [World.setCell] using q.2⟩) (fun q => q.elim)), hbel.setCell (Nat.le_refl _) _, by simpa [World.setCell] using hgt⟩
      case measure => simp [intOf]; omega
    · rw [Rep.fill_all hk hlt] at hout
      have HO := Lib.hid hout; clear hout
      go_wp2
      go_ret
      exact ⟨_, rfl, HO.out, hbel⟩
theorem infoString : (Try.prog.info? 9).map (fun i => (i.zero, i.size, i.bytes)) = some (some (.string ByteArray.empty), 1, 16) := by kernel_rfl
set_option maxRecDepth 100000 in
set_option maxHeartbeats 400000 in
theorem toStringS_c {w : World} {va : Value} {x : List ByteArray} (ha : (Rep.slice 9 Rep.str).rd w [va] x) : Calls Try.prog 62 #[va] w (MadePost (Rep.slice 9 Rep.str) x w) := by
  obtain ⟨aa, capa, hva, la⟩ := Rep.len_raw ha.1; obtain rfl : va = _ := by simpa using hva
  clear hva
  have lb : x.length ≤ 16777216 := ha.2.1
  obtain ⟨i0, hi, hz0, hz1, hz2⟩ := info_parts infoString
  have hmk : ∀ W : World, (Instr.makeSlice 35 (.int .i64 (x.length : Int)) (.int .i64 (x.length : Int))).run Try.prog W = .ok (.slice (some ⟨W.heap.size, 0, none⟩) x.length x.length) (W.alloc (.cells (madeCells #[.string ByteArray.empty] (x.length * 1)) 9)) := by
    intro W
    have h := run_make (P := Try.prog) W 35 9 i0 _ (by kernel_rfl) hi hz0 .i64 .i64 (x.length : Int) (x.length : Int) (by omega) (by omega) (by rw [hz2]; omega) (by omega)
    rw [hz1] at h
    simpa [Value.cells] using h
  clear hz0 hz1 hz2 hi
  go_enter Try.func62, Try.ntmps62
  go_wp2; clear hmk
  have h0 := Rep.own0_make (e := 9) (w := w) (r := Rep.str) (zs := #[.string ByteArray.empty]) (n := x.length) (S := Btw w.heap.size (w.heap.size + 1)) rfl rfl (by decide) (by unfold maxLen; omega) ⟨Nat.le_refl _, by omega⟩
  have h1 : (Rep.slice 9 Rep.str).own (w.alloc (.cells (madeCells #[.string ByteArray.empty] (x.length * 1)) 9)) _ _ _ := h0.own (by simpa using ha.2.1)
  rw [Nat.mul_one] at h1
  clear h0
  go_loopw [4] (fun i wr => ∃ k : Nat, k ≤ x.length ∧ i = .int .i64 k ∧ (Rep.slice 9 Rep.str).own wr [.slice (some ⟨w.heap.size, 0, none⟩) x.length x.length] (x.take k ++ List.replicate (x.length - k) Rep.str.zero) (Btw w.heap.size wr.heap.size) ∧ Below w.heap.size w wr ∧ w.heap.size < wr.heap.size) (fun i _ => x.length - (intOf i).toNat)
  case atStart => exact ⟨0, Nat.zero_le _, rfl, by simpa using h1, (Below.refl _ _).alloc (Nat.le_refl _) _, by simp⟩
  case round =>
    obtain ⟨k, hk, rfl, hout, hbel, hgt⟩ := hrel
    by_cases hlt : k < x.length
    · obtain ⟨ba, offa, rfl, c0, hr, A0⟩ := Rep.get1 (ha.1.below hbel) hlt rfl
      have hlen : (x.take k ++ List.replicate (x.length - k) Rep.str.zero).length = x.length := Rep.fill_length hk
      have hbd := Rep.raw_bdd ha hlt
      obtain ⟨he, hrg⟩ := Rep.str_raw hr
      obtain rfl : c0 = _ := by simpa using he
      have hfl := Rep.flat_str hbd
      obtain ⟨o0, hro, O0⟩ := Rep.at1 hout.raw (i := k) (by omega) rfl
      have hfz := Rep.own_frozen hout (by omega) k
      clear he hr
      obtain ⟨hs, ht⟩ := Rep.own_set hout (i := k) (p := k) (by omega) (hfl wr) (fun _ _ h => h) (show k = 0 + k * 1 by omega)
      rw [Rep.fill_set hlt] at hs
      have HS := Lib.hid hs; have HT := Lib.hid ht; clear hs ht hout hro hlen hfl hbd hrg
      go_wp2
      go_roundw
      case rel => exact ⟨k + 1, by omega, by go_num, HS.out.wide (fun j hj => hj.elim (fun q => ⟨q.1, by simpa [World.setCell] using q.2⟩) (fun q => q.elim)), hbel.setCell (Nat.le_refl _) _, by simpa [World.setCell] using hgt⟩
      case measure => simp [intOf]; omega
    · rw [Rep.fill_all hk hlt] at hout
      have HO := Lib.hid hout; clear hout
      go_wp2
      go_ret
      exact ⟨_, rfl, HO.out, hbel⟩
theorem infoByte : (Try.prog.info? 5).map (fun i => (i.zero, i.size, i.bytes)) = some (some (.int .u8 0), 1, 1) := by kernel_rfl
set_option maxRecDepth 100000 in
set_option maxHeartbeats 400000 in
theorem toByteS_c {w : World} {va : Value} {x : List UInt8} (ha : (Rep.slice 5 Rep.byte).rd w [va] x) : Calls Try.prog 116 #[va] w (MadePost (Rep.slice 5 Rep.byte) x w) := by
  obtain ⟨aa, capa, hva, la⟩ := Rep.len_raw ha.1; obtain rfl : va = _ := by simpa using hva
  clear hva
  have lb : x.length ≤ 16777216 := ha.2.1
  obtain ⟨i0, hi, hz0, hz1, hz2⟩ := info_parts infoByte
  have hmk : ∀ W : World, (Instr.makeSlice 111 (.int .i64 (x.length : Int)) (.int .i64 (x.length : Int))).run Try.prog W = .ok (.slice (some ⟨W.heap.size, 0, none⟩) x.length x.length) (W.alloc (.cells (madeCells #[.int .u8 0] (x.length * 1)) 5)) := by
    intro W
    have h := run_make (P := Try.prog) W 111 5 i0 _ (by kernel_rfl) hi hz0 .i64 .i64 (x.length : Int) (x.length : Int) (by omega) (by omega) (by rw [hz2]; omega) (by omega)
    rw [hz1] at h
    simpa [Value.cells] using h
  clear hz0 hz1 hz2 hi
  go_enter Try.func116, Try.ntmps116
  go_wp2; clear hmk
  have h0 := Rep.own0_make (e := 5) (w := w) (r := Rep.byte) (zs := #[.int .u8 0]) (n := x.length) (S := Btw w.heap.size (w.heap.size + 1)) rfl rfl (by decide) (by unfold maxLen; omega) ⟨Nat.le_refl _, by omega⟩
  have h1 : (Rep.slice 5 Rep.byte).own (w.alloc (.cells (madeCells #[.int .u8 0] (x.length * 1)) 5)) _ _ _ := h0.own (by simpa using ha.2.1)
  rw [Nat.mul_one] at h1
  clear h0
  go_loopw [4] (fun i wr => ∃ k : Nat, k ≤ x.length ∧ i = .int .i64 k ∧ (Rep.slice 5 Rep.byte).own wr [.slice (some ⟨w.heap.size, 0, none⟩) x.length x.length] (x.take k ++ List.replicate (x.length - k) Rep.byte.zero) (Btw w.heap.size wr.heap.size) ∧ Below w.heap.size w wr ∧ w.heap.size < wr.heap.size) (fun i _ => x.length - (intOf i).toNat)
  case atStart => exact ⟨0, Nat.zero_le _, rfl, by simpa using h1, (Below.refl _ _).alloc (Nat.le_refl _) _, by simp⟩
  case round =>
    obtain ⟨k, hk, rfl, hout, hbel, hgt⟩ := hrel
    by_cases hlt : k < x.length
    · obtain ⟨ba, offa, rfl, c0, hr, A0⟩ := Rep.get1 (ha.1.below hbel) hlt rfl
      have hlen : (x.take k ++ List.replicate (x.length - k) Rep.byte.zero).length = x.length := Rep.fill_length hk
      have hbd := Rep.raw_bdd ha hlt
      obtain he := Rep.byte_raw hr
      obtain rfl : c0 = _ := by simpa using he
      have hfl := Rep.flat_byte x[k]
      obtain ⟨o0, hro, O0⟩ := Rep.at1 hout.raw (i := k) (by omega) rfl
      have hfz := Rep.own_frozen hout (by omega) k
      clear he hr
      obtain ⟨hs, ht⟩ := Rep.own_set hout (i := k) (p := k) (by omega) (hfl wr) (fun _ _ h => h) (show k = 0 + k * 1 by omega)
      rw [Rep.fill_set hlt] at hs
      have HS := Lib.hid hs; have HT := Lib.hid ht; clear hs ht hout hro hlen hfl hbd
      go_wp2
      go_roundw
      case rel => exact ⟨k + 1, by omega, by go_num, HS.out.wide (fun j hj => hj.elim (fun q => ⟨q.1, by simpa [World.setCell] using q.2⟩) (fun q => q.elim)), hbel.setCell (Nat.le_refl _) _, by simpa [World.setCell] using hgt⟩
      case measure => simp [intOf]; omega
    · rw [Rep.fill_all hk hlt] at hout
      have HO := Lib.hid hout; clear hout
      go_wp2
      go_ret
      exact ⟨_, rfl, HO.out, hbel⟩
set_option maxRecDepth 100000 in
set_option maxHeartbeats 1000000 in
theorem toName_c {w : World} {ca : List Value} {x : LName} (ha : RName.rd w ca x) : Calls Try.prog 18 #[.agg ca.toArray] w (MadeAgg RName x w) := by
  obtain ⟨ha, hbd⟩ := ha
  obtain ⟨av0, rfl, a_0⟩ := RName_raw ha
  obtain ⟨x0, rfl⟩ : ∃ x0, x0 = x := ⟨_, rfl⟩
  have r0 : (Rep.slice 9 Rep.str).rd w _ x0 := ⟨a_0, hbd⟩
  clear ha hbd a_0
  go_enter Try.func18, Try.ntmps18
  go_wp2_with fail
  refine (toStringS_c (((r0.alloc _).alloc _).alloc _)).mono ?_
  rintro e w1 ⟨v1, rfl, O1, hb1⟩
  obtain ⟨ta1, tp1, th1, _⟩ := Rep.len_raw O1.raw; obtain rfl : v1 = _ := by simpa using th1
  clear th1
  have L1 : w.heap.size + 3 ≤ w1.heap.size := by have h := hb1.size; simp at h; omega
  have HO1 := Lib.hid (Rep.own.wide (T := Btw (w.heap.size + 3) w1.heap.size) O1 (fun j hj => ⟨by have h := hj.1; simp at h; omega, hj.2⟩)); clear O1
  have E1 : Below w.heap.size w w1 := ((((Below.refl _ _).alloc (Nat.le_refl _) _).alloc (by simp) _).alloc (by simp; omega) _).trans (hb1.mono (by simp; omega))
  have HE1 := Lib.hid E1; clear E1
  have g1_0 : w.heap.size < w1.heap.size := by omega
  have g1_1 : w.heap.size + 1 < w1.heap.size := by omega
  have g1_2 : w.heap.size + 1 + 1 < w1.heap.size := by omega
  obtain ⟨hc1, hf1⟩ := bcell hb1
  clear hb1
  go_wp2
  refine bodyPost_ret (v := .agg #[.slice ta1 x0.length tp1]) (by simp [results, Try.results18, go_sem, hc1, g1_0, g1_1, g1_2]) rfl ⟨[_], rfl, ?_, ?_⟩
  · refine Rep.own.wide (S := Btw (w.heap.size + 3) (w1.heap.size)) ?_ (fun j hj => ⟨by have := hj.1; omega, by have := hj.2; simp [World.setCell]; omega⟩)
    exact Rep.own.out HO1.out (fun j h1 h2 => by simp (discharger := (simp; omega)) only [heap_setCell_other])
  · repeat (first | (with_reducible exact HE1.out) | refine Below.setCell ?_ (by simp; try omega) _)
theorem infoName : (Try.prog.info? 40).map (fun i => (i.zero, i.size, i.bytes)) = some (some (.agg #[.slice none 0 0]), 1, 24) := by kernel_rfl
set_option maxRecDepth 100000 in
set_option maxHeartbeats 400000 in
theorem toNameS_c {w : World} {va : Value} {x : List LName} (ha : (Rep.slice 40 RName).rd w [va] x) : Calls Try.prog 50 #[va] w (MadePost (Rep.slice 40 RName) x w) := by
  obtain ⟨aa, capa, hva, la⟩ := Rep.len_raw ha.1; obtain rfl : va = _ := by simpa using hva
  clear hva
  have lb : x.length ≤ 16777216 := ha.2.1
  obtain ⟨i0, hi, hz0, hz1, hz2⟩ := info_parts infoName
  have hmk : ∀ W : World, (Instr.makeSlice 28 (.int .i64 (x.length : Int)) (.int .i64 (x.length : Int))).run Try.prog W = .ok (.slice (some ⟨W.heap.size, 0, none⟩) x.length x.length) (W.alloc (.cells (madeCells #[.slice none 0 0] (x.length * 1)) 40)) := by
    intro W
    have h := run_make (P := Try.prog) W 28 40 i0 _ (by kernel_rfl) hi hz0 .i64 .i64 (x.length : Int) (x.length : Int) (by omega) (by omega) (by rw [hz2]; omega) (by omega)
    rw [hz1] at h
    simpa [Value.cells] using h
  clear hz0 hz1 hz2 hi
  go_enter Try.func50, Try.ntmps50
  go_wp2; clear hmk
  have h0 := Rep.own0_make (e := 40) (w := w) (r := RName) (zs := #[.slice none 0 0]) (n := x.length) (S := Btw w.heap.size (w.heap.size + 1)) rfl rfl (by decide) (by unfold maxLen; omega) ⟨Nat.le_refl _, by omega⟩
  have h1 : (Rep.slice 40 RName).own (w.alloc (.cells (madeCells #[.slice none 0 0] (x.length * 1)) 40)) _ _ _ := h0.own (by simpa using ha.2.1)
  rw [Nat.mul_one] at h1
  clear h0
  go_loopw [4] (fun i wr => ∃ k : Nat, k ≤ x.length ∧ i = .int .i64 k ∧ (Rep.slice 40 RName).own wr [.slice (some ⟨w.heap.size, 0, none⟩) x.length x.length] (x.take k ++ List.replicate (x.length - k) RName.zero) (Btw w.heap.size wr.heap.size) ∧ Below w.heap.size w wr ∧ w.heap.size < wr.heap.size) (fun i _ => x.length - (intOf i).toNat)
  case atStart => exact ⟨0, Nat.zero_le _, rfl, by simpa using h1, (Below.refl _ _).alloc (Nat.le_refl _) _, by simp⟩
  case round =>
    obtain ⟨k, hk, rfl, hout, hbel, hgt⟩ := hrel
    by_cases hlt : k < x.length
    · obtain ⟨ba, offa, rfl, c0, hr, A0⟩ := Rep.get1 (ha.1.below hbel) hlt rfl
      have hlen : (x.take k ++ List.replicate (x.length - k) RName.zero).length = x.length := Rep.fill_length hk
      have hrd : RName.rd wr [c0] x[k] := ⟨hr, Rep.raw_bdd ha hlt⟩
      clear hr
      go_wp2_with fail
      refine (toName_c hrd).mono ?_
      rintro e w2 ⟨cs, rfl, hown, hb2⟩
      obtain ⟨tv0, rfl, t_0⟩ := RName_raw hown.raw
      obtain ⟨ta0, tp0, th0, tl0⟩ := Rep.len_raw t_0; obtain rfl : tv0 = _ := by simpa using th0
      clear th0
      clear t_0
      have hout2 := hout.below hb2
      obtain ⟨o0, hro, O0⟩ := Rep.at1 hout2.raw (i := k) (by omega) rfl
      have hfz := Rep.own_frozen hout2 (by omega)
      have Z0 := hfz (k)
      obtain ⟨hs, ht⟩ := Rep.own_set hout2 (i := k) (p := k) (by omega) hown (fun j h1 h2 => by have a1 := h1.2; have a2 := h2.1; omega) (show k = 0 + k * 1 by omega)
      rw [Rep.fill_set hlt] at hs
      have hsz := hb2.size
      have hbel2 := hbel.trans (hb2.mono hbel.size)
      have HS := Lib.hid hs; have HT := Lib.hid ht; clear hs ht hout hout2 hro hlen hrd hfz hown hb2
      go_wp2
      go_roundw
      case rel => exact ⟨k + 1, by omega, by go_num, HS.out.wide (fun j hj => hj.elim (fun q => ⟨q.1, by have := q.2; simp [World.setCell] at this ⊢; omega⟩) (fun q => ⟨by have := q.1; omega, by have := q.2; simp [World.setCell] at this ⊢; omega⟩)), (hbel2.setCell (Nat.le_refl _) _), by simp [World.setCell]; omega⟩
      case measure => simp [intOf]; omega
    · rw [Rep.fill_all hk hlt] at hout
      have HO := Lib.hid hout; clear hout
      go_wp2
      go_ret
      exact ⟨_, rfl, HO.out, hbel⟩
set_option maxRecDepth 100000 in
set_option maxHeartbeats 1000000 in
theorem toMeasurement_c {w : World} {ca : List Value} {x : LMeasurement} (ha : RMeasurement.rd w ca x) : Calls Try.prog 75 #[.agg ca.toArray] w (MadeAgg RMeasurement x w) := by
  obtain ⟨ha, hbd⟩ := ha
  obtain ⟨av0, rfl, a_0, a_1, a_2, a_3⟩ := RMeasurement_raw ha
  obtain ⟨x0, x1, x2⟩ := x
  have r0 : RName.rd w _ x0 := ⟨a_0, hbd.1⟩
  have N1 := Lib.hid a_2
  have N2 := Lib.hid a_3
  clear ha hbd a_0 a_1 a_2 a_3
  go_enter Try.func75, Try.ntmps75
  go_wp2_with fail
  refine (toName_c (((r0.alloc _).alloc _).alloc _)).mono ?_
  rintro e w1 ⟨cs1, rfl, O1, hb1⟩
  obtain ⟨t1v0, rfl, t1_0⟩ := RName_raw O1.raw
  obtain ⟨t1a0, t1p0, t1h0, t1l0⟩ := Rep.len_raw t1_0; obtain rfl : t1v0 = _ := by simpa using t1h0
  clear t1h0
  clear t1_0
  have L1 : w.heap.size + 3 ≤ w1.heap.size := by have h := hb1.size; simp at h; omega
  have HO1 := Lib.hid (Rep.own.wide (T := Btw (w.heap.size + 3) w1.heap.size) O1 (fun j hj => ⟨by have h := hj.1; simp at h; omega, hj.2⟩)); clear O1
  have E1 : Below w.heap.size w w1 := ((((Below.refl _ _).alloc (Nat.le_refl _) _).alloc (by simp) _).alloc (by simp; omega) _).trans (hb1.mono (by simp; omega))
  have HE1 := Lib.hid E1; clear E1
  have g1_0 : w.heap.size < w1.heap.size := by omega
  have g1_1 : w.heap.size + 1 < w1.heap.size := by omega
  have g1_2 : w.heap.size + 1 + 1 < w1.heap.size := by omega
  obtain ⟨hc1, hf1⟩ := bcell hb1
  clear hb1
  go_wp2
  refine bodyPost_ret (v := .agg #[.slice t1a0 x0.length t1p0, .int .i64 x1, .int .i64 x2]) (by simp [results, Try.results75, go_sem, hc1, g1_0, g1_1, g1_2]) rfl ⟨[_, _, _], rfl, ?_, ?_⟩
  · refine Rep.own.wide (S := Btw (w.heap.size + 3) (w1.heap.size)) ?_ (fun j hj => ⟨by have := hj.1; omega, by have := hj.2; simp [World.setCell]; omega⟩)
    exact Rep.own_flat (r := RName) (q := (Rep.pair Rep.int Rep.int)) (cs := [.slice t1a0 x0.length t1p0]) (ds := [.int .i64 x1, .int .i64 x2]) (x := x0) (y := (x1, x2)) (Rep.own.out HO1.out (fun j h1 h2 => by simp (discharger := (simp; omega)) only [heap_setCell_other])) (Rep.flat_pair (r := Rep.int) (q := Rep.int) (cs := [.int .i64 x1]) (ds := [.int .i64 x2]) (x := x1) (y := x2) (Rep.flat_int N1.out) (Rep.flat_int N2.out))
  · repeat (first | (with_reducible exact HE1.out) | refine Below.setCell ?_ (by simp; try omega) _)
theorem infoMeasurement : (Try.prog.info? 103).map (fun i => (i.zero, i.size, i.bytes)) = some (some (.agg #[.slice none 0 0, .int .i64 0, .int .i64 0]), 3, 40) := by kernel_rfl
set_option maxRecDepth 100000 in
set_option maxHeartbeats 400000 in
theorem toMeasurementS_c {w : World} {va : Value} {x : List LMeasurement} (ha : (Rep.slice 103 RMeasurement).rd w [va] x) : Calls Try.prog 35 #[va] w (MadePost (Rep.slice 103 RMeasurement) x w) := by
  obtain ⟨aa, capa, hva, la⟩ := Rep.len_raw ha.1; obtain rfl : va = _ := by simpa using hva
  clear hva
  have lb : x.length ≤ 16777216 := ha.2.1
  obtain ⟨i0, hi, hz0, hz1, hz2⟩ := info_parts infoMeasurement
  have hmk : ∀ W : World, (Instr.makeSlice 62 (.int .i64 (x.length : Int)) (.int .i64 (x.length : Int))).run Try.prog W = .ok (.slice (some ⟨W.heap.size, 0, none⟩) x.length x.length) (W.alloc (.cells (madeCells #[.slice none 0 0, .int .i64 0, .int .i64 0] (x.length * 3)) 103)) := by
    intro W
    have h := run_make (P := Try.prog) W 62 103 i0 _ (by kernel_rfl) hi hz0 .i64 .i64 (x.length : Int) (x.length : Int) (by omega) (by omega) (by rw [hz2]; omega) (by omega)
    rw [hz1] at h
    simpa [Value.cells] using h
  clear hz0 hz1 hz2 hi
  go_enter Try.func35, Try.ntmps35
  go_wp2; clear hmk
  have h0 := Rep.own0_make (e := 103) (w := w) (r := RMeasurement) (zs := #[.slice none 0 0, .int .i64 0, .int .i64 0]) (n := x.length) (S := Btw w.heap.size (w.heap.size + 1)) rfl rfl (by decide) (by unfold maxLen; omega) ⟨Nat.le_refl _, by omega⟩
  have h1 : (Rep.slice 103 RMeasurement).own (w.alloc (.cells (madeCells #[.slice none 0 0, .int .i64 0, .int .i64 0] (x.length * 3)) 103)) _ _ _ := h0.own (by simpa using ha.2.1)
  clear h0
  go_loopw [4] (fun i wr => ∃ k : Nat, k ≤ x.length ∧ i = .int .i64 k ∧ (Rep.slice 103 RMeasurement).own wr [.slice (some ⟨w.heap.size, 0, none⟩) x.length x.length] (x.take k ++ List.replicate (x.length - k) RMeasurement.zero) (Btw w.heap.size wr.heap.size) ∧ Below w.heap.size w wr ∧ w.heap.size < wr.heap.size) (fun i _ => x.length - (intOf i).toNat)
  case atStart => exact ⟨0, Nat.zero_le _, rfl, by simpa using h1, (Below.refl _ _).alloc (Nat.le_refl _) _, by simp⟩
  case round =>
    obtain ⟨k, hk, rfl, hout, hbel, hgt⟩ := hrel
    by_cases hlt : k < x.length
    · obtain ⟨ba, offa, rfl, c0, c1, c2, hr, A0, A1, A2⟩ := Rep.get3 (ha.1.below hbel) hlt rfl
      have hlen : (x.take k ++ List.replicate (x.length - k) RMeasurement.zero).length = x.length := Rep.fill_length hk
      have hrd : RMeasurement.rd wr [c0, c1, c2] x[k] := ⟨hr, Rep.raw_bdd ha hlt⟩
      clear hr
      go_wp2_with fail
      refine (toMeasurement_c hrd).mono ?_
      rintro e w2 ⟨cs, rfl, hown, hb2⟩
      obtain ⟨tv0, rfl, t_0, t_1, t_2, t_3⟩ := RMeasurement_raw hown.raw
      obtain ⟨ta0, tp0, th0, tl0⟩ := Rep.len_raw t_1; obtain rfl : tv0 = _ := by simpa using th0
      clear th0
      clear t_0 t_1 t_2 t_3
      have hout2 := hout.below hb2
      obtain ⟨o0, o1, o2, hro, O0, O1, O2⟩ := Rep.at3 hout2.raw (i := k) (by omega) rfl
      have hfz := Rep.own_frozen hout2 (by omega)
      have Z0 := hfz (k * 3)
      have Z1 := hfz (k * 3 + 1)
      have Z2 := hfz (k * 3 + 2)
      obtain ⟨hs, ht⟩ := Rep.own_set hout2 (i := k) (p := k * 3) (by omega) hown (fun j h1 h2 => by have a1 := h1.2; have a2 := h2.1; omega) (show k * 3 = 0 + k * 3 by omega)
      rw [Rep.fill_set hlt] at hs
      have hsz := hb2.size
      have hbel2 := hbel.trans (hb2.mono hbel.size)
      have HS := Lib.hid hs; have HT := Lib.hid ht; clear hs ht hout hout2 hro hlen hrd hfz hown hb2
      go_wp2
      go_roundw
      case rel => exact ⟨k + 1, by omega, by go_num, HS.out.wide (fun j hj => hj.elim (fun q => ⟨q.1, by have := q.2; simp [World.setCell] at this ⊢; omega⟩) (fun q => ⟨by have := q.1; omega, by have := q.2; simp [World.setCell] at this ⊢; omega⟩)), (((hbel2.setCell (Nat.le_refl _) _).setCell (Nat.le_refl _) _).setCell (Nat.le_refl _) _), by simp [World.setCell]; omega⟩
      case measure => simp [intOf]; omega
    · rw [Rep.fill_all hk hlt] at hout
      have HO := Lib.hid hout; clear hout
      go_wp2
      go_ret
      exact ⟨_, rfl, HO.out, hbel⟩
set_option maxRecDepth 100000 in
set_option maxHeartbeats 1000000 in
theorem toRoute_c {w : World} {ca : List Value} {x : LRoute} (ha : RRoute.rd w ca x) : Calls Try.prog 61 #[.agg ca.toArray] w (MadeAgg RRoute x w) := by
  obtain ⟨ha, hbd⟩ := ha
  obtain ⟨av0, rfl, a_0, a_1, a_2, a_3⟩ := RRoute_raw ha
  obtain ⟨x0, x1, x2⟩ := x
  have r0 : RName.rd w _ x0 := ⟨a_0, hbd.1⟩
  have N1 := Lib.hid a_2
  have N2 := Lib.hid a_3
  clear ha hbd a_0 a_1 a_2 a_3
  go_enter Try.func61, Try.ntmps61
  go_wp2_with fail
  refine (toName_c (((r0.alloc _).alloc _).alloc _)).mono ?_
  rintro e w1 ⟨cs1, rfl, O1, hb1⟩
  obtain ⟨t1v0, rfl, t1_0⟩ := RName_raw O1.raw
  obtain ⟨t1a0, t1p0, t1h0, t1l0⟩ := Rep.len_raw t1_0; obtain rfl : t1v0 = _ := by simpa using t1h0
  clear t1h0
  clear t1_0
  have L1 : w.heap.size + 3 ≤ w1.heap.size := by have h := hb1.size; simp at h; omega
  have HO1 := Lib.hid (Rep.own.wide (T := Btw (w.heap.size + 3) w1.heap.size) O1 (fun j hj => ⟨by have h := hj.1; simp at h; omega, hj.2⟩)); clear O1
  have E1 : Below w.heap.size w w1 := ((((Below.refl _ _).alloc (Nat.le_refl _) _).alloc (by simp) _).alloc (by simp; omega) _).trans (hb1.mono (by simp; omega))
  have HE1 := Lib.hid E1; clear E1
  have g1_0 : w.heap.size < w1.heap.size := by omega
  have g1_1 : w.heap.size + 1 < w1.heap.size := by omega
  have g1_2 : w.heap.size + 1 + 1 < w1.heap.size := by omega
  obtain ⟨hc1, hf1⟩ := bcell hb1
  clear hb1
  go_wp2
  refine bodyPost_ret (v := .agg #[.slice t1a0 x0.length t1p0, .int .i64 x1, .int .i64 x2]) (by simp [results, Try.results61, go_sem, hc1, g1_0, g1_1, g1_2]) rfl ⟨[_, _, _], rfl, ?_, ?_⟩
  · refine Rep.own.wide (S := Btw (w.heap.size + 3) (w1.heap.size)) ?_ (fun j hj => ⟨by have := hj.1; omega, by have := hj.2; simp [World.setCell]; omega⟩)
    exact Rep.own_flat (r := RName) (q := (Rep.pair Rep.int Rep.int)) (cs := [.slice t1a0 x0.length t1p0]) (ds := [.int .i64 x1, .int .i64 x2]) (x := x0) (y := (x1, x2)) (Rep.own.out HO1.out (fun j h1 h2 => by simp (discharger := (simp; omega)) only [heap_setCell_other])) (Rep.flat_pair (r := Rep.int) (q := Rep.int) (cs := [.int .i64 x1]) (ds := [.int .i64 x2]) (x := x1) (y := x2) (Rep.flat_int N1.out) (Rep.flat_int N2.out))
  · repeat (first | (with_reducible exact HE1.out) | refine Below.setCell ?_ (by simp; try omega) _)
theorem infoRoute : (Try.prog.info? 88).map (fun i => (i.zero, i.size, i.bytes)) = some (some (.agg #[.slice none 0 0, .int .i64 0, .int .i64 0]), 3, 40) := by kernel_rfl
set_option maxRecDepth 100000 in
set_option maxHeartbeats 400000 in
theorem toRouteS_c {w : World} {va : Value} {x : List LRoute} (ha : (Rep.slice 88 RRoute).rd w [va] x) : Calls Try.prog 17 #[va] w (MadePost (Rep.slice 88 RRoute) x w) := by
  obtain ⟨aa, capa, hva, la⟩ := Rep.len_raw ha.1; obtain rfl : va = _ := by simpa using hva
  clear hva
  have lb : x.length ≤ 16777216 := ha.2.1
  obtain ⟨i0, hi, hz0, hz1, hz2⟩ := info_parts infoRoute
  have hmk : ∀ W : World, (Instr.makeSlice 43 (.int .i64 (x.length : Int)) (.int .i64 (x.length : Int))).run Try.prog W = .ok (.slice (some ⟨W.heap.size, 0, none⟩) x.length x.length) (W.alloc (.cells (madeCells #[.slice none 0 0, .int .i64 0, .int .i64 0] (x.length * 3)) 88)) := by
    intro W
    have h := run_make (P := Try.prog) W 43 88 i0 _ (by kernel_rfl) hi hz0 .i64 .i64 (x.length : Int) (x.length : Int) (by omega) (by omega) (by rw [hz2]; omega) (by omega)
    rw [hz1] at h
    simpa [Value.cells] using h
  clear hz0 hz1 hz2 hi
  go_enter Try.func17, Try.ntmps17
  go_wp2; clear hmk
  have h0 := Rep.own0_make (e := 88) (w := w) (r := RRoute) (zs := #[.slice none 0 0, .int .i64 0, .int .i64 0]) (n := x.length) (S := Btw w.heap.size (w.heap.size + 1)) rfl rfl (by decide) (by unfold maxLen; omega) ⟨Nat.le_refl _, by omega⟩
  have h1 : (Rep.slice 88 RRoute).own (w.alloc (.cells (madeCells #[.slice none 0 0, .int .i64 0, .int .i64 0] (x.length * 3)) 88)) _ _ _ := h0.own (by simpa using ha.2.1)
  clear h0
  go_loopw [4] (fun i wr => ∃ k : Nat, k ≤ x.length ∧ i = .int .i64 k ∧ (Rep.slice 88 RRoute).own wr [.slice (some ⟨w.heap.size, 0, none⟩) x.length x.length] (x.take k ++ List.replicate (x.length - k) RRoute.zero) (Btw w.heap.size wr.heap.size) ∧ Below w.heap.size w wr ∧ w.heap.size < wr.heap.size) (fun i _ => x.length - (intOf i).toNat)
  case atStart => exact ⟨0, Nat.zero_le _, rfl, by simpa using h1, (Below.refl _ _).alloc (Nat.le_refl _) _, by simp⟩
  case round =>
    obtain ⟨k, hk, rfl, hout, hbel, hgt⟩ := hrel
    by_cases hlt : k < x.length
    · obtain ⟨ba, offa, rfl, c0, c1, c2, hr, A0, A1, A2⟩ := Rep.get3 (ha.1.below hbel) hlt rfl
      have hlen : (x.take k ++ List.replicate (x.length - k) RRoute.zero).length = x.length := Rep.fill_length hk
      have hrd : RRoute.rd wr [c0, c1, c2] x[k] := ⟨hr, Rep.raw_bdd ha hlt⟩
      clear hr
      go_wp2_with fail
      refine (toRoute_c hrd).mono ?_
      rintro e w2 ⟨cs, rfl, hown, hb2⟩
      obtain ⟨tv0, rfl, t_0, t_1, t_2, t_3⟩ := RRoute_raw hown.raw
      obtain ⟨ta0, tp0, th0, tl0⟩ := Rep.len_raw t_1; obtain rfl : tv0 = _ := by simpa using th0
      clear th0
      clear t_0 t_1 t_2 t_3
      have hout2 := hout.below hb2
      obtain ⟨o0, o1, o2, hro, O0, O1, O2⟩ := Rep.at3 hout2.raw (i := k) (by omega) rfl
      have hfz := Rep.own_frozen hout2 (by omega)
      have Z0 := hfz (k * 3)
      have Z1 := hfz (k * 3 + 1)
      have Z2 := hfz (k * 3 + 2)
      obtain ⟨hs, ht⟩ := Rep.own_set hout2 (i := k) (p := k * 3) (by omega) hown (fun j h1 h2 => by have a1 := h1.2; have a2 := h2.1; omega) (show k * 3 = 0 + k * 3 by omega)
      rw [Rep.fill_set hlt] at hs
      have hsz := hb2.size
      have hbel2 := hbel.trans (hb2.mono hbel.size)
      have HS := Lib.hid hs; have HT := Lib.hid ht; clear hs ht hout hout2 hro hlen hrd hfz hown hb2
      go_wp2
      go_roundw
      case rel => exact ⟨k + 1, by omega, by go_num, HS.out.wide (fun j hj => hj.elim (fun q => ⟨q.1, by have := q.2; simp [World.setCell] at this ⊢; omega⟩) (fun q => ⟨by have := q.1; omega, by have := q.2; simp [World.setCell] at this ⊢; omega⟩)), (((hbel2.setCell (Nat.le_refl _) _).setCell (Nat.le_refl _) _).setCell (Nat.le_refl _) _), by simp [World.setCell]; omega⟩
      case measure => simp [intOf]; omega
    · rw [Rep.fill_all hk hlt] at hout
      have HO := Lib.hid hout; clear hout
      go_wp2
      go_ret
      exact ⟨_, rfl, HO.out, hbel⟩
set_option maxRecDepth 100000 in
set_option maxHeartbeats 1000000 in
theorem toAdvertisement_c {w : World} {ca : List Value} {x : LAdvertisement} (ha : RAdvertisement.rd w ca x) : Calls Try.prog 11 #[.agg ca.toArray] w (MadeAgg RAdvertisement x w) := by
  obtain ⟨ha, hbd⟩ := ha
  obtain ⟨av2, av3, rfl, a_0, a_1, a_2, a_3⟩ := RAdvertisement_raw ha
  obtain ⟨x0, x1, x2, x3⟩ := x
  have N0 := Lib.hid a_0
  have N1 := Lib.hid a_1
  have r2 : (Rep.slice 3 Rep.int).rd w _ x2 := ⟨a_2, hbd.2.2.1⟩
  have r3 : (Rep.slice 40 RName).rd w _ x3 := ⟨a_3, hbd.2.2.2⟩
  clear ha hbd a_0 a_1 a_2 a_3
  go_enter Try.func11, Try.ntmps11
  go_wp2_with fail
  refine (toIntS_c (((r2.alloc _).alloc _).alloc _)).mono ?_
  rintro e w1 ⟨v1, rfl, O1, hb1⟩
  obtain ⟨ta1, tp1, th1, _⟩ := Rep.len_raw O1.raw; obtain rfl : v1 = _ := by simpa using th1
  clear th1
  have L1 : w.heap.size + 3 ≤ w1.heap.size := by have h := hb1.size; simp at h; omega
  have HO1 := Lib.hid (Rep.own.wide (T := Btw (w.heap.size + 3) w1.heap.size) O1 (fun j hj => ⟨by have h := hj.1; simp at h; omega, hj.2⟩)); clear O1
  have E1 : Below w.heap.size w w1 := ((((Below.refl _ _).alloc (Nat.le_refl _) _).alloc (by simp) _).alloc (by simp; omega) _).trans (hb1.mono (by simp; omega))
  have HE1 := Lib.hid E1; clear E1
  have g1_0 : w.heap.size < w1.heap.size := by omega
  have g1_1 : w.heap.size + 1 < w1.heap.size := by omega
  have g1_2 : w.heap.size + 1 + 1 < w1.heap.size := by omega
  obtain ⟨hc1, hf1⟩ := bcell hb1
  clear hb1
  go_wp2_with fail
  refine (toNameS_c (r3.below (by repeat (first | (with_reducible exact HE1.out) | refine Below.setCell ?_ (by simp; try omega) _)))).mono ?_
  rintro e w2 ⟨v2, rfl, O2, hb2⟩
  obtain ⟨ta2, tp2, th2, _⟩ := Rep.len_raw O2.raw; obtain rfl : v2 = _ := by simpa using th2
  clear th2
  have L2 : w1.heap.size ≤ w2.heap.size := by have h := hb2.size; simp at h; omega
  have HO2 := Lib.hid (Rep.own.wide (T := Btw (w1.heap.size) w2.heap.size) O2 (fun j hj => ⟨by have h := hj.1; simp at h; omega, hj.2⟩)); clear O2
  have E2 : Below w.heap.size w w2 := Below.trans (by repeat (first | (with_reducible exact HE1.out) | refine Below.setCell ?_ (by simp; try omega) _)) (hb2.mono (by simp; omega))
  have HE2 := Lib.hid E2; clear E2
  have HP1_2 := Lib.hid ((HO1.out).out (w' := w2) (fun j h1 h2 => (hb2.block j (by simp; omega)).trans (by simp (discharger := (simp; omega)) only [heap_setCell_other]))); clear HO1
  have g2_0 : w.heap.size < w2.heap.size := by omega
  have g2_1 : w.heap.size + 1 < w2.heap.size := by omega
  have g2_2 : w.heap.size + 1 + 1 < w2.heap.size := by omega
  obtain ⟨hc2, hf2⟩ := bcell hb2
  clear hb2
  go_wp2
  refine bodyPost_ret (v := .agg #[.int .i64 x0, .int .i64 x1, .slice ta1 x2.length tp1, .slice ta2 x3.length tp2]) (by simp [results, Try.results11, go_sem, hc1, g1_0, g1_1, g1_2, hc2, g2_0, g2_1, g2_2]) rfl ⟨[_, _, _, _], rfl, ?_, ?_⟩
  · refine Rep.own.wide (S := Btw (w.heap.size + 3) (w2.heap.size)) ?_ (fun j hj => ⟨by have := hj.1; omega, by have := hj.2; simp [World.setCell]; omega⟩)
    exact Rep.flat_own (r := Rep.int) (q := (Rep.pair Rep.int (Rep.pair (Rep.slice 3 Rep.int) (Rep.slice 40 RName)))) (cs := [.int .i64 x0]) (ds := [.int .i64 x1, .slice ta1 x2.length tp1, .slice ta2 x3.length tp2]) (x := x0) (y := (x1, x2, x3)) (Rep.flat_int N0.out) (Rep.flat_own (r := Rep.int) (q := (Rep.pair (Rep.slice 3 Rep.int) (Rep.slice 40 RName))) (cs := [.int .i64 x1]) (ds := [.slice ta1 x2.length tp1, .slice ta2 x3.length tp2]) (x := x1) (y := (x2, x3)) (Rep.flat_int N1.out) (Rep.own_pair (r := (Rep.slice 3 Rep.int)) (q := (Rep.slice 40 RName)) (cs := [.slice ta1 x2.length tp1]) (ds := [.slice ta2 x3.length tp2]) (x := x2) (y := x3) (S := Btw (w.heap.size + 3) (w2.heap.size)) (Rep.own.out HP1_2.out (fun j h1 h2 => by simp (discharger := (simp; omega)) only [heap_setCell_other])) (Rep.own.out HO2.out (fun j h1 h2 => by simp (discharger := (simp; omega)) only [heap_setCell_other])) (fun j hj => ⟨hj.1, by have := hj.2; omega⟩) (fun j hj => ⟨by have := hj.1; omega, hj.2⟩) (fun j h1 h2 => by have p := h1.2; have q := h2.1; omega)))
  · repeat (first | (with_reducible exact HE2.out) | refine Below.setCell ?_ (by simp; try omega) _)
theorem infoAdvertisement : (Try.prog.info? 30).map (fun i => (i.zero, i.size, i.bytes)) = some (some (.agg #[.int .i64 0, .int .i64 0, .slice none 0 0, .slice none 0 0]), 4, 64) := by kernel_rfl
set_option maxRecDepth 100000 in
set_option maxHeartbeats 400000 in
theorem toAdvertisementS_c {w : World} {va : Value} {x : List LAdvertisement} (ha : (Rep.slice 30 RAdvertisement).rd w [va] x) : Calls Try.prog 30 #[va] w (MadePost (Rep.slice 30 RAdvertisement) x w) := by
  obtain ⟨aa, capa, hva, la⟩ := Rep.len_raw ha.1; obtain rfl : va = _ := by simpa using hva
  clear hva
  have lb : x.length ≤ 16777216 := ha.2.1
  obtain ⟨i0, hi, hz0, hz1, hz2⟩ := info_parts infoAdvertisement
  have hmk : ∀ W : World, (Instr.makeSlice 56 (.int .i64 (x.length : Int)) (.int .i64 (x.length : Int))).run Try.prog W = .ok (.slice (some ⟨W.heap.size, 0, none⟩) x.length x.length) (W.alloc (.cells (madeCells #[.int .i64 0, .int .i64 0, .slice none 0 0, .slice none 0 0] (x.length * 4)) 30)) := by
    intro W
    have h := run_make (P := Try.prog) W 56 30 i0 _ (by kernel_rfl) hi hz0 .i64 .i64 (x.length : Int) (x.length : Int) (by omega) (by omega) (by rw [hz2]; omega) (by omega)
    rw [hz1] at h
    simpa [Value.cells] using h
  clear hz0 hz1 hz2 hi
  go_enter Try.func30, Try.ntmps30
  go_wp2; clear hmk
  have h0 := Rep.own0_make (e := 30) (w := w) (r := RAdvertisement) (zs := #[.int .i64 0, .int .i64 0, .slice none 0 0, .slice none 0 0]) (n := x.length) (S := Btw w.heap.size (w.heap.size + 1)) rfl rfl (by decide) (by unfold maxLen; omega) ⟨Nat.le_refl _, by omega⟩
  have h1 : (Rep.slice 30 RAdvertisement).own (w.alloc (.cells (madeCells #[.int .i64 0, .int .i64 0, .slice none 0 0, .slice none 0 0] (x.length * 4)) 30)) _ _ _ := h0.own (by simpa using ha.2.1)
  clear h0
  go_loopw [4] (fun i wr => ∃ k : Nat, k ≤ x.length ∧ i = .int .i64 k ∧ (Rep.slice 30 RAdvertisement).own wr [.slice (some ⟨w.heap.size, 0, none⟩) x.length x.length] (x.take k ++ List.replicate (x.length - k) RAdvertisement.zero) (Btw w.heap.size wr.heap.size) ∧ Below w.heap.size w wr ∧ w.heap.size < wr.heap.size) (fun i _ => x.length - (intOf i).toNat)
  case atStart => exact ⟨0, Nat.zero_le _, rfl, by simpa using h1, (Below.refl _ _).alloc (Nat.le_refl _) _, by simp⟩
  case round =>
    obtain ⟨k, hk, rfl, hout, hbel, hgt⟩ := hrel
    by_cases hlt : k < x.length
    · obtain ⟨ba, offa, rfl, c0, c1, c2, c3, hr, A0, A1, A2, A3⟩ := Rep.get4 (ha.1.below hbel) hlt rfl
      have hlen : (x.take k ++ List.replicate (x.length - k) RAdvertisement.zero).length = x.length := Rep.fill_length hk
      have hrd : RAdvertisement.rd wr [c0, c1, c2, c3] x[k] := ⟨hr, Rep.raw_bdd ha hlt⟩
      clear hr
      go_wp2_with fail
      refine (toAdvertisement_c hrd).mono ?_
      rintro e w2 ⟨cs, rfl, hown, hb2⟩
      obtain ⟨tv2, tv3, rfl, t_0, t_1, t_2, t_3⟩ := RAdvertisement_raw hown.raw
      obtain ⟨ta2, tp2, th2, tl2⟩ := Rep.len_raw t_2; obtain rfl : tv2 = _ := by simpa using th2
      clear th2
      obtain ⟨ta3, tp3, th3, tl3⟩ := Rep.len_raw t_3; obtain rfl : tv3 = _ := by simpa using th3
      clear th3
      clear t_0 t_1 t_2 t_3
      have hout2 := hout.below hb2
      obtain ⟨o0, o1, o2, o3, hro, O0, O1, O2, O3⟩ := Rep.at4 hout2.raw (i := k) (by omega) rfl
      have hfz := Rep.own_frozen hout2 (by omega)
      have Z0 := hfz (k * 4)
      have Z1 := hfz (k * 4 + 1)
      have Z2 := hfz (k * 4 + 2)
      have Z3 := hfz (k * 4 + 3)
      obtain ⟨hs, ht⟩ := Rep.own_set hout2 (i := k) (p := k * 4) (by omega) hown (fun j h1 h2 => by have a1 := h1.2; have a2 := h2.1; omega) (show k * 4 = 0 + k * 4 by omega)
      rw [Rep.fill_set hlt] at hs
      have hsz := hb2.size
      have hbel2 := hbel.trans (hb2.mono hbel.size)
      have HS := Lib.hid hs; have HT := Lib.hid ht; clear hs ht hout hout2 hro hlen hrd hfz hown hb2
      go_wp2
      go_roundw
      case rel => exact ⟨k + 1, by omega, by go_num, HS.out.wide (fun j hj => hj.elim (fun q => ⟨q.1, by have := q.2; simp [World.setCell] at this ⊢; omega⟩) (fun q => ⟨by have := q.1; omega, by have := q.2; simp [World.setCell] at this ⊢; omega⟩)), ((((hbel2.setCell (Nat.le_refl _) _).setCell (Nat.le_refl _) _).setCell (Nat.le_refl _) _).setCell (Nat.le_refl _) _), by simp [World.setCell]; omega⟩
      case measure => simp [intOf]; omega
    · rw [Rep.fill_all hk hlt] at hout
      have HO := Lib.hid hout; clear hout
      go_wp2
      go_ret
      exact ⟨_, rfl, HO.out, hbel⟩
set_option maxRecDepth 100000 in
set_option maxHeartbeats 1000000 in
theorem toInterest_c {w : World} {ca : List Value} {x : LInterest} (ha : RInterest.rd w ca x) : Calls Try.prog 106 #[.agg ca.toArray] w (MadeAgg RInterest x w) := by
  obtain ⟨ha, hbd⟩ := ha
  obtain ⟨av0, rfl, a_0, a_1, a_2, a_3, a_4⟩ := RInterest_raw ha
  obtain ⟨x0, x1, x2, x3⟩ := x
  have r0 : RName.rd w _ x0 := ⟨a_0, hbd.1⟩
  have N1 := Lib.hid a_2
  have N2 := Lib.hid a_3
  have N3 := Lib.hid a_4
  clear ha hbd a_0 a_1 a_2 a_3 a_4
  go_enter Try.func106, Try.ntmps106
  go_wp2_with fail
  refine (toName_c (((r0.alloc _).alloc _).alloc _)).mono ?_
  rintro e w1 ⟨cs1, rfl, O1, hb1⟩
  obtain ⟨t1v0, rfl, t1_0⟩ := RName_raw O1.raw
  obtain ⟨t1a0, t1p0, t1h0, t1l0⟩ := Rep.len_raw t1_0; obtain rfl : t1v0 = _ := by simpa using t1h0
  clear t1h0
  clear t1_0
  have L1 : w.heap.size + 3 ≤ w1.heap.size := by have h := hb1.size; simp at h; omega
  have HO1 := Lib.hid (Rep.own.wide (T := Btw (w.heap.size + 3) w1.heap.size) O1 (fun j hj => ⟨by have h := hj.1; simp at h; omega, hj.2⟩)); clear O1
  have E1 : Below w.heap.size w w1 := ((((Below.refl _ _).alloc (Nat.le_refl _) _).alloc (by simp) _).alloc (by simp; omega) _).trans (hb1.mono (by simp; omega))
  have HE1 := Lib.hid E1; clear E1
  have g1_0 : w.heap.size < w1.heap.size := by omega
  have g1_1 : w.heap.size + 1 < w1.heap.size := by omega
  have g1_2 : w.heap.size + 1 + 1 < w1.heap.size := by omega
  obtain ⟨hc1, hf1⟩ := bcell hb1
  clear hb1
  go_wp2
  refine bodyPost_ret (v := .agg #[.slice t1a0 x0.length t1p0, .int .i64 x1, .int .i64 x2, .int .i64 x3]) (by simp [results, Try.results106, go_sem, hc1, g1_0, g1_1, g1_2]) rfl ⟨[_, _, _, _], rfl, ?_, ?_⟩
  · refine Rep.own.wide (S := Btw (w.heap.size + 3) (w1.heap.size)) ?_ (fun j hj => ⟨by have := hj.1; omega, by have := hj.2; simp [World.setCell]; omega⟩)
    exact Rep.own_flat (r := RName) (q := (Rep.pair Rep.int (Rep.pair Rep.int Rep.int))) (cs := [.slice t1a0 x0.length t1p0]) (ds := [.int .i64 x1, .int .i64 x2, .int .i64 x3]) (x := x0) (y := (x1, x2, x3)) (Rep.own.out HO1.out (fun j h1 h2 => by simp (discharger := (simp; omega)) only [heap_setCell_other])) (Rep.flat_pair (r := Rep.int) (q := (Rep.pair Rep.int Rep.int)) (cs := [.int .i64 x1]) (ds := [.int .i64 x2, .int .i64 x3]) (x := x1) (y := (x2, x3)) (Rep.flat_int N1.out) (Rep.flat_pair (r := Rep.int) (q := Rep.int) (cs := [.int .i64 x2]) (ds := [.int .i64 x3]) (x := x2) (y := x3) (Rep.flat_int N2.out) (Rep.flat_int N3.out)))
  · repeat (first | (with_reducible exact HE1.out) | refine Below.setCell ?_ (by simp; try omega) _)
set_option maxRecDepth 100000 in
set_option maxHeartbeats 1000000 in
theorem toData_c {w : World} {ca : List Value} {x : LData} (ha : RData.rd w ca x) : Calls Try.prog 107 #[.agg ca.toArray] w (MadeAgg RData x w) := by
  obtain ⟨ha, hbd⟩ := ha
  obtain ⟨av0, av1, av2, rfl, a_0, a_1, a_2, a_3, a_4, a_5, a_6⟩ := RData_raw ha
  obtain ⟨x0, x1, x2, x3, x4⟩ := x
  have r0 : RName.rd w _ x0 := ⟨a_0, hbd.1⟩
  have r1 : (Rep.slice 5 Rep.byte).rd w _ x1 := ⟨a_2, hbd.2.1⟩
  have r2 : RName.rd w _ x2 := ⟨a_3, hbd.2.2.1⟩
  have N3 := Lib.hid a_5
  have N4 := Lib.hid a_6
  clear ha hbd a_0 a_1 a_2 a_3 a_4 a_5 a_6
  go_enter Try.func107, Try.ntmps107
  go_wp2_with fail
  refine (toName_c (((r0.alloc _).alloc _).alloc _)).mono ?_
  rintro e w1 ⟨cs1, rfl, O1, hb1⟩
  obtain ⟨t1v0, rfl, t1_0⟩ := RName_raw O1.raw
  obtain ⟨t1a0, t1p0, t1h0, t1l0⟩ := Rep.len_raw t1_0; obtain rfl : t1v0 = _ := by simpa using t1h0
  clear t1h0
  clear t1_0
  have L1 : w.heap.size + 3 ≤ w1.heap.size := by have h := hb1.size; simp at h; omega
  have HO1 := Lib.hid (Rep.own.wide (T := Btw (w.heap.size + 3) w1.heap.size) O1 (fun j hj => ⟨by have h := hj.1; simp at h; omega, hj.2⟩)); clear O1
  have E1 : Below w.heap.size w w1 := ((((Below.refl _ _).alloc (Nat.le_refl _) _).alloc (by simp) _).alloc (by simp; omega) _).trans (hb1.mono (by simp; omega))
  have HE1 := Lib.hid E1; clear E1
  have g1_0 : w.heap.size < w1.heap.size := by omega
  have g1_1 : w.heap.size + 1 < w1.heap.size := by omega
  have g1_2 : w.heap.size + 1 + 1 < w1.heap.size := by omega
  obtain ⟨hc1, hf1⟩ := bcell hb1
  clear hb1
  go_wp2_with fail
  refine (toByteS_c (r1.below (by repeat (first | (with_reducible exact HE1.out) | refine Below.setCell ?_ (by simp; try omega) _)))).mono ?_
  rintro e w2 ⟨v2, rfl, O2, hb2⟩
  obtain ⟨ta2, tp2, th2, _⟩ := Rep.len_raw O2.raw; obtain rfl : v2 = _ := by simpa using th2
  clear th2
  have L2 : w1.heap.size ≤ w2.heap.size := by have h := hb2.size; simp at h; omega
  have HO2 := Lib.hid (Rep.own.wide (T := Btw (w1.heap.size) w2.heap.size) O2 (fun j hj => ⟨by have h := hj.1; simp at h; omega, hj.2⟩)); clear O2
  have E2 : Below w.heap.size w w2 := Below.trans (by repeat (first | (with_reducible exact HE1.out) | refine Below.setCell ?_ (by simp; try omega) _)) (hb2.mono (by simp; omega))
  have HE2 := Lib.hid E2; clear E2
  have HP1_2 := Lib.hid ((HO1.out).out (w' := w2) (fun j h1 h2 => (hb2.block j (by simp; omega)).trans (by simp (discharger := (simp; omega)) only [heap_setCell_other]))); clear HO1
  have g2_0 : w.heap.size < w2.heap.size := by omega
  have g2_1 : w.heap.size + 1 < w2.heap.size := by omega
  have g2_2 : w.heap.size + 1 + 1 < w2.heap.size := by omega
  obtain ⟨hc2, hf2⟩ := bcell hb2
  clear hb2
  go_wp2_with fail
  refine (toName_c (r2.below (by repeat (first | (with_reducible exact HE2.out) | refine Below.setCell ?_ (by simp; try omega) _)))).mono ?_
  rintro e w3 ⟨cs3, rfl, O3, hb3⟩
  obtain ⟨t3v0, rfl, t3_0⟩ := RName_raw O3.raw
  obtain ⟨t3a0, t3p0, t3h0, t3l0⟩ := Rep.len_raw t3_0; obtain rfl : t3v0 = _ := by simpa using t3h0
  clear t3h0
  clear t3_0
  have L3 : w2.heap.size ≤ w3.heap.size := by have h := hb3.size; simp at h; omega
  have HO3 := Lib.hid (Rep.own.wide (T := Btw (w2.heap.size) w3.heap.size) O3 (fun j hj => ⟨by have h := hj.1; simp at h; omega, hj.2⟩)); clear O3
  have E3 : Below w.heap.size w w3 := Below.trans (by repeat (first | (with_reducible exact HE2.out) | refine Below.setCell ?_ (by simp; try omega) _)) (hb3.mono (by simp; omega))
  have HE3 := Lib.hid E3; clear E3
  have HP1_3 := Lib.hid ((HP1_2.out).out (w' := w3) (fun j h1 h2 => (hb3.block j (by simp; omega)).trans (by simp (discharger := (simp; omega)) only [heap_setCell_other]))); clear HP1_2
  have HP2_3 := Lib.hid ((HO2.out).out (w' := w3) (fun j h1 h2 => (hb3.block j (by simp; omega)).trans (by simp (discharger := (simp; omega)) only [heap_setCell_other]))); clear HO2
  have g3_0 : w.heap.size < w3.heap.size := by omega
  have g3_1 : w.heap.size + 1 < w3.heap.size := by omega
  have g3_2 : w.heap.size + 1 + 1 < w3.heap.size := by omega
  obtain ⟨hc3, hf3⟩ := bcell hb3
  clear hb3
  go_wp2
  refine bodyPost_ret (v := .agg #[.slice t1a0 x0.length t1p0, .slice ta2 x1.length tp2, .slice t3a0 x2.length t3p0, .int .i64 x3, .int .i64 x4]) (by simp [results, Try.results107, go_sem, hc1, g1_0, g1_1, g1_2, hc2, g2_0, g2_1, g2_2, hc3, g3_0, g3_1, g3_2]) rfl ⟨[_, _, _, _, _], rfl, ?_, ?_⟩
  · refine Rep.own.wide (S := Btw (w.heap.size + 3) (w3.heap.size)) ?_ (fun j hj => ⟨by have := hj.1; omega, by have := hj.2; simp [World.setCell]; omega⟩)
    exact Rep.own_pair (r := RName) (q := (Rep.pair (Rep.slice 5 Rep.byte) (Rep.pair RName (Rep.pair Rep.int Rep.int)))) (cs := [.slice t1a0 x0.length t1p0]) (ds := [.slice ta2 x1.length tp2, .slice t3a0 x2.length t3p0, .int .i64 x3, .int .i64 x4]) (x := x0) (y := (x1, x2, x3, x4)) (S := Btw (w.heap.size + 3) (w3.heap.size)) (Rep.own.out HP1_3.out (fun j h1 h2 => by simp (discharger := (simp; omega)) only [heap_setCell_other])) (Rep.own_pair (r := (Rep.slice 5 Rep.byte)) (q := (Rep.pair RName (Rep.pair Rep.int Rep.int))) (cs := [.slice ta2 x1.length tp2]) (ds := [.slice t3a0 x2.length t3p0, .int .i64 x3, .int .i64 x4]) (x := x1) (y := (x2, x3, x4)) (S := Btw (w1.heap.size) (w3.heap.size)) (Rep.own.out HP2_3.out (fun j h1 h2 => by simp (discharger := (simp; omega)) only [heap_setCell_other])) (Rep.own_flat (r := RName) (q := (Rep.pair Rep.int Rep.int)) (cs := [.slice t3a0 x2.length t3p0]) (ds := [.int .i64 x3, .int .i64 x4]) (x := x2) (y := (x3, x4)) (Rep.own.out HO3.out (fun j h1 h2 => by simp (discharger := (simp; omega)) only [heap_setCell_other])) (Rep.flat_pair (r := Rep.int) (q := Rep.int) (cs := [.int .i64 x3]) (ds := [.int .i64 x4]) (x := x3) (y := x4) (Rep.flat_int N3.out) (Rep.flat_int N4.out))) (fun j hj => ⟨hj.1, by have := hj.2; omega⟩) (fun j hj => ⟨by have := hj.1; omega, hj.2⟩) (fun j h1 h2 => by have p := h1.2; have q := h2.1; omega)) (fun j hj => ⟨hj.1, by have := hj.2; omega⟩) (fun j hj => ⟨by have := hj.1; omega, hj.2⟩) (fun j h1 h2 => by have p := h1.2; have q := h2.1; omega)
  · repeat (first | (with_reducible exact HE3.out) | refine Below.setCell ?_ (by simp; try omega) _)
set_option maxRecDepth 100000 in
set_option maxHeartbeats 1000000 in
theorem toOutgoing_c {w : World} {ca : List Value} {x : LOutgoing} (ha : ROutgoing.rd w ca x) : Calls Try.prog 83 #[.agg ca.toArray] w (MadeAgg ROutgoing x w) := by
  obtain ⟨ha, hbd⟩ := ha
  obtain ⟨av2, av6, av7, av8, rfl, a_0, a_1, a_2, a_3, a_4, a_5, a_6, a_7, a_8, a_9, a_10, a_11, a_12, a_13, a_14⟩ := ROutgoing_raw ha
  obtain ⟨x0, x1, x2, x3⟩ := x
  have N0 := Lib.hid a_0
  have r2 : RInterest.rd w _ x2 := ⟨a_1, hbd.2.2.1⟩
  have r3 : RData.rd w _ x3 := ⟨a_7, hbd.2.2.2⟩
  clear ha hbd a_0 a_1 a_2 a_3 a_4 a_5 a_6 a_7 a_8 a_9 a_10 a_11 a_12 a_13 a_14
  go_enter Try.func83, Try.ntmps83
  go_wp2_with fail
  refine (toInterest_c (((r2.alloc _).alloc _).alloc _)).mono ?_
  rintro e w1 ⟨cs1, rfl, O1, hb1⟩
  obtain ⟨t1v0, rfl, t1_0, t1_1, t1_2, t1_3, t1_4⟩ := RInterest_raw O1.raw
  obtain ⟨t1a0, t1p0, t1h0, t1l0⟩ := Rep.len_raw t1_1; obtain rfl : t1v0 = _ := by simpa using t1h0
  clear t1h0
  clear t1_0 t1_1 t1_2 t1_3 t1_4
  have L1 : w.heap.size + 3 ≤ w1.heap.size := by have h := hb1.size; simp at h; omega
  have HO1 := Lib.hid (Rep.own.wide (T := Btw (w.heap.size + 3) w1.heap.size) O1 (fun j hj => ⟨by have h := hj.1; simp at h; omega, hj.2⟩)); clear O1
  have E1 : Below w.heap.size w w1 := ((((Below.refl _ _).alloc (Nat.le_refl _) _).alloc (by simp) _).alloc (by simp; omega) _).trans (hb1.mono (by simp; omega))
  have HE1 := Lib.hid E1; clear E1
  have g1_0 : w.heap.size < w1.heap.size := by omega
  have g1_1 : w.heap.size + 1 < w1.heap.size := by omega
  have g1_2 : w.heap.size + 1 + 1 < w1.heap.size := by omega
  obtain ⟨hc1, hf1⟩ := bcell hb1
  clear hb1
  go_wp2_with fail
  refine (toData_c (r3.below (by repeat (first | (with_reducible exact HE1.out) | refine Below.setCell ?_ (by simp; try omega) _)))).mono ?_
  rintro e w2 ⟨cs2, rfl, O2, hb2⟩
  obtain ⟨t2v0, t2v1, t2v2, rfl, t2_0, t2_1, t2_2, t2_3, t2_4, t2_5, t2_6⟩ := RData_raw O2.raw
  obtain ⟨t2a0, t2p0, t2h0, t2l0⟩ := Rep.len_raw t2_1; obtain rfl : t2v0 = _ := by simpa using t2h0
  clear t2h0
  obtain ⟨t2a1, t2p1, t2h1, t2l1⟩ := Rep.len_raw t2_2; obtain rfl : t2v1 = _ := by simpa using t2h1
  clear t2h1
  obtain ⟨t2a2, t2p2, t2h2, t2l2⟩ := Rep.len_raw t2_4; obtain rfl : t2v2 = _ := by simpa using t2h2
  clear t2h2
  clear t2_0 t2_1 t2_2 t2_3 t2_4 t2_5 t2_6
  have L2 : w1.heap.size ≤ w2.heap.size := by have h := hb2.size; simp at h; omega
  have HO2 := Lib.hid (Rep.own.wide (T := Btw (w1.heap.size) w2.heap.size) O2 (fun j hj => ⟨by have h := hj.1; simp at h; omega, hj.2⟩)); clear O2
  have E2 : Below w.heap.size w w2 := Below.trans (by repeat (first | (with_reducible exact HE1.out) | refine Below.setCell ?_ (by simp; try omega) _)) (hb2.mono (by simp; omega))
  have HE2 := Lib.hid E2; clear E2
  have HP1_2 := Lib.hid ((HO1.out).out (w' := w2) (fun j h1 h2 => (hb2.block j (by simp; omega)).trans (by simp (discharger := (simp; omega)) only [heap_setCell_other]))); clear HO1
  have g2_0 : w.heap.size < w2.heap.size := by omega
  have g2_1 : w.heap.size + 1 < w2.heap.size := by omega
  have g2_2 : w.heap.size + 1 + 1 < w2.heap.size := by omega
  obtain ⟨hc2, hf2⟩ := bcell hb2
  clear hb2
  go_wp2
  refine bodyPost_ret (v := .agg #[.int .i64 x0, .bool x1, .slice t1a0 x2.1.length t1p0, .int .i64 x2.2.1, .int .i64 x2.2.2.1, .int .i64 x2.2.2.2, .slice t2a0 x3.1.length t2p0, .slice t2a1 x3.2.1.length t2p1, .slice t2a2 x3.2.2.1.length t2p2, .int .i64 x3.2.2.2.1, .int .i64 x3.2.2.2.2]) (by simp [results, Try.results83, go_sem, hc1, g1_0, g1_1, g1_2, hc2, g2_0, g2_1, g2_2]) rfl ⟨[_, _, _, _, _, _, _, _, _, _, _], rfl, ?_, ?_⟩
  · refine Rep.own.wide (S := Btw (w.heap.size + 3) (w2.heap.size)) ?_ (fun j hj => ⟨by have := hj.1; omega, by have := hj.2; simp [World.setCell]; omega⟩)
    exact Rep.flat_own (r := Rep.int) (q := (Rep.pair Rep.bool (Rep.pair RInterest RData))) (cs := [.int .i64 x0]) (ds := [.bool x1, .slice t1a0 x2.1.length t1p0, .int .i64 x2.2.1, .int .i64 x2.2.2.1, .int .i64 x2.2.2.2, .slice t2a0 x3.1.length t2p0, .slice t2a1 x3.2.1.length t2p1, .slice t2a2 x3.2.2.1.length t2p2, .int .i64 x3.2.2.2.1, .int .i64 x3.2.2.2.2]) (x := x0) (y := (x1, x2, x3)) (Rep.flat_int N0.out) (Rep.flat_own (r := Rep.bool) (q := (Rep.pair RInterest RData)) (cs := [.bool x1]) (ds := [.slice t1a0 x2.1.length t1p0, .int .i64 x2.2.1, .int .i64 x2.2.2.1, .int .i64 x2.2.2.2, .slice t2a0 x3.1.length t2p0, .slice t2a1 x3.2.1.length t2p1, .slice t2a2 x3.2.2.1.length t2p2, .int .i64 x3.2.2.2.1, .int .i64 x3.2.2.2.2]) (x := x1) (y := (x2, x3)) (Rep.flat_bool x1) (Rep.own_pair (r := RInterest) (q := RData) (cs := [.slice t1a0 x2.1.length t1p0, .int .i64 x2.2.1, .int .i64 x2.2.2.1, .int .i64 x2.2.2.2]) (ds := [.slice t2a0 x3.1.length t2p0, .slice t2a1 x3.2.1.length t2p1, .slice t2a2 x3.2.2.1.length t2p2, .int .i64 x3.2.2.2.1, .int .i64 x3.2.2.2.2]) (x := x2) (y := x3) (S := Btw (w.heap.size + 3) (w2.heap.size)) (Rep.own.out HP1_2.out (fun j h1 h2 => by simp (discharger := (simp; omega)) only [heap_setCell_other])) (Rep.own.out HO2.out (fun j h1 h2 => by simp (discharger := (simp; omega)) only [heap_setCell_other])) (fun j hj => ⟨hj.1, by have := hj.2; omega⟩) (fun j hj => ⟨by have := hj.1; omega, hj.2⟩) (fun j h1 h2 => by have p := h1.2; have q := h2.1; omega)))
  · repeat (first | (with_reducible exact HE2.out) | refine Below.setCell ?_ (by simp; try omega) _)
theorem infoOutgoing : (Try.prog.info? 121).map (fun i => (i.zero, i.size, i.bytes)) = some (some (.agg #[.int .i64 0, .bool false, .slice none 0 0, .int .i64 0, .int .i64 0, .int .i64 0, .slice none 0 0, .slice none 0 0, .slice none 0 0, .int .i64 0, .int .i64 0]), 11, 152) := by kernel_rfl
set_option maxRecDepth 100000 in
set_option maxHeartbeats 400000 in
theorem toOutgoingS_c {w : World} {va : Value} {x : List LOutgoing} (ha : (Rep.slice 121 ROutgoing).rd w [va] x) : Calls Try.prog 42 #[va] w (MadePost (Rep.slice 121 ROutgoing) x w) := by
  obtain ⟨aa, capa, hva, la⟩ := Rep.len_raw ha.1; obtain rfl : va = _ := by simpa using hva
  clear hva
  have lb : x.length ≤ 16777216 := ha.2.1
  obtain ⟨i0, hi, hz0, hz1, hz2⟩ := info_parts infoOutgoing
  have hmk : ∀ W : World, (Instr.makeSlice 71 (.int .i64 (x.length : Int)) (.int .i64 (x.length : Int))).run Try.prog W = .ok (.slice (some ⟨W.heap.size, 0, none⟩) x.length x.length) (W.alloc (.cells (madeCells #[.int .i64 0, .bool false, .slice none 0 0, .int .i64 0, .int .i64 0, .int .i64 0, .slice none 0 0, .slice none 0 0, .slice none 0 0, .int .i64 0, .int .i64 0] (x.length * 11)) 121)) := by
    intro W
    have h := run_make (P := Try.prog) W 71 121 i0 _ (by kernel_rfl) hi hz0 .i64 .i64 (x.length : Int) (x.length : Int) (by omega) (by omega) (by rw [hz2]; omega) (by omega)
    rw [hz1] at h
    simpa [Value.cells] using h
  clear hz0 hz1 hz2 hi
  go_enter Try.func42, Try.ntmps42
  go_wp2; clear hmk
  have h0 := Rep.own0_make (e := 121) (w := w) (r := ROutgoing) (zs := #[.int .i64 0, .bool false, .slice none 0 0, .int .i64 0, .int .i64 0, .int .i64 0, .slice none 0 0, .slice none 0 0, .slice none 0 0, .int .i64 0, .int .i64 0]) (n := x.length) (S := Btw w.heap.size (w.heap.size + 1)) rfl rfl (by decide) (by unfold maxLen; omega) ⟨Nat.le_refl _, by omega⟩
  have h1 : (Rep.slice 121 ROutgoing).own (w.alloc (.cells (madeCells #[.int .i64 0, .bool false, .slice none 0 0, .int .i64 0, .int .i64 0, .int .i64 0, .slice none 0 0, .slice none 0 0, .slice none 0 0, .int .i64 0, .int .i64 0] (x.length * 11)) 121)) _ _ _ := h0.own (by simpa using ha.2.1)
  clear h0
  go_loopw [4] (fun i wr => ∃ k : Nat, k ≤ x.length ∧ i = .int .i64 k ∧ (Rep.slice 121 ROutgoing).own wr [.slice (some ⟨w.heap.size, 0, none⟩) x.length x.length] (x.take k ++ List.replicate (x.length - k) ROutgoing.zero) (Btw w.heap.size wr.heap.size) ∧ Below w.heap.size w wr ∧ w.heap.size < wr.heap.size) (fun i _ => x.length - (intOf i).toNat)
  case atStart => exact ⟨0, Nat.zero_le _, rfl, by simpa using h1, (Below.refl _ _).alloc (Nat.le_refl _) _, by simp⟩
  case round =>
    obtain ⟨k, hk, rfl, hout, hbel, hgt⟩ := hrel
    by_cases hlt : k < x.length
    · obtain ⟨ba, offa, rfl, c0, c1, c2, c3, c4, c5, c6, c7, c8, c9, c10, hr, A0, A1, A2, A3, A4, A5, A6, A7, A8, A9, A10⟩ := Rep.get11 (ha.1.below hbel) hlt rfl
      have hlen : (x.take k ++ List.replicate (x.length - k) ROutgoing.zero).length = x.length := Rep.fill_length hk
      have hrd : ROutgoing.rd wr [c0, c1, c2, c3, c4, c5, c6, c7, c8, c9, c10] x[k] := ⟨hr, Rep.raw_bdd ha hlt⟩
      clear hr
      go_wp2_with fail
      refine (toOutgoing_c hrd).mono ?_
      rintro e w2 ⟨cs, rfl, hown, hb2⟩
      obtain ⟨tv2, tv6, tv7, tv8, rfl, t_0, t_1, t_2, t_3, t_4, t_5, t_6, t_7, t_8, t_9, t_10, t_11, t_12, t_13, t_14⟩ := ROutgoing_raw hown.raw
      obtain ⟨ta2, tp2, th2, tl2⟩ := Rep.len_raw t_3; obtain rfl : tv2 = _ := by simpa using th2
      clear th2
      obtain ⟨ta6, tp6, th6, tl6⟩ := Rep.len_raw t_9; obtain rfl : tv6 = _ := by simpa using th6
      clear th6
      obtain ⟨ta7, tp7, th7, tl7⟩ := Rep.len_raw t_10; obtain rfl : tv7 = _ := by simpa using th7
      clear th7
      obtain ⟨ta8, tp8, th8, tl8⟩ := Rep.len_raw t_12; obtain rfl : tv8 = _ := by simpa using th8
      clear th8
      clear t_0 t_1 t_2 t_3 t_4 t_5 t_6 t_7 t_8 t_9 t_10 t_11 t_12 t_13 t_14
      have hout2 := hout.below hb2
      obtain ⟨o0, o1, o2, o3, o4, o5, o6, o7, o8, o9, o10, hro, O0, O1, O2, O3, O4, O5, O6, O7, O8, O9, O10⟩ := Rep.at11 hout2.raw (i := k) (by omega) rfl
      have hfz := Rep.own_frozen hout2 (by omega)
      have Z0 := hfz (k * 11)
      have Z1 := hfz (k * 11 + 1)
      have Z2 := hfz (k * 11 + 2)
      have Z3 := hfz (k * 11 + 3)
      have Z4 := hfz (k * 11 + 4)
      have Z5 := hfz (k * 11 + 5)
      have Z6 := hfz (k * 11 + 6)
      have Z7 := hfz (k * 11 + 7)
      have Z8 := hfz (k * 11 + 8)
      have Z9 := hfz (k * 11 + 9)
      have Z10 := hfz (k * 11 + 10)
      obtain ⟨hs, ht⟩ := Rep.own_set hout2 (i := k) (p := k * 11) (by omega) hown (fun j h1 h2 => by have a1 := h1.2; have a2 := h2.1; omega) (show k * 11 = 0 + k * 11 by omega)
      rw [Rep.fill_set hlt] at hs
      have hsz := hb2.size
      have hbel2 := hbel.trans (hb2.mono hbel.size)
      have HS := Lib.hid hs; have HT := Lib.hid ht; clear hs ht hout hout2 hro hlen hrd hfz hown hb2
      go_wp2
      go_roundw
      case rel => exact ⟨k + 1, by omega, by go_num, HS.out.wide (fun j hj => hj.elim (fun q => ⟨q.1, by have := q.2; simp [World.setCell] at this ⊢; omega⟩) (fun q => ⟨by have := q.1; omega, by have := q.2; simp [World.setCell] at this ⊢; omega⟩)), (((((((((((hbel2.setCell (Nat.le_refl _) _).setCell (Nat.le_refl _) _).setCell (Nat.le_refl _) _).setCell (Nat.le_refl _) _).setCell (Nat.le_refl _) _).setCell (Nat.le_refl _) _).setCell (Nat.le_refl _) _).setCell (Nat.le_refl _) _).setCell (Nat.le_refl _) _).setCell (Nat.le_refl _) _).setCell (Nat.le_refl _) _), by simp [World.setCell]; omega⟩
      case measure => simp [intOf]; omega
    · rw [Rep.fill_all hk hlt] at hout
      have HO := Lib.hid hout; clear hout
      go_wp2
      go_ret
      exact ⟨_, rfl, HO.out, hbel⟩
end Go.Proofs.Ytclhapbahkjljaa

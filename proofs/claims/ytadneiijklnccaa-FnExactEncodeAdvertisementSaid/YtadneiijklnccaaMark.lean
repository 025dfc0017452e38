/-
  The laws' markings: each writes new numbers into all that its argument leads to, and into nothing else. Printed by genmark.py.
-/
import Derived.Test.YtadneiijklnccaaProg
import Derived.Test.YtadneiijklnccaaTypes
import Derived.Test.YtadneiijklnccaaMarkT
import Derived.WalkKit
import Derived.WalkSpells
import Derived.WalkLawsBesides
import Derived.BigQuiet
import Derived.Deep.QuietTactic
import Derived.StillTailTactics
namespace Go.Proofs.Ytadneiijklnccaa
open Go.RowKit
set_option linter.unusedVariables false
set_option linter.unusedSimpArgs false
set_option linter.unnecessarySimpa false
theorem set_int {E v : Int} (hv : -9223372036854775808 ≤ v ∧ v ≤ 9223372036854775807) {w : World} {cs : List Value} {S : Nat → Prop} (h : Rep.int.is true w cs E S) : Rep.int.is true w (cs.set 0 (.int .i64 v)) v S := by
  obtain ⟨rfl, _⟩ := h; exact ⟨rfl, hv⟩
theorem set_str {E v : ByteArray} (hv : v.size ≤ maxLen) {w : World} {cs : List Value} {S : Nat → Prop} (h : Rep.str.is true w cs E S) : Rep.str.is true w (cs.set 0 (.string v)) v S := by
  obtain ⟨rfl, _⟩ := h; exact ⟨rfl, hv⟩
theorem set_byte {E v : UInt8} {w : World} {cs : List Value} {S : Nat → Prop} (h : Rep.byte.is true w cs E S) : Rep.byte.is true w (cs.set 0 (.int .u8 v.toNat)) v S := by
  obtain rfl := (show _ = _ from h); rfl
theorem mt_max (k : Int) : (mt k).size ≤ maxLen := by have := size_mt k; unfold maxLen; omega
theorem mt_big (k : Int) : (mt k).size ≤ Big := by have := size_mt k; unfold Big; omega
theorem u8_mark (k : Int) : ((UInt8.ofNat (k % 256).toNat).toNat : Int) = k % 256 := by
  rw [UInt8.toNat_ofNat']; omega
theorem set_byteQ {E : UInt8} {q : Int} {w : World} {cs : List Value} {S : Nat → Prop} (h : Rep.byte.is true w cs E S) : Rep.byte.is true w (cs.set 0 (.int .u8 (q % 256))) (UInt8.ofNat (q % 256).toNat) S := by
  have := set_byte (v := UInt8.ofNat (q % 256).toNat) h
  rwa [u8_mark q] at this
set_option maxRecDepth 100000 in
set_option maxHeartbeats 16000000 in
theorem markIntS_c {w : World} {va : Value} {x : List Int} {k : Int} {S : Nat → Prop} (ha : (Rep.slice 3 Rep.int).own w [va] x S) (hk0 : 0 ≤ k) (hk1 : k + ((Rep.slice 3 Rep.int).cnt : Nat) ≤ Top) :
    Calls Try.prog 26 #[va, .int .i64 k] w (MarkPost (Rep.slice 3 Rep.int) true x k [va] S w) := by
  obtain ⟨aa, capa, hva, la⟩ := Rep.len_raw ha.raw; obtain rfl : va = _ := by simpa using hva
  clear hva
  have lb : x.length ≤ 16777216 := ha.2.1
  have hbd := Lib.hid ha.2
  have HK := Lib.hid hk1; clear hk1
  have hk2 : k ≤ 4611686018427387904 := by have := HK.out; unfold Top at this; omega
  go_enter Try.func26, Try.ntmps26
  go_wp2
  go_loopw [1, 5] (fun l i wr => ∃ (j : Nat), j ≤ x.length ∧ i = .int .i64 j ∧ l = .int .i64 (Rep.mkL Rep.int (x.take j) k).2 ∧ (Rep.slice 3 Rep.int).own wr [.slice aa x.length capa] ((Rep.mkL Rep.int (x.take j) k).1 ++ x.drop j) S ∧ Touch S w wr) (fun _ i _ => x.length - (intOf i).toNat)
  case atStart => exact ⟨0, Nat.zero_le _, rfl, rfl, by simpa [Rep.mkL] using ha, Touch.refl _ _⟩
  case round =>
    obtain ⟨j, hj, rfl, rfl, hown, ht⟩ := hrel
    by_cases hlt : j < x.length
    · obtain ⟨hln, b, off, rfl, hSb, hbw⟩ := Rep.own_addr hown (by rw [Rep.mark_len]; omega)
      clear hln
      rw [Rep.mark_start hlt] at hown
      obtain ⟨q0, q1⟩ := Rep.mark_bound (e := 3) (r := Rep.int) hbd.out hlt HK.out hk0
      have HE : ∀ y, y = (Rep.int.mark true x[j] (Rep.mkL Rep.int (x.take j) k).2).1 → Hid (((Rep.mkL Rep.int (x.take j) k).1 ++ x.drop j).set j y = (Rep.mkL Rep.int (x.take (j + 1)) k).1 ++ x.drop (j + 1)) := fun y hy => Lib.hid (Rep.mark_end hlt hy)
      have HF := Lib.hid (Rep.mark_end2 (r := Rep.int) (k := k) hlt)
      have hLl : j < ((Rep.mkL Rep.int (x.take j) k).1 ++ x.drop j).length := by rw [Rep.mark_len]; exact hlt
      have HL := Lib.hid hLl; clear hLl
      generalize (Rep.mkL Rep.int (x.take j) k).2 = q at *
      generalize (Rep.mkL Rep.int (x.take j) k).1 ++ x.drop j = M at *
      generalize hx : x[j] = y at *
      have HX := Lib.hid hx; clear hx
      obtain ⟨y0, rfl⟩ : ∃ y0, y0 = y := ⟨_, rfl⟩
      have HEH := Lib.hid HE; clear HE
      have HQ := Lib.hid q1; clear q1
      have q2 : q ≤ 4611686018427387904 := by have := HQ.out; unfold Top at this; omega
      obtain ⟨c, B, hc, hB, hSb', hcell, hfz, back⟩ := Rep.own_get' hown HL.out
      obtain ⟨d0_0, rfl⟩ : ∃ d0_0, c = [d0_0] := by have h := Rep.int.len hc.1; match c, h with | [d0_0], _ => exact ⟨_, rfl⟩
      have C0_0 : wr.cell? ⟨b, off + j, none⟩ = some d0_0 := (by have h : wr.cell? ⟨b, off + j * 1 + 0, none⟩ = _ := hcell 0 _ rfl; simpa using h)
      have Z0_0 := hfz (off + j)
      clear hB hSb' hcell hfz back
      obtain ⟨hce, _⟩ := Rep.int_raw hc.raw
      obtain rfl : d0_0 = _ := by simpa using hce
      clear hce
      clear hc
      obtain ⟨O1, T1⟩ := Rep.own_setCell' (v := .int .i64 (q)) (p := off + j) hown HL.out (show 0 < Rep.int.n by decide) (set_int ⟨by omega, by omega⟩) (fun h => h) (show off + j = off + j * 1 + 0 by omega)
      have T1 := ht.trans (T1.wide (fun i hi => by rw [hi]; exact hSb))
      have EQ := HEH.out _ rfl
      have OF := Lib.hid (EQ.out ▸ O1); have TF := Lib.hid T1
      have QF : Hid ((q + 1) = (Rep.mkL Rep.int (x.take (j + 1)) k).2) := Lib.hid (by rw [HF.out]; rfl)
      go_wp2
      go_roundw
      case rel => exact ⟨j + 1, by omega, by go_num, by rw [← QF.out], OF.out, TF.out⟩
      case measure => simp [intOf]; omega
    · obtain ⟨e1, e2⟩ := Rep.mark_full (r := Rep.int) (k := k) hlt
      rw [e1] at hown
      have HO := Lib.hid hown; have HT := Lib.hid e2; clear hown e1 e2
      go_wp2
      go_ret
      exact ⟨ret_int HT.out, HO.out, ht⟩
set_option maxRecDepth 100000 in
set_option maxHeartbeats 16000000 in
theorem markStringS_c {w : World} {va : Value} {x : List ByteArray} {k : Int} {S : Nat → Prop} (ha : (Rep.slice 9 Rep.str).own w [va] x S) (hk0 : 0 ≤ k) (hk1 : k + ((Rep.slice 9 Rep.str).cnt : Nat) ≤ Top) :
    Calls Try.prog 41 #[va, .int .i64 k] w (MarkPost (Rep.slice 9 Rep.str) true x k [va] S w) := by
  obtain ⟨aa, capa, hva, la⟩ := Rep.len_raw ha.raw; obtain rfl : va = _ := by simpa using hva
  clear hva
  have lb : x.length ≤ 16777216 := ha.2.1
  have hbd := Lib.hid ha.2
  have HK := Lib.hid hk1; clear hk1
  have hk2 : k ≤ 4611686018427387904 := by have := HK.out; unfold Top at this; omega
  go_enter Try.func41, Try.ntmps41
  go_wp2
  go_loopw [1, 5] (fun l i wr => ∃ (j : Nat), j ≤ x.length ∧ i = .int .i64 j ∧ l = .int .i64 (Rep.mkL Rep.str (x.take j) k).2 ∧ (Rep.slice 9 Rep.str).own wr [.slice aa x.length capa] ((Rep.mkL Rep.str (x.take j) k).1 ++ x.drop j) S ∧ Touch S w wr) (fun _ i _ => x.length - (intOf i).toNat)
  case atStart => exact ⟨0, Nat.zero_le _, rfl, rfl, by simpa [Rep.mkL] using ha, Touch.refl _ _⟩
  case round =>
    obtain ⟨j, hj, rfl, rfl, hown, ht⟩ := hrel
    by_cases hlt : j < x.length
    · obtain ⟨hln, b, off, rfl, hSb, hbw⟩ := Rep.own_addr hown (by rw [Rep.mark_len]; omega)
      clear hln
      rw [Rep.mark_start hlt] at hown
      obtain ⟨q0, q1⟩ := Rep.mark_bound (e := 9) (r := Rep.str) hbd.out hlt HK.out hk0
      have HE : ∀ y, y = (Rep.str.mark true x[j] (Rep.mkL Rep.str (x.take j) k).2).1 → Hid (((Rep.mkL Rep.str (x.take j) k).1 ++ x.drop j).set j y = (Rep.mkL Rep.str (x.take (j + 1)) k).1 ++ x.drop (j + 1)) := fun y hy => Lib.hid (Rep.mark_end hlt hy)
      have HF := Lib.hid (Rep.mark_end2 (r := Rep.str) (k := k) hlt)
      have hLl : j < ((Rep.mkL Rep.str (x.take j) k).1 ++ x.drop j).length := by rw [Rep.mark_len]; exact hlt
      have HL := Lib.hid hLl; clear hLl
      generalize (Rep.mkL Rep.str (x.take j) k).2 = q at *
      generalize (Rep.mkL Rep.str (x.take j) k).1 ++ x.drop j = M at *
      generalize hx : x[j] = y at *
      have HX := Lib.hid hx; clear hx
      obtain ⟨y0, rfl⟩ : ∃ y0, y0 = y := ⟨_, rfl⟩
      have HEH := Lib.hid HE; clear HE
      have HQ := Lib.hid q1; clear q1
      have q2 : q ≤ 4611686018427387904 := by have := HQ.out; unfold Top at this; omega
      obtain ⟨c, B, hc, hB, hSb', hcell, hfz, back⟩ := Rep.own_get' hown HL.out
      obtain ⟨d0_0, rfl⟩ : ∃ d0_0, c = [d0_0] := by have h := Rep.str.len hc.1; match c, h with | [d0_0], _ => exact ⟨_, rfl⟩
      have C0_0 : wr.cell? ⟨b, off + j, none⟩ = some d0_0 := (by have h : wr.cell? ⟨b, off + j * 1 + 0, none⟩ = _ := hcell 0 _ rfl; simpa using h)
      have Z0_0 := hfz (off + j)
      clear hB hSb' hcell hfz back
      obtain ⟨hce, _⟩ := Rep.str_raw hc.raw
      obtain rfl : d0_0 = _ := by simpa using hce
      clear hce
      clear hc
      go_wp2_with fail
      refine (markText_c (k := q) (by omega) (by omega)).mono ?_
      clear C0_0 Z0_0
      rintro e w1 ⟨rfl, hb1⟩
      have Ox1 := hown.below hb1
      have Tx1 := ht.trans (Touch.of_below hb1)
      clear hb1
      obtain ⟨c, B, hc, hB, hSb', hcell, hfz, back⟩ := Rep.own_get' Ox1 HL.out
      obtain ⟨d1_0, rfl⟩ : ∃ d1_0, c = [d1_0] := by have h := Rep.str.len hc.1; match c, h with | [d1_0], _ => exact ⟨_, rfl⟩
      have C1_0 : w1.cell? ⟨b, off + j, none⟩ = some d1_0 := (by have h : w1.cell? ⟨b, off + j * 1 + 0, none⟩ = _ := hcell 0 _ rfl; simpa using h)
      have Z1_0 := hfz (off + j)
      clear hB hSb' hcell hfz back
      obtain ⟨hce, _⟩ := Rep.str_raw hc.raw
      obtain rfl : d1_0 = _ := by simpa using hce
      clear hce
      clear hc
      obtain ⟨O1, T1⟩ := Rep.own_setCell' (v := .string (mt (q))) (p := off + j) Ox1 HL.out (show 0 < Rep.str.n by decide) (set_str (mt_max _)) (fun _ => mt_big _) (show off + j = off + j * 1 + 0 by omega)
      have T1 := Tx1.trans (T1.wide (fun i hi => by rw [hi]; exact hSb))
      have EQ := HEH.out _ rfl
      have OF := Lib.hid (EQ.out ▸ O1); have TF := Lib.hid T1
      have QF : Hid ((q + 1) = (Rep.mkL Rep.str (x.take (j + 1)) k).2) := Lib.hid (by rw [HF.out]; rfl)
      go_wp2
      go_roundw
      case rel => exact ⟨j + 1, by omega, by go_num, by rw [← QF.out], OF.out, TF.out⟩
      case measure => simp [intOf]; omega
    · obtain ⟨e1, e2⟩ := Rep.mark_full (r := Rep.str) (k := k) hlt
      rw [e1] at hown
      have HO := Lib.hid hown; have HT := Lib.hid e2; clear hown e1 e2
      go_wp2
      go_ret
      exact ⟨ret_int HT.out, HO.out, ht⟩
set_option maxRecDepth 100000 in
set_option maxHeartbeats 16000000 in
theorem markByteS_c {w : World} {va : Value} {x : List UInt8} {k : Int} {S : Nat → Prop} (ha : (Rep.slice 5 Rep.byte).own w [va] x S) (hk0 : 0 ≤ k) (hk1 : k + ((Rep.slice 5 Rep.byte).cnt : Nat) ≤ Top) :
    Calls Try.prog 11 #[va, .int .i64 k] w (MarkPost (Rep.slice 5 Rep.byte) true x k [va] S w) := by
  obtain ⟨aa, capa, hva, la⟩ := Rep.len_raw ha.raw; obtain rfl : va = _ := by simpa using hva
  clear hva
  have lb : x.length ≤ 16777216 := ha.2.1
  have hbd := Lib.hid ha.2
  have HK := Lib.hid hk1; clear hk1
  have hk2 : k ≤ 4611686018427387904 := by have := HK.out; unfold Top at this; omega
  go_enter Try.func11, Try.ntmps11
  go_wp2
  go_loopw [1, 5] (fun l i wr => ∃ (j : Nat), j ≤ x.length ∧ i = .int .i64 j ∧ l = .int .i64 (Rep.mkL Rep.byte (x.take j) k).2 ∧ (Rep.slice 5 Rep.byte).own wr [.slice aa x.length capa] ((Rep.mkL Rep.byte (x.take j) k).1 ++ x.drop j) S ∧ Touch S w wr) (fun _ i _ => x.length - (intOf i).toNat)
  case atStart => exact ⟨0, Nat.zero_le _, rfl, rfl, by simpa [Rep.mkL] using ha, Touch.refl _ _⟩
  case round =>
    obtain ⟨j, hj, rfl, rfl, hown, ht⟩ := hrel
    by_cases hlt : j < x.length
    · obtain ⟨hln, b, off, rfl, hSb, hbw⟩ := Rep.own_addr hown (by rw [Rep.mark_len]; omega)
      clear hln
      rw [Rep.mark_start hlt] at hown
      obtain ⟨q0, q1⟩ := Rep.mark_bound (e := 5) (r := Rep.byte) hbd.out hlt HK.out hk0
      have HE : ∀ y, y = (Rep.byte.mark true x[j] (Rep.mkL Rep.byte (x.take j) k).2).1 → Hid (((Rep.mkL Rep.byte (x.take j) k).1 ++ x.drop j).set j y = (Rep.mkL Rep.byte (x.take (j + 1)) k).1 ++ x.drop (j + 1)) := fun y hy => Lib.hid (Rep.mark_end hlt hy)
      have HF := Lib.hid (Rep.mark_end2 (r := Rep.byte) (k := k) hlt)
      have hLl : j < ((Rep.mkL Rep.byte (x.take j) k).1 ++ x.drop j).length := by rw [Rep.mark_len]; exact hlt
      have HL := Lib.hid hLl; clear hLl
      generalize (Rep.mkL Rep.byte (x.take j) k).2 = q at *
      generalize (Rep.mkL Rep.byte (x.take j) k).1 ++ x.drop j = M at *
      generalize hx : x[j] = y at *
      have HX := Lib.hid hx; clear hx
      obtain ⟨y0, rfl⟩ : ∃ y0, y0 = y := ⟨_, rfl⟩
      have HEH := Lib.hid HE; clear HE
      have HQ := Lib.hid q1; clear q1
      have q2 : q ≤ 4611686018427387904 := by have := HQ.out; unfold Top at this; omega
      obtain ⟨c, B, hc, hB, hSb', hcell, hfz, back⟩ := Rep.own_get' hown HL.out
      obtain ⟨d0_0, rfl⟩ : ∃ d0_0, c = [d0_0] := by have h := Rep.byte.len hc.1; match c, h with | [d0_0], _ => exact ⟨_, rfl⟩
      have C0_0 : wr.cell? ⟨b, off + j, none⟩ = some d0_0 := (by have h : wr.cell? ⟨b, off + j * 1 + 0, none⟩ = _ := hcell 0 _ rfl; simpa using h)
      have Z0_0 := hfz (off + j)
      clear hB hSb' hcell hfz back
      obtain hce := Rep.byte_raw hc.raw
      obtain rfl : d0_0 = _ := by simpa using hce
      clear hce
      clear hc
      obtain ⟨O1, T1⟩ := Rep.own_setCell' (v := .int .u8 ((q) % 256)) (p := off + j) hown HL.out (show 0 < Rep.byte.n by decide) (set_byteQ) (fun h => h) (show off + j = off + j * 1 + 0 by omega)
      have T1 := ht.trans (T1.wide (fun i hi => by rw [hi]; exact hSb))
      have EQ := HEH.out _ rfl
      have OF := Lib.hid (EQ.out ▸ O1); have TF := Lib.hid T1
      have QF : Hid ((q + 1) = (Rep.mkL Rep.byte (x.take (j + 1)) k).2) := Lib.hid (by rw [HF.out]; rfl)
      go_wp2
      go_roundw
      case rel => exact ⟨j + 1, by omega, by go_num, by rw [← QF.out], OF.out, TF.out⟩
      case measure => simp [intOf]; omega
    · obtain ⟨e1, e2⟩ := Rep.mark_full (r := Rep.byte) (k := k) hlt
      rw [e1] at hown
      have HO := Lib.hid hown; have HT := Lib.hid e2; clear hown e1 e2
      go_wp2
      go_ret
      exact ⟨ret_int HT.out, HO.out, ht⟩
set_option maxRecDepth 100000 in
set_option maxHeartbeats 16000000 in
theorem markNameS_c {w : World} {va : Value} {x : List LName} {k : Int} {S : Nat → Prop} (ha : (Rep.slice 46 RName).own w [va] x S) (hk0 : 0 ≤ k) (hk1 : k + ((Rep.slice 46 RName).cnt : Nat) ≤ Top) :
    Calls Try.prog 27 #[va, .int .i64 k] w (MarkPost (Rep.slice 46 RName) true x k [va] S w) := by
  obtain ⟨aa, capa, hva, la⟩ := Rep.len_raw ha.raw; obtain rfl : va = _ := by simpa using hva
  clear hva
  have lb : x.length ≤ 16777216 := ha.2.1
  have hbd := Lib.hid ha.2
  have HK := Lib.hid hk1; clear hk1
  have hk2 : k ≤ 4611686018427387904 := by have := HK.out; unfold Top at this; omega
  go_enter Try.func27, Try.ntmps27
  go_wp2
  go_loopw [1, 5] (fun l i wr => ∃ (j : Nat), j ≤ x.length ∧ i = .int .i64 j ∧ l = .int .i64 (Rep.mkL RName (x.take j) k).2 ∧ (Rep.slice 46 RName).own wr [.slice aa x.length capa] ((Rep.mkL RName (x.take j) k).1 ++ x.drop j) S ∧ Touch S w wr) (fun _ i _ => x.length - (intOf i).toNat)
  case atStart => exact ⟨0, Nat.zero_le _, rfl, rfl, by simpa [Rep.mkL] using ha, Touch.refl _ _⟩
  case round =>
    obtain ⟨j, hj, rfl, rfl, hown, ht⟩ := hrel
    by_cases hlt : j < x.length
    · obtain ⟨hln, b, off, rfl, hSb, hbw⟩ := Rep.own_addr hown (by rw [Rep.mark_len]; omega)
      clear hln
      rw [Rep.mark_start hlt] at hown
      obtain ⟨q0, q1⟩ := Rep.mark_bound (e := 46) (r := RName) hbd.out hlt HK.out hk0
      have HE : ∀ y, y = (RName.mark true x[j] (Rep.mkL RName (x.take j) k).2).1 → Hid (((Rep.mkL RName (x.take j) k).1 ++ x.drop j).set j y = (Rep.mkL RName (x.take (j + 1)) k).1 ++ x.drop (j + 1)) := fun y hy => Lib.hid (Rep.mark_end hlt hy)
      have HF := Lib.hid (Rep.mark_end2 (r := RName) (k := k) hlt)
      have hLl : j < ((Rep.mkL RName (x.take j) k).1 ++ x.drop j).length := by rw [Rep.mark_len]; exact hlt
      have HL := Lib.hid hLl; clear hLl
      generalize (Rep.mkL RName (x.take j) k).2 = q at *
      generalize (Rep.mkL RName (x.take j) k).1 ++ x.drop j = M at *
      generalize hx : x[j] = y at *
      have HX := Lib.hid hx; clear hx
      obtain ⟨y0, rfl⟩ : ∃ y0, y0 = y := ⟨_, rfl⟩
      have HEH := Lib.hid HE; clear HE
      have HQ := Lib.hid q1; clear q1
      have q2 : q ≤ 4611686018427387904 := by have := HQ.out; unfold Top at this; omega
      obtain ⟨c, B, hc, hB, hSb', hcell, hfz, back⟩ := Rep.own_get' hown HL.out
      obtain ⟨d0_0, rfl⟩ : ∃ d0_0, c = [d0_0] := by have h := RName.len hc.1; match c, h with | [d0_0], _ => exact ⟨_, rfl⟩
      have C0_0 : wr.cell? ⟨b, off + j, none⟩ = some d0_0 := (by have h : wr.cell? ⟨b, off + j * 1 + 0, none⟩ = _ := hcell 0 _ rfl; simpa using h)
      have Z0_0 := hfz (off + j)
      clear hB hSb' hcell hfz back
      obtain ⟨s0v0, hce, s0_0⟩ := RName_raw hc.raw
      simp only [List.cons.injEq, and_true] at hce
      obtain rfl := hce
      obtain ⟨s0a0, s0p0, s0h0, _⟩ := Rep.len_raw s0_0; obtain rfl : d0_0 = _ := by simpa using s0h0
      clear s0h0
      clear s0_0
      clear hc
      go_wp2_with fail
      obtain ⟨c1, B1, hc1, hB1, _, hcell1, _, back1⟩ := Rep.own_get' hown HL.out
      obtain ⟨e1_0, rfl⟩ : ∃ e1_0, c1 = [e1_0] := by have h := RName.len hc1.1; match c1, h with | [e1_0], _ => exact ⟨_, rfl⟩
      have hd1 := hcell1 0 _ rfl
      obtain rfl : e1_0 = _ := by simpa [go_sem, C0_0, RName_n] using hd1.symm
      obtain ⟨A1, hA1, hAB1, bk1⟩ := RName_sub_0 hc1
      refine (markStringS_c (k := q) hA1 (by omega) (by have := HQ.out; have e : RName.cnt = (Rep.slice 9 Rep.str).cnt := rfl; omega)).mono ?_
      rintro e w1 ⟨rfl, P1, X1⟩
      have Ox1 := back1 (bk1 P1 X1) (X1.wide hAB1)
      have Tx1 := ht.trans (X1.wide (fun i hi => (hB1 i (hAB1 i hi)).1))
      have g1 := (Rep.slice 9 Rep.str).mark_ge (e := true) (x := y0) (k := q)
      have l1 : ((Rep.slice 9 Rep.str).mark true y0 (q)).2 ≤ q + ((Rep.slice 9 Rep.str).cnt : Nat) := (Rep.slice 9 Rep.str).mark_le (e := true) (k := q) hA1.2
      have u1 : ((Rep.slice 9 Rep.str).mark true y0 (q)).2 ≤ 4611686018427387904 := by have := HQ.out; have e : RName.cnt = (Rep.slice 9 Rep.str).cnt := rfl; unfold Top at *; omega
      have M1 := Lib.hid l1; clear l1
      clear C0_0 Z0_0 hA1 bk1 back1 hc1 hB1 hAB1 P1 X1 hcell1 hd1
      obtain ⟨c, B, hc, hB, hSb', hcell, hfz, back⟩ := Rep.own_get' Ox1 HL.out
      obtain ⟨d1_0, rfl⟩ : ∃ d1_0, c = [d1_0] := by have h := RName.len hc.1; match c, h with | [d1_0], _ => exact ⟨_, rfl⟩
      have C1_0 : w1.cell? ⟨b, off + j, none⟩ = some d1_0 := (by have h : w1.cell? ⟨b, off + j * 1 + 0, none⟩ = _ := hcell 0 _ rfl; simpa using h)
      have Z1_0 := hfz (off + j)
      clear hB hSb' hcell hfz back
      obtain ⟨s1v0, hce, s1_0⟩ := RName_raw hc.raw
      simp only [List.cons.injEq, and_true] at hce
      obtain rfl := hce
      obtain ⟨s1a0, s1p0, s1h0, _⟩ := Rep.len_raw s1_0; obtain rfl : d1_0 = _ := by simpa using s1h0
      clear s1h0
      clear s1_0
      clear hc
      have EQ := HEH.out _ rfl
      have OF := Lib.hid (EQ.out ▸ Ox1); have TF := Lib.hid Tx1
      have QF : Hid ((((Rep.slice 9 Rep.str).mark true y0 (q)).2) = (Rep.mkL RName (x.take (j + 1)) k).2) := Lib.hid (by rw [HF.out]; rfl)
      go_wp2
      go_roundw
      case rel => exact ⟨j + 1, by omega, by go_num, by rw [← QF.out], OF.out, TF.out⟩
      case measure => simp [intOf]; omega
    · obtain ⟨e1, e2⟩ := Rep.mark_full (r := RName) (k := k) hlt
      rw [e1] at hown
      have HO := Lib.hid hown; have HT := Lib.hid e2; clear hown e1 e2
      go_wp2
      go_ret
      exact ⟨ret_int HT.out, HO.out, ht⟩
set_option maxRecDepth 100000 in
set_option maxHeartbeats 16000000 in
theorem markAdvertisement_c {w : World} {ca : List Value} {x : LAdvertisement} {k : Int} {S : Nat → Prop} (ha : RAdvertisement.own w ca x S) (hk0 : 0 ≤ k) (hk1 : k + (RAdvertisement.cnt : Nat) ≤ Top) :
    Calls Try.prog 10 #[.agg ca.toArray, .int .i64 k] w (MarkPost RAdvertisement false x k ca S w) := by
  have hl := ha.live
  obtain ⟨av2, av3, rfl, a_0, a_1, a_2, a_3⟩ := RAdvertisement_raw ha.raw
  obtain ⟨x0, x1, x2, x3⟩ := x
  clear a_0 a_1 a_2 a_3
  have HQ := Lib.hid hk1; clear hk1
  have k2 : k ≤ 4611686018427387904 := by have := HQ.out; unfold Top at this; omega
  go_enter Try.func10, Try.ntmps10
  go_wp2_with fail
  have O0 := Lib.hid (fun o => Rep.own.alloc hl o)
  obtain ⟨A1, hA1, hAB1, bk1⟩ := RAdvertisement_sub_2 (O0.out _)
  refine (markIntS_c (k := k) hA1 (by omega) (by have := HQ.out; have e : RAdvertisement.cnt = 1 + (1 + ((Rep.slice 3 Rep.int).cnt + ((Rep.slice 46 RName).cnt))) := rfl; omega)).mono ?_
  rintro e w1 ⟨rfl, P1, X1⟩
  have O1x := bk1 P1 X1
  have g1 := (Rep.slice 3 Rep.int).mark_ge (e := true) (x := x2) (k := k)
  have l1 : ((Rep.slice 3 Rep.int).mark true x2 (k)).2 ≤ k + ((Rep.slice 3 Rep.int).cnt : Nat) := (Rep.slice 3 Rep.int).mark_le (e := true) (k := k) hA1.2
  have u1 : ((Rep.slice 3 Rep.int).mark true x2 (k)).2 ≤ 4611686018427387904 := by have := HQ.out; have e : RAdvertisement.cnt = 1 + (1 + ((Rep.slice 3 Rep.int).cnt + ((Rep.slice 46 RName).cnt))) := rfl; unfold Top at *; omega
  have M1 := Lib.hid l1; clear l1
  have T1x : Touch S w w1 := (Touch.of_below (Rep.below_alloc w _)).trans (X1.wide (fun i hi => (hAB1 i hi).1))
  have hz1 : w.heap.size + 1 ≤ w1.heap.size := by have := X1.size; simpa using this
  have hc1 : ∀ o, w1.cell? ⟨w.heap.size, o, none⟩ = _ := fun o => World.cell?_of_block (a := ⟨w.heap.size, o, none⟩) (X1.block w.heap.size (by simp) (fun q => by have := (hAB1 _ q).2; omega))
  have hf1 : ∀ o, w1.frozen? ⟨w.heap.size, o, none⟩ = _ := fun o => World.frozen?_of_block (a := ⟨w.heap.size, o, none⟩) (X1.block w.heap.size (by simp) (fun q => by have := (hAB1 _ q).2; omega))
  simp [go_sem] at hc1
  clear hA1 hAB1 bk1 P1 X1
  go_wp2_with fail
  obtain ⟨A2, hA2, hAB2, bk2⟩ := RAdvertisement_sub_3 O1x
  refine (markNameS_c (k := ((Rep.slice 3 Rep.int).mark true x2 (k)).2) hA2 (by omega) (by have := HQ.out; have := M1.out; have e : RAdvertisement.cnt = 1 + (1 + ((Rep.slice 3 Rep.int).cnt + ((Rep.slice 46 RName).cnt))) := rfl; omega)).mono ?_
  rintro e w2 ⟨rfl, P2, X2⟩
  have O2x := bk2 P2 X2
  have g2 := (Rep.slice 46 RName).mark_ge (e := true) (x := x3) (k := ((Rep.slice 3 Rep.int).mark true x2 (k)).2)
  have l2 : ((Rep.slice 46 RName).mark true x3 (((Rep.slice 3 Rep.int).mark true x2 (k)).2)).2 ≤ ((Rep.slice 3 Rep.int).mark true x2 (k)).2 + ((Rep.slice 46 RName).cnt : Nat) := (Rep.slice 46 RName).mark_le (e := true) (k := ((Rep.slice 3 Rep.int).mark true x2 (k)).2) hA2.2
  have u2 : ((Rep.slice 46 RName).mark true x3 (((Rep.slice 3 Rep.int).mark true x2 (k)).2)).2 ≤ 4611686018427387904 := by have := HQ.out; have := M1.out; have e : RAdvertisement.cnt = 1 + (1 + ((Rep.slice 3 Rep.int).cnt + ((Rep.slice 46 RName).cnt))) := rfl; unfold Top at *; omega
  have M2 := Lib.hid l2; clear l2
  have T2x : Touch S w w2 := T1x.trans (X2.wide (fun i hi => (hAB2 i hi).1))
  have hz2 : w.heap.size + 1 ≤ w2.heap.size := by have := X2.size; omega
  have hc2 : ∀ o, w2.cell? ⟨w.heap.size, o, none⟩ = _ := fun o => (World.cell?_of_block (a := ⟨w.heap.size, o, none⟩) (X2.block w.heap.size (by omega) (fun q => by have := (hAB2 _ q).2; omega))).trans (hc1 o)
  clear hc1 hf1
  clear hA2 hAB2 bk2 P2 X2
  have OF := Lib.hid (Rep.own.wide (T := S) O2x (fun j hj => hj.1)); have TF := Lib.hid T2x
  clear ha hl
  go_wp2
  go_ret
  exact ⟨rfl, OF.out, TF.out⟩
end Go.Proofs.Ytadneiijklnccaa

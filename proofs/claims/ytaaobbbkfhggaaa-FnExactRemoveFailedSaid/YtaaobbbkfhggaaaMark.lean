/-
  The laws' markings: each writes new numbers into all that its argument leads to, and into nothing else. Printed by genmark.py.
-/
import Derived.Test.YtaaobbbkfhggaaaProg
import Derived.Test.YtaaobbbkfhggaaaTypes
import Derived.WalkKit
import Derived.WalkSpells
import Derived.WalkLawsBesides
import Derived.BigQuiet
import Derived.Deep.QuietTactic
import Derived.StillTailTactics
namespace Go.Proofs.Ytaaobbbkfhggaaa
open Go.RowKit
set_option linter.unusedVariables false

theorem set_int {E v : Int} (hv : -9223372036854775808 ≤ v ∧ v ≤ 9223372036854775807) {w : World} {cs : List Value} {S : Nat → Prop} (h : Rep.int.is true w cs E S) : Rep.int.is true w (cs.set 0 (.int .i64 v)) v S := by
  obtain ⟨rfl, _⟩ := h; exact ⟨rfl, hv⟩
theorem set_str {E v : ByteArray} (hv : v.size ≤ maxLen) {w : World} {cs : List Value} {S : Nat → Prop} (h : Rep.str.is true w cs E S) : Rep.str.is true w (cs.set 0 (.string v)) v S := by
  obtain ⟨rfl, _⟩ := h; exact ⟨rfl, hv⟩
theorem set_byte {E v : UInt8} {w : World} {cs : List Value} {S : Nat → Prop} (h : Rep.byte.is true w cs E S) : Rep.byte.is true w (cs.set 0 (.int .u8 v.toNat)) v S := by
  obtain rfl := (show _ = _ from h); rfl
theorem mt_max (k : Int) : (mt k).size ≤ maxLen := by have := size_mt k; unfold maxLen; omega
theorem mt_big (k : Int) : (mt k).size ≤ Big := by have := size_mt k; unfold Big; omega
theorem u8_mark (k : Int) : ((UInt8.ofNat (k % 256).toNat).toNat : Int) = k % 256 := by
  rw [UInt8.toNat_ofNat']; omega

set_option maxHeartbeats 1000000 in
theorem markIntS_c {w : World} {va : Value} {x : List Int} {k : Int} {S : Nat → Prop} (ha : (Rep.slice 3 Rep.int).own w [va] x S) (hk0 : 0 ≤ k) (hk1 : k + ((Rep.slice 3 Rep.int).cnt : Nat) ≤ Top) :
    Calls Try.prog 30 #[va, .int .i64 k] w (MarkPost (Rep.slice 3 Rep.int) true x k [va] S w) := by
  obtain ⟨aa, capa, hva, la⟩ := Rep.len_raw ha.raw; obtain rfl : va = _ := by simpa using hva
  clear hva
  have lb : x.length ≤ 16777216 := ha.2.1
  have hbd := Lib.hid ha.2
  have HK := Lib.hid hk1; clear hk1
  have hk2 : k ≤ 4611686018427387904 := by have := HK.out; unfold Top at this; omega
  go_enter Try.func30, Try.ntmps30
  go_wp2
  go_loopw [1, 5] (fun l i wr => ∃ (j : Nat), j ≤ x.length ∧ i = .int .i64 j ∧ l = .int .i64 (Rep.mkL Rep.int (x.take j) k).2 ∧ (Rep.slice 3 Rep.int).own wr [.slice aa x.length capa] ((Rep.mkL Rep.int (x.take j) k).1 ++ x.drop j) S ∧ Touch S w wr) (fun _ i _ => x.length - (intOf i).toNat)
  case atStart => exact ⟨0, Nat.zero_le _, rfl, rfl, by simpa [Rep.mkL] using ha, Touch.refl _ _⟩
  case round =>
    obtain ⟨j, hj, rfl, rfl, hown, ht⟩ := hrel
    by_cases hlt : j < x.length
    · obtain ⟨_, b, off, rfl, hSb, hbw⟩ := Rep.own_addr hown (by rw [Rep.mark_len]; omega)
      rw [Rep.mark_start hlt] at hown
      obtain ⟨q0, q1⟩ := Rep.mark_bound (e := 3) (r := Rep.int) hbd.out hlt HK.out hk0
      have HE : ∀ y, y = (Rep.int.mark true x[j] (Rep.mkL Rep.int (x.take j) k).2).1 → Hid (((Rep.mkL Rep.int (x.take j) k).1 ++ x.drop j).set j y = (Rep.mkL Rep.int (x.take (j + 1)) k).1 ++ x.drop (j + 1)) := fun y hy => Lib.hid (Rep.mark_end hlt hy)
      have HF := Lib.hid (Rep.mark_end2 (r := Rep.int) (k := k) hlt)
      have hLl : j < ((Rep.mkL Rep.int (x.take j) k).1 ++ x.drop j).length := by rw [Rep.mark_len]; exact hlt
      have HL := Lib.hid hLl; clear hLl
      generalize (Rep.mkL Rep.int (x.take j) k).2 = q at *
      generalize (Rep.mkL Rep.int (x.take j) k).1 ++ x.drop j = M at *
      generalize hx : x[j] = y at *
      have HX := Lib.hid hx; clear hx
      obtain ⟨y0, rfl⟩ : ∃ y0, y0 = y := ⟨_, rfl⟩
      have HEH := Lib.hid HE; clear HE
      have HQ := Lib.hid q1; clear q1
      have q2 : q ≤ 4611686018427387904 := by have := HQ.out; unfold Top at this; omega
      obtain ⟨c, B, hc, hB, hSb', hcell, hfz, back⟩ := Rep.own_get' hown HL.out
      obtain ⟨d0_0, rfl⟩ : ∃ d0_0, c = [d0_0] := by have h := Rep.int.len hc.1; match c, h with | [d0_0], _ => exact ⟨_, rfl⟩
      have C0_0 : wr.cell? ⟨b, off + j, none⟩ = some d0_0 := (by have h : wr.cell? ⟨b, off + j * 1 + 0, none⟩ = _ := hcell 0 _ rfl; simpa using h)
      have Z0_0 := hfz (off + j)
      clear hB hSb' hcell hfz back
      obtain ⟨hce, _⟩ := Rep.int_raw hc.raw
      obtain rfl : d0_0 = _ := by simpa using hce
      clear hce
      clear hc
      obtain ⟨O1, T1⟩ := Rep.own_setCell' (v := .int .i64 (q)) (p := off + j) hown HL.out (show 0 < Rep.int.n by decide) (set_int ⟨by omega, by omega⟩) (fun h => h) (show off + j = off + j * 1 + 0 by omega)
      have T1 := ht.trans (T1.wide (fun i hi => by rw [hi]; exact hSb))
      have EQ := HEH.out _ rfl
      have OF := Lib.hid (EQ.out ▸ O1); have TF := Lib.hid T1
      have QF : Hid ((q + 1) = (Rep.mkL Rep.int (x.take (j + 1)) k).2) := Lib.hid (by rw [HF.out]; rfl)
      go_wp2
      go_roundw
      case rel => exact ⟨j + 1, by omega, by go_num, by rw [← QF.out], OF.out, TF.out⟩
      case measure => simp [intOf]; omega
    · obtain ⟨e1, e2⟩ := Rep.mark_full (r := Rep.int) (k := k) hlt
      rw [e1] at hown
      have HO := Lib.hid hown; have HT := Lib.hid e2; clear hown e1 e2
      go_wp2
      go_ret
      exact ⟨ret_int HT.out, HO.out, ht⟩
set_option maxHeartbeats 1000000 in
theorem markLinkS_c {w : World} {va : Value} {x : List LLink} {k : Int} {S : Nat → Prop} (ha : (Rep.slice 55 RLink).own w [va] x S) (hk0 : 0 ≤ k) (hk1 : k + ((Rep.slice 55 RLink).cnt : Nat) ≤ Top) :
    Calls Try.prog 50 #[va, .int .i64 k] w (MarkPost (Rep.slice 55 RLink) true x k [va] S w) := by
  obtain ⟨aa, capa, hva, la⟩ := Rep.len_raw ha.raw; obtain rfl : va = _ := by simpa using hva
  clear hva
  have lb : x.length ≤ 16777216 := ha.2.1
  have hbd := Lib.hid ha.2
  have HK := Lib.hid hk1; clear hk1
  have hk2 : k ≤ 4611686018427387904 := by have := HK.out; unfold Top at this; omega
  go_enter Try.func50, Try.ntmps50
  go_wp2
  go_loopw [1, 5] (fun l i wr => ∃ (j : Nat), j ≤ x.length ∧ i = .int .i64 j ∧ l = .int .i64 (Rep.mkL RLink (x.take j) k).2 ∧ (Rep.slice 55 RLink).own wr [.slice aa x.length capa] ((Rep.mkL RLink (x.take j) k).1 ++ x.drop j) S ∧ Touch S w wr) (fun _ i _ => x.length - (intOf i).toNat)
  case atStart => exact ⟨0, Nat.zero_le _, rfl, rfl, by simpa [Rep.mkL] using ha, Touch.refl _ _⟩
  case round =>
    obtain ⟨j, hj, rfl, rfl, hown, ht⟩ := hrel
    by_cases hlt : j < x.length
    · obtain ⟨_, b, off, rfl, hSb, hbw⟩ := Rep.own_addr hown (by rw [Rep.mark_len]; omega)
      rw [Rep.mark_start hlt] at hown
      obtain ⟨q0, q1⟩ := Rep.mark_bound (e := 55) (r := RLink) hbd.out hlt HK.out hk0
      have HE : ∀ y, y = (RLink.mark true x[j] (Rep.mkL RLink (x.take j) k).2).1 → Hid (((Rep.mkL RLink (x.take j) k).1 ++ x.drop j).set j y = (Rep.mkL RLink (x.take (j + 1)) k).1 ++ x.drop (j + 1)) := fun y hy => Lib.hid (Rep.mark_end hlt hy)
      have HF := Lib.hid (Rep.mark_end2 (r := RLink) (k := k) hlt)
      have hLl : j < ((Rep.mkL RLink (x.take j) k).1 ++ x.drop j).length := by rw [Rep.mark_len]; exact hlt
      have HL := Lib.hid hLl; clear hLl
      generalize (Rep.mkL RLink (x.take j) k).2 = q at *
      generalize (Rep.mkL RLink (x.take j) k).1 ++ x.drop j = M at *
      generalize hx : x[j] = y at *
      have HX := Lib.hid hx; clear hx
      obtain ⟨y0, y1⟩ := y
      have HEH := Lib.hid HE; clear HE
      have HQ := Lib.hid q1; clear q1
      have q2 : q ≤ 4611686018427387904 := by have := HQ.out; unfold Top at this; omega
      obtain ⟨c, B, hc, hB, hSb', hcell, hfz, back⟩ := Rep.own_get' hown HL.out
      obtain ⟨d0_0, d0_1, rfl⟩ : ∃ d0_0 d0_1, c = [d0_0, d0_1] := by have h := RLink.len hc.1; match c, h with | [d0_0, d0_1], _ => exact ⟨_, _, rfl⟩
      have C0_0 : wr.cell? ⟨b, off + j * 2, none⟩ = some d0_0 := hcell 0 _ rfl
      have Z0_0 := hfz (off + j * 2)
      have C0_1 : wr.cell? ⟨b, off + j * 2 + 1, none⟩ = some d0_1 := hcell 1 _ rfl
      have Z0_1 := hfz (off + j * 2 + 1)
      clear hB hSb' hcell hfz back
      obtain ⟨hce, s0_0, s0_1⟩ := RLink_raw hc.raw
      simp only [List.cons.injEq, and_true] at hce
      obtain ⟨rfl, rfl⟩ := hce
      clear s0_0 s0_1
      clear hc
      obtain ⟨O1, T1⟩ := Rep.own_setCell' (v := .int .i64 (q)) (p := off + j * 2) hown HL.out (show 0 < RLink.n by decide) (RLink_set0 _ ⟨by omega, by omega⟩) (fun h => h) (show off + j * 2 = off + j * 2 + 0 by omega)
      have T1 := ht.trans (T1.wide (fun i hi => by rw [hi]; exact hSb))
      obtain ⟨O2, T2⟩ := Rep.own_setCell' (v := .int .i64 (q + 1)) (p := off + j * 2 + 1) O1 HL.out (show 1 < RLink.n by decide) (RLink_set1 _ ⟨by omega, by omega⟩) (fun h => h) (show off + j * 2 + 1 = off + j * 2 + 1 by omega)
      have T2 := T1.trans (T2.wide (fun i hi => by rw [hi]; exact hSb))
      have EQ := HEH.out _ rfl
      have OF := Lib.hid (EQ.out ▸ O2); have TF := Lib.hid T2
      have QF : Hid ((q + 1 + 1) = (Rep.mkL RLink (x.take (j + 1)) k).2) := Lib.hid (by rw [HF.out]; rfl)
      go_wp2
      go_roundw
      case rel => exact ⟨j + 1, by omega, by go_num, by rw [← QF.out], OF.out, TF.out⟩
      case measure => simp [intOf]; omega
    · obtain ⟨e1, e2⟩ := Rep.mark_full (r := RLink) (k := k) hlt
      rw [e1] at hown
      have HO := Lib.hid hown; have HT := Lib.hid e2; clear hown e1 e2
      go_wp2
      go_ret
      exact ⟨ret_int HT.out, HO.out, ht⟩
set_option maxHeartbeats 1000000 in
theorem markTopology_c {w : World} {ca : List Value} {x : LTopology} {k : Int} {S : Nat → Prop} (ha : RTopology.own w ca x S) (hk0 : 0 ≤ k) (hk1 : k + (RTopology.cnt : Nat) ≤ Top) :
    Calls Try.prog 29 #[.agg ca.toArray, .int .i64 k] w (MarkPost RTopology false x k ca S w) := by
  have hl := ha.live
  obtain ⟨av1, rfl, a_0, a_1⟩ := RTopology_raw ha.raw
  obtain ⟨x0, x1⟩ := x
  clear a_0 a_1
  have HQ := Lib.hid hk1; clear hk1
  have k2 : k ≤ 4611686018427387904 := by have := HQ.out; unfold Top at this; omega
  go_enter Try.func29, Try.ntmps29
  go_wp2_with fail
  have O0 := Lib.hid (fun o => Rep.own.alloc hl o)
  obtain ⟨A1, hA1, hAB1, bk1⟩ := RTopology_sub_1 (O0.out _)
  refine (markLinkS_c (k := k) hA1 (by omega) (by have := HQ.out; have e : RTopology.cnt = 1 + ((Rep.slice 55 RLink).cnt) := rfl; omega)).mono ?_
  rintro e w1 ⟨rfl, P1, X1⟩
  have O1x := bk1 P1 X1
  have g1 := (Rep.slice 55 RLink).mark_ge (e := true) (x := x1) (k := k)
  have l1 : ((Rep.slice 55 RLink).mark true x1 (k)).2 ≤ k + ((Rep.slice 55 RLink).cnt : Nat) := (Rep.slice 55 RLink).mark_le (e := true) (k := k) hA1.2
  have u1 : ((Rep.slice 55 RLink).mark true x1 (k)).2 ≤ 4611686018427387904 := by have := HQ.out; have e : RTopology.cnt = 1 + ((Rep.slice 55 RLink).cnt) := rfl; unfold Top at *; omega
  have M1 := Lib.hid l1; clear l1
  have T1x : Touch S w w1 := (Touch.of_below (Rep.below_alloc w _)).trans (X1.wide (fun i hi => (hAB1 i hi).1))
  have hz1 : w.heap.size + 1 ≤ w1.heap.size := by have := X1.size; simpa using this
  have hc1 : ∀ o, w1.cell? ⟨w.heap.size, o, none⟩ = _ := fun o => World.cell?_of_block (a := ⟨w.heap.size, o, none⟩) (X1.block w.heap.size (by simp) (fun q => by have := (hAB1 _ q).2; omega))
  have hf1 : ∀ o, w1.frozen? ⟨w.heap.size, o, none⟩ = _ := fun o => World.frozen?_of_block (a := ⟨w.heap.size, o, none⟩) (X1.block w.heap.size (by simp) (fun q => by have := (hAB1 _ q).2; omega))
  simp [go_sem] at hc1
  clear hA1 hAB1 bk1 P1 X1
  have OF := Lib.hid (Rep.own.wide (T := S) O1x (fun j hj => hj.1)); have TF := Lib.hid T1x
  clear ha hl
  go_wp2
  go_ret
  exact ⟨rfl, OF.out, TF.out⟩
end Go.Proofs.Ytaaobbbkfhggaaa

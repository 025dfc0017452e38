/-
  What is signed, and the check of a signature.
-/
import Derived.Test.YtlfblpgkegeaeaaGreatDig
import Derived.Test.YtlfblpgkegeaeaaGreatPushT
import Derived.Test.YtlfblpgkegeaeaaGreatEncN
import Derived.Test.YtlfblpgkegeaeaaGreatVData
import Derived.IntWalk
import Derived.Deep.Cut
import Derived.WalkSpells
import Derived.WalkLawsBesides
import Derived.Lib.AppendZeros
import Derived.Laws.AppendOwn
namespace Go.Proofs.YtlfblpgkegeaeaaGreat
open Go.RowKit
set_option linter.unusedVariables false
set_option linter.unusedSimpArgs false
set_option linter.unnecessarySimpa false
def macOf (s : Int) (l : List Int) : Int := digest ([s] ++ l ++ [s])
def bInt (c : UInt8) : Int := c.toNat
def toIntsK (l : List UInt8) (k : Nat) : List Int := (l.length : Int) :: (l.take k).map bInt
theorem toIntsK_len (l : List UInt8) (k : Nat) : (toIntsK l k).length ≤ k + 1 := by simp [toIntsK]; omega
def toInts (l : List UInt8) : List Int := (l.length : Int) :: l.map bInt
def encV (n : LName) : List UInt8 := if vName n = true then encNm n else []
def signed (x : LData) : List Int := toInts (encV x.1) ++ toInts x.2.1 ++ toInts (encV x.2.2.1) ++ [x.2.2.2.1]
def verify (s : Int) (x : LData) : Bool := okSec s && (x.2.2.2.2 == macOf s (signed x))
theorem toInts_take {l : List UInt8} {k : Nat} (h : k < l.length) : toIntsK l (k + 1) = (toIntsK l k) ++ [bInt l[k]] := by
  unfold toIntsK; rw [List.take_succ_eq_append_getElem h, List.map_append]; rfl
theorem toInts_end {l : List UInt8} {k : Nat} (h : ¬ k < l.length) : (toIntsK l k) = toInts l := by unfold toIntsK; rw [List.take_of_length_le (by omega)]; rfl
theorem toInts_len (l : List UInt8) : (toInts l).length = l.length + 1 := by simp [toInts]
theorem encV_len (n : LName) : (encV n).length ≤ 90 := by
  unfold encV
  split
  · rename_i h; exact encNm_len h
  · simp
theorem signed_len (x : LData) : (signed x).length ≤ x.2.1.length + 190 := by
  have h1 := encV_len x.1
  have h2 := encV_len x.2.2.1
  unfold signed
  simp only [List.length_append, toInts_len, List.length_cons, List.length_nil]
  omega
theorem flat_take {α : Type} {l : List (List α)} {k : Nat} (h : k < l.length) : (l.take (k + 1)).flatten = (l.take k).flatten ++ l[k] := by
  rw [List.take_succ_eq_append_getElem h, List.flatten_append]; simp
theorem flat_take_le {α : Type} (l : List (List α)) (k : Nat) : (l.take k).flatten.length ≤ l.flatten.length := by
  have h : (l.take k).flatten ++ (l.drop k).flatten = l.flatten := by rw [← List.flatten_append, List.take_append_drop]
  have := congrArg List.length h
  rw [List.length_append] at this
  omega
theorem flat_end {α : Type} {l : List (List α)} {k : Nat} (h : ¬ k < l.length) : (l.take k).flatten = l.flatten := by rw [List.take_of_length_le (by omega)]
theorem own0_zeros {w : World} {n c : Nat} {e : TypeId} (hn : n ≤ c) (hc : c ≤ maxLen) : Rep.own0 e Rep.int (w.alloc (.cells (Builtin.zeroCells (Value.int .i64 0).cells n ++ Builtin.zeroCells (Value.int .i64 0).cells (c - n)) e)) (.slice (some ⟨w.heap.size, 0, none⟩) 0 c) [] (fun k => k = w.heap.size) := by
  refine ⟨by simp, .inr ⟨w.heap.size, c, _, [], _, rfl, Nat.zero_le _, hc, heap_alloc_new w _, rfl, ?_, rfl, rfl⟩⟩
  have h1 : (Value.int .i64 0).cells.size = 1 := by decide
  have h2 : Rep.int.n = 1 := rfl
  rw [Array.size_append, size_zeroCells, size_zeroCells, h1, h2]
  omega
set_option maxRecDepth 100000 in
set_option maxHeartbeats 1000000 in
theorem specBytesToInts_c {w : World} {vl : Value} {l : List UInt8} (hl : (Rep.slice 5 Rep.byte).raw w [vl] l) (hn : l.length ≤ 2000000) :
    Calls Tryz.prog 241 #[vl] w (Made0 3 Rep.int (toInts l) w) := by
  obtain ⟨al, pl, el, ll⟩ := Rep.len_raw hl; obtain rfl : vl = _ := by simpa using el
  clear el
  have O0 := litq (w := w) (x := (l.length : Int)) (e := 3) (by unfold I64q; omega)
  go_enter Tryz.func241, Tryz.ntmps241
  go_wp2
  go_loopw [3, 4] (fun v i wr => ∃ k : Nat, k ≤ l.length ∧ i = .int .i64 k ∧ Hid (Rep.own0 3 Rep.int wr v (toIntsK l k) (Btw w.heap.size wr.heap.size)) ∧ Below w.heap.size w wr) (fun _ i _ => l.length - (intOf i).toNat)
  case atStart => exact ⟨0, Nat.zero_le _, rfl, Lib.hid (by simpa [toIntsK] using O0.wide (T := Btw w.heap.size (w.alloc (.cells #[.int .i64 (l.length : Int)] 3)).heap.size) (fun k hk => ⟨by omega, by simp; omega⟩)), (by repeat (first | (with_reducible exact Below.refl _ _) | refine Below.alloc ?_ (by simp; try omega) _ | refine Below.drew ?_ | refine Below.setCell ?_ (by simp; try omega) _))⟩
  case round =>
    clear O0
    obtain ⟨k, hk, rfl, HO, hbel⟩ := hrel
    obtain ⟨oa, on, oc, ho, HON⟩ := HO.out.parts; obtain rfl := ho
    by_cases hlt : k < l.length
    · obtain ⟨ba, offa, rfl, c0, hr, A0⟩ := Rep.get1 (hl.below hbel) hlt rfl
      have he := Rep.byte_raw hr
      obtain rfl : c0 = _ := by simpa using he
      clear he hr
      have HS := Lib.hid (toInts_take hlt)
      generalize l[k] = c at *
      have hcl := c.toNat_lt
      have hzz := hbel.size
      have hkl := toIntsK_len l k
      have HC : Hid ((c.toNat : Int) = bInt c) := Lib.hid rfl
      go_wp2_with (at_builtin; refine Rep.wpList_pushB rfl _ _ 265 rfl (r := Rep.int) (e := 3) Tryz.underlying265 infInt rfl (by decide) (by decide) (B := w.heap.size) HO.out (by rfl) (by rfl) rfl (Rep.flat_int (n := bInt c) (by unfold bInt; have := c.toNat_lt; omega) _) rfl (fun _ _ h => h) (fun j hj => ⟨hj.1, by have := hj.2; omega⟩) (fun _ h => h.elim) (by omega) (by simp; omega) ?_)
      intro v2 w2 ho2 hb2 hz2
      have HO2 := Lib.hid (ho2.cast HS.out.symm)
      obtain ⟨oa2, on2, oc2, hv2, HON2⟩ := ho2.parts; obtain rfl := hv2
      have hbel2 := hbel.trans hb2
      clear ho2 hb2 HO hbel
      go_wp2
      go_roundw
      case rel => exact ⟨k + 1, by omega, by go_num, HO2, hbel2⟩
      case measure => simp [intOf]; omega
    · have HT := Lib.hid (toInts_end hlt)
      go_wp2
      go_ret
      exact ⟨_, rfl, HO.out.cast HT.out, hbel⟩
set_option maxRecDepth 100000 in
set_option maxHeartbeats 1000000 in
theorem implBytesToInts_c {w : World} {vl : Value} {l : List UInt8} (hl : (Rep.slice 5 Rep.byte).raw w [vl] l) (hn : l.length ≤ 2000000) :
    Calls Tryz.prog 247 #[vl] w (Made0 3 Rep.int (toInts l) w) := by
  obtain ⟨al, pl, el, ll⟩ := Rep.len_raw hl; obtain rfl : vl = _ := by simpa using el
  clear el
  have O0 := litq (w := w) (x := (l.length : Int)) (e := 3) (by unfold I64q; omega)
  go_enter Tryz.func247, Tryz.ntmps247
  go_wp2
  go_loopw [3, 11] (fun v i wr => ∃ k : Nat, k ≤ l.length ∧ i = .int .i64 k ∧ Hid (Rep.own0 3 Rep.int wr v (toIntsK l k) (Btw w.heap.size wr.heap.size)) ∧ Below w.heap.size w wr) (fun _ i _ => l.length - (intOf i).toNat)
  case atStart => exact ⟨0, Nat.zero_le _, rfl, Lib.hid (by simpa [toIntsK] using O0.wide (T := Btw w.heap.size (w.alloc (.cells #[.int .i64 (l.length : Int)] 3)).heap.size) (fun k hk => ⟨by omega, by simp; omega⟩)), (by repeat (first | (with_reducible exact Below.refl _ _) | refine Below.alloc ?_ (by simp; try omega) _ | refine Below.drew ?_ | refine Below.setCell ?_ (by simp; try omega) _))⟩
  case round =>
    clear O0
    obtain ⟨k, hk, rfl, HO, hbel⟩ := hrel
    obtain ⟨oa, on, oc, ho, HON⟩ := HO.out.parts; obtain rfl := ho
    by_cases hlt : k < l.length
    · obtain ⟨ba, offa, rfl, c0, hr, A0⟩ := Rep.get1 (hl.below hbel) hlt rfl
      have he := Rep.byte_raw hr
      obtain rfl : c0 = _ := by simpa using he
      clear he hr
      have HS := Lib.hid (toInts_take hlt)
      generalize l[k] = c at *
      have hcl := c.toNat_lt
      have hzz := hbel.size
      have hkl := toIntsK_len l k
      have HC : Hid ((c.toNat : Int) = bInt c) := Lib.hid rfl
      go_wp2_with (at_builtin; refine Rep.wpList_pushB rfl _ _ 265 rfl (r := Rep.int) (e := 3) Tryz.underlying265 infInt rfl (by decide) (by decide) (B := w.heap.size) HO.out (by rfl) (by rfl) rfl (Rep.flat_int (n := bInt c) (by unfold bInt; have := c.toNat_lt; omega) _) rfl (fun _ _ h => h) (fun j hj => ⟨hj.1, by have := hj.2; omega⟩) (fun _ h => h.elim) (by omega) (by simp; omega) ?_)
      intro v2 w2 ho2 hb2 hz2
      have HO2 := Lib.hid (ho2.cast HS.out.symm)
      obtain ⟨oa2, on2, oc2, hv2, HON2⟩ := ho2.parts; obtain rfl := hv2
      have hbel2 := hbel.trans hb2
      clear ho2 hb2 HO hbel
      go_wp2
      go_roundw
      case rel => exact ⟨k + 1, by omega, by go_num, HO2, hbel2⟩
      case measure => simp [intOf]; omega
    · have HT := Lib.hid (toInts_end hlt)
      go_wp2
      go_ret
      exact ⟨_, rfl, HO.out.cast HT.out, hbel⟩
set_option maxRecDepth 100000 in
set_option maxHeartbeats 1000000 in
theorem specAppendName_n {w : World} {va : Value} {cn : List Value} {n : LName} (ha : (Rep.slice 5 Rep.byte).rd w [va] []) (hn : RName.raw w cn n) (hv : vName n = false) :
    Calls Tryz.prog 242 #[va, .agg cn.toArray] w (Made0 5 Rep.byte [] w) := by
  obtain ⟨av, rfl, a_0⟩ := RName_raw hn
  obtain ⟨an, capn, hvn, ln⟩ := Rep.len_raw a_0; obtain rfl : av = _ := by simpa using hvn
  obtain ⟨aa, capa, hva, la⟩ := Rep.len_raw ha.1; obtain rfl : va = _ := by simpa using hva
  have HA := Lib.hid ha
  have HNR := Lib.hid hn
  have HV := Lib.hid hv
  clear hva hvn ha hn a_0 hv
  go_enter Tryz.func242, Tryz.ntmps242
  have O0 : Rep.own0 5 Rep.byte ((w.alloc (.cells #[.slice an n.length capn] 64)).alloc (.cells #[] 5)) (.slice (some ⟨w.heap.size + 1, 0, none⟩) 0 0) [] (fun k => k = w.heap.size + 1) := by
    have h := Rep.own0_lit (e := 5) (r := Rep.byte) (w := w.alloc (.cells #[.slice an n.length capn] 64)) (cs := []) (xs := []) (T := fun _ => False) (S := fun k => k = w.heap.size + 1) (by simp) (by simp) rfl (fun _ h => h.elim) (by simp)
    simpa using h
  go_wp2_with (at_builtin; refine Rep.wpList_pushN rfl _ _ 40 rfl (r := Rep.byte) (e := 5) Tryz.underlying40 infByte rfl (by decide) (by decide) Rep.isFlat_byte (B := w.heap.size + 1) O0 (by rfl) (by rfl) (HA.out.below (by repeat (first | (with_reducible exact Below.refl _ _) | refine Below.alloc ?_ (by simp; try omega) _ | refine Below.drew ?_ | refine Below.setCell ?_ (by simp; try omega) _))) (fun k hk => ⟨by omega, by simp; omega⟩) (by simp) (by simp) ?_)
  intro v2 w2 hown hbel hz
  have HO : Hid (Rep.own0 5 Rep.byte w2 v2 [] (Btw w.heap.size w2.heap.size)) := Lib.hid ((hown.cast (by simp)).wide (fun j hj => ⟨by have := hj.1; omega, hj.2⟩))
  have K0 : w2.cell? ⟨w.heap.size, 0, none⟩ = some (.slice an n.length capn) := (hbel.cell (p := ⟨w.heap.size, 0, none⟩) (by simp)).trans (by simp [go_sem])
  have EG : Below w.heap.size w w2 := Below.trans (by repeat (first | (with_reducible exact Below.refl _ _) | refine Below.alloc ?_ (by simp; try omega) _ | refine Below.drew ?_ | refine Below.setCell ?_ (by simp; try omega) _)) (hbel.mono (by first | omega | (simp; try omega)))
  obtain ⟨a2, n2, c2, hv2, HN2⟩ := HO.out.parts
  obtain rfl := hv2
  clear hown O0 hbel hz
  go_wp2_with fail
  refine (specValidName_c (HNR.out.below EG)).mono ?_
  rintro e w3 ⟨rfl, hb3⟩
  rw [HV.out]
  have HO3 := HO.out.below hb3
  go_wp2
  go_ret
  exact ⟨_, rfl, HO3.wide (fun j hj => ⟨hj.1, by have := hj.2; have := hb3.size; omega⟩), EG.trans (hb3.mono EG.size)⟩
theorem specAppendName_v {w : World} {va : Value} {cn : List Value} {n : LName} (ha : (Rep.slice 5 Rep.byte).rd w [va] []) (hn : RName.raw w cn n) :
    Calls Tryz.prog 242 #[va, .agg cn.toArray] w (Made0 5 Rep.byte (encV n) w) := by
  cases hv : vName n
  · rw [show encV n = [] by unfold encV; rw [hv]; rfl]; exact specAppendName_n ha hn hv
  · rw [show encV n = [] ++ encNm n by unfold encV; rw [hv]; rfl]; exact specAppendName_c ha hn hv (by simp)
set_option maxRecDepth 100000 in
set_option maxHeartbeats 1000000 in
theorem implAppendName_n {w : World} {va : Value} {cn : List Value} {n : LName} (ha : (Rep.slice 5 Rep.byte).rd w [va] []) (hn : RName.raw w cn n) (hv : vName n = false) :
    Calls Tryz.prog 248 #[va, .agg cn.toArray] w (Made0 5 Rep.byte [] w) := by
  obtain ⟨av, rfl, a_0⟩ := RName_raw hn
  obtain ⟨an, capn, hvn, ln⟩ := Rep.len_raw a_0; obtain rfl : av = _ := by simpa using hvn
  obtain ⟨aa, capa, hva, la⟩ := Rep.len_raw ha.1; obtain rfl : va = _ := by simpa using hva
  have HA := Lib.hid ha
  have HNR := Lib.hid hn
  have HV := Lib.hid hv
  clear hva hvn ha hn a_0 hv
  go_enter Tryz.func248, Tryz.ntmps248
  go_upto_region 1 with fail
  generalize hwB : World.alloc w _ = w2
  have EG : Below w.heap.size w w2 := by rw [← hwB]; exact (by repeat (first | (with_reducible exact Below.refl _ _) | refine Below.alloc ?_ (by simp; try omega) _ | refine Below.drew ?_ | refine Below.setCell ?_ (by simp; try omega) _))
  have K0 : w2.cell? ⟨w.heap.size, 0, none⟩ = some (.slice an n.length capn) := by rw [← hwB]; simp [go_sem]
  clear hwB
  go_wp2_with fail
  refine (implValidName_c (HNR.out.below EG)).mono ?_
  rintro e w3 ⟨rfl, hb3⟩
  rw [HV.out]
  have E3 := EG.trans (hb3.mono EG.size)
  clear EG hb3
  go_wp2_with fail
  refine (Clone_byte_0 (HA.out.below E3)).mono ?_
  rintro e w4 ⟨v4, rfl, O4, hb4⟩
  obtain ⟨a4, n4, c4, hv4, HN4⟩ := O4.parts
  obtain rfl := hv4
  have HO4 := Lib.hid (O4.wide (T := Btw w.heap.size w4.heap.size) (fun j hj => ⟨by have := hj.1; have := E3.size; omega, hj.2⟩))
  have E4 := E3.trans (hb4.mono E3.size)
  clear O4 hb4
  go_wp2
  go_ret
  exact ⟨_, rfl, HO4.out, E4⟩
theorem implAppendName_v {w : World} {va : Value} {cn : List Value} {n : LName} (ha : (Rep.slice 5 Rep.byte).rd w [va] []) (hn : RName.raw w cn n) :
    Calls Tryz.prog 248 #[va, .agg cn.toArray] w (Made0 5 Rep.byte (encV n) w) := by
  cases hv : vName n
  · rw [show encV n = [] by unfold encV; rw [hv]; rfl]; exact implAppendName_n ha hn hv
  · rw [show encV n = [] ++ encNm n by unfold encV; rw [hv]; rfl]; exact implAppendName_c ha hn hv (by simp)
set_option maxRecDepth 100000 in
set_option maxHeartbeats 1000000 in
theorem Grow_int_c {w : World} {n : Nat} (h0 : 0 < n) (hn : n ≤ 1000000000) :
    Calls Tryz.prog 257 #[.slice none 0 0, .int .i64 n] w fun e w' => ∃ c, e = .returned (.slice (some ⟨w.heap.size, 0, none⟩) 0 c) ∧ Hid (Rep.own0 3 Rep.int w' (.slice (some ⟨w.heap.size, 0, none⟩) 0 c) [] (Btw w.heap.size w'.heap.size)) ∧ Below w.heap.size w w' := by
  obtain ⟨ti, hti, hz, hsz, hbb⟩ := info_parts (P := Tryz.prog) infInt
  have hgn := grownCap_ge w n 0 3
  have hgm := grownCap_le_maxLen w n 0 3 (by unfold maxLen; omega)
  have hr := fun ty => Lib.run_append_nil_zeros (P := Tryz.prog) w 265 3 ty 3 ti (.int .i64 0) .i64 .i64 Tryz.underlying265 Tryz.underlying3 hti hz n h0 (by rw [hsz]; omega) (by omega) (by rw [hbb]; omega)
  have HZ := Lib.hid (own0_zeros (w := w.drew) (n := n) (c := grownCap w n 0 3) (e := 3) hgn hgm)
  have EZ : Below w.heap.size w (w.drew.alloc (.cells (Builtin.zeroCells (Value.int .i64 0).cells n ++ Builtin.zeroCells (Value.int .i64 0).cells (grownCap w n 0 3 - n)) 3)) := ((Below.refl _ _).drew).alloc (by simp) _
  have hz2 : w.heap.size < (w.drew.alloc (.cells (Builtin.zeroCells (Value.int .i64 0).cells n ++ Builtin.zeroCells (Value.int .i64 0).cells (grownCap w n 0 3 - n)) 3)).heap.size := by simp
  generalize (w.drew.alloc (.cells (Builtin.zeroCells (Value.int .i64 0).cells n ++ Builtin.zeroCells (Value.int .i64 0).cells (grownCap w n 0 3 - n)) 3)) = w2 at hr HZ EZ hz2
  generalize grownCap w n 0 3 = c at *
  have hn0 : (0 : Int) < n := by omega
  have hnn : ¬ ((n : Int) < 0) := by omega
  clear hti hz hsz hbb hgm
  go_enter Tryz.func257, Tryz.ntmps257
  go_wp2_with (at_builtin; refine Lib.wpList_append_run _ rfl _ _ _ _ rfl _ _ rfl rfl _ _ (hr _) ?_)
  go_wp2
  go_ret
  exact ⟨c, rfl, Lib.hid (HZ.out.wide (fun k hk => by subst hk; exact ⟨Nat.le_refl _, hz2⟩)), EZ⟩
set_option maxRecDepth 100000 in
set_option maxHeartbeats 1000000 in
theorem Concat_int_c {w : World} {vl : Value} {l : List (List Int)} (hl : (Rep.slice 265 (Rep.slice 3 Rep.int)).rd w [vl] l) (h0 : 0 < l.flatten.length) (hn : l.flatten.length ≤ 16700000) :
    Calls Tryz.prog 246 #[vl] w (Made0 3 Rep.int l.flatten w) := by
  obtain ⟨al, pl, el, ll⟩ := Rep.len_raw hl.1; obtain rfl : vl = _ := by simpa using el
  clear el
  have HL := Lib.hid hl
  clear hl
  go_enter Tryz.func246, Tryz.ntmps246
  go_wp2
  go_loopw [3, 11] (fun s i wr => ∃ k : Nat, k ≤ l.length ∧ i = .int .i64 k ∧ s = .int .i64 ((l.take k).flatten.length : Int) ∧ Below w.heap.size w wr) (fun _ i _ => l.length - (intOf i).toNat)
  case atStart => exact ⟨0, Nat.zero_le _, rfl, rfl, Below.refl _ _⟩
  case round =>
    obtain ⟨k, hk, rfl, rfl, hbel⟩ := hrel
    by_cases hlt : k < l.length
    · obtain ⟨ba, offa, rfl, c0, hr, A0⟩ := Rep.get1 (HL.out.1.below hbel) hlt rfl
      obtain ⟨qa, qp, qe, ql⟩ := Rep.len_raw hr; obtain rfl : c0 = _ := by simpa using qe
      clear qe hr
      have hs := flat_take hlt
      have hle := flat_take_le l (k + 1)
      rw [hs] at hle
      rw [List.length_append] at hle
      have HS : Hid ((l.take (k + 1)).flatten.length = (l.take k).flatten.length + l[k].length) := Lib.hid (by rw [hs, List.length_append])
      clear hs
      generalize (l.take k).flatten.length = m at *
      generalize l[k].length = q at *
      go_wp2
      go_roundw
      case rel => exact ⟨k + 1, by omega, by go_num, by rw [HS.out, Int.natCast_add], hbel⟩
      case measure => simp [intOf]; omega
    · rw [flat_end hlt]
      obtain ⟨N, hN⟩ : ∃ N, l.flatten.length = N := ⟨_, rfl⟩
      rw [hN] at h0 hn ⊢
      have HN := Lib.hid hN
      clear hN
      have hlI : (0 : Int) < N := by omega
      go_wp2_with fail
      refine (Grow_int_c h0 (by omega)).mono ?_
      rintro e w2 ⟨gc, rfl, HG, hb2⟩
      have E2 := hbel.trans (hb2.mono hbel.size)
      replace HG := Lib.hid (HG.out.wide (T := Btw w.heap.size w2.heap.size) (fun j hj => ⟨by have := hj.1; have := hbel.size; omega, hj.2⟩))
      clear hbel hb2 hlI
      go_wp2
      go_loopw [6, 27] (fun v i wr => ∃ k : Nat, k ≤ l.length ∧ i = .int .i64 k ∧ Hid (Rep.own0 3 Rep.int wr v (l.take k).flatten (Btw w.heap.size wr.heap.size)) ∧ Below w.heap.size w wr) (fun _ i _ => l.length - (intOf i).toNat)
      case atStart => exact ⟨0, Nat.zero_le _, rfl, HG, E2⟩
      case round =>
        clear HG E2
        obtain ⟨k, hk, rfl, HO, hbel⟩ := hrel
        obtain ⟨oa, on, oc, ho, HON⟩ := HO.out.parts; obtain rfl := ho
        by_cases hlt : k < l.length
        · obtain ⟨ba, offa, rfl, c0, hr, A0⟩ := Rep.get1 (HL.out.1.below hbel) hlt rfl
          have hq := HL.out.2.2 l[k] (List.getElem_mem _)
          have HR : Hid ((Rep.slice 3 Rep.int).rd wr [c0] l[k]) := Lib.hid ⟨hr, hq⟩
          obtain ⟨qa, qp, qe, ql⟩ := Rep.len_raw hr; obtain rfl : c0 = _ := by simpa using qe
          clear qe hr hq
          have hs := flat_take hlt
          have hle := flat_take_le l (k + 1)
          rw [hs, List.length_append, HN.out] at hle
          have HS := Lib.hid hs
          clear hs
          generalize (l.take k).flatten = m at *
          generalize l[k] = q at *
          go_wp2_with (at_builtin; refine Rep.wpList_pushN rfl _ _ 265 rfl (r := Rep.int) (e := 3) Tryz.underlying265 infInt rfl (by decide) (by decide) Rep.isFlat_int (B := w.heap.size) HO.out (by rfl) (by rfl) HR.out (fun k hk => hk) (by have := hbel.size; omega) (by omega) ?_)
          intro v3 w3 ho3 hb3 hz3
          have HO3 := Lib.hid (ho3.cast HS.out.symm)
          obtain ⟨oa3, on3, oc3, hv3, HON3⟩ := ho3.parts; obtain rfl := hv3
          have hbel3 := hbel.trans hb3
          clear ho3 hb3 HO hbel HR
          go_wp2
          go_roundw
          case rel => exact ⟨k + 1, by omega, by go_num, HO3, hbel3⟩
          case measure => simp [intOf]; omega
        · have HT := Lib.hid (flat_end hlt)
          go_wp2
          go_ret
          exact ⟨_, rfl, HO.out.cast HT.out, hbel⟩
set_option maxRecDepth 100000 in
set_option maxHeartbeats 1000000 in
theorem specComputeMAC_c {w : World} {s : Int} (hs : -9223372036854775808 ≤ s ∧ s ≤ 9223372036854775807) {vl : Value} {l : List Int} (hl : (Rep.slice 3 Rep.int).rd w [vl] l) (hn : l.length ≤ 16000000) :
    Calls Tryz.prog 225 #[.int .i64 s, vl] w fun e w' => e = .returned (.int .i64 (macOf s l)) ∧ Below w.heap.size w w' := by
  obtain ⟨al, pl, el, ll⟩ := Rep.len_raw hl.1; obtain rfl : vl = _ := by simpa using el
  have hb := hl.2.1
  unfold Big at hb
  clear el
  have O0 := litq (w := w) (x := s) (e := 3) hs
  go_enter Tryz.func225, Tryz.ntmps225
  go_wp2_with (at_builtin; refine Rep.wpList_pushN rfl _ _ 265 rfl (r := Rep.int) (e := 3) Tryz.underlying265 infInt rfl (by decide) (by decide) Rep.isFlat_int (B := w.heap.size) O0 (by rfl) (by rfl) (hl.below (by repeat (first | (with_reducible exact Below.refl _ _) | refine Below.alloc ?_ (by simp; try omega) _ | refine Below.drew ?_ | refine Below.setCell ?_ (by simp; try omega) _))) (fun k hk => ⟨by omega, by simp; omega⟩) (by simp) (by simp; omega) ?_)
  intro v2 w2 ho2 hb2 hz2
  obtain ⟨oa2, on2, oc2, hv2, HON2⟩ := ho2.parts; obtain rfl := hv2
  have O1 := litq (w := w2) (x := s) (e := 3) hs
  have HO2 := Lib.hid ho2
  have E2 : Below w.heap.size w w2 := Below.trans (by repeat (first | (with_reducible exact Below.refl _ _) | refine Below.alloc ?_ (by simp; try omega) _ | refine Below.drew ?_ | refine Below.setCell ?_ (by simp; try omega) _)) hb2
  clear ho2 hb2 O0 hl
  go_wp2_with (at_builtin; refine Rep.wpList_pushN rfl _ _ 265 rfl (r := Rep.int) (e := 3) Tryz.underlying265 infInt rfl (by decide) (by decide) Rep.isFlat_int (B := w.heap.size) (HO2.out.below (by repeat (first | (with_reducible exact Below.refl _ _) | refine Below.alloc ?_ (by simp; try omega) _))) (by rfl) (by rfl) (O1.own (by show 1 ≤ _; unfold Big; omega)).rd (fun k hk => ⟨hk.1, by have := hk.2; simp; omega⟩) (by have := E2.size; simp; omega) (by simp; omega) ?_)
  intro v3 w3 ho3 hb3 hz3
  obtain ⟨oa3, on3, oc3, hv3, HON3⟩ := ho3.parts; obtain rfl := hv3
  have HO3 := Lib.hid ((ho3.own (by simp; unfold Big; omega)).raw)
  have E3 : Below w.heap.size w w3 := E2.trans (Below.trans ((Below.refl _ _).alloc E2.size _) hb3)
  clear ho3 hb3 O1 HO2
  go_wp2_with fail
  refine (specDigest_c HO3.out).mono ?_
  rintro e w4 ⟨rfl, hw⟩
  obtain rfl := hw.symm
  go_wp2
  go_ret
  exact ⟨rfl, E3⟩
set_option maxRecDepth 100000 in
set_option maxHeartbeats 1000000 in
theorem implComputeMAC_c {w : World} {s : Int} (hs : -9223372036854775808 ≤ s ∧ s ≤ 9223372036854775807) {vl : Value} {l : List Int} (hl : (Rep.slice 3 Rep.int).rd w [vl] l) (hn : l.length ≤ 16000000) :
    Calls Tryz.prog 232 #[.int .i64 s, vl] w fun e w' => e = .returned (.int .i64 (macOf s l)) ∧ Below w.heap.size w w' := by
  obtain ⟨al, pl, el, ll⟩ := Rep.len_raw hl.1; obtain rfl : vl = _ := by simpa using el
  have HB := Lib.hid hl.2
  clear el
  go_enter Tryz.func232, Tryz.ntmps232
  go_wp2_with fail
  have R0 := ((((litq (w := w) (x := s) (e := 3) hs).own (by show 1 ≤ _; unfold Big; omega)).raw.alloc (.cells #[.int .i64 s] 3)).alloc (.cells #[.slice (some ⟨w.heap.size, 0, none⟩) 1 1, .slice al l.length pl, .slice (some ⟨w.heap.size + 1, 0, none⟩) 1 1] 265))
  have R1 := (((litq (w := w.alloc (.cells #[.int .i64 s] 3)) (x := s) (e := 3) hs).own (by show 1 ≤ _; unfold Big; omega)).raw.alloc (.cells #[.slice (some ⟨w.heap.size, 0, none⟩) 1 1, .slice al l.length pl, .slice (some ⟨w.heap.size + 1, 0, none⟩) 1 1] 265))
  have R2 := ((hl.1.alloc (.cells #[.int .i64 s] 3)).alloc (.cells #[.int .i64 s] 3)).alloc (.cells #[.slice (some ⟨w.heap.size, 0, none⟩) 1 1, .slice al l.length pl, .slice (some ⟨w.heap.size + 1, 0, none⟩) 1 1] 265)
  have R3 := raw_three (e := 265) (r := (Rep.slice 3 Rep.int)) rfl (heap_new_at (w := (w.alloc (.cells #[.int .i64 s] 3)).alloc (.cells #[.int .i64 s] 3)) (o := .cells #[.slice (some ⟨w.heap.size, 0, none⟩) 1 1, .slice al l.length pl, .slice (some ⟨w.heap.size + 1, 0, none⟩) 1 1] 265) rfl) R0 R2 (by simpa using R1)
  refine (Concat_int_c (l := [[s], l, [s]]) ⟨by simpa using R3, by show 3 ≤ _; unfold Big; omega, ?_⟩ (by simp) (by simp; omega)).mono ?_
  · intro y hy
    simp only [List.mem_cons, List.not_mem_nil, or_false] at hy
    rcases hy with rfl | rfl | rfl
    · exact ⟨by show 1 ≤ _; unfold Big; omega, fun _ _ => trivial⟩
    · exact HB.out
    · exact ⟨by show 1 ≤ _; unfold Big; omega, fun _ _ => trivial⟩
  rintro e w4 ⟨v4, rfl, O4, hb4⟩
  obtain ⟨oa4, on4, oc4, hv4, HON4⟩ := O4.parts; obtain rfl := hv4
  have HO4 := Lib.hid ((O4.own (by simp; unfold Big; omega)).raw)
  have E4 : Below w.heap.size w w4 := Below.trans (by repeat (first | (with_reducible exact Below.refl _ _) | refine Below.alloc ?_ (by simp; try omega) _ | refine Below.drew ?_ | refine Below.setCell ?_ (by simp; try omega) _)) (hb4.mono (by simp; omega))
  clear R0 R1 R2 R3 hl O4 hb4
  go_wp2_with fail
  refine (implDigest_c HO4.out).mono ?_
  rintro e w5 ⟨rfl, hw⟩
  obtain rfl := hw.symm
  go_wp2
  go_ret
  exact ⟨ret_int (by show digest ([s] ++ (l ++ ([s] ++ []))) = digest ([s] ++ l ++ [s]); simp), E4⟩
set_option maxRecDepth 100000 in
set_option maxHeartbeats 2000000 in
theorem specSignedPortion_c {w : World} {cx : List Value} {x : LData} (hx : RData.rd w cx x) (hc : x.2.1.length ≤ 2000000) :
    Calls Tryz.prog 226 #[.agg cx.toArray] w (Made0 3 Rep.int (signed x) w) := by
  have hy := hx.1
  obtain ⟨av0, av1, av2, rfl, a_0, a_1, a_2, a_3, a_4, a_5, a_6⟩ := RData_raw hy
  obtain ⟨aa0, ap0, ah0, al0⟩ := Rep.len_raw a_1; obtain rfl : av0 = _ := by simpa using ah0
  clear ah0
  obtain ⟨aa1, ap1, ah1, al1⟩ := Rep.len_raw a_2; obtain rfl : av1 = _ := by simpa using ah1
  clear ah1
  obtain ⟨aa2, ap2, ah2, al2⟩ := Rep.len_raw a_4; obtain rfl : av2 = _ := by simpa using ah2
  clear ah2
  have HN := Lib.hid a_0
  have HC := Lib.hid a_2
  have HK := Lib.hid a_3
  have HF := Lib.hid (show I64q x.2.2.2.1 from a_5)
  have l1 := encV_len x.1
  have l2 := encV_len x.2.2.1
  have HD := Lib.hid (show signed x = toInts (encV x.1) ++ toInts x.2.1 ++ toInts (encV x.2.2.1) ++ [x.2.2.2.1] from rfl)
  have m1 := toInts_len (encV x.1)
  have m2 := toInts_len x.2.1
  have m3 := toInts_len (encV x.2.2.1)
  clear hx hy a_0 a_1 a_2 a_3 a_4 a_5 a_6
  go_enter Tryz.func226, Tryz.ntmps226
  go_upto_region 1 with fail
  generalize hwB : World.alloc w _ = wB
  have EB : Below w.heap.size w wB := by rw [← hwB]; exact (by repeat (first | (with_reducible exact Below.refl _ _) | refine Below.alloc ?_ (by simp; try omega) _ | refine Below.drew ?_ | refine Below.setCell ?_ (by simp; try omega) _))
  have zB : w.heap.size + 1 ≤ wB.heap.size := by rw [← hwB]; simp
  have K0 : wB.cell? ⟨w.heap.size, 0, none⟩ = some (.slice aa0 x.1.length ap0) := by rw [← hwB]; simp [go_sem]
  have K1 : wB.cell? ⟨w.heap.size, 1, none⟩ = some (.slice aa1 x.2.1.length ap1) := by rw [← hwB]; simp [go_sem]
  have K2 : wB.cell? ⟨w.heap.size, 2, none⟩ = some (.slice aa2 x.2.2.1.length ap2) := by rw [← hwB]; simp [go_sem]
  have K3 : wB.cell? ⟨w.heap.size, 3, none⟩ = some (.int .i64 x.2.2.2.1) := by rw [← hwB]; simp [go_sem]
  have K4 : wB.cell? ⟨w.heap.size, 4, none⟩ = some (.int .i64 x.2.2.2.2) := by rw [← hwB]; simp [go_sem]
  clear hwB
  refine wp_region_tree (fun W => Below wB.heap.size wB W) (by kernel_rfl) ((Below.refl _ _).drew) ?_
  intro wS HS
  try have zS_ := HS.size
  refine tree_read (k := 1) (v := ?_) rfl (by kernel_rfl) (fun c a d v w h => by cases d <;> exact h) rfl HS (fun W hW => ?_) ?_
  rotate_left
  · go_simp; try with_reducible rfl
  try simp only [Act.put, List.setIfInBounds_toArray, List.set_cons_zero, List.set_cons_succ]
  refine tree_read (k := 2) (v := ?_) rfl (by kernel_rfl) (fun c a d v w h => by cases d <;> exact h) rfl HS (fun W hW => ?_) ?_
  rotate_left
  · have A_K0 := cell_later hW K0; have A_K1 := cell_later hW K1; have A_K2 := cell_later hW K2; have A_K3 := cell_later hW K3; have A_K4 := cell_later hW K4; clear hW; go_simp; try with_reducible rfl
  try simp only [Act.put, List.setIfInBounds_toArray, List.set_cons_zero, List.set_cons_succ]
  refine tree_read (k := 5) (v := ?_) rfl (by kernel_rfl) (fun c a d v w h => by cases d <;> exact h) rfl HS (fun W hW => ?_) ?_
  rotate_left
  · go_simp; try with_reducible rfl
  try simp only [Act.put, List.setIfInBounds_toArray, List.set_cons_zero, List.set_cons_succ]
  refine tree_read (k := 6) (v := ?_) rfl (by kernel_rfl) (fun c a d v w h => by cases d <;> exact h) rfl HS (fun W hW => ?_) ?_
  rotate_left
  · have A_K0 := cell_later hW K0; have A_K1 := cell_later hW K1; have A_K2 := cell_later hW K2; have A_K3 := cell_later hW K3; have A_K4 := cell_later hW K4; clear hW; go_simp; try with_reducible rfl
  try simp only [Act.put, List.setIfInBounds_toArray, List.set_cons_zero, List.set_cons_succ]
  refine tree_one (k := 0) rfl (by kernel_rfl) rfl (fun K hK => ?_)
  have bn := HS.size
  go_simp
  have bN : Below wS.heap.size wS (World.alloc wS (.cells #[] 5)) := (Below.refl _ _).alloc (Nat.le_refl _) _
  have zN0 : wS.heap.size + 1 ≤ (World.alloc wS (.cells #[] 5)).heap.size := (by simp)
  have RV := ((Rep.own0.void (e := 5) (r := Rep.byte) (w := (World.alloc wS (.cells #[] 5))) (a := some ⟨wS.heap.size, 0, none⟩) (S := fun _ => False)).own (Nat.zero_le _)).rd
  generalize hwN : World.alloc wS (.cells #[] 5) = t0 at bN zN0 RV ⊢
  clear hwN
  replace HS := HS.trans (bN.mono HS.size)
  refine hK _ _ HS ?_
  clear hK K bN
  clear bn
  try simp only [Act.put, List.setIfInBounds_toArray, List.set_cons_zero, List.set_cons_succ]
  refine tree_one (k := 3) rfl (by kernel_rfl) rfl (fun K hK => ?_)
  go_simp
  refine (specAppendName_v RV (HN.out.below (EB.trans (HS.mono EB.size)))).mono ?_
  rintro e t1 ⟨vOA, rfl, OOA_, hb⟩
  obtain ⟨aOA, nOA, cOA, hvOA, HNOA⟩ := OOA_.parts
  obtain rfl := hvOA
  have zN1 := hb.size
  have OA := OOA_.wide (T := Btw t0.heap.size t1.heap.size) (fun j hj => ⟨by have := hj.1; have := HS.size; omega, hj.2⟩)
  clear OOA_
  clear RV
  replace HS := HS.trans (hb.mono HS.size)
  refine hK _ _ HS ?_
  clear hK K hb
  try simp only [Act.put, List.setIfInBounds_toArray, List.set_cons_zero, List.set_cons_succ]
  refine tree_one (k := 4) rfl (by kernel_rfl) rfl (fun K hK => ?_)
  go_simp
  refine (specBytesToInts_c (OA.own (by unfold Big; omega)).rd.1 (by omega)).mono ?_
  rintro e t2 ⟨vOB, rfl, OOB_, hb⟩
  obtain ⟨aOB, nOB, cOB, hvOB, HNOB⟩ := OOB_.parts
  obtain rfl := hvOB
  have zN2 := hb.size
  have OB := OOB_.wide (T := Btw t1.heap.size t2.heap.size) (fun j hj => ⟨by have := hj.1; have := HS.size; omega, hj.2⟩)
  clear OOB_
  clear OA
  replace HS := HS.trans (hb.mono HS.size)
  refine hK _ _ HS ?_
  clear hK K hb
  try simp only [Act.put, List.setIfInBounds_toArray, List.set_cons_zero, List.set_cons_succ]
  refine tree_one (k := 7) rfl (by kernel_rfl) rfl (fun K hK => ?_)
  go_simp
  refine (specBytesToInts_c (HC.out.below (EB.trans (HS.mono EB.size))) hc).mono ?_
  rintro e t3 ⟨vOC, rfl, OOC_, hb⟩
  obtain ⟨aOC, nOC, cOC, hvOC, HNOC⟩ := OOC_.parts
  obtain rfl := hvOC
  have zN3 := hb.size
  have OC := OOC_.wide (T := Btw t2.heap.size t3.heap.size) (fun j hj => ⟨by have := hj.1; have := HS.size; omega, hj.2⟩)
  clear OOC_
  replace OB := OB.below hb
  replace HS := HS.trans (hb.mono HS.size)
  refine hK _ _ HS ?_
  clear hK K hb
  try simp only [Act.put, List.setIfInBounds_toArray, List.set_cons_zero, List.set_cons_succ]
  refine tree_one (k := 8) rfl (by kernel_rfl) rfl (fun K hK => ?_)
  have bn := HS.size
  obtain ⟨v_, t4, hr, HV2, hbN, zN4, hfr⟩ := Rep.run_pushU (P := Tryz.prog) (t := 265) (ty := 265) (r := Rep.int) (e := 3) (w := t3) (B := wB.heap.size) Tryz.underlying265 infInt rfl (by decide) (by decide) Rep.isFlat_int OB (OC.own (by unfold Big; omega)).rd (fun j hj => ⟨by first | omega | (have := hj.1; omega), by first | omega | (have := hj.2; omega)⟩) HS.size (by first | omega | (simp only [List.flatten_cons, List.flatten_nil, List.length_append, List.length_cons, List.length_nil]; omega))
  refine Rep.wp_append _ _ _ rfl (by rfl) (by rfl) hr ?_
  obtain ⟨a_4, n_4, c_4, hv_, HN_4⟩ := HV2.parts
  obtain rfl := hv_
  replace HS := HS.trans hbN
  clear hr hbN hfr OB OC
  have HV := HV2
  clear HV2
  refine hK _ _ HS ?_
  clear hK K bn
  try simp only [Act.put, List.setIfInBounds_toArray, List.set_cons_zero, List.set_cons_succ]
  refine tree_read (k := 9) (v := ?_) rfl (by kernel_rfl) (fun c a d v w h => by cases d <;> exact h) rfl HS (fun W hW => ?_) ?_
  rotate_left
  · go_simp; try with_reducible rfl
  try simp only [Act.put, List.setIfInBounds_toArray, List.set_cons_zero, List.set_cons_succ]
  refine tree_end (by kernel_rfl) ?_
  have HS1 := HS
  clear HS
  go_upto_region 2 with fail
  replace HV := HV.wide (T := Btw wB.heap.size t4.heap.size) (fun j hj => hj)
  refine wp_region_tree0 (fun W => Below wB.heap.size wB W) (by kernel_rfl) (HS1.drew) ?_
  intro wS HE_ HS
  have bD : Below t4.heap.size t4 wS := (by rw [HE_]; exact (Below.refl _ _).drew)
  have zD_ := bD.size
  clear HE_
  try have zS_ := HS.size
  replace HV := HV.below bD
  clear bD
  refine tree_read (k := 0) (v := ?_) rfl (by kernel_rfl) (fun c a d v w h => by cases d <;> exact h) rfl HS (fun W hW => ?_) ?_
  rotate_left
  · go_simp; try with_reducible rfl
  try simp only [Act.put, List.setIfInBounds_toArray, List.set_cons_zero, List.set_cons_succ]
  refine tree_read (k := 2) (v := ?_) rfl (by kernel_rfl) (fun c a d v w h => by cases d <;> exact h) rfl HS (fun W hW => ?_) ?_
  rotate_left
  · go_simp; try with_reducible rfl
  try simp only [Act.put, List.setIfInBounds_toArray, List.set_cons_zero, List.set_cons_succ]
  refine tree_read (k := 3) (v := ?_) rfl (by kernel_rfl) (fun c a d v w h => by cases d <;> exact h) rfl HS (fun W hW => ?_) ?_
  rotate_left
  · have A_K0 := cell_later hW K0; have A_K1 := cell_later hW K1; have A_K2 := cell_later hW K2; have A_K3 := cell_later hW K3; have A_K4 := cell_later hW K4; clear hW; go_simp; try with_reducible rfl
  try simp only [Act.put, List.setIfInBounds_toArray, List.set_cons_zero, List.set_cons_succ]
  refine tree_read (k := 7) (v := ?_) rfl (by kernel_rfl) (fun c a d v w h => by cases d <;> exact h) rfl HS (fun W hW => ?_) ?_
  rotate_left
  · go_simp; try with_reducible rfl
  try simp only [Act.put, List.setIfInBounds_toArray, List.set_cons_zero, List.set_cons_succ]
  refine tree_read (k := 8) (v := ?_) rfl (by kernel_rfl) (fun c a d v w h => by cases d <;> exact h) rfl HS (fun W hW => ?_) ?_
  rotate_left
  · have A_K0 := cell_later hW K0; have A_K1 := cell_later hW K1; have A_K2 := cell_later hW K2; have A_K3 := cell_later hW K3; have A_K4 := cell_later hW K4; clear hW; go_simp; try with_reducible rfl
  try simp only [Act.put, List.setIfInBounds_toArray, List.set_cons_zero, List.set_cons_succ]
  refine tree_two (i := 1) (j := 9) rfl rfl (by kernel_rfl) rfl rfl (fun K hK => ?_) (fun K hK => ?_)
  · have bn := HS.size
    go_simp
    have bN : Below wS.heap.size wS (World.alloc wS (.cells #[] 5)) := (Below.refl _ _).alloc (Nat.le_refl _) _
    have zN0 : wS.heap.size + 1 ≤ (World.alloc wS (.cells #[] 5)).heap.size := (by simp)
    have RV := ((Rep.own0.void (e := 5) (r := Rep.byte) (w := (World.alloc wS (.cells #[] 5))) (a := some ⟨wS.heap.size, 0, none⟩) (S := fun _ => False)).own (Nat.zero_le _)).rd
    generalize hwN : World.alloc wS (.cells #[] 5) = t0 at bN zN0 RV ⊢
    clear hwN
    replace HV := HV.below bN
    replace HS := HS.trans (bN.mono HS.size)
    refine hK _ _ HS ?_
    clear hK K bN
    clear bn
    try simp only [Act.put, List.setIfInBounds_toArray, List.set_cons_zero, List.set_cons_succ]
    refine tree_two (i := 4) (j := 9) rfl rfl (by kernel_rfl) rfl rfl (fun K hK => ?_) (fun K hK => ?_)
    · go_simp
      refine (specAppendName_v RV (HK.out.below (EB.trans (HS.mono EB.size)))).mono ?_
      rintro e t1 ⟨vOA, rfl, OOA_, hb⟩
      obtain ⟨aOA, nOA, cOA, hvOA, HNOA⟩ := OOA_.parts
      obtain rfl := hvOA
      have zN1 := hb.size
      have OA := OOA_.wide (T := Btw t0.heap.size t1.heap.size) (fun j hj => ⟨by have := hj.1; have := HS.size; omega, hj.2⟩)
      clear OOA_
      clear RV
      replace HV := HV.below hb
      replace HS := HS.trans (hb.mono HS.size)
      refine hK _ _ HS ?_
      clear hK K hb
      try simp only [Act.put, List.setIfInBounds_toArray, List.set_cons_zero, List.set_cons_succ]
      refine tree_two (i := 5) (j := 9) rfl rfl (by kernel_rfl) rfl rfl (fun K hK => ?_) (fun K hK => ?_)
      · go_simp
        refine (specBytesToInts_c (OA.own (by unfold Big; omega)).rd.1 (by omega)).mono ?_
        rintro e t2 ⟨vOB, rfl, OOB_, hb⟩
        obtain ⟨aOB, nOB, cOB, hvOB, HNOB⟩ := OOB_.parts
        obtain rfl := hvOB
        have zN2 := hb.size
        have OB := OOB_.wide (T := Btw t1.heap.size t2.heap.size) (fun j hj => ⟨by have := hj.1; have := HS.size; omega, hj.2⟩)
        clear OOB_
        clear OA
        replace HV := HV.below hb
        replace HS := HS.trans (hb.mono HS.size)
        refine hK _ _ HS ?_
        clear hK K hb
        try simp only [Act.put, List.setIfInBounds_toArray, List.set_cons_zero, List.set_cons_succ]
        refine tree_two (i := 6) (j := 9) rfl rfl (by kernel_rfl) rfl rfl (fun K hK => ?_) (fun K hK => ?_)
        · have bn := HS.size
          obtain ⟨v_, t3, hr, HV2, hbN, zN3, hfr⟩ := Rep.run_pushU (P := Tryz.prog) (t := 265) (ty := 265) (r := Rep.int) (e := 3) (w := t2) (B := wB.heap.size) Tryz.underlying265 infInt rfl (by decide) (by decide) Rep.isFlat_int HV (OB.own (by unfold Big; omega)).rd (fun j hj => ⟨by first | omega | (have := hj.1; omega), by first | omega | (have := hj.2; omega)⟩) HS.size (by first | omega | (simp only [List.flatten_cons, List.flatten_nil, List.length_append, List.length_cons, List.length_nil]; omega))
          refine Rep.wp_append _ _ _ rfl (by rfl) (by rfl) hr ?_
          obtain ⟨a_3, n_3, c_3, hv_, HN_3⟩ := HV2.parts
          obtain rfl := hv_
          replace HS := HS.trans hbN
          clear hr hbN hfr HV OB
          have HV3 := HV2
          clear HV2
          refine hK _ _ HS ?_
          clear hK K bn
          try simp only [Act.put, List.setIfInBounds_toArray, List.set_cons_zero, List.set_cons_succ]
          refine tree_one (k := 9) rfl (by kernel_rfl) rfl (fun K hK => ?_)
          have bn := HS.size
          go_simp
          have bN : Below t3.heap.size t3 (World.alloc t3 (.cells #[.int .i64 x.2.2.2.1] 3)) := (Below.refl _ _).alloc (Nat.le_refl _) _
          have zN4 : t3.heap.size + 1 ≤ (World.alloc t3 (.cells #[.int .i64 x.2.2.2.1] 3)).heap.size := (by simp)
          have RL := litq (w := t3) (x := x.2.2.2.1) (e := 3) HF.out
          generalize hwN : World.alloc t3 (.cells #[.int .i64 x.2.2.2.1] 3) = t4 at bN zN4 RL ⊢
          clear hwN
          replace HV3 := HV3.below bN
          replace HS := HS.trans (bN.mono HS.size)
          refine hK _ _ HS ?_
          clear hK K bN
          clear bn
          try simp only [Act.put, List.setIfInBounds_toArray, List.set_cons_zero, List.set_cons_succ]
          refine tree_one (k := 10) rfl (by kernel_rfl) rfl (fun K hK => ?_)
          have bn := HS.size
          obtain ⟨v_, t5, hr, HV2, hbN, zN5, hfr⟩ := Rep.run_pushU (P := Tryz.prog) (t := 265) (ty := 265) (r := Rep.int) (e := 3) (w := t4) (B := wB.heap.size) Tryz.underlying265 infInt rfl (by decide) (by decide) Rep.isFlat_int HV3 (RL.own (by show 1 ≤ _; unfold Big; omega)).rd (fun j hj => ⟨by first | omega | (have := hj.1; omega), by first | omega | (have := hj.2; omega)⟩) HS.size (by first | omega | (simp only [List.flatten_cons, List.flatten_nil, List.length_append, List.length_cons, List.length_nil]; omega))
          refine Rep.wp_append _ _ _ rfl (by rfl) (by rfl) hr ?_
          obtain ⟨a_5, n_5, c_5, hv_, HN_5⟩ := HV2.parts
          obtain rfl := hv_
          replace HS := HS.trans hbN
          clear hr hbN hfr HV3 RL
          have HV4 := HV2
          clear HV2
          refine hK _ _ HS ?_
          clear hK K bn
          try simp only [Act.put, List.setIfInBounds_toArray, List.set_cons_zero, List.set_cons_succ]
          refine tree_read (k := 11) (v := ?_) rfl (by kernel_rfl) (fun c a d v w h => by cases d <;> exact h) rfl HS (fun W hW => ?_) ?_
          rotate_left
          · go_simp; try with_reducible rfl
          try simp only [Act.put, List.setIfInBounds_toArray, List.set_cons_zero, List.set_cons_succ]
          refine tree_end (by kernel_rfl) ?_
          go_wp2
          go_ret
          exact ⟨_, rfl, (HV4.cast (by rw [HD.out])).wide (fun j hj => ⟨by have := hj.1; omega, hj.2⟩), EB.trans (HS.mono EB.size)⟩
        · have bn := HS.size
          go_simp
          have bN : Below t2.heap.size t2 (World.alloc t2 (.cells #[.int .i64 x.2.2.2.1] 3)) := (Below.refl _ _).alloc (Nat.le_refl _) _
          have zN3 : t2.heap.size + 1 ≤ (World.alloc t2 (.cells #[.int .i64 x.2.2.2.1] 3)).heap.size := (by simp)
          have RL := litq (w := t2) (x := x.2.2.2.1) (e := 3) HF.out
          generalize hwN : World.alloc t2 (.cells #[.int .i64 x.2.2.2.1] 3) = t3 at bN zN3 RL ⊢
          clear hwN
          replace HV := HV.below bN
          replace OB := OB.below bN
          replace HS := HS.trans (bN.mono HS.size)
          refine hK _ _ HS ?_
          clear hK K bN
          clear bn
          try simp only [Act.put, List.setIfInBounds_toArray, List.set_cons_zero, List.set_cons_succ]
          refine tree_one (k := 6) rfl (by kernel_rfl) rfl (fun K hK => ?_)
          have bn := HS.size
          obtain ⟨v_, t4, hr, HV2, hbN, zN4, hfr⟩ := Rep.run_pushU (P := Tryz.prog) (t := 265) (ty := 265) (r := Rep.int) (e := 3) (w := t3) (B := wB.heap.size) Tryz.underlying265 infInt rfl (by decide) (by decide) Rep.isFlat_int HV (OB.own (by unfold Big; omega)).rd (fun j hj => ⟨by first | omega | (have := hj.1; omega), by first | omega | (have := hj.2; omega)⟩) HS.size (by first | omega | (simp only [List.flatten_cons, List.flatten_nil, List.length_append, List.length_cons, List.length_nil]; omega))
          refine Rep.wp_append _ _ _ rfl (by rfl) (by rfl) hr ?_
          obtain ⟨a_4, n_4, c_4, hv_, HN_4⟩ := HV2.parts
          obtain rfl := hv_
          replace RL := RL.keep (fun j hj hl => hfr j hl (by first | omega | (have h1 := hj.1; have h2 := hj.2; intro q; have := q.1; have := q.2; omega) | (intro q; have := q.1; have := q.2; omega)))
          replace HS := HS.trans hbN
          clear hr hbN hfr HV OB
          have HV3 := HV2
          clear HV2
          refine hK _ _ HS ?_
          clear hK K bn
          try simp only [Act.put, List.setIfInBounds_toArray, List.set_cons_zero, List.set_cons_succ]
          refine tree_one (k := 10) rfl (by kernel_rfl) rfl (fun K hK => ?_)
          have bn := HS.size
          obtain ⟨v_, t5, hr, HV2, hbN, zN5, hfr⟩ := Rep.run_pushU (P := Tryz.prog) (t := 265) (ty := 265) (r := Rep.int) (e := 3) (w := t4) (B := wB.heap.size) Tryz.underlying265 infInt rfl (by decide) (by decide) Rep.isFlat_int HV3 (RL.own (by show 1 ≤ _; unfold Big; omega)).rd (fun j hj => ⟨by first | omega | (have := hj.1; omega), by first | omega | (have := hj.2; omega)⟩) HS.size (by first | omega | (simp only [List.flatten_cons, List.flatten_nil, List.length_append, List.length_cons, List.length_nil]; omega))
          refine Rep.wp_append _ _ _ rfl (by rfl) (by rfl) hr ?_
          obtain ⟨a_5, n_5, c_5, hv_, HN_5⟩ := HV2.parts
          obtain rfl := hv_
          replace HS := HS.trans hbN
          clear hr hbN hfr HV3 RL
          have HV4 := HV2
          clear HV2
          refine hK _ _ HS ?_
          clear hK K bn
          try simp only [Act.put, List.setIfInBounds_toArray, List.set_cons_zero, List.set_cons_succ]
          refine tree_read (k := 11) (v := ?_) rfl (by kernel_rfl) (fun c a d v w h => by cases d <;> exact h) rfl HS (fun W hW => ?_) ?_
          rotate_left
          · go_simp; try with_reducible rfl
          try simp only [Act.put, List.setIfInBounds_toArray, List.set_cons_zero, List.set_cons_succ]
          refine tree_end (by kernel_rfl) ?_
          go_wp2
          go_ret
          exact ⟨_, rfl, (HV4.cast (by rw [HD.out])).wide (fun j hj => ⟨by have := hj.1; omega, hj.2⟩), EB.trans (HS.mono EB.size)⟩
      · have bn := HS.size
        go_simp
        have bN : Below t1.heap.size t1 (World.alloc t1 (.cells #[.int .i64 x.2.2.2.1] 3)) := (Below.refl _ _).alloc (Nat.le_refl _) _
        have zN2 : t1.heap.size + 1 ≤ (World.alloc t1 (.cells #[.int .i64 x.2.2.2.1] 3)).heap.size := (by simp)
        have RL := litq (w := t1) (x := x.2.2.2.1) (e := 3) HF.out
        generalize hwN : World.alloc t1 (.cells #[.int .i64 x.2.2.2.1] 3) = t2 at bN zN2 RL ⊢
        clear hwN
        replace HV := HV.below bN
        replace OA := OA.below bN
        replace HS := HS.trans (bN.mono HS.size)
        refine hK _ _ HS ?_
        clear hK K bN
        clear bn
        try simp only [Act.put, List.setIfInBounds_toArray, List.set_cons_zero, List.set_cons_succ]
        refine tree_one (k := 5) rfl (by kernel_rfl) rfl (fun K hK => ?_)
        go_simp
        refine (specBytesToInts_c (OA.own (by unfold Big; omega)).rd.1 (by omega)).mono ?_
        rintro e t3 ⟨vOB, rfl, OOB_, hb⟩
        obtain ⟨aOB, nOB, cOB, hvOB, HNOB⟩ := OOB_.parts
        obtain rfl := hvOB
        have zN3 := hb.size
        have OB := OOB_.wide (T := Btw t2.heap.size t3.heap.size) (fun j hj => ⟨by have := hj.1; have := HS.size; omega, hj.2⟩)
        clear OOB_
        clear OA
        replace HV := HV.below hb
        replace RL := RL.below hb
        replace HS := HS.trans (hb.mono HS.size)
        refine hK _ _ HS ?_
        clear hK K hb
        try simp only [Act.put, List.setIfInBounds_toArray, List.set_cons_zero, List.set_cons_succ]
        refine tree_one (k := 6) rfl (by kernel_rfl) rfl (fun K hK => ?_)
        have bn := HS.size
        obtain ⟨v_, t4, hr, HV2, hbN, zN4, hfr⟩ := Rep.run_pushU (P := Tryz.prog) (t := 265) (ty := 265) (r := Rep.int) (e := 3) (w := t3) (B := wB.heap.size) Tryz.underlying265 infInt rfl (by decide) (by decide) Rep.isFlat_int HV (OB.own (by unfold Big; omega)).rd (fun j hj => ⟨by first | omega | (have := hj.1; omega), by first | omega | (have := hj.2; omega)⟩) HS.size (by first | omega | (simp only [List.flatten_cons, List.flatten_nil, List.length_append, List.length_cons, List.length_nil]; omega))
        refine Rep.wp_append _ _ _ rfl (by rfl) (by rfl) hr ?_
        obtain ⟨a_4, n_4, c_4, hv_, HN_4⟩ := HV2.parts
        obtain rfl := hv_
        replace RL := RL.keep (fun j hj hl => hfr j hl (by first | omega | (have h1 := hj.1; have h2 := hj.2; intro q; have := q.1; have := q.2; omega) | (intro q; have := q.1; have := q.2; omega)))
        replace HS := HS.trans hbN
        clear hr hbN hfr HV OB
        have HV3 := HV2
        clear HV2
        refine hK _ _ HS ?_
        clear hK K bn
        try simp only [Act.put, List.setIfInBounds_toArray, List.set_cons_zero, List.set_cons_succ]
        refine tree_one (k := 10) rfl (by kernel_rfl) rfl (fun K hK => ?_)
        have bn := HS.size
        obtain ⟨v_, t5, hr, HV2, hbN, zN5, hfr⟩ := Rep.run_pushU (P := Tryz.prog) (t := 265) (ty := 265) (r := Rep.int) (e := 3) (w := t4) (B := wB.heap.size) Tryz.underlying265 infInt rfl (by decide) (by decide) Rep.isFlat_int HV3 (RL.own (by show 1 ≤ _; unfold Big; omega)).rd (fun j hj => ⟨by first | omega | (have := hj.1; omega), by first | omega | (have := hj.2; omega)⟩) HS.size (by first | omega | (simp only [List.flatten_cons, List.flatten_nil, List.length_append, List.length_cons, List.length_nil]; omega))
        refine Rep.wp_append _ _ _ rfl (by rfl) (by rfl) hr ?_
        obtain ⟨a_5, n_5, c_5, hv_, HN_5⟩ := HV2.parts
        obtain rfl := hv_
        replace HS := HS.trans hbN
        clear hr hbN hfr HV3 RL
        have HV4 := HV2
        clear HV2
        refine hK _ _ HS ?_
        clear hK K bn
        try simp only [Act.put, List.setIfInBounds_toArray, List.set_cons_zero, List.set_cons_succ]
        refine tree_read (k := 11) (v := ?_) rfl (by kernel_rfl) (fun c a d v w h => by cases d <;> exact h) rfl HS (fun W hW => ?_) ?_
        rotate_left
        · go_simp; try with_reducible rfl
        try simp only [Act.put, List.setIfInBounds_toArray, List.set_cons_zero, List.set_cons_succ]
        refine tree_end (by kernel_rfl) ?_
        go_wp2
        go_ret
        exact ⟨_, rfl, (HV4.cast (by rw [HD.out])).wide (fun j hj => ⟨by have := hj.1; omega, hj.2⟩), EB.trans (HS.mono EB.size)⟩
    · have bn := HS.size
      go_simp
      have bN : Below t0.heap.size t0 (World.alloc t0 (.cells #[.int .i64 x.2.2.2.1] 3)) := (Below.refl _ _).alloc (Nat.le_refl _) _
      have zN1 : t0.heap.size + 1 ≤ (World.alloc t0 (.cells #[.int .i64 x.2.2.2.1] 3)).heap.size := (by simp)
      have RL := litq (w := t0) (x := x.2.2.2.1) (e := 3) HF.out
      generalize hwN : World.alloc t0 (.cells #[.int .i64 x.2.2.2.1] 3) = t1 at bN zN1 RL ⊢
      clear hwN
      replace HV := HV.below bN
      replace RV := RV.below bN
      replace HS := HS.trans (bN.mono HS.size)
      refine hK _ _ HS ?_
      clear hK K bN
      clear bn
      try simp only [Act.put, List.setIfInBounds_toArray, List.set_cons_zero, List.set_cons_succ]
      refine tree_one (k := 4) rfl (by kernel_rfl) rfl (fun K hK => ?_)
      go_simp
      refine (specAppendName_v RV (HK.out.below (EB.trans (HS.mono EB.size)))).mono ?_
      rintro e t2 ⟨vOA, rfl, OOA_, hb⟩
      obtain ⟨aOA, nOA, cOA, hvOA, HNOA⟩ := OOA_.parts
      obtain rfl := hvOA
      have zN2 := hb.size
      have OA := OOA_.wide (T := Btw t1.heap.size t2.heap.size) (fun j hj => ⟨by have := hj.1; have := HS.size; omega, hj.2⟩)
      clear OOA_
      clear RV
      replace HV := HV.below hb
      replace RL := RL.below hb
      replace HS := HS.trans (hb.mono HS.size)
      refine hK _ _ HS ?_
      clear hK K hb
      try simp only [Act.put, List.setIfInBounds_toArray, List.set_cons_zero, List.set_cons_succ]
      refine tree_one (k := 5) rfl (by kernel_rfl) rfl (fun K hK => ?_)
      go_simp
      refine (specBytesToInts_c (OA.own (by unfold Big; omega)).rd.1 (by omega)).mono ?_
      rintro e t3 ⟨vOB, rfl, OOB_, hb⟩
      obtain ⟨aOB, nOB, cOB, hvOB, HNOB⟩ := OOB_.parts
      obtain rfl := hvOB
      have zN3 := hb.size
      have OB := OOB_.wide (T := Btw t2.heap.size t3.heap.size) (fun j hj => ⟨by have := hj.1; have := HS.size; omega, hj.2⟩)
      clear OOB_
      clear OA
      replace HV := HV.below hb
      replace RL := RL.below hb
      replace HS := HS.trans (hb.mono HS.size)
      refine hK _ _ HS ?_
      clear hK K hb
      try simp only [Act.put, List.setIfInBounds_toArray, List.set_cons_zero, List.set_cons_succ]
      refine tree_one (k := 6) rfl (by kernel_rfl) rfl (fun K hK => ?_)
      have bn := HS.size
      obtain ⟨v_, t4, hr, HV2, hbN, zN4, hfr⟩ := Rep.run_pushU (P := Tryz.prog) (t := 265) (ty := 265) (r := Rep.int) (e := 3) (w := t3) (B := wB.heap.size) Tryz.underlying265 infInt rfl (by decide) (by decide) Rep.isFlat_int HV (OB.own (by unfold Big; omega)).rd (fun j hj => ⟨by first | omega | (have := hj.1; omega), by first | omega | (have := hj.2; omega)⟩) HS.size (by first | omega | (simp only [List.flatten_cons, List.flatten_nil, List.length_append, List.length_cons, List.length_nil]; omega))
      refine Rep.wp_append _ _ _ rfl (by rfl) (by rfl) hr ?_
      obtain ⟨a_4, n_4, c_4, hv_, HN_4⟩ := HV2.parts
      obtain rfl := hv_
      replace RL := RL.keep (fun j hj hl => hfr j hl (by first | omega | (have h1 := hj.1; have h2 := hj.2; intro q; have := q.1; have := q.2; omega) | (intro q; have := q.1; have := q.2; omega)))
      replace HS := HS.trans hbN
      clear hr hbN hfr HV OB
      have HV3 := HV2
      clear HV2
      refine hK _ _ HS ?_
      clear hK K bn
      try simp only [Act.put, List.setIfInBounds_toArray, List.set_cons_zero, List.set_cons_succ]
      refine tree_one (k := 10) rfl (by kernel_rfl) rfl (fun K hK => ?_)
      have bn := HS.size
      obtain ⟨v_, t5, hr, HV2, hbN, zN5, hfr⟩ := Rep.run_pushU (P := Tryz.prog) (t := 265) (ty := 265) (r := Rep.int) (e := 3) (w := t4) (B := wB.heap.size) Tryz.underlying265 infInt rfl (by decide) (by decide) Rep.isFlat_int HV3 (RL.own (by show 1 ≤ _; unfold Big; omega)).rd (fun j hj => ⟨by first | omega | (have := hj.1; omega), by first | omega | (have := hj.2; omega)⟩) HS.size (by first | omega | (simp only [List.flatten_cons, List.flatten_nil, List.length_append, List.length_cons, List.length_nil]; omega))
      refine Rep.wp_append _ _ _ rfl (by rfl) (by rfl) hr ?_
      obtain ⟨a_5, n_5, c_5, hv_, HN_5⟩ := HV2.parts
      obtain rfl := hv_
      replace HS := HS.trans hbN
      clear hr hbN hfr HV3 RL
      have HV4 := HV2
      clear HV2
      refine hK _ _ HS ?_
      clear hK K bn
      try simp only [Act.put, List.setIfInBounds_toArray, List.set_cons_zero, List.set_cons_succ]
      refine tree_read (k := 11) (v := ?_) rfl (by kernel_rfl) (fun c a d v w h => by cases d <;> exact h) rfl HS (fun W hW => ?_) ?_
      rotate_left
      · go_simp; try with_reducible rfl
      try simp only [Act.put, List.setIfInBounds_toArray, List.set_cons_zero, List.set_cons_succ]
      refine tree_end (by kernel_rfl) ?_
      go_wp2
      go_ret
      exact ⟨_, rfl, (HV4.cast (by rw [HD.out])).wide (fun j hj => ⟨by have := hj.1; omega, hj.2⟩), EB.trans (HS.mono EB.size)⟩
  · have bn := HS.size
    go_simp
    have bN : Below wS.heap.size wS (World.alloc wS (.cells #[.int .i64 x.2.2.2.1] 3)) := (Below.refl _ _).alloc (Nat.le_refl _) _
    have zN0 : wS.heap.size + 1 ≤ (World.alloc wS (.cells #[.int .i64 x.2.2.2.1] 3)).heap.size := (by simp)
    have RL := litq (w := wS) (x := x.2.2.2.1) (e := 3) HF.out
    generalize hwN : World.alloc wS (.cells #[.int .i64 x.2.2.2.1] 3) = t0 at bN zN0 RL ⊢
    clear hwN
    replace HV := HV.below bN
    replace HS := HS.trans (bN.mono HS.size)
    refine hK _ _ HS ?_
    clear hK K bN
    clear bn
    try simp only [Act.put, List.setIfInBounds_toArray, List.set_cons_zero, List.set_cons_succ]
    refine tree_one (k := 1) rfl (by kernel_rfl) rfl (fun K hK => ?_)
    have bn := HS.size
    go_simp
    have bN : Below t0.heap.size t0 (World.alloc t0 (.cells #[] 5)) := (Below.refl _ _).alloc (Nat.le_refl _) _
    have zN1 : t0.heap.size + 1 ≤ (World.alloc t0 (.cells #[] 5)).heap.size := (by simp)
    have RV := ((Rep.own0.void (e := 5) (r := Rep.byte) (w := (World.alloc t0 (.cells #[] 5))) (a := some ⟨t0.heap.size, 0, none⟩) (S := fun _ => False)).own (Nat.zero_le _)).rd
    generalize hwN : World.alloc t0 (.cells #[] 5) = t1 at bN zN1 RV ⊢
    clear hwN
    replace HV := HV.below bN
    replace RL := RL.below bN
    replace HS := HS.trans (bN.mono HS.size)
    refine hK _ _ HS ?_
    clear hK K bN
    clear bn
    try simp only [Act.put, List.setIfInBounds_toArray, List.set_cons_zero, List.set_cons_succ]
    refine tree_one (k := 4) rfl (by kernel_rfl) rfl (fun K hK => ?_)
    go_simp
    refine (specAppendName_v RV (HK.out.below (EB.trans (HS.mono EB.size)))).mono ?_
    rintro e t2 ⟨vOA, rfl, OOA_, hb⟩
    obtain ⟨aOA, nOA, cOA, hvOA, HNOA⟩ := OOA_.parts
    obtain rfl := hvOA
    have zN2 := hb.size
    have OA := OOA_.wide (T := Btw t1.heap.size t2.heap.size) (fun j hj => ⟨by have := hj.1; have := HS.size; omega, hj.2⟩)
    clear OOA_
    clear RV
    replace HV := HV.below hb
    replace RL := RL.below hb
    replace HS := HS.trans (hb.mono HS.size)
    refine hK _ _ HS ?_
    clear hK K hb
    try simp only [Act.put, List.setIfInBounds_toArray, List.set_cons_zero, List.set_cons_succ]
    refine tree_one (k := 5) rfl (by kernel_rfl) rfl (fun K hK => ?_)
    go_simp
    refine (specBytesToInts_c (OA.own (by unfold Big; omega)).rd.1 (by omega)).mono ?_
    rintro e t3 ⟨vOB, rfl, OOB_, hb⟩
    obtain ⟨aOB, nOB, cOB, hvOB, HNOB⟩ := OOB_.parts
    obtain rfl := hvOB
    have zN3 := hb.size
    have OB := OOB_.wide (T := Btw t2.heap.size t3.heap.size) (fun j hj => ⟨by have := hj.1; have := HS.size; omega, hj.2⟩)
    clear OOB_
    clear OA
    replace HV := HV.below hb
    replace RL := RL.below hb
    replace HS := HS.trans (hb.mono HS.size)
    refine hK _ _ HS ?_
    clear hK K hb
    try simp only [Act.put, List.setIfInBounds_toArray, List.set_cons_zero, List.set_cons_succ]
    refine tree_one (k := 6) rfl (by kernel_rfl) rfl (fun K hK => ?_)
    have bn := HS.size
    obtain ⟨v_, t4, hr, HV2, hbN, zN4, hfr⟩ := Rep.run_pushU (P := Tryz.prog) (t := 265) (ty := 265) (r := Rep.int) (e := 3) (w := t3) (B := wB.heap.size) Tryz.underlying265 infInt rfl (by decide) (by decide) Rep.isFlat_int HV (OB.own (by unfold Big; omega)).rd (fun j hj => ⟨by first | omega | (have := hj.1; omega), by first | omega | (have := hj.2; omega)⟩) HS.size (by first | omega | (simp only [List.flatten_cons, List.flatten_nil, List.length_append, List.length_cons, List.length_nil]; omega))
    refine Rep.wp_append _ _ _ rfl (by rfl) (by rfl) hr ?_
    obtain ⟨a_4, n_4, c_4, hv_, HN_4⟩ := HV2.parts
    obtain rfl := hv_
    replace RL := RL.keep (fun j hj hl => hfr j hl (by first | omega | (have h1 := hj.1; have h2 := hj.2; intro q; have := q.1; have := q.2; omega) | (intro q; have := q.1; have := q.2; omega)))
    replace HS := HS.trans hbN
    clear hr hbN hfr HV OB
    have HV3 := HV2
    clear HV2
    refine hK _ _ HS ?_
    clear hK K bn
    try simp only [Act.put, List.setIfInBounds_toArray, List.set_cons_zero, List.set_cons_succ]
    refine tree_one (k := 10) rfl (by kernel_rfl) rfl (fun K hK => ?_)
    have bn := HS.size
    obtain ⟨v_, t5, hr, HV2, hbN, zN5, hfr⟩ := Rep.run_pushU (P := Tryz.prog) (t := 265) (ty := 265) (r := Rep.int) (e := 3) (w := t4) (B := wB.heap.size) Tryz.underlying265 infInt rfl (by decide) (by decide) Rep.isFlat_int HV3 (RL.own (by show 1 ≤ _; unfold Big; omega)).rd (fun j hj => ⟨by first | omega | (have := hj.1; omega), by first | omega | (have := hj.2; omega)⟩) HS.size (by first | omega | (simp only [List.flatten_cons, List.flatten_nil, List.length_append, List.length_cons, List.length_nil]; omega))
    refine Rep.wp_append _ _ _ rfl (by rfl) (by rfl) hr ?_
    obtain ⟨a_5, n_5, c_5, hv_, HN_5⟩ := HV2.parts
    obtain rfl := hv_
    replace HS := HS.trans hbN
    clear hr hbN hfr HV3 RL
    have HV4 := HV2
    clear HV2
    refine hK _ _ HS ?_
    clear hK K bn
    try simp only [Act.put, List.setIfInBounds_toArray, List.set_cons_zero, List.set_cons_succ]
    refine tree_read (k := 11) (v := ?_) rfl (by kernel_rfl) (fun c a d v w h => by cases d <;> exact h) rfl HS (fun W hW => ?_) ?_
    rotate_left
    · go_simp; try with_reducible rfl
    try simp only [Act.put, List.setIfInBounds_toArray, List.set_cons_zero, List.set_cons_succ]
    refine tree_end (by kernel_rfl) ?_
    go_wp2
    go_ret
    exact ⟨_, rfl, (HV4.cast (by rw [HD.out])).wide (fun j hj => ⟨by have := hj.1; omega, hj.2⟩), EB.trans (HS.mono EB.size)⟩
set_option maxRecDepth 100000 in
set_option maxHeartbeats 2000000 in
theorem implSignedPortion_c {w : World} {cx : List Value} {x : LData} (hx : RData.rd w cx x) (hc : x.2.1.length ≤ 2000000) :
    Calls Tryz.prog 233 #[.agg cx.toArray] w (Made0 3 Rep.int (signed x) w) := by
  have hy := hx.1
  obtain ⟨av0, av1, av2, rfl, a_0, a_1, a_2, a_3, a_4, a_5, a_6⟩ := RData_raw hy
  obtain ⟨aa0, ap0, ah0, al0⟩ := Rep.len_raw a_1; obtain rfl : av0 = _ := by simpa using ah0
  clear ah0
  obtain ⟨aa1, ap1, ah1, al1⟩ := Rep.len_raw a_2; obtain rfl : av1 = _ := by simpa using ah1
  clear ah1
  obtain ⟨aa2, ap2, ah2, al2⟩ := Rep.len_raw a_4; obtain rfl : av2 = _ := by simpa using ah2
  clear ah2
  have HN := Lib.hid a_0
  have HC := Lib.hid a_2
  have HK := Lib.hid a_3
  have HF := Lib.hid (show I64q x.2.2.2.1 from a_5)
  have l1 := encV_len x.1
  have l2 := encV_len x.2.2.1
  have HD := Lib.hid (show signed x = toInts (encV x.1) ++ toInts x.2.1 ++ toInts (encV x.2.2.1) ++ [x.2.2.2.1] from rfl)
  have m1 := toInts_len (encV x.1)
  have m2 := toInts_len x.2.1
  have m3 := toInts_len (encV x.2.2.1)
  clear hx hy a_0 a_1 a_2 a_3 a_4 a_5 a_6
  go_enter Tryz.func233, Tryz.ntmps233
  go_upto_region 1 with fail
  generalize hwB : World.alloc w _ = wB
  have EB : Below w.heap.size w wB := by rw [← hwB]; exact (by repeat (first | (with_reducible exact Below.refl _ _) | refine Below.alloc ?_ (by simp; try omega) _ | refine Below.drew ?_ | refine Below.setCell ?_ (by simp; try omega) _))
  have zB : w.heap.size + 1 ≤ wB.heap.size := by rw [← hwB]; simp
  have K0 : wB.cell? ⟨w.heap.size, 0, none⟩ = some (.slice aa0 x.1.length ap0) := by rw [← hwB]; simp [go_sem]
  have K1 : wB.cell? ⟨w.heap.size, 1, none⟩ = some (.slice aa1 x.2.1.length ap1) := by rw [← hwB]; simp [go_sem]
  have K2 : wB.cell? ⟨w.heap.size, 2, none⟩ = some (.slice aa2 x.2.2.1.length ap2) := by rw [← hwB]; simp [go_sem]
  have K3 : wB.cell? ⟨w.heap.size, 3, none⟩ = some (.int .i64 x.2.2.2.1) := by rw [← hwB]; simp [go_sem]
  have K4 : wB.cell? ⟨w.heap.size, 4, none⟩ = some (.int .i64 x.2.2.2.2) := by rw [← hwB]; simp [go_sem]
  clear hwB
  refine wp_region_tree (fun W => Below wB.heap.size wB W) (by kernel_rfl) ((Below.refl _ _).drew) ?_
  intro wS HS
  try have zS_ := HS.size
  refine tree_read (k := 0) (v := ?_) rfl (by kernel_rfl) (fun c a d v w h => by cases d <;> exact h) rfl HS (fun W hW => ?_) ?_
  rotate_left
  · go_simp; try with_reducible rfl
  try simp only [Act.put, List.setIfInBounds_toArray, List.set_cons_zero, List.set_cons_succ]
  refine tree_read (k := 1) (v := ?_) rfl (by kernel_rfl) (fun c a d v w h => by cases d <;> exact h) rfl HS (fun W hW => ?_) ?_
  rotate_left
  · have A_K0 := cell_later hW K0; have A_K1 := cell_later hW K1; have A_K2 := cell_later hW K2; have A_K3 := cell_later hW K3; have A_K4 := cell_later hW K4; clear hW; go_simp; try with_reducible rfl
  try simp only [Act.put, List.setIfInBounds_toArray, List.set_cons_zero, List.set_cons_succ]
  refine tree_read (k := 4) (v := ?_) rfl (by kernel_rfl) (fun c a d v w h => by cases d <;> exact h) rfl HS (fun W hW => ?_) ?_
  rotate_left
  · go_simp; try with_reducible rfl
  try simp only [Act.put, List.setIfInBounds_toArray, List.set_cons_zero, List.set_cons_succ]
  refine tree_read (k := 5) (v := ?_) rfl (by kernel_rfl) (fun c a d v w h => by cases d <;> exact h) rfl HS (fun W hW => ?_) ?_
  rotate_left
  · have A_K0 := cell_later hW K0; have A_K1 := cell_later hW K1; have A_K2 := cell_later hW K2; have A_K3 := cell_later hW K3; have A_K4 := cell_later hW K4; clear hW; go_simp; try with_reducible rfl
  try simp only [Act.put, List.setIfInBounds_toArray, List.set_cons_zero, List.set_cons_succ]
  refine tree_read (k := 7) (v := ?_) rfl (by kernel_rfl) (fun c a d v w h => by cases d <;> exact h) rfl HS (fun W hW => ?_) ?_
  rotate_left
  · go_simp; try with_reducible rfl
  try simp only [Act.put, List.setIfInBounds_toArray, List.set_cons_zero, List.set_cons_succ]
  refine tree_read (k := 8) (v := ?_) rfl (by kernel_rfl) (fun c a d v w h => by cases d <;> exact h) rfl HS (fun W hW => ?_) ?_
  rotate_left
  · have A_K0 := cell_later hW K0; have A_K1 := cell_later hW K1; have A_K2 := cell_later hW K2; have A_K3 := cell_later hW K3; have A_K4 := cell_later hW K4; clear hW; go_simp; try with_reducible rfl
  try simp only [Act.put, List.setIfInBounds_toArray, List.set_cons_zero, List.set_cons_succ]
  refine tree_read (k := 13) (v := ?_) rfl (by kernel_rfl) (fun c a d v w h => by cases d <;> exact h) rfl HS (fun W hW => ?_) ?_
  rotate_left
  · go_simp; try with_reducible rfl
  try simp only [Act.put, List.setIfInBounds_toArray, List.set_cons_zero, List.set_cons_succ]
  refine tree_read (k := 14) (v := ?_) rfl (by kernel_rfl) (fun c a d v w h => by cases d <;> exact h) rfl HS (fun W hW => ?_) ?_
  rotate_left
  · have A_K0 := cell_later hW K0; have A_K1 := cell_later hW K1; have A_K2 := cell_later hW K2; have A_K3 := cell_later hW K3; have A_K4 := cell_later hW K4; clear hW; go_simp; try with_reducible rfl
  try simp only [Act.put, List.setIfInBounds_toArray, List.set_cons_zero, List.set_cons_succ]
  refine tree_two (i := 2) (j := 15) rfl rfl (by kernel_rfl) rfl rfl (fun K hK => ?_) (fun K hK => ?_)
  · go_simp
    refine (implAppendName_v ((Rep.own0.void (e := 5) (r := Rep.byte) (a := none) (S := fun _ => False)).own (Nat.zero_le _)).rd (HN.out.below (EB.trans (HS.mono EB.size)))).mono ?_
    rintro e t0 ⟨vOA, rfl, OOA_, hb⟩
    obtain ⟨aOA, nOA, cOA, hvOA, HNOA⟩ := OOA_.parts
    obtain rfl := hvOA
    have zN0 := hb.size
    have OA := OOA_.wide (T := Btw wS.heap.size t0.heap.size) (fun j hj => ⟨by have := hj.1; have := HS.size; omega, hj.2⟩)
    clear OOA_
    replace HS := HS.trans (hb.mono HS.size)
    refine hK _ _ HS ?_
    clear hK K hb
    try simp only [Act.put, List.setIfInBounds_toArray, List.set_cons_zero, List.set_cons_succ]
    refine tree_two (i := 3) (j := 15) rfl rfl (by kernel_rfl) rfl rfl (fun K hK => ?_) (fun K hK => ?_)
    · go_simp
      refine (implBytesToInts_c (OA.own (by unfold Big; omega)).rd.1 (by omega)).mono ?_
      rintro e t1 ⟨vOB, rfl, OOB_, hb⟩
      obtain ⟨aOB, nOB, cOB, hvOB, HNOB⟩ := OOB_.parts
      obtain rfl := hvOB
      have zN1 := hb.size
      have OB := OOB_.wide (T := Btw t0.heap.size t1.heap.size) (fun j hj => ⟨by have := hj.1; have := HS.size; omega, hj.2⟩)
      clear OOB_
      clear OA
      replace HS := HS.trans (hb.mono HS.size)
      refine hK _ _ HS ?_
      clear hK K hb
      try simp only [Act.put, List.setIfInBounds_toArray, List.set_cons_zero, List.set_cons_succ]
      refine tree_two (i := 6) (j := 15) rfl rfl (by kernel_rfl) rfl rfl (fun K hK => ?_) (fun K hK => ?_)
      · go_simp
        refine (implBytesToInts_c (HC.out.below (EB.trans (HS.mono EB.size))) hc).mono ?_
        rintro e t2 ⟨vOE, rfl, OOE_, hb⟩
        obtain ⟨aOE, nOE, cOE, hvOE, HNOE⟩ := OOE_.parts
        obtain rfl := hvOE
        have zN2 := hb.size
        have OE := OOE_.wide (T := Btw t1.heap.size t2.heap.size) (fun j hj => ⟨by have := hj.1; have := HS.size; omega, hj.2⟩)
        clear OOE_
        replace OB := OB.below hb
        replace HS := HS.trans (hb.mono HS.size)
        refine hK _ _ HS ?_
        clear hK K hb
        try simp only [Act.put, List.setIfInBounds_toArray, List.set_cons_zero, List.set_cons_succ]
        refine tree_two (i := 9) (j := 15) rfl rfl (by kernel_rfl) rfl rfl (fun K hK => ?_) (fun K hK => ?_)
        · go_simp
          refine (implAppendName_v ((Rep.own0.void (e := 5) (r := Rep.byte) (a := none) (S := fun _ => False)).own (Nat.zero_le _)).rd (HK.out.below (EB.trans (HS.mono EB.size)))).mono ?_
          rintro e t3 ⟨vOF, rfl, OOF_, hb⟩
          obtain ⟨aOF, nOF, cOF, hvOF, HNOF⟩ := OOF_.parts
          obtain rfl := hvOF
          have zN3 := hb.size
          have OF := OOF_.wide (T := Btw t2.heap.size t3.heap.size) (fun j hj => ⟨by have := hj.1; have := HS.size; omega, hj.2⟩)
          clear OOF_
          replace OB := OB.below hb
          replace OE := OE.below hb
          replace HS := HS.trans (hb.mono HS.size)
          refine hK _ _ HS ?_
          clear hK K hb
          try simp only [Act.put, List.setIfInBounds_toArray, List.set_cons_zero, List.set_cons_succ]
          refine tree_two (i := 10) (j := 15) rfl rfl (by kernel_rfl) rfl rfl (fun K hK => ?_) (fun K hK => ?_)
          · go_simp
            refine (implBytesToInts_c (OF.own (by unfold Big; omega)).rd.1 (by omega)).mono ?_
            rintro e t4 ⟨vOG, rfl, OOG_, hb⟩
            obtain ⟨aOG, nOG, cOG, hvOG, HNOG⟩ := OOG_.parts
            obtain rfl := hvOG
            have zN4 := hb.size
            have OG := OOG_.wide (T := Btw t3.heap.size t4.heap.size) (fun j hj => ⟨by have := hj.1; have := HS.size; omega, hj.2⟩)
            clear OOG_
            clear OF
            replace OB := OB.below hb
            replace OE := OE.below hb
            replace HS := HS.trans (hb.mono HS.size)
            refine hK _ _ HS ?_
            clear hK K hb
            try simp only [Act.put, List.setIfInBounds_toArray, List.set_cons_zero, List.set_cons_succ]
            refine tree_two (i := 11) (j := 15) rfl rfl (by kernel_rfl) rfl rfl (fun K hK => ?_) (fun K hK => ?_)
            · have bn := HS.size
              go_simp
              have bN : Below t4.heap.size t4 (World.alloc t4 (.cells #[.slice aOB nOB cOB, .slice aOE nOE cOE, .slice aOG nOG cOG] 265)) := (Below.refl _ _).alloc (Nat.le_refl _) _
              have zN5 : t4.heap.size + 1 ≤ (World.alloc t4 (.cells #[.slice aOB nOB cOB, .slice aOE nOE cOE, .slice aOG nOG cOG] 265)).heap.size := (by simp)
              have X0 := (OB.own (by unfold Big; omega)).rd
              have X1 := (OE.own (by unfold Big; omega)).rd
              have X2 := (OG.own (by unfold Big; omega)).rd
              have Y0 := raw_three (e := 265) (r := (Rep.slice 3 Rep.int)) rfl (heap_new_at (w := t4) (o := (.cells #[.slice aOB nOB cOB, .slice aOE nOE cOE, .slice aOG nOG cOG] 265)) rfl) (X0.1.alloc (.cells #[.slice aOB nOB cOB, .slice aOE nOE cOE, .slice aOG nOG cOG] 265)) (X1.1.alloc (.cells #[.slice aOB nOB cOB, .slice aOE nOE cOE, .slice aOG nOG cOG] 265)) (X2.1.alloc (.cells #[.slice aOB nOB cOB, .slice aOE nOE cOE, .slice aOG nOG cOG] 265))
              have RT : (Rep.slice 265 (Rep.slice 3 Rep.int)).rd (World.alloc t4 (.cells #[.slice aOB nOB cOB, .slice aOE nOE cOE, .slice aOG nOG cOG] 265)) [.slice (some ⟨t4.heap.size, 0, none⟩) 3 3] [toInts (encV x.1), toInts x.2.1, toInts (encV x.2.2.1)] := ⟨Y0, by show 3 ≤ _; unfold Big; omega, fun y hy => (by simp only [List.mem_cons, List.not_mem_nil, or_false] at hy; rcases hy with rfl | rfl | rfl; exact X0.2; exact X1.2; exact X2.2)⟩
              clear X0 X1 X2 Y0 OB OE OG
              generalize hwN : World.alloc t4 (.cells #[.slice aOB nOB cOB, .slice aOE nOE cOE, .slice aOG nOG cOG] 265) = t5 at bN zN5 RT ⊢
              clear hwN
              replace HS := HS.trans (bN.mono HS.size)
              refine hK _ _ HS ?_
              clear hK K bN
              clear bn
              try simp only [Act.put, List.setIfInBounds_toArray, List.set_cons_zero, List.set_cons_succ]
              refine tree_two (i := 12) (j := 15) rfl rfl (by kernel_rfl) rfl rfl (fun K hK => ?_) (fun K hK => ?_)
              · go_simp
                refine (Concat_int_c RT (by simp; omega) (by simp; omega)).mono ?_
                rintro e t6 ⟨vOT, rfl, OOT_, hb⟩
                obtain ⟨aOT, nOT, cOT, hvOT, HNOT⟩ := OOT_.parts
                obtain rfl := hvOT
                have zN6 := hb.size
                have OT := OOT_.wide (T := Btw t5.heap.size t6.heap.size) (fun j hj => ⟨by have := hj.1; have := HS.size; omega, hj.2⟩)
                clear OOT_
                clear RT
                replace HS := HS.trans (hb.mono HS.size)
                refine hK _ _ HS ?_
                clear hK K hb
                try simp only [Act.put, List.setIfInBounds_toArray, List.set_cons_zero, List.set_cons_succ]
                refine tree_one (k := 15) rfl (by kernel_rfl) rfl (fun K hK => ?_)
                have bn := HS.size
                go_simp
                have bN : Below t6.heap.size t6 (World.alloc t6 (.cells #[.int .i64 x.2.2.2.1] 3)) := (Below.refl _ _).alloc (Nat.le_refl _) _
                have zN7 : t6.heap.size + 1 ≤ (World.alloc t6 (.cells #[.int .i64 x.2.2.2.1] 3)).heap.size := (by simp)
                have RL := litq (w := t6) (x := x.2.2.2.1) (e := 3) HF.out
                generalize hwN : World.alloc t6 (.cells #[.int .i64 x.2.2.2.1] 3) = t7 at bN zN7 RL ⊢
                clear hwN
                replace OT := OT.below bN
                replace HS := HS.trans (bN.mono HS.size)
                refine hK _ _ HS ?_
                clear hK K bN
                clear bn
                try simp only [Act.put, List.setIfInBounds_toArray, List.set_cons_zero, List.set_cons_succ]
                refine tree_one (k := 16) rfl (by kernel_rfl) rfl (fun K hK => ?_)
                have bn := HS.size
                obtain ⟨v_, t8, hr, HV2, hbN, zN8, hfr⟩ := Rep.run_pushU (P := Tryz.prog) (t := 265) (ty := 265) (r := Rep.int) (e := 3) (w := t7) (B := wB.heap.size) Tryz.underlying265 infInt rfl (by decide) (by decide) Rep.isFlat_int OT (RL.own (by show 1 ≤ _; unfold Big; omega)).rd (fun j hj => ⟨by first | omega | (have := hj.1; omega), by first | omega | (have := hj.2; omega)⟩) HS.size (by first | omega | (simp only [List.flatten_cons, List.flatten_nil, List.length_append, List.length_cons, List.length_nil]; omega))
                refine Rep.wp_append _ _ _ rfl (by rfl) (by rfl) hr ?_
                obtain ⟨a_8, n_8, c_8, hv_, HN_8⟩ := HV2.parts
                obtain rfl := hv_
                replace HS := HS.trans hbN
                clear hr hbN hfr OT RL
                have HV := HV2
                clear HV2
                refine hK _ _ HS ?_
                clear hK K bn
                try simp only [Act.put, List.setIfInBounds_toArray, List.set_cons_zero, List.set_cons_succ]
                refine tree_read (k := 17) (v := ?_) rfl (by kernel_rfl) (fun c a d v w h => by cases d <;> exact h) rfl HS (fun W hW => ?_) ?_
                rotate_left
                · go_simp; try with_reducible rfl
                try simp only [Act.put, List.setIfInBounds_toArray, List.set_cons_zero, List.set_cons_succ]
                refine tree_end (by kernel_rfl) ?_
                go_wp2
                go_ret
                exact ⟨_, rfl, (HV.cast (by rw [HD.out]; simp)).wide (fun j hj => ⟨by have := hj.1; omega, hj.2⟩), EB.trans (HS.mono EB.size)⟩
              · have bn := HS.size
                go_simp
                have bN : Below t5.heap.size t5 (World.alloc t5 (.cells #[.int .i64 x.2.2.2.1] 3)) := (Below.refl _ _).alloc (Nat.le_refl _) _
                have zN6 : t5.heap.size + 1 ≤ (World.alloc t5 (.cells #[.int .i64 x.2.2.2.1] 3)).heap.size := (by simp)
                have RL := litq (w := t5) (x := x.2.2.2.1) (e := 3) HF.out
                generalize hwN : World.alloc t5 (.cells #[.int .i64 x.2.2.2.1] 3) = t6 at bN zN6 RL ⊢
                clear hwN
                replace RT := RT.below bN
                replace HS := HS.trans (bN.mono HS.size)
                refine hK _ _ HS ?_
                clear hK K bN
                clear bn
                try simp only [Act.put, List.setIfInBounds_toArray, List.set_cons_zero, List.set_cons_succ]
                refine tree_one (k := 12) rfl (by kernel_rfl) rfl (fun K hK => ?_)
                go_simp
                refine (Concat_int_c RT (by simp; omega) (by simp; omega)).mono ?_
                rintro e t7 ⟨vOT, rfl, OOT_, hb⟩
                obtain ⟨aOT, nOT, cOT, hvOT, HNOT⟩ := OOT_.parts
                obtain rfl := hvOT
                have zN7 := hb.size
                have OT := OOT_.wide (T := Btw t6.heap.size t7.heap.size) (fun j hj => ⟨by have := hj.1; have := HS.size; omega, hj.2⟩)
                clear OOT_
                clear RT
                replace RL := RL.below hb
                replace HS := HS.trans (hb.mono HS.size)
                refine hK _ _ HS ?_
                clear hK K hb
                try simp only [Act.put, List.setIfInBounds_toArray, List.set_cons_zero, List.set_cons_succ]
                refine tree_one (k := 16) rfl (by kernel_rfl) rfl (fun K hK => ?_)
                have bn := HS.size
                obtain ⟨v_, t8, hr, HV2, hbN, zN8, hfr⟩ := Rep.run_pushU (P := Tryz.prog) (t := 265) (ty := 265) (r := Rep.int) (e := 3) (w := t7) (B := wB.heap.size) Tryz.underlying265 infInt rfl (by decide) (by decide) Rep.isFlat_int OT (RL.own (by show 1 ≤ _; unfold Big; omega)).rd (fun j hj => ⟨by first | omega | (have := hj.1; omega), by first | omega | (have := hj.2; omega)⟩) HS.size (by first | omega | (simp only [List.flatten_cons, List.flatten_nil, List.length_append, List.length_cons, List.length_nil]; omega))
                refine Rep.wp_append _ _ _ rfl (by rfl) (by rfl) hr ?_
                obtain ⟨a_8, n_8, c_8, hv_, HN_8⟩ := HV2.parts
                obtain rfl := hv_
                replace HS := HS.trans hbN
                clear hr hbN hfr OT RL
                have HV := HV2
                clear HV2
                refine hK _ _ HS ?_
                clear hK K bn
                try simp only [Act.put, List.setIfInBounds_toArray, List.set_cons_zero, List.set_cons_succ]
                refine tree_read (k := 17) (v := ?_) rfl (by kernel_rfl) (fun c a d v w h => by cases d <;> exact h) rfl HS (fun W hW => ?_) ?_
                rotate_left
                · go_simp; try with_reducible rfl
                try simp only [Act.put, List.setIfInBounds_toArray, List.set_cons_zero, List.set_cons_succ]
                refine tree_end (by kernel_rfl) ?_
                go_wp2
                go_ret
                exact ⟨_, rfl, (HV.cast (by rw [HD.out]; simp)).wide (fun j hj => ⟨by have := hj.1; omega, hj.2⟩), EB.trans (HS.mono EB.size)⟩
            · have bn := HS.size
              go_simp
              have bN : Below t4.heap.size t4 (World.alloc t4 (.cells #[.int .i64 x.2.2.2.1] 3)) := (Below.refl _ _).alloc (Nat.le_refl _) _
              have zN5 : t4.heap.size + 1 ≤ (World.alloc t4 (.cells #[.int .i64 x.2.2.2.1] 3)).heap.size := (by simp)
              have RL := litq (w := t4) (x := x.2.2.2.1) (e := 3) HF.out
              generalize hwN : World.alloc t4 (.cells #[.int .i64 x.2.2.2.1] 3) = t5 at bN zN5 RL ⊢
              clear hwN
              replace OB := OB.below bN
              replace OE := OE.below bN
              replace OG := OG.below bN
              replace HS := HS.trans (bN.mono HS.size)
              refine hK _ _ HS ?_
              clear hK K bN
              clear bn
              try simp only [Act.put, List.setIfInBounds_toArray, List.set_cons_zero, List.set_cons_succ]
              refine tree_one (k := 11) rfl (by kernel_rfl) rfl (fun K hK => ?_)
              have bn := HS.size
              go_simp
              have bN : Below t5.heap.size t5 (World.alloc t5 (.cells #[.slice aOB nOB cOB, .slice aOE nOE cOE, .slice aOG nOG cOG] 265)) := (Below.refl _ _).alloc (Nat.le_refl _) _
              have zN6 : t5.heap.size + 1 ≤ (World.alloc t5 (.cells #[.slice aOB nOB cOB, .slice aOE nOE cOE, .slice aOG nOG cOG] 265)).heap.size := (by simp)
              have X0 := (OB.own (by unfold Big; omega)).rd
              have X1 := (OE.own (by unfold Big; omega)).rd
              have X2 := (OG.own (by unfold Big; omega)).rd
              have Y0 := raw_three (e := 265) (r := (Rep.slice 3 Rep.int)) rfl (heap_new_at (w := t5) (o := (.cells #[.slice aOB nOB cOB, .slice aOE nOE cOE, .slice aOG nOG cOG] 265)) rfl) (X0.1.alloc (.cells #[.slice aOB nOB cOB, .slice aOE nOE cOE, .slice aOG nOG cOG] 265)) (X1.1.alloc (.cells #[.slice aOB nOB cOB, .slice aOE nOE cOE, .slice aOG nOG cOG] 265)) (X2.1.alloc (.cells #[.slice aOB nOB cOB, .slice aOE nOE cOE, .slice aOG nOG cOG] 265))
              have RT : (Rep.slice 265 (Rep.slice 3 Rep.int)).rd (World.alloc t5 (.cells #[.slice aOB nOB cOB, .slice aOE nOE cOE, .slice aOG nOG cOG] 265)) [.slice (some ⟨t5.heap.size, 0, none⟩) 3 3] [toInts (encV x.1), toInts x.2.1, toInts (encV x.2.2.1)] := ⟨Y0, by show 3 ≤ _; unfold Big; omega, fun y hy => (by simp only [List.mem_cons, List.not_mem_nil, or_false] at hy; rcases hy with rfl | rfl | rfl; exact X0.2; exact X1.2; exact X2.2)⟩
              clear X0 X1 X2 Y0 OB OE OG
              generalize hwN : World.alloc t5 (.cells #[.slice aOB nOB cOB, .slice aOE nOE cOE, .slice aOG nOG cOG] 265) = t6 at bN zN6 RT ⊢
              clear hwN
              replace RL := RL.below bN
              replace HS := HS.trans (bN.mono HS.size)
              refine hK _ _ HS ?_
              clear hK K bN
              clear bn
              try simp only [Act.put, List.setIfInBounds_toArray, List.set_cons_zero, List.set_cons_succ]
              refine tree_one (k := 12) rfl (by kernel_rfl) rfl (fun K hK => ?_)
              go_simp
              refine (Concat_int_c RT (by simp; omega) (by simp; omega)).mono ?_
              rintro e t7 ⟨vOT, rfl, OOT_, hb⟩
              obtain ⟨aOT, nOT, cOT, hvOT, HNOT⟩ := OOT_.parts
              obtain rfl := hvOT
              have zN7 := hb.size
              have OT := OOT_.wide (T := Btw t6.heap.size t7.heap.size) (fun j hj => ⟨by have := hj.1; have := HS.size; omega, hj.2⟩)
              clear OOT_
              clear RT
              replace RL := RL.below hb
              replace HS := HS.trans (hb.mono HS.size)
              refine hK _ _ HS ?_
              clear hK K hb
              try simp only [Act.put, List.setIfInBounds_toArray, List.set_cons_zero, List.set_cons_succ]
              refine tree_one (k := 16) rfl (by kernel_rfl) rfl (fun K hK => ?_)
              have bn := HS.size
              obtain ⟨v_, t8, hr, HV2, hbN, zN8, hfr⟩ := Rep.run_pushU (P := Tryz.prog) (t := 265) (ty := 265) (r := Rep.int) (e := 3) (w := t7) (B := wB.heap.size) Tryz.underlying265 infInt rfl (by decide) (by decide) Rep.isFlat_int OT (RL.own (by show 1 ≤ _; unfold Big; omega)).rd (fun j hj => ⟨by first | omega | (have := hj.1; omega), by first | omega | (have := hj.2; omega)⟩) HS.size (by first | omega | (simp only [List.flatten_cons, List.flatten_nil, List.length_append, List.length_cons, List.length_nil]; omega))
              refine Rep.wp_append _ _ _ rfl (by rfl) (by rfl) hr ?_
              obtain ⟨a_8, n_8, c_8, hv_, HN_8⟩ := HV2.parts
              obtain rfl := hv_
              replace HS := HS.trans hbN
              clear hr hbN hfr OT RL
              have HV := HV2
              clear HV2
              refine hK _ _ HS ?_
              clear hK K bn
              try simp only [Act.put, List.setIfInBounds_toArray, List.set_cons_zero, List.set_cons_succ]
              refine tree_read (k := 17) (v := ?_) rfl (by kernel_rfl) (fun c a d v w h => by cases d <;> exact h) rfl HS (fun W hW => ?_) ?_
              rotate_left
              · go_simp; try with_reducible rfl
              try simp only [Act.put, List.setIfInBounds_toArray, List.set_cons_zero, List.set_cons_succ]
              refine tree_end (by kernel_rfl) ?_
              go_wp2
              go_ret
              exact ⟨_, rfl, (HV.cast (by rw [HD.out]; simp)).wide (fun j hj => ⟨by have := hj.1; omega, hj.2⟩), EB.trans (HS.mono EB.size)⟩
          · have bn := HS.size
            go_simp
            have bN : Below t3.heap.size t3 (World.alloc t3 (.cells #[.int .i64 x.2.2.2.1] 3)) := (Below.refl _ _).alloc (Nat.le_refl _) _
            have zN4 : t3.heap.size + 1 ≤ (World.alloc t3 (.cells #[.int .i64 x.2.2.2.1] 3)).heap.size := (by simp)
            have RL := litq (w := t3) (x := x.2.2.2.1) (e := 3) HF.out
            generalize hwN : World.alloc t3 (.cells #[.int .i64 x.2.2.2.1] 3) = t4 at bN zN4 RL ⊢
            clear hwN
            replace OB := OB.below bN
            replace OE := OE.below bN
            replace OF := OF.below bN
            replace HS := HS.trans (bN.mono HS.size)
            refine hK _ _ HS ?_
            clear hK K bN
            clear bn
            try simp only [Act.put, List.setIfInBounds_toArray, List.set_cons_zero, List.set_cons_succ]
            refine tree_one (k := 10) rfl (by kernel_rfl) rfl (fun K hK => ?_)
            go_simp
            refine (implBytesToInts_c (OF.own (by unfold Big; omega)).rd.1 (by omega)).mono ?_
            rintro e t5 ⟨vOG, rfl, OOG_, hb⟩
            obtain ⟨aOG, nOG, cOG, hvOG, HNOG⟩ := OOG_.parts
            obtain rfl := hvOG
            have zN5 := hb.size
            have OG := OOG_.wide (T := Btw t4.heap.size t5.heap.size) (fun j hj => ⟨by have := hj.1; have := HS.size; omega, hj.2⟩)
            clear OOG_
            clear OF
            replace OB := OB.below hb
            replace OE := OE.below hb
            replace RL := RL.below hb
            replace HS := HS.trans (hb.mono HS.size)
            refine hK _ _ HS ?_
            clear hK K hb
            try simp only [Act.put, List.setIfInBounds_toArray, List.set_cons_zero, List.set_cons_succ]
            refine tree_one (k := 11) rfl (by kernel_rfl) rfl (fun K hK => ?_)
            have bn := HS.size
            go_simp
            have bN : Below t5.heap.size t5 (World.alloc t5 (.cells #[.slice aOB nOB cOB, .slice aOE nOE cOE, .slice aOG nOG cOG] 265)) := (Below.refl _ _).alloc (Nat.le_refl _) _
            have zN6 : t5.heap.size + 1 ≤ (World.alloc t5 (.cells #[.slice aOB nOB cOB, .slice aOE nOE cOE, .slice aOG nOG cOG] 265)).heap.size := (by simp)
            have X0 := (OB.own (by unfold Big; omega)).rd
            have X1 := (OE.own (by unfold Big; omega)).rd
            have X2 := (OG.own (by unfold Big; omega)).rd
            have Y0 := raw_three (e := 265) (r := (Rep.slice 3 Rep.int)) rfl (heap_new_at (w := t5) (o := (.cells #[.slice aOB nOB cOB, .slice aOE nOE cOE, .slice aOG nOG cOG] 265)) rfl) (X0.1.alloc (.cells #[.slice aOB nOB cOB, .slice aOE nOE cOE, .slice aOG nOG cOG] 265)) (X1.1.alloc (.cells #[.slice aOB nOB cOB, .slice aOE nOE cOE, .slice aOG nOG cOG] 265)) (X2.1.alloc (.cells #[.slice aOB nOB cOB, .slice aOE nOE cOE, .slice aOG nOG cOG] 265))
            have RT : (Rep.slice 265 (Rep.slice 3 Rep.int)).rd (World.alloc t5 (.cells #[.slice aOB nOB cOB, .slice aOE nOE cOE, .slice aOG nOG cOG] 265)) [.slice (some ⟨t5.heap.size, 0, none⟩) 3 3] [toInts (encV x.1), toInts x.2.1, toInts (encV x.2.2.1)] := ⟨Y0, by show 3 ≤ _; unfold Big; omega, fun y hy => (by simp only [List.mem_cons, List.not_mem_nil, or_false] at hy; rcases hy with rfl | rfl | rfl; exact X0.2; exact X1.2; exact X2.2)⟩
            clear X0 X1 X2 Y0 OB OE OG
            generalize hwN : World.alloc t5 (.cells #[.slice aOB nOB cOB, .slice aOE nOE cOE, .slice aOG nOG cOG] 265) = t6 at bN zN6 RT ⊢
            clear hwN
            replace RL := RL.below bN
            replace HS := HS.trans (bN.mono HS.size)
            refine hK _ _ HS ?_
            clear hK K bN
            clear bn
            try simp only [Act.put, List.setIfInBounds_toArray, List.set_cons_zero, List.set_cons_succ]
            refine tree_one (k := 12) rfl (by kernel_rfl) rfl (fun K hK => ?_)
            go_simp
            refine (Concat_int_c RT (by simp; omega) (by simp; omega)).mono ?_
            rintro e t7 ⟨vOT, rfl, OOT_, hb⟩
            obtain ⟨aOT, nOT, cOT, hvOT, HNOT⟩ := OOT_.parts
            obtain rfl := hvOT
            have zN7 := hb.size
            have OT := OOT_.wide (T := Btw t6.heap.size t7.heap.size) (fun j hj => ⟨by have := hj.1; have := HS.size; omega, hj.2⟩)
            clear OOT_
            clear RT
            replace RL := RL.below hb
            replace HS := HS.trans (hb.mono HS.size)
            refine hK _ _ HS ?_
            clear hK K hb
            try simp only [Act.put, List.setIfInBounds_toArray, List.set_cons_zero, List.set_cons_succ]
            refine tree_one (k := 16) rfl (by kernel_rfl) rfl (fun K hK => ?_)
            have bn := HS.size
            obtain ⟨v_, t8, hr, HV2, hbN, zN8, hfr⟩ := Rep.run_pushU (P := Tryz.prog) (t := 265) (ty := 265) (r := Rep.int) (e := 3) (w := t7) (B := wB.heap.size) Tryz.underlying265 infInt rfl (by decide) (by decide) Rep.isFlat_int OT (RL.own (by show 1 ≤ _; unfold Big; omega)).rd (fun j hj => ⟨by first | omega | (have := hj.1; omega), by first | omega | (have := hj.2; omega)⟩) HS.size (by first | omega | (simp only [List.flatten_cons, List.flatten_nil, List.length_append, List.length_cons, List.length_nil]; omega))
            refine Rep.wp_append _ _ _ rfl (by rfl) (by rfl) hr ?_
            obtain ⟨a_8, n_8, c_8, hv_, HN_8⟩ := HV2.parts
            obtain rfl := hv_
            replace HS := HS.trans hbN
            clear hr hbN hfr OT RL
            have HV := HV2
            clear HV2
            refine hK _ _ HS ?_
            clear hK K bn
            try simp only [Act.put, List.setIfInBounds_toArray, List.set_cons_zero, List.set_cons_succ]
            refine tree_read (k := 17) (v := ?_) rfl (by kernel_rfl) (fun c a d v w h => by cases d <;> exact h) rfl HS (fun W hW => ?_) ?_
            rotate_left
            · go_simp; try with_reducible rfl
            try simp only [Act.put, List.setIfInBounds_toArray, List.set_cons_zero, List.set_cons_succ]
            refine tree_end (by kernel_rfl) ?_
            go_wp2
            go_ret
            exact ⟨_, rfl, (HV.cast (by rw [HD.out]; simp)).wide (fun j hj => ⟨by have := hj.1; omega, hj.2⟩), EB.trans (HS.mono EB.size)⟩
        · have bn := HS.size
          go_simp
          have bN : Below t2.heap.size t2 (World.alloc t2 (.cells #[.int .i64 x.2.2.2.1] 3)) := (Below.refl _ _).alloc (Nat.le_refl _) _
          have zN3 : t2.heap.size + 1 ≤ (World.alloc t2 (.cells #[.int .i64 x.2.2.2.1] 3)).heap.size := (by simp)
          have RL := litq (w := t2) (x := x.2.2.2.1) (e := 3) HF.out
          generalize hwN : World.alloc t2 (.cells #[.int .i64 x.2.2.2.1] 3) = t3 at bN zN3 RL ⊢
          clear hwN
          replace OB := OB.below bN
          replace OE := OE.below bN
          replace HS := HS.trans (bN.mono HS.size)
          refine hK _ _ HS ?_
          clear hK K bN
          clear bn
          try simp only [Act.put, List.setIfInBounds_toArray, List.set_cons_zero, List.set_cons_succ]
          refine tree_one (k := 9) rfl (by kernel_rfl) rfl (fun K hK => ?_)
          go_simp
          refine (implAppendName_v ((Rep.own0.void (e := 5) (r := Rep.byte) (a := none) (S := fun _ => False)).own (Nat.zero_le _)).rd (HK.out.below (EB.trans (HS.mono EB.size)))).mono ?_
          rintro e t4 ⟨vOF, rfl, OOF_, hb⟩
          obtain ⟨aOF, nOF, cOF, hvOF, HNOF⟩ := OOF_.parts
          obtain rfl := hvOF
          have zN4 := hb.size
          have OF := OOF_.wide (T := Btw t3.heap.size t4.heap.size) (fun j hj => ⟨by have := hj.1; have := HS.size; omega, hj.2⟩)
          clear OOF_
          replace OB := OB.below hb
          replace OE := OE.below hb
          replace RL := RL.below hb
          replace HS := HS.trans (hb.mono HS.size)
          refine hK _ _ HS ?_
          clear hK K hb
          try simp only [Act.put, List.setIfInBounds_toArray, List.set_cons_zero, List.set_cons_succ]
          refine tree_one (k := 10) rfl (by kernel_rfl) rfl (fun K hK => ?_)
          go_simp
          refine (implBytesToInts_c (OF.own (by unfold Big; omega)).rd.1 (by omega)).mono ?_
          rintro e t5 ⟨vOG, rfl, OOG_, hb⟩
          obtain ⟨aOG, nOG, cOG, hvOG, HNOG⟩ := OOG_.parts
          obtain rfl := hvOG
          have zN5 := hb.size
          have OG := OOG_.wide (T := Btw t4.heap.size t5.heap.size) (fun j hj => ⟨by have := hj.1; have := HS.size; omega, hj.2⟩)
          clear OOG_
          clear OF
          replace OB := OB.below hb
          replace OE := OE.below hb
          replace RL := RL.below hb
          replace HS := HS.trans (hb.mono HS.size)
          refine hK _ _ HS ?_
          clear hK K hb
          try simp only [Act.put, List.setIfInBounds_toArray, List.set_cons_zero, List.set_cons_succ]
          refine tree_one (k := 11) rfl (by kernel_rfl) rfl (fun K hK => ?_)
          have bn := HS.size
          go_simp
          have bN : Below t5.heap.size t5 (World.alloc t5 (.cells #[.slice aOB nOB cOB, .slice aOE nOE cOE, .slice aOG nOG cOG] 265)) := (Below.refl _ _).alloc (Nat.le_refl _) _
          have zN6 : t5.heap.size + 1 ≤ (World.alloc t5 (.cells #[.slice aOB nOB cOB, .slice aOE nOE cOE, .slice aOG nOG cOG] 265)).heap.size := (by simp)
          have X0 := (OB.own (by unfold Big; omega)).rd
          have X1 := (OE.own (by unfold Big; omega)).rd
          have X2 := (OG.own (by unfold Big; omega)).rd
          have Y0 := raw_three (e := 265) (r := (Rep.slice 3 Rep.int)) rfl (heap_new_at (w := t5) (o := (.cells #[.slice aOB nOB cOB, .slice aOE nOE cOE, .slice aOG nOG cOG] 265)) rfl) (X0.1.alloc (.cells #[.slice aOB nOB cOB, .slice aOE nOE cOE, .slice aOG nOG cOG] 265)) (X1.1.alloc (.cells #[.slice aOB nOB cOB, .slice aOE nOE cOE, .slice aOG nOG cOG] 265)) (X2.1.alloc (.cells #[.slice aOB nOB cOB, .slice aOE nOE cOE, .slice aOG nOG cOG] 265))
          have RT : (Rep.slice 265 (Rep.slice 3 Rep.int)).rd (World.alloc t5 (.cells #[.slice aOB nOB cOB, .slice aOE nOE cOE, .slice aOG nOG cOG] 265)) [.slice (some ⟨t5.heap.size, 0, none⟩) 3 3] [toInts (encV x.1), toInts x.2.1, toInts (encV x.2.2.1)] := ⟨Y0, by show 3 ≤ _; unfold Big; omega, fun y hy => (by simp only [List.mem_cons, List.not_mem_nil, or_false] at hy; rcases hy with rfl | rfl | rfl; exact X0.2; exact X1.2; exact X2.2)⟩
          clear X0 X1 X2 Y0 OB OE OG
          generalize hwN : World.alloc t5 (.cells #[.slice aOB nOB cOB, .slice aOE nOE cOE, .slice aOG nOG cOG] 265) = t6 at bN zN6 RT ⊢
          clear hwN
          replace RL := RL.below bN
          replace HS := HS.trans (bN.mono HS.size)
          refine hK _ _ HS ?_
          clear hK K bN
          clear bn
          try simp only [Act.put, List.setIfInBounds_toArray, List.set_cons_zero, List.set_cons_succ]
          refine tree_one (k := 12) rfl (by kernel_rfl) rfl (fun K hK => ?_)
          go_simp
          refine (Concat_int_c RT (by simp; omega) (by simp; omega)).mono ?_
          rintro e t7 ⟨vOT, rfl, OOT_, hb⟩
          obtain ⟨aOT, nOT, cOT, hvOT, HNOT⟩ := OOT_.parts
          obtain rfl := hvOT
          have zN7 := hb.size
          have OT := OOT_.wide (T := Btw t6.heap.size t7.heap.size) (fun j hj => ⟨by have := hj.1; have := HS.size; omega, hj.2⟩)
          clear OOT_
          clear RT
          replace RL := RL.below hb
          replace HS := HS.trans (hb.mono HS.size)
          refine hK _ _ HS ?_
          clear hK K hb
          try simp only [Act.put, List.setIfInBounds_toArray, List.set_cons_zero, List.set_cons_succ]
          refine tree_one (k := 16) rfl (by kernel_rfl) rfl (fun K hK => ?_)
          have bn := HS.size
          obtain ⟨v_, t8, hr, HV2, hbN, zN8, hfr⟩ := Rep.run_pushU (P := Tryz.prog) (t := 265) (ty := 265) (r := Rep.int) (e := 3) (w := t7) (B := wB.heap.size) Tryz.underlying265 infInt rfl (by decide) (by decide) Rep.isFlat_int OT (RL.own (by show 1 ≤ _; unfold Big; omega)).rd (fun j hj => ⟨by first | omega | (have := hj.1; omega), by first | omega | (have := hj.2; omega)⟩) HS.size (by first | omega | (simp only [List.flatten_cons, List.flatten_nil, List.length_append, List.length_cons, List.length_nil]; omega))
          refine Rep.wp_append _ _ _ rfl (by rfl) (by rfl) hr ?_
          obtain ⟨a_8, n_8, c_8, hv_, HN_8⟩ := HV2.parts
          obtain rfl := hv_
          replace HS := HS.trans hbN
          clear hr hbN hfr OT RL
          have HV := HV2
          clear HV2
          refine hK _ _ HS ?_
          clear hK K bn
          try simp only [Act.put, List.setIfInBounds_toArray, List.set_cons_zero, List.set_cons_succ]
          refine tree_read (k := 17) (v := ?_) rfl (by kernel_rfl) (fun c a d v w h => by cases d <;> exact h) rfl HS (fun W hW => ?_) ?_
          rotate_left
          · go_simp; try with_reducible rfl
          try simp only [Act.put, List.setIfInBounds_toArray, List.set_cons_zero, List.set_cons_succ]
          refine tree_end (by kernel_rfl) ?_
          go_wp2
          go_ret
          exact ⟨_, rfl, (HV.cast (by rw [HD.out]; simp)).wide (fun j hj => ⟨by have := hj.1; omega, hj.2⟩), EB.trans (HS.mono EB.size)⟩
      · have bn := HS.size
        go_simp
        have bN : Below t1.heap.size t1 (World.alloc t1 (.cells #[.int .i64 x.2.2.2.1] 3)) := (Below.refl _ _).alloc (Nat.le_refl _) _
        have zN2 : t1.heap.size + 1 ≤ (World.alloc t1 (.cells #[.int .i64 x.2.2.2.1] 3)).heap.size := (by simp)
        have RL := litq (w := t1) (x := x.2.2.2.1) (e := 3) HF.out
        generalize hwN : World.alloc t1 (.cells #[.int .i64 x.2.2.2.1] 3) = t2 at bN zN2 RL ⊢
        clear hwN
        replace OB := OB.below bN
        replace HS := HS.trans (bN.mono HS.size)
        refine hK _ _ HS ?_
        clear hK K bN
        clear bn
        try simp only [Act.put, List.setIfInBounds_toArray, List.set_cons_zero, List.set_cons_succ]
        refine tree_one (k := 6) rfl (by kernel_rfl) rfl (fun K hK => ?_)
        go_simp
        refine (implBytesToInts_c (HC.out.below (EB.trans (HS.mono EB.size))) hc).mono ?_
        rintro e t3 ⟨vOE, rfl, OOE_, hb⟩
        obtain ⟨aOE, nOE, cOE, hvOE, HNOE⟩ := OOE_.parts
        obtain rfl := hvOE
        have zN3 := hb.size
        have OE := OOE_.wide (T := Btw t2.heap.size t3.heap.size) (fun j hj => ⟨by have := hj.1; have := HS.size; omega, hj.2⟩)
        clear OOE_
        replace OB := OB.below hb
        replace RL := RL.below hb
        replace HS := HS.trans (hb.mono HS.size)
        refine hK _ _ HS ?_
        clear hK K hb
        try simp only [Act.put, List.setIfInBounds_toArray, List.set_cons_zero, List.set_cons_succ]
        refine tree_one (k := 9) rfl (by kernel_rfl) rfl (fun K hK => ?_)
        go_simp
        refine (implAppendName_v ((Rep.own0.void (e := 5) (r := Rep.byte) (a := none) (S := fun _ => False)).own (Nat.zero_le _)).rd (HK.out.below (EB.trans (HS.mono EB.size)))).mono ?_
        rintro e t4 ⟨vOF, rfl, OOF_, hb⟩
        obtain ⟨aOF, nOF, cOF, hvOF, HNOF⟩ := OOF_.parts
        obtain rfl := hvOF
        have zN4 := hb.size
        have OF := OOF_.wide (T := Btw t3.heap.size t4.heap.size) (fun j hj => ⟨by have := hj.1; have := HS.size; omega, hj.2⟩)
        clear OOF_
        replace OB := OB.below hb
        replace RL := RL.below hb
        replace OE := OE.below hb
        replace HS := HS.trans (hb.mono HS.size)
        refine hK _ _ HS ?_
        clear hK K hb
        try simp only [Act.put, List.setIfInBounds_toArray, List.set_cons_zero, List.set_cons_succ]
        refine tree_one (k := 10) rfl (by kernel_rfl) rfl (fun K hK => ?_)
        go_simp
        refine (implBytesToInts_c (OF.own (by unfold Big; omega)).rd.1 (by omega)).mono ?_
        rintro e t5 ⟨vOG, rfl, OOG_, hb⟩
        obtain ⟨aOG, nOG, cOG, hvOG, HNOG⟩ := OOG_.parts
        obtain rfl := hvOG
        have zN5 := hb.size
        have OG := OOG_.wide (T := Btw t4.heap.size t5.heap.size) (fun j hj => ⟨by have := hj.1; have := HS.size; omega, hj.2⟩)
        clear OOG_
        clear OF
        replace OB := OB.below hb
        replace RL := RL.below hb
        replace OE := OE.below hb
        replace HS := HS.trans (hb.mono HS.size)
        refine hK _ _ HS ?_
        clear hK K hb
        try simp only [Act.put, List.setIfInBounds_toArray, List.set_cons_zero, List.set_cons_succ]
        refine tree_one (k := 11) rfl (by kernel_rfl) rfl (fun K hK => ?_)
        have bn := HS.size
        go_simp
        have bN : Below t5.heap.size t5 (World.alloc t5 (.cells #[.slice aOB nOB cOB, .slice aOE nOE cOE, .slice aOG nOG cOG] 265)) := (Below.refl _ _).alloc (Nat.le_refl _) _
        have zN6 : t5.heap.size + 1 ≤ (World.alloc t5 (.cells #[.slice aOB nOB cOB, .slice aOE nOE cOE, .slice aOG nOG cOG] 265)).heap.size := (by simp)
        have X0 := (OB.own (by unfold Big; omega)).rd
        have X1 := (OE.own (by unfold Big; omega)).rd
        have X2 := (OG.own (by unfold Big; omega)).rd
        have Y0 := raw_three (e := 265) (r := (Rep.slice 3 Rep.int)) rfl (heap_new_at (w := t5) (o := (.cells #[.slice aOB nOB cOB, .slice aOE nOE cOE, .slice aOG nOG cOG] 265)) rfl) (X0.1.alloc (.cells #[.slice aOB nOB cOB, .slice aOE nOE cOE, .slice aOG nOG cOG] 265)) (X1.1.alloc (.cells #[.slice aOB nOB cOB, .slice aOE nOE cOE, .slice aOG nOG cOG] 265)) (X2.1.alloc (.cells #[.slice aOB nOB cOB, .slice aOE nOE cOE, .slice aOG nOG cOG] 265))
        have RT : (Rep.slice 265 (Rep.slice 3 Rep.int)).rd (World.alloc t5 (.cells #[.slice aOB nOB cOB, .slice aOE nOE cOE, .slice aOG nOG cOG] 265)) [.slice (some ⟨t5.heap.size, 0, none⟩) 3 3] [toInts (encV x.1), toInts x.2.1, toInts (encV x.2.2.1)] := ⟨Y0, by show 3 ≤ _; unfold Big; omega, fun y hy => (by simp only [List.mem_cons, List.not_mem_nil, or_false] at hy; rcases hy with rfl | rfl | rfl; exact X0.2; exact X1.2; exact X2.2)⟩
        clear X0 X1 X2 Y0 OB OE OG
        generalize hwN : World.alloc t5 (.cells #[.slice aOB nOB cOB, .slice aOE nOE cOE, .slice aOG nOG cOG] 265) = t6 at bN zN6 RT ⊢
        clear hwN
        replace RL := RL.below bN
        replace HS := HS.trans (bN.mono HS.size)
        refine hK _ _ HS ?_
        clear hK K bN
        clear bn
        try simp only [Act.put, List.setIfInBounds_toArray, List.set_cons_zero, List.set_cons_succ]
        refine tree_one (k := 12) rfl (by kernel_rfl) rfl (fun K hK => ?_)
        go_simp
        refine (Concat_int_c RT (by simp; omega) (by simp; omega)).mono ?_
        rintro e t7 ⟨vOT, rfl, OOT_, hb⟩
        obtain ⟨aOT, nOT, cOT, hvOT, HNOT⟩ := OOT_.parts
        obtain rfl := hvOT
        have zN7 := hb.size
        have OT := OOT_.wide (T := Btw t6.heap.size t7.heap.size) (fun j hj => ⟨by have := hj.1; have := HS.size; omega, hj.2⟩)
        clear OOT_
        clear RT
        replace RL := RL.below hb
        replace HS := HS.trans (hb.mono HS.size)
        refine hK _ _ HS ?_
        clear hK K hb
        try simp only [Act.put, List.setIfInBounds_toArray, List.set_cons_zero, List.set_cons_succ]
        refine tree_one (k := 16) rfl (by kernel_rfl) rfl (fun K hK => ?_)
        have bn := HS.size
        obtain ⟨v_, t8, hr, HV2, hbN, zN8, hfr⟩ := Rep.run_pushU (P := Tryz.prog) (t := 265) (ty := 265) (r := Rep.int) (e := 3) (w := t7) (B := wB.heap.size) Tryz.underlying265 infInt rfl (by decide) (by decide) Rep.isFlat_int OT (RL.own (by show 1 ≤ _; unfold Big; omega)).rd (fun j hj => ⟨by first | omega | (have := hj.1; omega), by first | omega | (have := hj.2; omega)⟩) HS.size (by first | omega | (simp only [List.flatten_cons, List.flatten_nil, List.length_append, List.length_cons, List.length_nil]; omega))
        refine Rep.wp_append _ _ _ rfl (by rfl) (by rfl) hr ?_
        obtain ⟨a_8, n_8, c_8, hv_, HN_8⟩ := HV2.parts
        obtain rfl := hv_
        replace HS := HS.trans hbN
        clear hr hbN hfr OT RL
        have HV := HV2
        clear HV2
        refine hK _ _ HS ?_
        clear hK K bn
        try simp only [Act.put, List.setIfInBounds_toArray, List.set_cons_zero, List.set_cons_succ]
        refine tree_read (k := 17) (v := ?_) rfl (by kernel_rfl) (fun c a d v w h => by cases d <;> exact h) rfl HS (fun W hW => ?_) ?_
        rotate_left
        · go_simp; try with_reducible rfl
        try simp only [Act.put, List.setIfInBounds_toArray, List.set_cons_zero, List.set_cons_succ]
        refine tree_end (by kernel_rfl) ?_
        go_wp2
        go_ret
        exact ⟨_, rfl, (HV.cast (by rw [HD.out]; simp)).wide (fun j hj => ⟨by have := hj.1; omega, hj.2⟩), EB.trans (HS.mono EB.size)⟩
    · have bn := HS.size
      go_simp
      have bN : Below t0.heap.size t0 (World.alloc t0 (.cells #[.int .i64 x.2.2.2.1] 3)) := (Below.refl _ _).alloc (Nat.le_refl _) _
      have zN1 : t0.heap.size + 1 ≤ (World.alloc t0 (.cells #[.int .i64 x.2.2.2.1] 3)).heap.size := (by simp)
      have RL := litq (w := t0) (x := x.2.2.2.1) (e := 3) HF.out
      generalize hwN : World.alloc t0 (.cells #[.int .i64 x.2.2.2.1] 3) = t1 at bN zN1 RL ⊢
      clear hwN
      replace OA := OA.below bN
      replace HS := HS.trans (bN.mono HS.size)
      refine hK _ _ HS ?_
      clear hK K bN
      clear bn
      try simp only [Act.put, List.setIfInBounds_toArray, List.set_cons_zero, List.set_cons_succ]
      refine tree_one (k := 3) rfl (by kernel_rfl) rfl (fun K hK => ?_)
      go_simp
      refine (implBytesToInts_c (OA.own (by unfold Big; omega)).rd.1 (by omega)).mono ?_
      rintro e t2 ⟨vOB, rfl, OOB_, hb⟩
      obtain ⟨aOB, nOB, cOB, hvOB, HNOB⟩ := OOB_.parts
      obtain rfl := hvOB
      have zN2 := hb.size
      have OB := OOB_.wide (T := Btw t1.heap.size t2.heap.size) (fun j hj => ⟨by have := hj.1; have := HS.size; omega, hj.2⟩)
      clear OOB_
      clear OA
      replace RL := RL.below hb
      replace HS := HS.trans (hb.mono HS.size)
      refine hK _ _ HS ?_
      clear hK K hb
      try simp only [Act.put, List.setIfInBounds_toArray, List.set_cons_zero, List.set_cons_succ]
      refine tree_one (k := 6) rfl (by kernel_rfl) rfl (fun K hK => ?_)
      go_simp
      refine (implBytesToInts_c (HC.out.below (EB.trans (HS.mono EB.size))) hc).mono ?_
      rintro e t3 ⟨vOE, rfl, OOE_, hb⟩
      obtain ⟨aOE, nOE, cOE, hvOE, HNOE⟩ := OOE_.parts
      obtain rfl := hvOE
      have zN3 := hb.size
      have OE := OOE_.wide (T := Btw t2.heap.size t3.heap.size) (fun j hj => ⟨by have := hj.1; have := HS.size; omega, hj.2⟩)
      clear OOE_
      replace RL := RL.below hb
      replace OB := OB.below hb
      replace HS := HS.trans (hb.mono HS.size)
      refine hK _ _ HS ?_
      clear hK K hb
      try simp only [Act.put, List.setIfInBounds_toArray, List.set_cons_zero, List.set_cons_succ]
      refine tree_one (k := 9) rfl (by kernel_rfl) rfl (fun K hK => ?_)
      go_simp
      refine (implAppendName_v ((Rep.own0.void (e := 5) (r := Rep.byte) (a := none) (S := fun _ => False)).own (Nat.zero_le _)).rd (HK.out.below (EB.trans (HS.mono EB.size)))).mono ?_
      rintro e t4 ⟨vOF, rfl, OOF_, hb⟩
      obtain ⟨aOF, nOF, cOF, hvOF, HNOF⟩ := OOF_.parts
      obtain rfl := hvOF
      have zN4 := hb.size
      have OF := OOF_.wide (T := Btw t3.heap.size t4.heap.size) (fun j hj => ⟨by have := hj.1; have := HS.size; omega, hj.2⟩)
      clear OOF_
      replace RL := RL.below hb
      replace OB := OB.below hb
      replace OE := OE.below hb
      replace HS := HS.trans (hb.mono HS.size)
      refine hK _ _ HS ?_
      clear hK K hb
      try simp only [Act.put, List.setIfInBounds_toArray, List.set_cons_zero, List.set_cons_succ]
      refine tree_one (k := 10) rfl (by kernel_rfl) rfl (fun K hK => ?_)
      go_simp
      refine (implBytesToInts_c (OF.own (by unfold Big; omega)).rd.1 (by omega)).mono ?_
      rintro e t5 ⟨vOG, rfl, OOG_, hb⟩
      obtain ⟨aOG, nOG, cOG, hvOG, HNOG⟩ := OOG_.parts
      obtain rfl := hvOG
      have zN5 := hb.size
      have OG := OOG_.wide (T := Btw t4.heap.size t5.heap.size) (fun j hj => ⟨by have := hj.1; have := HS.size; omega, hj.2⟩)
      clear OOG_
      clear OF
      replace RL := RL.below hb
      replace OB := OB.below hb
      replace OE := OE.below hb
      replace HS := HS.trans (hb.mono HS.size)
      refine hK _ _ HS ?_
      clear hK K hb
      try simp only [Act.put, List.setIfInBounds_toArray, List.set_cons_zero, List.set_cons_succ]
      refine tree_one (k := 11) rfl (by kernel_rfl) rfl (fun K hK => ?_)
      have bn := HS.size
      go_simp
      have bN : Below t5.heap.size t5 (World.alloc t5 (.cells #[.slice aOB nOB cOB, .slice aOE nOE cOE, .slice aOG nOG cOG] 265)) := (Below.refl _ _).alloc (Nat.le_refl _) _
      have zN6 : t5.heap.size + 1 ≤ (World.alloc t5 (.cells #[.slice aOB nOB cOB, .slice aOE nOE cOE, .slice aOG nOG cOG] 265)).heap.size := (by simp)
      have X0 := (OB.own (by unfold Big; omega)).rd
      have X1 := (OE.own (by unfold Big; omega)).rd
      have X2 := (OG.own (by unfold Big; omega)).rd
      have Y0 := raw_three (e := 265) (r := (Rep.slice 3 Rep.int)) rfl (heap_new_at (w := t5) (o := (.cells #[.slice aOB nOB cOB, .slice aOE nOE cOE, .slice aOG nOG cOG] 265)) rfl) (X0.1.alloc (.cells #[.slice aOB nOB cOB, .slice aOE nOE cOE, .slice aOG nOG cOG] 265)) (X1.1.alloc (.cells #[.slice aOB nOB cOB, .slice aOE nOE cOE, .slice aOG nOG cOG] 265)) (X2.1.alloc (.cells #[.slice aOB nOB cOB, .slice aOE nOE cOE, .slice aOG nOG cOG] 265))
      have RT : (Rep.slice 265 (Rep.slice 3 Rep.int)).rd (World.alloc t5 (.cells #[.slice aOB nOB cOB, .slice aOE nOE cOE, .slice aOG nOG cOG] 265)) [.slice (some ⟨t5.heap.size, 0, none⟩) 3 3] [toInts (encV x.1), toInts x.2.1, toInts (encV x.2.2.1)] := ⟨Y0, by show 3 ≤ _; unfold Big; omega, fun y hy => (by simp only [List.mem_cons, List.not_mem_nil, or_false] at hy; rcases hy with rfl | rfl | rfl; exact X0.2; exact X1.2; exact X2.2)⟩
      clear X0 X1 X2 Y0 OB OE OG
      generalize hwN : World.alloc t5 (.cells #[.slice aOB nOB cOB, .slice aOE nOE cOE, .slice aOG nOG cOG] 265) = t6 at bN zN6 RT ⊢
      clear hwN
      replace RL := RL.below bN
      replace HS := HS.trans (bN.mono HS.size)
      refine hK _ _ HS ?_
      clear hK K bN
      clear bn
      try simp only [Act.put, List.setIfInBounds_toArray, List.set_cons_zero, List.set_cons_succ]
      refine tree_one (k := 12) rfl (by kernel_rfl) rfl (fun K hK => ?_)
      go_simp
      refine (Concat_int_c RT (by simp; omega) (by simp; omega)).mono ?_
      rintro e t7 ⟨vOT, rfl, OOT_, hb⟩
      obtain ⟨aOT, nOT, cOT, hvOT, HNOT⟩ := OOT_.parts
      obtain rfl := hvOT
      have zN7 := hb.size
      have OT := OOT_.wide (T := Btw t6.heap.size t7.heap.size) (fun j hj => ⟨by have := hj.1; have := HS.size; omega, hj.2⟩)
      clear OOT_
      clear RT
      replace RL := RL.below hb
      replace HS := HS.trans (hb.mono HS.size)
      refine hK _ _ HS ?_
      clear hK K hb
      try simp only [Act.put, List.setIfInBounds_toArray, List.set_cons_zero, List.set_cons_succ]
      refine tree_one (k := 16) rfl (by kernel_rfl) rfl (fun K hK => ?_)
      have bn := HS.size
      obtain ⟨v_, t8, hr, HV2, hbN, zN8, hfr⟩ := Rep.run_pushU (P := Tryz.prog) (t := 265) (ty := 265) (r := Rep.int) (e := 3) (w := t7) (B := wB.heap.size) Tryz.underlying265 infInt rfl (by decide) (by decide) Rep.isFlat_int OT (RL.own (by show 1 ≤ _; unfold Big; omega)).rd (fun j hj => ⟨by first | omega | (have := hj.1; omega), by first | omega | (have := hj.2; omega)⟩) HS.size (by first | omega | (simp only [List.flatten_cons, List.flatten_nil, List.length_append, List.length_cons, List.length_nil]; omega))
      refine Rep.wp_append _ _ _ rfl (by rfl) (by rfl) hr ?_
      obtain ⟨a_8, n_8, c_8, hv_, HN_8⟩ := HV2.parts
      obtain rfl := hv_
      replace HS := HS.trans hbN
      clear hr hbN hfr OT RL
      have HV := HV2
      clear HV2
      refine hK _ _ HS ?_
      clear hK K bn
      try simp only [Act.put, List.setIfInBounds_toArray, List.set_cons_zero, List.set_cons_succ]
      refine tree_read (k := 17) (v := ?_) rfl (by kernel_rfl) (fun c a d v w h => by cases d <;> exact h) rfl HS (fun W hW => ?_) ?_
      rotate_left
      · go_simp; try with_reducible rfl
      try simp only [Act.put, List.setIfInBounds_toArray, List.set_cons_zero, List.set_cons_succ]
      refine tree_end (by kernel_rfl) ?_
      go_wp2
      go_ret
      exact ⟨_, rfl, (HV.cast (by rw [HD.out]; simp)).wide (fun j hj => ⟨by have := hj.1; omega, hj.2⟩), EB.trans (HS.mono EB.size)⟩
  · have bn := HS.size
    go_simp
    have bN : Below wS.heap.size wS (World.alloc wS (.cells #[.int .i64 x.2.2.2.1] 3)) := (Below.refl _ _).alloc (Nat.le_refl _) _
    have zN0 : wS.heap.size + 1 ≤ (World.alloc wS (.cells #[.int .i64 x.2.2.2.1] 3)).heap.size := (by simp)
    have RL := litq (w := wS) (x := x.2.2.2.1) (e := 3) HF.out
    generalize hwN : World.alloc wS (.cells #[.int .i64 x.2.2.2.1] 3) = t0 at bN zN0 RL ⊢
    clear hwN
    replace HS := HS.trans (bN.mono HS.size)
    refine hK _ _ HS ?_
    clear hK K bN
    clear bn
    try simp only [Act.put, List.setIfInBounds_toArray, List.set_cons_zero, List.set_cons_succ]
    refine tree_one (k := 2) rfl (by kernel_rfl) rfl (fun K hK => ?_)
    go_simp
    refine (implAppendName_v ((Rep.own0.void (e := 5) (r := Rep.byte) (a := none) (S := fun _ => False)).own (Nat.zero_le _)).rd (HN.out.below (EB.trans (HS.mono EB.size)))).mono ?_
    rintro e t1 ⟨vOA, rfl, OOA_, hb⟩
    obtain ⟨aOA, nOA, cOA, hvOA, HNOA⟩ := OOA_.parts
    obtain rfl := hvOA
    have zN1 := hb.size
    have OA := OOA_.wide (T := Btw t0.heap.size t1.heap.size) (fun j hj => ⟨by have := hj.1; have := HS.size; omega, hj.2⟩)
    clear OOA_
    replace RL := RL.below hb
    replace HS := HS.trans (hb.mono HS.size)
    refine hK _ _ HS ?_
    clear hK K hb
    try simp only [Act.put, List.setIfInBounds_toArray, List.set_cons_zero, List.set_cons_succ]
    refine tree_one (k := 3) rfl (by kernel_rfl) rfl (fun K hK => ?_)
    go_simp
    refine (implBytesToInts_c (OA.own (by unfold Big; omega)).rd.1 (by omega)).mono ?_
    rintro e t2 ⟨vOB, rfl, OOB_, hb⟩
    obtain ⟨aOB, nOB, cOB, hvOB, HNOB⟩ := OOB_.parts
    obtain rfl := hvOB
    have zN2 := hb.size
    have OB := OOB_.wide (T := Btw t1.heap.size t2.heap.size) (fun j hj => ⟨by have := hj.1; have := HS.size; omega, hj.2⟩)
    clear OOB_
    clear OA
    replace RL := RL.below hb
    replace HS := HS.trans (hb.mono HS.size)
    refine hK _ _ HS ?_
    clear hK K hb
    try simp only [Act.put, List.setIfInBounds_toArray, List.set_cons_zero, List.set_cons_succ]
    refine tree_one (k := 6) rfl (by kernel_rfl) rfl (fun K hK => ?_)
    go_simp
    refine (implBytesToInts_c (HC.out.below (EB.trans (HS.mono EB.size))) hc).mono ?_
    rintro e t3 ⟨vOE, rfl, OOE_, hb⟩
    obtain ⟨aOE, nOE, cOE, hvOE, HNOE⟩ := OOE_.parts
    obtain rfl := hvOE
    have zN3 := hb.size
    have OE := OOE_.wide (T := Btw t2.heap.size t3.heap.size) (fun j hj => ⟨by have := hj.1; have := HS.size; omega, hj.2⟩)
    clear OOE_
    replace RL := RL.below hb
    replace OB := OB.below hb
    replace HS := HS.trans (hb.mono HS.size)
    refine hK _ _ HS ?_
    clear hK K hb
    try simp only [Act.put, List.setIfInBounds_toArray, List.set_cons_zero, List.set_cons_succ]
    refine tree_one (k := 9) rfl (by kernel_rfl) rfl (fun K hK => ?_)
    go_simp
    refine (implAppendName_v ((Rep.own0.void (e := 5) (r := Rep.byte) (a := none) (S := fun _ => False)).own (Nat.zero_le _)).rd (HK.out.below (EB.trans (HS.mono EB.size)))).mono ?_
    rintro e t4 ⟨vOF, rfl, OOF_, hb⟩
    obtain ⟨aOF, nOF, cOF, hvOF, HNOF⟩ := OOF_.parts
    obtain rfl := hvOF
    have zN4 := hb.size
    have OF := OOF_.wide (T := Btw t3.heap.size t4.heap.size) (fun j hj => ⟨by have := hj.1; have := HS.size; omega, hj.2⟩)
    clear OOF_
    replace RL := RL.below hb
    replace OB := OB.below hb
    replace OE := OE.below hb
    replace HS := HS.trans (hb.mono HS.size)
    refine hK _ _ HS ?_
    clear hK K hb
    try simp only [Act.put, List.setIfInBounds_toArray, List.set_cons_zero, List.set_cons_succ]
    refine tree_one (k := 10) rfl (by kernel_rfl) rfl (fun K hK => ?_)
    go_simp
    refine (implBytesToInts_c (OF.own (by unfold Big; omega)).rd.1 (by omega)).mono ?_
    rintro e t5 ⟨vOG, rfl, OOG_, hb⟩
    obtain ⟨aOG, nOG, cOG, hvOG, HNOG⟩ := OOG_.parts
    obtain rfl := hvOG
    have zN5 := hb.size
    have OG := OOG_.wide (T := Btw t4.heap.size t5.heap.size) (fun j hj => ⟨by have := hj.1; have := HS.size; omega, hj.2⟩)
    clear OOG_
    clear OF
    replace RL := RL.below hb
    replace OB := OB.below hb
    replace OE := OE.below hb
    replace HS := HS.trans (hb.mono HS.size)
    refine hK _ _ HS ?_
    clear hK K hb
    try simp only [Act.put, List.setIfInBounds_toArray, List.set_cons_zero, List.set_cons_succ]
    refine tree_one (k := 11) rfl (by kernel_rfl) rfl (fun K hK => ?_)
    have bn := HS.size
    go_simp
    have bN : Below t5.heap.size t5 (World.alloc t5 (.cells #[.slice aOB nOB cOB, .slice aOE nOE cOE, .slice aOG nOG cOG] 265)) := (Below.refl _ _).alloc (Nat.le_refl _) _
    have zN6 : t5.heap.size + 1 ≤ (World.alloc t5 (.cells #[.slice aOB nOB cOB, .slice aOE nOE cOE, .slice aOG nOG cOG] 265)).heap.size := (by simp)
    have X0 := (OB.own (by unfold Big; omega)).rd
    have X1 := (OE.own (by unfold Big; omega)).rd
    have X2 := (OG.own (by unfold Big; omega)).rd
    have Y0 := raw_three (e := 265) (r := (Rep.slice 3 Rep.int)) rfl (heap_new_at (w := t5) (o := (.cells #[.slice aOB nOB cOB, .slice aOE nOE cOE, .slice aOG nOG cOG] 265)) rfl) (X0.1.alloc (.cells #[.slice aOB nOB cOB, .slice aOE nOE cOE, .slice aOG nOG cOG] 265)) (X1.1.alloc (.cells #[.slice aOB nOB cOB, .slice aOE nOE cOE, .slice aOG nOG cOG] 265)) (X2.1.alloc (.cells #[.slice aOB nOB cOB, .slice aOE nOE cOE, .slice aOG nOG cOG] 265))
    have RT : (Rep.slice 265 (Rep.slice 3 Rep.int)).rd (World.alloc t5 (.cells #[.slice aOB nOB cOB, .slice aOE nOE cOE, .slice aOG nOG cOG] 265)) [.slice (some ⟨t5.heap.size, 0, none⟩) 3 3] [toInts (encV x.1), toInts x.2.1, toInts (encV x.2.2.1)] := ⟨Y0, by show 3 ≤ _; unfold Big; omega, fun y hy => (by simp only [List.mem_cons, List.not_mem_nil, or_false] at hy; rcases hy with rfl | rfl | rfl; exact X0.2; exact X1.2; exact X2.2)⟩
    clear X0 X1 X2 Y0 OB OE OG
    generalize hwN : World.alloc t5 (.cells #[.slice aOB nOB cOB, .slice aOE nOE cOE, .slice aOG nOG cOG] 265) = t6 at bN zN6 RT ⊢
    clear hwN
    replace RL := RL.below bN
    replace HS := HS.trans (bN.mono HS.size)
    refine hK _ _ HS ?_
    clear hK K bN
    clear bn
    try simp only [Act.put, List.setIfInBounds_toArray, List.set_cons_zero, List.set_cons_succ]
    refine tree_one (k := 12) rfl (by kernel_rfl) rfl (fun K hK => ?_)
    go_simp
    refine (Concat_int_c RT (by simp; omega) (by simp; omega)).mono ?_
    rintro e t7 ⟨vOT, rfl, OOT_, hb⟩
    obtain ⟨aOT, nOT, cOT, hvOT, HNOT⟩ := OOT_.parts
    obtain rfl := hvOT
    have zN7 := hb.size
    have OT := OOT_.wide (T := Btw t6.heap.size t7.heap.size) (fun j hj => ⟨by have := hj.1; have := HS.size; omega, hj.2⟩)
    clear OOT_
    clear RT
    replace RL := RL.below hb
    replace HS := HS.trans (hb.mono HS.size)
    refine hK _ _ HS ?_
    clear hK K hb
    try simp only [Act.put, List.setIfInBounds_toArray, List.set_cons_zero, List.set_cons_succ]
    refine tree_one (k := 16) rfl (by kernel_rfl) rfl (fun K hK => ?_)
    have bn := HS.size
    obtain ⟨v_, t8, hr, HV2, hbN, zN8, hfr⟩ := Rep.run_pushU (P := Tryz.prog) (t := 265) (ty := 265) (r := Rep.int) (e := 3) (w := t7) (B := wB.heap.size) Tryz.underlying265 infInt rfl (by decide) (by decide) Rep.isFlat_int OT (RL.own (by show 1 ≤ _; unfold Big; omega)).rd (fun j hj => ⟨by first | omega | (have := hj.1; omega), by first | omega | (have := hj.2; omega)⟩) HS.size (by first | omega | (simp only [List.flatten_cons, List.flatten_nil, List.length_append, List.length_cons, List.length_nil]; omega))
    refine Rep.wp_append _ _ _ rfl (by rfl) (by rfl) hr ?_
    obtain ⟨a_8, n_8, c_8, hv_, HN_8⟩ := HV2.parts
    obtain rfl := hv_
    replace HS := HS.trans hbN
    clear hr hbN hfr OT RL
    have HV := HV2
    clear HV2
    refine hK _ _ HS ?_
    clear hK K bn
    try simp only [Act.put, List.setIfInBounds_toArray, List.set_cons_zero, List.set_cons_succ]
    refine tree_read (k := 17) (v := ?_) rfl (by kernel_rfl) (fun c a d v w h => by cases d <;> exact h) rfl HS (fun W hW => ?_) ?_
    rotate_left
    · go_simp; try with_reducible rfl
    try simp only [Act.put, List.setIfInBounds_toArray, List.set_cons_zero, List.set_cons_succ]
    refine tree_end (by kernel_rfl) ?_
    go_wp2
    go_ret
    exact ⟨_, rfl, (HV.cast (by rw [HD.out]; simp)).wide (fun j hj => ⟨by have := hj.1; omega, hj.2⟩), EB.trans (HS.mono EB.size)⟩
set_option maxRecDepth 100000 in
set_option maxHeartbeats 2000000 in
theorem specVerifyData_c {w : World} {s : Int} (hs : -9223372036854775808 ≤ s ∧ s ≤ 9223372036854775807) {cx : List Value} {x : LData} (hx : RData.rd w cx x) (hc : x.2.1.length ≤ 2000000) :
    Calls Tryz.prog 200 #[.int .i64 s, .agg cx.toArray] w fun e w' => e = .returned (.bool (verify s x)) ∧ Below w.heap.size w w' := by
  have hy := hx.1
  obtain ⟨av0, av1, av2, rfl, a_0, a_1, a_2, a_3, a_4, a_5, a_6⟩ := RData_raw hy
  obtain ⟨aa0, ap0, ah0, al0⟩ := Rep.len_raw a_1; obtain rfl : av0 = _ := by simpa using ah0
  clear ah0
  obtain ⟨aa1, ap1, ah1, al1⟩ := Rep.len_raw a_2; obtain rfl : av1 = _ := by simpa using ah1
  clear ah1
  obtain ⟨aa2, ap2, ah2, al2⟩ := Rep.len_raw a_4; obtain rfl : av2 = _ := by simpa using ah2
  clear ah2
  have HX := Lib.hid hx
  have hl := signed_len x
  clear hx hy a_0 a_1 a_2 a_3 a_4 a_5 a_6
  go_enter Tryz.func200, Tryz.ntmps200
  go_upto_region 1 with fail
  generalize hwB : World.alloc w _ = wB
  have EB : Below w.heap.size w wB := by rw [← hwB]; exact (by repeat (first | (with_reducible exact Below.refl _ _) | refine Below.alloc ?_ (by simp; try omega) _ | refine Below.drew ?_ | refine Below.setCell ?_ (by simp; try omega) _))
  have K0 : wB.cell? ⟨w.heap.size, 0, none⟩ = some (.slice aa0 x.1.length ap0) := by rw [← hwB]; simp [go_sem]
  have K1 : wB.cell? ⟨w.heap.size, 1, none⟩ = some (.slice aa1 x.2.1.length ap1) := by rw [← hwB]; simp [go_sem]
  have K2 : wB.cell? ⟨w.heap.size, 2, none⟩ = some (.slice aa2 x.2.2.1.length ap2) := by rw [← hwB]; simp [go_sem]
  have K3 : wB.cell? ⟨w.heap.size, 3, none⟩ = some (.int .i64 x.2.2.2.1) := by rw [← hwB]; simp [go_sem]
  have K4 : wB.cell? ⟨w.heap.size, 4, none⟩ = some (.int .i64 x.2.2.2.2) := by rw [← hwB]; simp [go_sem]
  clear hwB
  refine wp_region_soft (fun W => Below wB.heap.size wB W) [true, false, true, true, true, true, true, false, false, true, true, true] (by kernel_rfl) (by kernel_rfl) (fun c a d v w h => by cases d <;> exact h) ((Below.refl _ _).drew) ?_
  intro wS HS
  all_goals first | (refine soft_pass rfl HS ?_) | (refine soft_read (v := ?_) rfl (fun W hW => ?_) ?_; rotate_left; (· go_simp; try with_reducible rfl))
  all_goals try simp only [Act.put, List.setIfInBounds_toArray, List.set_cons_zero, List.set_cons_succ]
  all_goals first | (refine soft_pass rfl HS ?_) | (refine soft_do rfl (fun K hK => ?_); go_simp; refine (specValidSecret_c).mono ?_; rintro e wS1 ⟨rfl, hwS⟩; obtain rfl := hwS.symm; refine hK _ _ HS ?_; clear hK K)
  all_goals try simp only [Act.put, List.setIfInBounds_toArray, List.set_cons_zero, List.set_cons_succ]
  all_goals first | (refine soft_pass rfl HS ?_; have hg2 := True.intro) | (refine soft_part (v := ?_) (b := ?_) rfl (fun W hW => ?_) ?_ (fun b hg2 => ?_); rotate_left; rotate_left; (· go_simp; try with_reducible rfl); (· with_reducible rfl); cases b; all_goals first | (exact Bool.noConfusion hg2) | (simp only [Bool.not_eq_true', Bool.not_eq_false'] at hg2) | skip)
  all_goals try simp only [Act.put, List.setIfInBounds_toArray, List.set_cons_zero, List.set_cons_succ]
  all_goals first | (refine soft_pass rfl HS ?_) | (refine soft_read (v := ?_) rfl (fun W hW => ?_) ?_; rotate_left; (· go_simp; try with_reducible rfl))
  all_goals try simp only [Act.put, List.setIfInBounds_toArray, List.set_cons_zero, List.set_cons_succ]
  all_goals first | (refine soft_pass rfl HS ?_) | (refine soft_read (v := ?_) rfl (fun W hW => ?_) ?_; rotate_left; (· have A_K0 := cell_later hW K0; have A_K1 := cell_later hW K1; have A_K2 := cell_later hW K2; have A_K3 := cell_later hW K3; have A_K4 := cell_later hW K4; clear hW; go_simp; try with_reducible rfl))
  all_goals try simp only [Act.put, List.setIfInBounds_toArray, List.set_cons_zero, List.set_cons_succ]
  all_goals first | (refine soft_pass rfl HS ?_) | (refine soft_read (v := ?_) rfl (fun W hW => ?_) ?_; rotate_left; (· go_simp; try with_reducible rfl))
  all_goals try simp only [Act.put, List.setIfInBounds_toArray, List.set_cons_zero, List.set_cons_succ]
  all_goals first | (refine soft_pass rfl HS ?_) | (refine soft_read (v := ?_) rfl (fun W hW => ?_) ?_; rotate_left; (· have A_K0 := cell_later hW K0; have A_K1 := cell_later hW K1; have A_K2 := cell_later hW K2; have A_K3 := cell_later hW K3; have A_K4 := cell_later hW K4; clear hW; go_simp; try with_reducible rfl))
  all_goals try simp only [Act.put, List.setIfInBounds_toArray, List.set_cons_zero, List.set_cons_succ]
  all_goals first | (refine soft_pass rfl HS ?_) | (refine soft_do rfl (fun K hK => ?_); go_simp; refine (specSignedPortion_c (HX.out.below (EB.trans (HS.mono EB.size))) hc).mono ?_; rintro e wS1 ⟨vg, rfl, OG, hbS⟩; obtain ⟨ag, ng, cg, hvg, HNg⟩ := OG.parts; obtain rfl := hvg; have RG := (OG.own (by unfold Big; omega)).rd; clear OG; replace HS := HS.trans (hbS.mono HS.size); refine hK _ _ HS ?_; clear hK K hbS)
  all_goals try simp only [Act.put, List.setIfInBounds_toArray, List.set_cons_zero, List.set_cons_succ]
  all_goals first | (refine soft_pass rfl HS ?_) | (refine soft_do rfl (fun K hK => ?_); go_simp; refine (specComputeMAC_c hs RG (by omega)).mono ?_; rintro e wS2 ⟨rfl, hbS⟩; replace HS := HS.trans (hbS.mono HS.size); refine hK _ _ HS ?_; clear hK K hbS RG)
  all_goals try simp only [Act.put, List.setIfInBounds_toArray, List.set_cons_zero, List.set_cons_succ]
  all_goals first | (refine soft_pass rfl HS ?_) | (refine soft_read (v := ?_) rfl (fun W hW => ?_) ?_; rotate_left; (· go_simp; try with_reducible rfl))
  all_goals try simp only [Act.put, List.setIfInBounds_toArray, List.set_cons_zero, List.set_cons_succ]
  all_goals first | (refine soft_pass rfl HS ?_) | (refine soft_read (v := ?_) rfl (fun W hW => ?_) ?_; rotate_left; (· go_simp; try with_reducible rfl))
  all_goals try simp only [Act.put, List.setIfInBounds_toArray, List.set_cons_zero, List.set_cons_succ]
  all_goals first | (refine soft_pass rfl HS ?_) | (refine soft_read (v := ?_) rfl (fun W hW => ?_) ?_; rotate_left; (· go_simp; try with_reducible rfl))
  all_goals try simp only [Act.put, List.setIfInBounds_toArray, List.set_cons_zero, List.set_cons_succ]
  all_goals refine soft_nil ?_
  all_goals have EG := EB.trans (HS.mono EB.size)
  all_goals first
    | (have HT := Lib.hid (show verify s x = false by simp only [verify, Bool.not_true, Bool.not_false, Bool.and_true, Bool.true_and, Bool.and_false, Bool.false_and, Bool.or_true, Bool.true_or, Bool.or_false, Bool.false_or, Bool.not_not, hg2]); go_wp2; go_ret; exact ⟨ret_bool HT.out.symm, EG⟩)
    | (have HT := Lib.hid (show verify s x = (x.2.2.2.2 == macOf s (signed x)) by simp only [verify, Bool.not_true, Bool.not_false, Bool.and_true, Bool.true_and, Bool.and_false, Bool.false_and, Bool.or_true, Bool.true_or, Bool.or_false, Bool.false_or, Bool.not_not, hg2]); go_wp2; go_ret; exact ⟨ret_bool HT.out.symm, EG⟩)
set_option maxRecDepth 100000 in
set_option maxHeartbeats 2000000 in
theorem implVerifyData_c {w : World} {s : Int} (hs : -9223372036854775808 ≤ s ∧ s ≤ 9223372036854775807) {cx : List Value} {x : LData} (hx : RData.rd w cx x) (hc : x.2.1.length ≤ 2000000) :
    Calls Tryz.prog 208 #[.int .i64 s, .agg cx.toArray] w fun e w' => e = .returned (.bool (verify s x)) ∧ Below w.heap.size w w' := by
  have hy := hx.1
  obtain ⟨av0, av1, av2, rfl, a_0, a_1, a_2, a_3, a_4, a_5, a_6⟩ := RData_raw hy
  obtain ⟨aa0, ap0, ah0, al0⟩ := Rep.len_raw a_1; obtain rfl : av0 = _ := by simpa using ah0
  clear ah0
  obtain ⟨aa1, ap1, ah1, al1⟩ := Rep.len_raw a_2; obtain rfl : av1 = _ := by simpa using ah1
  clear ah1
  obtain ⟨aa2, ap2, ah2, al2⟩ := Rep.len_raw a_4; obtain rfl : av2 = _ := by simpa using ah2
  clear ah2
  have HX := Lib.hid hx
  have hl := signed_len x
  clear hx hy a_0 a_1 a_2 a_3 a_4 a_5 a_6
  go_enter Tryz.func208, Tryz.ntmps208
  go_upto_region 1 with fail
  generalize hwB : World.alloc w _ = wB
  have EB : Below w.heap.size w wB := by rw [← hwB]; exact (by repeat (first | (with_reducible exact Below.refl _ _) | refine Below.alloc ?_ (by simp; try omega) _ | refine Below.drew ?_ | refine Below.setCell ?_ (by simp; try omega) _))
  have K0 : wB.cell? ⟨w.heap.size, 0, none⟩ = some (.slice aa0 x.1.length ap0) := by rw [← hwB]; simp [go_sem]
  have K1 : wB.cell? ⟨w.heap.size, 1, none⟩ = some (.slice aa1 x.2.1.length ap1) := by rw [← hwB]; simp [go_sem]
  have K2 : wB.cell? ⟨w.heap.size, 2, none⟩ = some (.slice aa2 x.2.2.1.length ap2) := by rw [← hwB]; simp [go_sem]
  have K3 : wB.cell? ⟨w.heap.size, 3, none⟩ = some (.int .i64 x.2.2.2.1) := by rw [← hwB]; simp [go_sem]
  have K4 : wB.cell? ⟨w.heap.size, 4, none⟩ = some (.int .i64 x.2.2.2.2) := by rw [← hwB]; simp [go_sem]
  clear hwB
  refine wp_region_soft (fun W => Below wB.heap.size wB W) [true, false, true, true, true, true, true, false, false, true, true, true] (by kernel_rfl) (by kernel_rfl) (fun c a d v w h => by cases d <;> exact h) ((Below.refl _ _).drew) ?_
  intro wS HS
  all_goals first | (refine soft_pass rfl HS ?_) | (refine soft_read (v := ?_) rfl (fun W hW => ?_) ?_; rotate_left; (· go_simp; try with_reducible rfl))
  all_goals try simp only [Act.put, List.setIfInBounds_toArray, List.set_cons_zero, List.set_cons_succ]
  all_goals first | (refine soft_pass rfl HS ?_) | (refine soft_do rfl (fun K hK => ?_); go_simp; refine (implValidSecret_c).mono ?_; rintro e wS1 ⟨rfl, hwS⟩; obtain rfl := hwS.symm; refine hK _ _ HS ?_; clear hK K)
  all_goals try simp only [Act.put, List.setIfInBounds_toArray, List.set_cons_zero, List.set_cons_succ]
  all_goals first | (refine soft_pass rfl HS ?_; have hg2 := True.intro) | (refine soft_part (v := ?_) (b := ?_) rfl (fun W hW => ?_) ?_ (fun b hg2 => ?_); rotate_left; rotate_left; (· go_simp; try with_reducible rfl); (· with_reducible rfl); cases b; all_goals first | (exact Bool.noConfusion hg2) | (simp only [Bool.not_eq_true', Bool.not_eq_false'] at hg2) | skip)
  all_goals try simp only [Act.put, List.setIfInBounds_toArray, List.set_cons_zero, List.set_cons_succ]
  all_goals first | (refine soft_pass rfl HS ?_) | (refine soft_read (v := ?_) rfl (fun W hW => ?_) ?_; rotate_left; (· go_simp; try with_reducible rfl))
  all_goals try simp only [Act.put, List.setIfInBounds_toArray, List.set_cons_zero, List.set_cons_succ]
  all_goals first | (refine soft_pass rfl HS ?_) | (refine soft_read (v := ?_) rfl (fun W hW => ?_) ?_; rotate_left; (· have A_K0 := cell_later hW K0; have A_K1 := cell_later hW K1; have A_K2 := cell_later hW K2; have A_K3 := cell_later hW K3; have A_K4 := cell_later hW K4; clear hW; go_simp; try with_reducible rfl))
  all_goals try simp only [Act.put, List.setIfInBounds_toArray, List.set_cons_zero, List.set_cons_succ]
  all_goals first | (refine soft_pass rfl HS ?_) | (refine soft_read (v := ?_) rfl (fun W hW => ?_) ?_; rotate_left; (· go_simp; try with_reducible rfl))
  all_goals try simp only [Act.put, List.setIfInBounds_toArray, List.set_cons_zero, List.set_cons_succ]
  all_goals first | (refine soft_pass rfl HS ?_) | (refine soft_read (v := ?_) rfl (fun W hW => ?_) ?_; rotate_left; (· have A_K0 := cell_later hW K0; have A_K1 := cell_later hW K1; have A_K2 := cell_later hW K2; have A_K3 := cell_later hW K3; have A_K4 := cell_later hW K4; clear hW; go_simp; try with_reducible rfl))
  all_goals try simp only [Act.put, List.setIfInBounds_toArray, List.set_cons_zero, List.set_cons_succ]
  all_goals first | (refine soft_pass rfl HS ?_) | (refine soft_do rfl (fun K hK => ?_); go_simp; refine (implSignedPortion_c (HX.out.below (EB.trans (HS.mono EB.size))) hc).mono ?_; rintro e wS1 ⟨vg, rfl, OG, hbS⟩; obtain ⟨ag, ng, cg, hvg, HNg⟩ := OG.parts; obtain rfl := hvg; have RG := (OG.own (by unfold Big; omega)).rd; clear OG; replace HS := HS.trans (hbS.mono HS.size); refine hK _ _ HS ?_; clear hK K hbS)
  all_goals try simp only [Act.put, List.setIfInBounds_toArray, List.set_cons_zero, List.set_cons_succ]
  all_goals first | (refine soft_pass rfl HS ?_) | (refine soft_do rfl (fun K hK => ?_); go_simp; refine (implComputeMAC_c hs RG (by omega)).mono ?_; rintro e wS2 ⟨rfl, hbS⟩; replace HS := HS.trans (hbS.mono HS.size); refine hK _ _ HS ?_; clear hK K hbS RG)
  all_goals try simp only [Act.put, List.setIfInBounds_toArray, List.set_cons_zero, List.set_cons_succ]
  all_goals first | (refine soft_pass rfl HS ?_) | (refine soft_read (v := ?_) rfl (fun W hW => ?_) ?_; rotate_left; (· go_simp; try with_reducible rfl))
  all_goals try simp only [Act.put, List.setIfInBounds_toArray, List.set_cons_zero, List.set_cons_succ]
  all_goals first | (refine soft_pass rfl HS ?_) | (refine soft_read (v := ?_) rfl (fun W hW => ?_) ?_; rotate_left; (· go_simp; try with_reducible rfl))
  all_goals try simp only [Act.put, List.setIfInBounds_toArray, List.set_cons_zero, List.set_cons_succ]
  all_goals first | (refine soft_pass rfl HS ?_) | (refine soft_read (v := ?_) rfl (fun W hW => ?_) ?_; rotate_left; (· go_simp; try with_reducible rfl))
  all_goals try simp only [Act.put, List.setIfInBounds_toArray, List.set_cons_zero, List.set_cons_succ]
  all_goals refine soft_nil ?_
  all_goals have EG := EB.trans (HS.mono EB.size)
  all_goals first
    | (have HT := Lib.hid (show verify s x = false by simp only [verify, Bool.not_true, Bool.not_false, Bool.and_true, Bool.true_and, Bool.and_false, Bool.false_and, Bool.or_true, Bool.true_or, Bool.or_false, Bool.false_or, Bool.not_not, hg2]); go_wp2; go_ret; exact ⟨ret_bool HT.out.symm, EG⟩)
    | (have HT := Lib.hid (show verify s x = (x.2.2.2.2 == macOf s (signed x)) by simp only [verify, Bool.not_true, Bool.not_false, Bool.and_true, Bool.true_and, Bool.and_false, Bool.false_and, Bool.or_true, Bool.true_or, Bool.or_false, Bool.false_or, Bool.not_not, hg2]); go_wp2; go_ret; exact ⟨ret_bool HT.out.symm, EG⟩)
end Go.Proofs.YtlfblpgkegeaeaaGreat

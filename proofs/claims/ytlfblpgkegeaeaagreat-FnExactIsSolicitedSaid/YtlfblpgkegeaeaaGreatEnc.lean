/-
  Numbers and bytes, written behind bytes.
-/
import Derived.Test.YtlfblpgkegeaeaaGreatEncP
import Derived.Test.YtlfblpgkegeaeaaGreatClone
import Derived.Test.YtlfblpgkegeaeaaGreatMade
import Derived.Test.YtlfblpgkegeaeaaGreatValid
import Derived.IntWalk
import Derived.Deep.Cut
import Derived.WalkSpells
import Derived.WalkLawsBesides
import Derived.Laws.BitsLemmas
import Derived.Lib.ConvBytes
namespace Go.Proofs.YtlfblpgkegeaeaaGreat
open Go.RowKit
set_option linter.unusedVariables false
set_option linter.unusedSimpArgs false
set_option linter.unnecessarySimpa false
def vintI (n : Int) : List UInt8 := if inR n 0 1000000000000 = true then vint n.toNat else []
theorem vintI_no {n : Int} (h : inR n 0 1000000000000 = false) : vintI n = [] := by unfold vintI; rw [h]; rfl
theorem vintI_yes {n : Nat} (h : inR (n : Int) 0 1000000000000 = true) : vintI n = vint n := by unfold vintI; rw [if_pos h]; simp
theorem vintI_len (n : Int) : (vintI n).length ≤ 6 := by
  unfold vintI
  split
  · rename_i h
    have h' : 0 ≤ n ∧ n ≤ 1000000000000 := by simpa [inR] using h
    exact vint_six (by omega)
  · simp
theorem or128 : ∀ x : Fin 128, bits BinOp.or IntKind.i64 (x.val : Int) 128 = (x.val : Int) + 128 := by decide +kernel
theorem or128u : ∀ x : Fin 256, bits BinOp.or IntKind.u8 (x.val : Int) 128 = ((x.val % 128 : Nat) : Int) + 128 := by decide +kernel
theorem vlo_int (m : Nat) : ((vlo m).toNat : Int) = ((m % 128 : Nat) : Int) + 128 := by
  unfold vlo
  rw [UInt8.toNat_ofNat']
  omega
theorem lo_spec {m : Nat} (h : m ≤ 1000000000000) : IntKind.u8.wrap (bits BinOp.or IntKind.i64 (bits BinOp.and IntKind.i64 (m : Int) 127) 128) = ((vlo m).toNat : Int) := by
  have e := bits_mask IntKind.i64 63 (by decide) (fun n h0 h1 => by rw [IntKind.wrap_i64]; omega) 7 (by decide) (m : Int) (by omega) (by omega)
  rw [show ((2 : Int) ^ 7 - 1) = 127 by decide, show ((2 : Int) ^ 7) = 128 by decide] at e
  rw [e, vlo_int]
  have e2 := or128 ⟨m % 128, by omega⟩
  simp only at e2
  rw [show (m : Int) % 128 = ((m % 128 : Nat) : Int) by omega, e2, IntKind.wrap_u8']
  omega
theorem lo_impl (m : Nat) : bits BinOp.or IntKind.u8 (IntKind.u8.wrap (m : Int)) 128 = ((vlo m).toNat : Int) := by
  have e2 := or128u ⟨m % 256, by omega⟩
  simp only at e2
  rw [IntKind.wrap_u8', show (m : Int) % 256 = ((m % 256 : Nat) : Int) by omega, e2, vlo_int]
  omega
theorem hi_byte {m : Nat} (h : m < 128) : IntKind.u8.wrap (m : Int) = ((UInt8.ofNat m).toNat : Int) := by
  rw [IntKind.wrap_u8', UInt8.toNat_ofNat']
  omega
theorem hi_byte0 {m : Nat} (h : m < 128) : (m : Int) = ((UInt8.ofNat m).toNat : Int) := by
  rw [UInt8.toNat_ofNat']
  omega
theorem byte_own {w : World} {z : Int} {x : UInt8} (h : z = (x.toNat : Int)) : Rep.byte.own w [.int .u8 z] x (fun _ => False) := ⟨by show [_] = [_]; rw [h], trivial⟩
set_option maxRecDepth 100000 in
set_option maxHeartbeats 1000000 in
theorem Clone_byte_0 {w : World} {va : Value} {x : List UInt8} (ha : (Rep.slice 5 Rep.byte).rd w [va] x) : Calls Tryz.prog 143 #[va] w (Made0 5 Rep.byte x w) := by
  obtain ⟨aa, capa, hva, la⟩ := Rep.len_raw ha.1; obtain rfl : va = _ := by simpa using hva
  clear hva
  have HA := Lib.hid ha
  have hnil := fun (W : World) (a : Option Addr) (n c : Nat) => Lib.run_eql_slice_nil (P := Tryz.prog) W 40 5 a n c 0 0 Tryz.underlying40
  cases aa with
  | none =>
    have hx : x = [] := by
      cases x with
      | nil => rfl
      | cons y ys =>
        obtain ⟨b, off, h, _⟩ := Rep.get_raw ha.1 (i := 0) (by simp)
        cases h
    subst hx
    clear ha
    go_enter Tryz.func143, Tryz.ntmps143
    go_wp2
    go_ret
    exact ⟨_, rfl, Rep.own0.nil, Below.refl _ _⟩
  | some a =>
    have hb : x.length ≤ 16777216 := ha.2.1
    clear ha
    go_enter Tryz.func143, Tryz.ntmps143
    have O0 : Rep.own0 5 Rep.byte (w.alloc (.cells #[] 5)) (.slice (some ⟨w.heap.size, 0, none⟩) 0 0) [] (fun k => k = w.heap.size) := Rep.own0_lit (cs := []) (xs := []) (T := fun _ => False) (by simp) (by simp) rfl (fun _ h => h.elim) rfl
    go_wp2_with (at_builtin; refine Rep.wpList_pushN rfl _ _ 40 rfl (r := Rep.byte) (e := 5) Tryz.underlying40 infByte rfl (by decide) (by decide) Rep.isFlat_byte (B := w.heap.size) O0 (by rfl) (by rfl) (HA.out.alloc _) (fun k hk => ⟨by omega, by simp; omega⟩) (by simp) (by simp; omega) ?_)
    intro v2 w2 hown hbel hz
    have HO := Lib.hid hown
    obtain ⟨a2, c2, hv⟩ := hown.none_iff
    obtain rfl := hv
    have EG : Below w.heap.size w w2 := Below.trans (by repeat (first | (with_reducible exact Below.refl _ _) | refine Below.alloc ?_ (by simp; try omega) _ | refine Below.drew ?_ | refine Below.setCell ?_ (by simp; try omega) _)) hbel
    clear hown O0 hbel
    go_wp2
    go_ret
    exact ⟨_, rfl, by simpa using HO.out, EG⟩
set_option maxRecDepth 100000 in
set_option maxHeartbeats 2000000 in
theorem specAppendVarint_c {w : World} {va : Value} {b : List UInt8} {n : Int} (ha : (Rep.slice 5 Rep.byte).rd w [va] b) :
    Calls Tryz.prog 229 #[va, .int .i64 n] w (Made0 5 Rep.byte (b ++ vintI n) w) := by
  obtain ⟨aa, capa, hva, la⟩ := Rep.len_raw ha.1; obtain rfl : va = _ := by simpa using hva
  clear hva
  have HA := Lib.hid ha
  have hb : b.length ≤ 16777216 := ha.2.1
  clear ha
  go_enter Tryz.func229, Tryz.ntmps229
  have O0 : Rep.own0 5 Rep.byte (w.alloc (.cells #[] 5)) (.slice (some ⟨w.heap.size, 0, none⟩) 0 0) [] (fun k => k = w.heap.size) := Rep.own0_lit (cs := []) (xs := []) (T := fun _ => False) (by simp) (by simp) rfl (fun _ h => h.elim) rfl
  go_wp2_with (at_builtin; refine Rep.wpList_pushN rfl _ _ 40 rfl (r := Rep.byte) (e := 5) Tryz.underlying40 infByte rfl (by decide) (by decide) Rep.isFlat_byte (B := w.heap.size) O0 (by rfl) (by rfl) (HA.out.alloc _) (fun k hk => ⟨by omega, by simp; omega⟩) (by simp) (by simp; omega) ?_)
  intro v2 w2 hown hbel hz
  have HO : Hid (Rep.own0 5 Rep.byte w2 v2 b (Btw w.heap.size w2.heap.size)) := Lib.hid (by simpa using hown)
  have EG : Below w.heap.size w w2 := Below.trans (by repeat (first | (with_reducible exact Below.refl _ _) | refine Below.alloc ?_ (by simp; try omega) _ | refine Below.drew ?_ | refine Below.setCell ?_ (by simp; try omega) _)) hbel
  clear hown O0 hbel
  obtain ⟨a2, n2, c2, hv, HN2⟩ := HO.out.parts
  obtain rfl := hv
  go_wp2_with fail
  refine specl1In_c.mono ?_
  rintro e w1 ⟨rfl, hw⟩
  obtain rfl := hw.symm
  cases hin : inR n 0 1000000000000
  · have HT := Lib.hid (vintI_no hin)
    go_wp2
    go_ret
    exact ⟨_, rfl, HO.out.cast (by rw [HT.out]; simp), EG⟩
  · obtain ⟨hn0, hn1⟩ : 0 ≤ n ∧ n ≤ 1000000000000 := by simpa [inR] using hin
    obtain ⟨N, rfl⟩ : ∃ N : Nat, n = N := ⟨n.toNat, by omega⟩
    have HT := Lib.hid (vintI_yes hin)
    clear hin
    go_wp2
    go_loopw [5, 1] (fun v i wr => ∃ (m : Nat) (pre : List UInt8), m ≤ N ∧ i = .int .i64 m ∧ Hid (pre ++ vint m = vint N) ∧ Hid (Rep.own0 5 Rep.byte wr v (b ++ pre) (Btw w.heap.size wr.heap.size)) ∧ Below w.heap.size w wr) (fun _ i _ => (intOf i).toNat)
    case atStart => exact ⟨N, [], Nat.le_refl _, rfl, Lib.hid rfl, Lib.hid (by simpa using HO.out), EG⟩
    case round =>
      clear EG HO HN2
      obtain ⟨m, pre, hm, rfl, HP, HO, hbel⟩ := hrel
      obtain ⟨oa, on, oc, ho, HON⟩ := HO.out.parts; obtain rfl := ho
      have hpl : pre.length ≤ 6 := by
        have h1 := congrArg List.length HP.out
        have h2 := vint_six (n := N) (by omega)
        simp only [List.length_append] at h1
        omega
      by_cases hlt : m < 128
      · have HB := Lib.hid (hi_byte hlt)
        have HV := Lib.hid (vint_lo hlt)
        go_wp2_with (at_builtin; refine Rep.wpList_pushB rfl _ _ 40 rfl (r := Rep.byte) (e := 5) Tryz.underlying40 infByte rfl (by decide) (by decide) (B := w.heap.size) HO.out (by rfl) (by rfl) rfl (byte_own (x := UInt8.ofNat m) (by first | exact HB.out | exact hi_byte0 (by omega))) rfl (fun _ _ h => h) (fun j hj => ⟨hj.1, by have := hj.2; omega⟩) (fun _ h => h.elim) (by have := hbel.size; omega) (by simp; omega) ?_)
        intro v3 w3 hown3 hbel3 hz3
        have HO3 := Lib.hid hown3
        obtain ⟨a3, n3, c3, hv3, HN3⟩ := hown3.parts
        obtain rfl := hv3
        have EG := hbel.trans hbel3
        clear hown3 hbel3
        go_wp2
        go_ret
        exact ⟨_, rfl, HO3.out.cast (by rw [HT.out, ← HP.out, HV.out]; try simp only [List.append_assoc]), EG⟩
      · have HB := Lib.hid (lo_spec (show m ≤ 1000000000000 by omega))
        have HV := Lib.hid (vint_hi hlt)
        have hge : (127 : Int) < m := by omega
        go_wp2_with (at_builtin; refine Rep.wpList_pushB rfl _ _ 40 rfl (r := Rep.byte) (e := 5) Tryz.underlying40 infByte rfl (by decide) (by decide) (B := w.heap.size) HO.out (by rfl) (by rfl) rfl (byte_own (x := vlo m) (by first | exact HB.out | (simp only [HB.out]))) rfl (fun _ _ h => h) (fun j hj => ⟨hj.1, by have := hj.2; omega⟩) (fun _ h => h.elim) (by have := hbel.size; omega) (by simp; omega) ?_)
        intro v3 w3 hown3 hbel3 hz3
        have HO3 := Lib.hid hown3
        obtain ⟨a3, n3, c3, hv3, HN3⟩ := hown3.parts
        obtain rfl := hv3
        have EG := hbel.trans hbel3
        clear hown3 hbel3
        go_wp2
        go_roundw
        case rel => exact ⟨m / 128, pre ++ [vlo m], by omega, by go_num, Lib.hid (by rw [← HP.out, HV.out, List.append_assoc]; rfl), Lib.hid (HO3.out.cast (by simp only [List.append_assoc])), EG⟩
        case measure => simp [intOf]; omega
set_option maxRecDepth 100000 in
set_option maxHeartbeats 2000000 in
theorem implAppendVarint_c {w : World} {va : Value} {b : List UInt8} {n : Int} (ha : (Rep.slice 5 Rep.byte).rd w [va] b) :
    Calls Tryz.prog 238 #[va, .int .i64 n] w (Made0 5 Rep.byte (b ++ vintI n) w) := by
  obtain ⟨aa, capa, hva, la⟩ := Rep.len_raw ha.1; obtain rfl : va = _ := by simpa using hva
  clear hva
  have HA := Lib.hid ha
  have hb : b.length ≤ 16777216 := ha.2.1
  clear ha
  go_enter Tryz.func238, Tryz.ntmps238
  go_wp2_with fail
  refine (Clone_byte_0 HA.out).mono ?_
  rintro e w2 ⟨v2, rfl, hown, EG⟩
  have HO : Hid (Rep.own0 5 Rep.byte w2 v2 b (Btw w.heap.size w2.heap.size)) := Lib.hid hown
  clear hown
  obtain ⟨a2, n2, c2, hv, HN2⟩ := HO.out.parts
  obtain rfl := hv
  go_wp2_with fail
  refine implInRange_c.mono ?_
  rintro e w1 ⟨rfl, hw⟩
  obtain rfl := hw.symm
  cases hin : inR n 0 1000000000000
  · have HT := Lib.hid (vintI_no hin)
    go_wp2
    go_ret
    exact ⟨_, rfl, HO.out.cast (by rw [HT.out]; simp), EG⟩
  · obtain ⟨hn0, hn1⟩ : 0 ≤ n ∧ n ≤ 1000000000000 := by simpa [inR] using hin
    obtain ⟨N, rfl⟩ : ∃ N : Nat, n = N := ⟨n.toNat, by omega⟩
    have HT := Lib.hid (vintI_yes hin)
    clear hin
    go_wp2
    go_loopw [5, 1] (fun v i wr => ∃ (m : Nat) (pre : List UInt8), m ≤ N ∧ i = .int .i64 m ∧ Hid (pre ++ vint m = vint N) ∧ Hid (Rep.own0 5 Rep.byte wr v (b ++ pre) (Btw w.heap.size wr.heap.size)) ∧ Below w.heap.size w wr) (fun _ i _ => (intOf i).toNat)
    case atStart => exact ⟨N, [], Nat.le_refl _, rfl, Lib.hid rfl, Lib.hid (by simpa using HO.out), EG⟩
    case round =>
      clear EG HO HN2
      obtain ⟨m, pre, hm, rfl, HP, HO, hbel⟩ := hrel
      obtain ⟨oa, on, oc, ho, HON⟩ := HO.out.parts; obtain rfl := ho
      have hpl : pre.length ≤ 6 := by
        have h1 := congrArg List.length HP.out
        have h2 := vint_six (n := N) (by omega)
        simp only [List.length_append] at h1
        omega
      by_cases hlt : m < 128
      · have HB := Lib.hid (hi_byte hlt)
        have HV := Lib.hid (vint_lo hlt)
        go_wp2_with (at_builtin; refine Rep.wpList_pushB rfl _ _ 40 rfl (r := Rep.byte) (e := 5) Tryz.underlying40 infByte rfl (by decide) (by decide) (B := w.heap.size) HO.out (by rfl) (by rfl) rfl (byte_own (x := UInt8.ofNat m) (by first | exact HB.out | exact hi_byte0 (by omega))) rfl (fun _ _ h => h) (fun j hj => ⟨hj.1, by have := hj.2; omega⟩) (fun _ h => h.elim) (by have := hbel.size; omega) (by simp; omega) ?_)
        intro v3 w3 hown3 hbel3 hz3
        have HO3 := Lib.hid hown3
        obtain ⟨a3, n3, c3, hv3, HN3⟩ := hown3.parts
        obtain rfl := hv3
        have EG := hbel.trans hbel3
        clear hown3 hbel3
        go_wp2
        go_ret
        exact ⟨_, rfl, HO3.out.cast (by rw [HT.out, ← HP.out, HV.out]; try simp only [List.append_assoc]), EG⟩
      · have HB := Lib.hid (lo_impl m)
        have HV := Lib.hid (vint_hi hlt)
        have hge : (127 : Int) < m := by omega
        go_wp2_with (at_builtin; refine Rep.wpList_pushB rfl _ _ 40 rfl (r := Rep.byte) (e := 5) Tryz.underlying40 infByte rfl (by decide) (by decide) (B := w.heap.size) HO.out (by rfl) (by rfl) rfl (byte_own (x := vlo m) (by first | exact HB.out | (simp only [HB.out]))) rfl (fun _ _ h => h) (fun j hj => ⟨hj.1, by have := hj.2; omega⟩) (fun _ h => h.elim) (by have := hbel.size; omega) (by simp; omega) ?_)
        intro v3 w3 hown3 hbel3 hz3
        have HO3 := Lib.hid hown3
        obtain ⟨a3, n3, c3, hv3, HN3⟩ := hown3.parts
        obtain rfl := hv3
        have EG := hbel.trans hbel3
        clear hown3 hbel3
        go_wp2
        go_roundw
        case rel => exact ⟨m / 128, pre ++ [vlo m], by omega, by go_num, Lib.hid (by rw [← HP.out, HV.out, List.append_assoc]; rfl), Lib.hid (HO3.out.cast (by simp only [List.append_assoc])), EG⟩
        case measure => simp [intOf]; omega
theorem row_bytes (w : World) : ∀ (l : List UInt8) (S : Nat → Prop), Rep.row Rep.byte false w (l.map (fun b => Value.int .u8 b.toNat)) l S
  | [], _ => rfl
  | b :: l, S => ⟨[.int .u8 b.toNat], l.map (fun b => Value.int .u8 b.toNat), S, S, rfl, rfl, row_bytes w l S, fun _ h => h, fun _ h => h, fun h => by cases h⟩
theorem bytesWorld_rd {w : World} {e e2 : TypeId} {s : ByteArray} (hs : s.size ≤ 16777216) : (Rep.slice e2 Rep.byte).rd (Lib.bytesWorld w e s) [.slice (some ⟨w.heap.size, 0, none⟩) s.size (grownCap w s.size 0 e)] s.data.toList := by
  have hl : s.data.toList.length = s.size := by simp
  refine ⟨⟨_, _, _, rfl, hl.symm, grownCap_ge _ _ _ _, grownCap_le_maxLen _ _ _ _ (by unfold maxLen; omega), .inr ⟨_, _, rfl, _, _, _, [], s.data.toList.map (fun b => Value.int .u8 b.toNat), List.replicate (grownCap w s.size 0 e - s.size) (.int .u8 0), Lib.bytesWorld_at_new w e s, ?_, rfl, ?_, (fun h => Bool.noConfusion h), trivial, ?_⟩⟩, by rw [hl]; exact hs, fun _ _ => trivial⟩
  · simp [Lib.bytesCells]
  · have := grownCap_ge w s.size 0 e
    have e1 : (Lib.bytesCells w e s).size = s.size + (grownCap w s.size 0 e - s.size) := by simp [Lib.bytesCells]
    rw [e1]; show 0 + _ * 1 ≤ _; omega
  · exact Rep.row_wide (row_bytes _ _ (fun _ => True)) (fun _ _ => ⟨trivial, fun h => by cases h⟩)
theorem bytesWorld_below' (w : World) (e : TypeId) (s : ByteArray) : Below w.heap.size w (Lib.bytesWorld w e s) :=
  ⟨rfl, rfl, rfl, by rw [Lib.bytesWorld_size]; omega, fun j hj => Lib.bytesWorld_at_old w e s j hj⟩
def encIs (l : List Int) : List UInt8 := (l.map vintI).flatten
theorem encIs_succ {l : List Int} {k : Nat} (h : k < l.length) : encIs (l.take (k + 1)) = encIs (l.take k) ++ vintI l[k] := by
  unfold encIs
  rw [List.take_succ_eq_append_getElem h, List.map_append, List.flatten_append]
  simp
theorem encIs_len : ∀ l : List Int, (encIs l).length ≤ 6 * l.length
  | [] => by simp [encIs]
  | n :: l => by
    have h1 := encIs_len l
    have h2 := vintI_len n
    have e : encIs (n :: l) = vintI n ++ encIs l := rfl
    rw [e, List.length_append, List.length_cons]; omega
def encS (s : ByteArray) : List UInt8 := vintI s.data.toList.length ++ s.data.toList
def encSs (l : List ByteArray) : List UInt8 := (l.map encS).flatten
theorem encSs_succ {l : List ByteArray} {k : Nat} (h : k < l.length) : encSs (l.take (k + 1)) = encSs (l.take k) ++ encS l[k] := by
  unfold encSs
  rw [List.take_succ_eq_append_getElem h, List.map_append, List.flatten_append]
  simp
def encNm (n : LName) : List UInt8 := vintI n.length ++ encSs n
def encNms (l : List LName) : List UInt8 := (l.map encNm).flatten
theorem encNms_succ {l : List LName} {k : Nat} (h : k < l.length) : encNms (l.take (k + 1)) = encNms (l.take k) ++ encNm l[k] := by
  unfold encNms
  rw [List.take_succ_eq_append_getElem h, List.map_append, List.flatten_append]
  simp
set_option maxRecDepth 100000 in
set_option maxHeartbeats 2000000 in
theorem specAppendBytes_c {w : World} {va vs : Value} {b s : List UInt8} (ha : (Rep.slice 5 Rep.byte).rd w [va] b) (hs : (Rep.slice 5 Rep.byte).rd w [vs] s) :
    Calls Tryz.prog 252 #[va, vs] w (Made0 5 Rep.byte (b ++ (vintI s.length ++ s)) w) := by
  obtain ⟨aa, capa, hva, la⟩ := Rep.len_raw ha.1; obtain rfl : va = _ := by simpa using hva
  obtain ⟨ab, capb, hvb, ls⟩ := Rep.len_raw hs.1; obtain rfl : vs = _ := by simpa using hvb
  clear hva hvb
  have HA := Lib.hid ha
  have HS := Lib.hid hs
  have hb : b.length ≤ 16777216 := ha.2.1
  have hsl : s.length ≤ 16777216 := hs.2.1
  clear ha hs
  go_enter Tryz.func252, Tryz.ntmps252
  go_wp2_with fail
  refine (specAppendVarint_c HA.out).mono ?_
  rintro e w2 ⟨v2, rfl, hown, EG⟩
  obtain ⟨a2, n2, c2, hv, HN2⟩ := hown.parts
  obtain rfl := hv
  have HO := Lib.hid hown
  have hln : (b ++ vintI s.length).length ≤ 20000000 := by have := vintI_len s.length; rw [List.length_append]; omega
  clear hown
  go_wp2_with (at_builtin; refine Rep.wpList_pushN rfl _ _ 40 rfl (r := Rep.byte) (e := 5) Tryz.underlying40 infByte rfl (by decide) (by decide) Rep.isFlat_byte (B := w.heap.size) HO.out (by rfl) (by rfl) (HS.out.below EG) (fun k hk => ⟨hk.1, hk.2⟩) EG.size (by omega) ?_)
  intro v3 w3 hown3 hbel3 hz3
  have HO3 := Lib.hid hown3
  obtain ⟨a3, n3, c3, hv3, HN3⟩ := hown3.parts
  obtain rfl := hv3
  have EG2 := EG.trans hbel3
  clear hown3 hbel3
  go_wp2
  go_ret
  exact ⟨_, rfl, HO3.out.cast (by simp only [List.append_assoc]), EG2⟩
set_option maxRecDepth 100000 in
set_option maxHeartbeats 2000000 in
theorem implAppendBytes_c {w : World} {va vs : Value} {b s : List UInt8} (ha : (Rep.slice 5 Rep.byte).rd w [va] b) (hs : (Rep.slice 5 Rep.byte).rd w [vs] s) :
    Calls Tryz.prog 258 #[va, vs] w (Made0 5 Rep.byte (b ++ (vintI s.length ++ s)) w) := by
  obtain ⟨aa, capa, hva, la⟩ := Rep.len_raw ha.1; obtain rfl : va = _ := by simpa using hva
  obtain ⟨ab, capb, hvb, ls⟩ := Rep.len_raw hs.1; obtain rfl : vs = _ := by simpa using hvb
  clear hva hvb
  have HA := Lib.hid ha
  have HS := Lib.hid hs
  have hb : b.length ≤ 16777216 := ha.2.1
  have hsl : s.length ≤ 16777216 := hs.2.1
  clear ha hs
  go_enter Tryz.func258, Tryz.ntmps258
  go_wp2_with fail
  refine (implAppendVarint_c HA.out).mono ?_
  rintro e w2 ⟨v2, rfl, hown, EG⟩
  obtain ⟨a2, n2, c2, hv, HN2⟩ := hown.parts
  obtain rfl := hv
  have HO := Lib.hid hown
  have hln : (b ++ vintI s.length).length ≤ 20000000 := by have := vintI_len s.length; rw [List.length_append]; omega
  clear hown
  go_wp2_with (at_builtin; refine Rep.wpList_pushN rfl _ _ 40 rfl (r := Rep.byte) (e := 5) Tryz.underlying40 infByte rfl (by decide) (by decide) Rep.isFlat_byte (B := w.heap.size) HO.out (by rfl) (by rfl) (HS.out.below EG) (fun k hk => ⟨hk.1, hk.2⟩) EG.size (by omega) ?_)
  intro v3 w3 hown3 hbel3 hz3
  have HO3 := Lib.hid hown3
  obtain ⟨a3, n3, c3, hv3, HN3⟩ := hown3.parts
  obtain rfl := hv3
  have EG2 := EG.trans hbel3
  clear hown3 hbel3
  go_wp2
  go_ret
  exact ⟨_, rfl, HO3.out.cast (by simp only [List.append_assoc]), EG2⟩
end Go.Proofs.YtlfblpgkegeaeaaGreat

/-
  Copies of slices whose elements have no memory of their own.
-/
import Derived.Test.YtlfblpgkegeaeaaGreatCopy
import Derived.IntWalk
import Derived.Deep.Cut
import Derived.WalkSpells
import Derived.WalkLawsBesides
namespace Go.Proofs.YtlfblpgkegeaeaaGreat
open Go.RowKit
set_option linter.unusedVariables false
set_option linter.unusedSimpArgs false
set_option linter.unnecessarySimpa false
theorem flatint : Rep.int.IsFlat := Rep.isFlat_int
theorem flatbyte : Rep.byte.IsFlat := Rep.isFlat_byte
set_option maxRecDepth 100000 in
set_option maxHeartbeats 1000000 in
theorem Clone_byte_c {w : World} {va : Value} {x : List UInt8} (ha : (Rep.slice 5 Rep.byte).rd w [va] x) : Calls Tryz.prog 143 #[va] w (MadePost (Rep.slice 5 Rep.byte) x w) := by
  obtain ⟨aa, capa, hva, la⟩ := Rep.len_raw ha.1; obtain rfl : va = _ := by simpa using hva
  clear hva
  have HA := Lib.hid ha
  have hnil := fun (W : World) (a : Option Addr) (n c : Nat) => Lib.run_eql_slice_nil (P := Tryz.prog) W 40 5 a n c 0 0 Tryz.underlying40
  cases aa with
  | none =>
    have hx : x = [] := by
      cases x with
      | nil => rfl
      | cons y ys =>
        obtain ⟨b, off, h, _⟩ := Rep.get_raw ha.1 (i := 0) (by simp)
        cases h
    subst hx
    clear ha
    go_enter Tryz.func143, Tryz.ntmps143
    go_wp2
    go_ret
    exact ⟨_, rfl, Rep.void_own, Below.refl _ _⟩
  | some a =>
    have hb : x.length ≤ 16777216 := ha.2.1
    clear ha
    go_enter Tryz.func143, Tryz.ntmps143
    have O0 : Rep.own0 5 Rep.byte (w.alloc (.cells #[] 5)) (.slice (some ⟨w.heap.size, 0, none⟩) 0 0) [] (fun k => k = w.heap.size) := Rep.own0_lit (cs := []) (xs := []) (T := fun _ => False) (by simp) (by simp) rfl (fun _ h => h.elim) rfl
    go_wp2_with (at_builtin; refine Rep.wpList_pushN rfl _ _ 40 rfl (r := Rep.byte) (e := 5) Tryz.underlying40 infByte rfl (by decide) (by decide) flatbyte (B := w.heap.size) O0 (by rfl) (by rfl) (HA.out.alloc _) (fun k hk => ⟨by omega, by simp; omega⟩) (by simp) (by simp; omega) ?_)
    intro v2 w2 hown hbel hz
    have HO := Lib.hid hown
    obtain ⟨a2, c2, hv⟩ := hown.none_iff
    obtain rfl := hv
    have EG : Below w.heap.size w w2 := Below.trans (by repeat (first | (with_reducible exact Below.refl _ _) | refine Below.alloc ?_ (by simp; try omega) _ | refine Below.drew ?_ | refine Below.setCell ?_ (by simp; try omega) _)) hbel
    clear hown O0 hbel
    go_wp2
    go_ret
    exact ⟨_, rfl, by simpa using HO.out.own (by simpa [Big] using hb), EG⟩
theorem flatRequester : RRequester.IsFlat := Rep.isFlat_pair (Rep.isFlat_int) (Rep.isFlat_pair (Rep.isFlat_int) (Rep.isFlat_int))
set_option maxRecDepth 100000 in
set_option maxHeartbeats 1000000 in
theorem Clone_Requester_c {w : World} {va : Value} {x : List LRequester} (ha : (Rep.slice 123 RRequester).rd w [va] x) : Calls Tryz.prog 191 #[va] w (MadePost (Rep.slice 123 RRequester) x w) := by
  obtain ⟨aa, capa, hva, la⟩ := Rep.len_raw ha.1; obtain rfl : va = _ := by simpa using hva
  clear hva
  have HA := Lib.hid ha
  have hnil := fun (W : World) (a : Option Addr) (n c : Nat) => Lib.run_eql_slice_nil (P := Tryz.prog) W 119 123 a n c 0 0 Tryz.underlying119
  cases aa with
  | none =>
    have hx : x = [] := by
      cases x with
      | nil => rfl
      | cons y ys =>
        obtain ⟨b, off, h, _⟩ := Rep.get_raw ha.1 (i := 0) (by simp)
        cases h
    subst hx
    clear ha
    go_enter Tryz.func191, Tryz.ntmps191
    go_wp2
    go_ret
    exact ⟨_, rfl, Rep.void_own, Below.refl _ _⟩
  | some a =>
    have hb : x.length ≤ 16777216 := ha.2.1
    clear ha
    go_enter Tryz.func191, Tryz.ntmps191
    have O0 : Rep.own0 123 RRequester (w.alloc (.cells #[] 123)) (.slice (some ⟨w.heap.size, 0, none⟩) 0 0) [] (fun k => k = w.heap.size) := Rep.own0_lit (cs := []) (xs := []) (T := fun _ => False) (by simp) (by simp) rfl (fun _ h => h.elim) rfl
    go_wp2_with (at_builtin; refine Rep.wpList_pushN rfl _ _ 119 rfl (r := RRequester) (e := 123) Tryz.underlying119 infRequester rfl (by decide) (by decide) flatRequester (B := w.heap.size) O0 (by rfl) (by rfl) (HA.out.alloc _) (fun k hk => ⟨by omega, by simp; omega⟩) (by simp) (by simp; omega) ?_)
    intro v2 w2 hown hbel hz
    have HO := Lib.hid hown
    obtain ⟨a2, c2, hv⟩ := hown.none_iff
    obtain rfl := hv
    have EG : Below w.heap.size w w2 := Below.trans (by repeat (first | (with_reducible exact Below.refl _ _) | refine Below.alloc ?_ (by simp; try omega) _ | refine Below.drew ?_ | refine Below.setCell ?_ (by simp; try omega) _)) hbel
    clear hown O0 hbel
    go_wp2
    go_ret
    exact ⟨_, rfl, by simpa using HO.out.own (by simpa [Big] using hb), EG⟩
end Go.Proofs.YtlfblpgkegeaeaaGreat

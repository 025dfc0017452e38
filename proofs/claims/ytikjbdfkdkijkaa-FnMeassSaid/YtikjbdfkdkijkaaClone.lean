/-
  Copies of slices whose elements have no memory of their own.
-/
import Derived.Test.YtikjbdfkdkijkaaCopy
import Derived.IntWalk
import Derived.Deep.Cut
import Derived.WalkSpells
import Derived.WalkLawsBesides
namespace Go.Proofs.Ytikjbdfkdkijkaa
open Go.RowKit
set_option linter.unusedVariables false
set_option linter.unusedSimpArgs false
set_option linter.unnecessarySimpa false
theorem flatint : Rep.int.IsFlat := Rep.isFlat_int
set_option maxRecDepth 100000 in
set_option maxHeartbeats 1000000 in
theorem Clone_int_c {w : World} {va : Value} {x : List Int} (ha : (Rep.slice 3 Rep.int).rd w [va] x) : Calls Try.prog 61 #[va] w (MadePost (Rep.slice 3 Rep.int) x w) := by
  obtain ⟨aa, capa, hva, la⟩ := Rep.len_raw ha.1; obtain rfl : va = _ := by simpa using hva
  clear hva
  have HA := Lib.hid ha
  have hnil := fun (W : World) (a : Option Addr) (n c : Nat) => Lib.run_eql_slice_nil (P := Try.prog) W 31 3 a n c 0 0 Try.underlying31
  cases aa with
  | none =>
    have hx : x = [] := by
      cases x with
      | nil => rfl
      | cons y ys =>
        obtain ⟨b, off, h, _⟩ := Rep.get_raw ha.1 (i := 0) (by simp)
        cases h
    subst hx
    clear ha
    go_enter Try.func61, Try.ntmps61
    go_wp2
    go_ret
    exact ⟨_, rfl, Rep.void_own, Below.refl _ _⟩
  | some a =>
    have hb : x.length ≤ 16777216 := ha.2.1
    clear ha
    go_enter Try.func61, Try.ntmps61
    have O0 : Rep.own0 3 Rep.int (w.alloc (.cells #[] 3)) (.slice (some ⟨w.heap.size, 0, none⟩) 0 0) [] (fun k => k = w.heap.size) := Rep.own0_lit (cs := []) (xs := []) (T := fun _ => False) (by simp) (by simp) rfl (fun _ h => h.elim) rfl
    go_wp2_with (at_builtin; refine Rep.wpList_pushN rfl _ _ 31 rfl (r := Rep.int) (e := 3) Try.underlying31 infInt rfl (by decide) (by decide) flatint (B := w.heap.size) O0 (by rfl) (by rfl) (HA.out.alloc _) (fun k hk => ⟨by omega, by simp; omega⟩) (by simp) (by simp; omega) ?_)
    intro v2 w2 hown hbel hz
    have HO := Lib.hid hown
    obtain ⟨a2, c2, hv⟩ := hown.none_iff
    obtain rfl := hv
    have EG : Below w.heap.size w w2 := Below.trans (by repeat (first | (with_reducible exact Below.refl _ _) | refine Below.alloc ?_ (by simp; try omega) _ | refine Below.drew ?_ | refine Below.setCell ?_ (by simp; try omega) _)) hbel
    clear hown O0 hbel
    go_wp2
    go_ret
    exact ⟨_, rfl, by simpa using HO.out.own (by simpa [Big] using hb), EG⟩
theorem flatRequester : RRequester.IsFlat := Rep.isFlat_pair (Rep.isFlat_int) (Rep.isFlat_pair (Rep.isFlat_int) (Rep.isFlat_int))
set_option maxRecDepth 100000 in
set_option maxHeartbeats 1000000 in
theorem Clone_Requester_c {w : World} {va : Value} {x : List LRequester} (ha : (Rep.slice 71 RRequester).rd w [va] x) : Calls Try.prog 125 #[va] w (MadePost (Rep.slice 71 RRequester) x w) := by
  obtain ⟨aa, capa, hva, la⟩ := Rep.len_raw ha.1; obtain rfl : va = _ := by simpa using hva
  clear hva
  have HA := Lib.hid ha
  have hnil := fun (W : World) (a : Option Addr) (n c : Nat) => Lib.run_eql_slice_nil (P := Try.prog) W 51 71 a n c 0 0 Try.underlying51
  cases aa with
  | none =>
    have hx : x = [] := by
      cases x with
      | nil => rfl
      | cons y ys =>
        obtain ⟨b, off, h, _⟩ := Rep.get_raw ha.1 (i := 0) (by simp)
        cases h
    subst hx
    clear ha
    go_enter Try.func125, Try.ntmps125
    go_wp2
    go_ret
    exact ⟨_, rfl, Rep.void_own, Below.refl _ _⟩
  | some a =>
    have hb : x.length ≤ 16777216 := ha.2.1
    clear ha
    go_enter Try.func125, Try.ntmps125
    have O0 : Rep.own0 71 RRequester (w.alloc (.cells #[] 71)) (.slice (some ⟨w.heap.size, 0, none⟩) 0 0) [] (fun k => k = w.heap.size) := Rep.own0_lit (cs := []) (xs := []) (T := fun _ => False) (by simp) (by simp) rfl (fun _ h => h.elim) rfl
    go_wp2_with (at_builtin; refine Rep.wpList_pushN rfl _ _ 51 rfl (r := RRequester) (e := 71) Try.underlying51 infRequester rfl (by decide) (by decide) flatRequester (B := w.heap.size) O0 (by rfl) (by rfl) (HA.out.alloc _) (fun k hk => ⟨by omega, by simp; omega⟩) (by simp) (by simp; omega) ?_)
    intro v2 w2 hown hbel hz
    have HO := Lib.hid hown
    obtain ⟨a2, c2, hv⟩ := hown.none_iff
    obtain rfl := hv
    have EG : Below w.heap.size w w2 := Below.trans (by repeat (first | (with_reducible exact Below.refl _ _) | refine Below.alloc ?_ (by simp; try omega) _ | refine Below.drew ?_ | refine Below.setCell ?_ (by simp; try omega) _)) hbel
    clear hown O0 hbel
    go_wp2
    go_ret
    exact ⟨_, rfl, by simpa using HO.out.own (by simpa [Big] using hb), EG⟩
end Go.Proofs.Ytikjbdfkdkijkaa

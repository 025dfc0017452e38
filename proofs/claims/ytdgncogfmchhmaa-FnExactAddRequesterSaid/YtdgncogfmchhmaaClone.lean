/-
  Copies of slices whose elements have no memory of their own.
-/
import Derived.Test.YtdgncogfmchhmaaCopy
import Derived.IntWalk
import Derived.Deep.Cut
import Derived.WalkSpells
import Derived.WalkLawsBesides
namespace Go.Proofs.Ytdgncogfmchhmaa
open Go.RowKit
set_option linter.unusedVariables false
set_option linter.unusedSimpArgs false
set_option linter.unnecessarySimpa false
theorem flatRequester : RRequester.IsFlat := Rep.isFlat_pair (Rep.isFlat_int) (Rep.isFlat_pair (Rep.isFlat_int) (Rep.isFlat_int))
set_option maxRecDepth 100000 in
set_option maxHeartbeats 1000000 in
theorem Clone_Requester_c {w : World} {va : Value} {x : List LRequester} (ha : (Rep.slice 53 RRequester).rd w [va] x) : Calls Try.prog 48 #[va] w (MadePost (Rep.slice 53 RRequester) x w) := by
  obtain ⟨aa, capa, hva, la⟩ := Rep.len_raw ha.1; obtain rfl : va = _ := by simpa using hva
  clear hva
  have HA := Lib.hid ha
  have hnil := fun (W : World) (a : Option Addr) (n c : Nat) => Lib.run_eql_slice_nil (P := Try.prog) W 55 53 a n c 0 0 Try.underlying55
  cases aa with
  | none =>
    have hx : x = [] := by
      cases x with
      | nil => rfl
      | cons y ys =>
        obtain ⟨b, off, h, _⟩ := Rep.get_raw ha.1 (i := 0) (by simp)
        cases h
    subst hx
    clear ha
    go_enter Try.func48, Try.ntmps48
    go_wp2
    go_ret
    exact ⟨_, rfl, Rep.void_own, Below.refl _ _⟩
  | some a =>
    have hb : x.length ≤ 16777216 := ha.2.1
    clear ha
    go_enter Try.func48, Try.ntmps48
    have O0 : Rep.own0 53 RRequester (w.alloc (.cells #[] 53)) (.slice (some ⟨w.heap.size, 0, none⟩) 0 0) [] (fun k => k = w.heap.size) := Rep.own0_lit (cs := []) (xs := []) (T := fun _ => False) (by simp) (by simp) rfl (fun _ h => h.elim) rfl
    go_wp2_with (at_builtin; refine Rep.wpList_pushN rfl _ _ 55 rfl (r := RRequester) (e := 53) Try.underlying55 infRequester rfl (by decide) (by decide) flatRequester (B := w.heap.size) O0 (by rfl) (by rfl) (HA.out.alloc _) (fun k hk => ⟨by omega, by simp; omega⟩) (by simp) (by simp; omega) ?_)
    intro v2 w2 hown hbel hz
    have HO := Lib.hid hown
    obtain ⟨a2, c2, hv⟩ := hown.none_iff
    obtain rfl := hv
    have EG : Below w.heap.size w w2 := Below.trans (by repeat (first | (with_reducible exact Below.refl _ _) | refine Below.alloc ?_ (by simp; try omega) _ | refine Below.drew ?_ | refine Below.setCell ?_ (by simp; try omega) _)) hbel
    clear hown O0 hbel
    go_wp2
    go_ret
    exact ⟨_, rfl, by simpa using HO.out.own (by simpa [Big] using hb), EG⟩
end Go.Proofs.Ytdgncogfmchhmaa

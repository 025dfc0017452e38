/-
  Copies of names.
-/
import Derived.Test.YtlfblpgkegeaeaaGreatFlat
import Derived.Test.YtlfblpgkegeaeaaGreatInfo
import Derived.Test.YtlfblpgkegeaeaaGreatSoft2
import Derived.IntWalk
import Derived.Deep.Cut
import Derived.WalkSpells
import Derived.WalkLawsBesides
namespace Go.Proofs.YtlfblpgkegeaeaaGreat
open Go.RowKit
set_option linter.unusedVariables false
set_option linter.unusedSimpArgs false
set_option linter.unnecessarySimpa false
set_option maxRecDepth 100000 in
set_option maxHeartbeats 1000000 in
theorem Clone_string_c {w : World} {va : Value} {x : List ByteArray} (ha : (Rep.slice 9 Rep.str).rd w [va] x) : Calls Tryz.prog 192 #[va] w (MadePost (Rep.slice 9 Rep.str) x w) := by
  obtain ⟨aa, capa, hva, la⟩ := Rep.len_raw ha.1; obtain rfl : va = _ := by simpa using hva
  clear hva
  have HA := Lib.hid ha
  have hnil := fun (W : World) (a : Option Addr) (n c : Nat) => Lib.run_eql_slice_nil (P := Tryz.prog) W 37 9 a n c 0 0 Tryz.underlying37
  cases aa with
  | none =>
    have hx : x = [] := by
      cases x with
      | nil => rfl
      | cons y ys =>
        obtain ⟨b, off, h, _⟩ := Rep.get_raw ha.1 (i := 0) (by simp)
        cases h
    subst hx
    clear ha
    go_enter Tryz.func192, Tryz.ntmps192
    go_wp2
    go_ret
    exact ⟨_, rfl, Rep.void_own, Below.refl _ _⟩
  | some a =>
    have hb : x.length ≤ 16777216 := ha.2.1
    clear ha
    go_enter Tryz.func192, Tryz.ntmps192
    have O0 : Rep.own0 9 Rep.str (w.alloc (.cells #[] 9)) (.slice (some ⟨w.heap.size, 0, none⟩) 0 0) [] (fun k => k = w.heap.size) := Rep.own0_lit (cs := []) (xs := []) (T := fun _ => False) (by simp) (by simp) rfl (fun _ h => h.elim) rfl
    go_wp2_with (at_builtin; refine Rep.wpList_pushN rfl _ _ 37 rfl (r := Rep.str) (e := 9) Tryz.underlying37 infString rfl (by decide) (by decide) Rep.isFlat_str (B := w.heap.size) O0 (by rfl) (by rfl) (HA.out.alloc _) (fun k hk => ⟨by omega, by simp; omega⟩) (by simp) (by simp; omega) ?_)
    intro v2 w2 hown hbel hz
    have HO := Lib.hid hown
    obtain ⟨a2, c2, hv⟩ := hown.none_iff
    obtain rfl := hv
    have EG : Below w.heap.size w w2 := Below.trans (by repeat (first | (with_reducible exact Below.refl _ _) | refine Below.alloc ?_ (by simp; try omega) _ | refine Below.drew ?_ | refine Below.setCell ?_ (by simp; try omega) _)) hbel
    clear hown O0 hbel
    go_wp2
    go_ret
    exact ⟨_, rfl, by simpa using HO.out.own (by simpa [Big] using hb), EG⟩
set_option maxRecDepth 100000 in
set_option maxHeartbeats 1000000 in
theorem implcopyName_c {w : World} {ca : List Value} {x : LName} (ha : RName.rd w ca x) : Calls Tryz.prog 142 #[.agg ca.toArray] w (MadeAgg RName x w) := by
  have HA := Lib.hid ha
  obtain ⟨av, rfl, a_0⟩ := RName_raw ha.1
  obtain ⟨aa, capa, hva, la⟩ := Rep.len_raw a_0; obtain rfl : av = _ := by simpa using hva
  have hb : x.length ≤ 16777216 := ha.2.1
  clear hva ha
  go_enter Tryz.func142, Tryz.ntmps142
  go_wp2_with fail
  refine (Clone_string_c (HA.out.below (by repeat (first | (with_reducible exact Below.refl _ _) | refine Below.alloc ?_ (by simp; try omega) _ | refine Below.drew ?_ | refine Below.setCell ?_ (by simp; try omega) _)))).mono ?_
  rintro e w2 ⟨v2, rfl, O2, hbel⟩
  obtain ⟨a2, c2, hv, _⟩ := Rep.len_raw O2.raw
  obtain rfl : v2 = _ := by simpa using hv
  have HO : Hid (RName.own w2 [.slice a2 x.length c2] x (Btw (w.heap.size + 2) w2.heap.size)) := Lib.hid (O2.wide (fun j hj => ⟨by have := hj.1; simp at this; omega, hj.2⟩))
  have EG : Below w.heap.size w w2 := Below.trans (by repeat (first | (with_reducible exact Below.refl _ _) | refine Below.alloc ?_ (by simp; try omega) _ | refine Below.drew ?_ | refine Below.setCell ?_ (by simp; try omega) _)) (hbel.mono (by first | omega | (simp; try omega)))
  clear hv O2
  have R0 : w2.cell? ⟨w.heap.size + 1, 0, none⟩ = some (.slice none 0 0) := (hbel.cell (p := ⟨w.heap.size + 1, 0, none⟩) (by simp)).trans (by simp [go_sem])
  have F0 : w2.frozen? ⟨w.heap.size + 1, 0, none⟩ = false := (hbel.frozen (p := ⟨w.heap.size + 1, 0, none⟩) (by simp)).trans (by simp [go_sem])
  clear hbel
  go_wp2
  refine bodyPost_ret (v := .agg #[.slice a2 x.length c2]) (by simp [results, Tryz.results142, go_sem, R0, F0]) rfl ⟨[_], rfl, ?_, ?_⟩
  · exact (HO.out.setCell (by intro q; have := q.1; first | omega | (simp at this; omega) | (simp at this))).wide (fun j hj => ⟨by have := hj.1; omega, by simpa [World.setCell] using hj.2⟩)
  · exact EG.setCell (by simp) _
set_option maxRecDepth 100000 in
set_option maxHeartbeats 1000000 in
theorem specl4Copy_c {w : World} {ca : List Value} {x : LName} (ha : RName.rd w ca x) : Calls Tryz.prog 129 #[.agg ca.toArray] w (MadeAgg RName x w) := by
  have HA := Lib.hid ha
  obtain ⟨av, rfl, a_0⟩ := RName_raw ha.1
  obtain ⟨aa, capa, hva, la⟩ := Rep.len_raw a_0; obtain rfl : av = _ := by simpa using hva
  have hb : x.length ≤ 16777216 := ha.2.1
  clear hva ha
  go_enter Tryz.func129, Tryz.ntmps129
  have O0 : Rep.own0 9 Rep.str (((w.alloc (.cells #[.slice aa x.length capa] 64)).alloc (.cells #[.slice none 0 0] 64)).alloc (.cells #[] 9)) (.slice (some ⟨w.heap.size + 1 + 1, 0, none⟩) 0 0) [] (fun k => k = w.heap.size + 1 + 1) := by
    have h := Rep.own0_lit (e := 9) (r := Rep.str) (w := (w.alloc (.cells #[.slice aa x.length capa] 64)).alloc (.cells #[.slice none 0 0] 64)) (cs := []) (xs := []) (T := fun _ => False) (S := fun k => k = w.heap.size + 1 + 1) (by simp) (by simp) rfl (fun _ h => h.elim) (by simp)
    simpa using h
  go_wp2_with (at_builtin; refine Rep.wpList_pushN rfl _ _ 37 rfl (r := Rep.str) (e := 9) Tryz.underlying37 infString rfl (by decide) (by decide) Rep.isFlat_str (B := w.heap.size + 1 + 1) O0 (by rfl) (by rfl) (HA.out.below (by repeat (first | (with_reducible exact Below.refl _ _) | refine Below.alloc ?_ (by simp; try omega) _ | refine Below.drew ?_ | refine Below.setCell ?_ (by simp; try omega) _))) (fun k hk => ⟨by omega, by simp; omega⟩) (by simp) (by simp; omega) ?_)
  intro v2 w2 hown hbel hz
  obtain ⟨a2, c2, hv⟩ := hown.none_iff
  obtain rfl := hv
  have hw := hown.own (by simpa [Big] using hb)
  have HO : Hid (RName.own w2 [.slice a2 x.length c2] x (Btw (w.heap.size + 1 + 1) w2.heap.size)) := Lib.hid hw
  have EG : Below w.heap.size w w2 := Below.trans (by repeat (first | (with_reducible exact Below.refl _ _) | refine Below.alloc ?_ (by simp; try omega) _ | refine Below.drew ?_ | refine Below.setCell ?_ (by simp; try omega) _)) (hbel.mono (by first | omega | (simp; try omega)))
  clear hown O0 hw
  have R0 : w2.cell? ⟨w.heap.size + 1, 0, none⟩ = some (.slice none 0 0) := (hbel.cell (p := ⟨w.heap.size + 1, 0, none⟩) (by simp)).trans (by simp [go_sem])
  have F0 : w2.frozen? ⟨w.heap.size + 1, 0, none⟩ = false := (hbel.frozen (p := ⟨w.heap.size + 1, 0, none⟩) (by simp)).trans (by simp [go_sem])
  clear hbel
  go_wp2
  refine bodyPost_ret (v := .agg #[.slice a2 x.length c2]) (by simp [results, Tryz.results129, go_sem, R0, F0]) rfl ⟨[_], rfl, ?_, ?_⟩
  · exact (HO.out.setCell (by intro q; have := q.1; first | omega | (simp at this; omega) | (simp at this))).wide (fun j hj => ⟨by have := hj.1; omega, by simpa [World.setCell] using hj.2⟩)
  · exact EG.setCell (by simp) _
end Go.Proofs.YtlfblpgkegeaeaaGreat

/-
  The laws' markings at more types. Printed by genmark.py.
-/
import Derived.Test.YtdgncogfmchhmaaMark
import Derived.Test.YtdgncogfmchhmaaProg
import Derived.Test.YtdgncogfmchhmaaTypes
import Derived.Test.YtdgncogfmchhmaaMarkT
import Derived.WalkKit
import Derived.WalkSpells
import Derived.WalkLawsBesides
import Derived.BigQuiet
import Derived.Deep.QuietTactic
import Derived.StillTailTactics
namespace Go.Proofs.Ytdgncogfmchhmaa
open Go.RowKit
set_option linter.unusedVariables false
set_option linter.unusedSimpArgs false
set_option linter.unnecessarySimpa false
set_option maxRecDepth 100000 in
set_option maxHeartbeats 16000000 in
theorem markInterest_c {w : World} {ca : List Value} {x : LInterest} {k : Int} {S : Nat → Prop} (ha : RInterest.own w ca x S) (hk0 : 0 ≤ k) (hk1 : k + (RInterest.cnt : Nat) ≤ Top) :
    Calls Try.prog 13 #[.agg ca.toArray, .int .i64 k] w (MarkPost RInterest false x k ca S w) := by
  have hl := ha.live
  obtain ⟨av0, rfl, a_0, a_1, a_2, a_3, a_4⟩ := RInterest_raw ha.raw
  obtain ⟨x0, x1, x2, x3⟩ := x
  clear a_0 a_1 a_2 a_3 a_4
  have HQ := Lib.hid hk1; clear hk1
  have k2 : k ≤ 4611686018427387904 := by have := HQ.out; unfold Top at this; omega
  go_enter Try.func13, Try.ntmps13
  go_wp2_with fail
  have O0 := Lib.hid (fun o => Rep.own.alloc hl o)
  obtain ⟨A1, hA1, hAB1, bk1⟩ := RInterest_sub_0 (O0.out _)
  refine (markName_c (k := k) hA1 (by omega) (by have := HQ.out; have e : RInterest.cnt = RName.cnt + (1 + (1 + (1))) := rfl; omega)).mono ?_
  rintro e w1 ⟨rfl, P1, X1⟩
  have O1x := bk1 P1 X1
  have g1 := RName.mark_ge (e := false) (x := x0) (k := k)
  have l1 : (RName.mark false x0 (k)).2 ≤ k + (RName.cnt : Nat) := RName.mark_le (e := false) (k := k) hA1.2
  have u1 : (RName.mark false x0 (k)).2 ≤ 4611686018427387904 := by have := HQ.out; have e : RInterest.cnt = RName.cnt + (1 + (1 + (1))) := rfl; unfold Top at *; omega
  have M1 := Lib.hid l1; clear l1
  have T1x : Touch S w w1 := (Touch.of_below (Rep.below_alloc w _)).trans (X1.wide (fun i hi => (hAB1 i hi).1))
  have hz1 : w.heap.size + 1 ≤ w1.heap.size := by have := X1.size; simpa using this
  have hc1 : ∀ o, w1.cell? ⟨w.heap.size, o, none⟩ = _ := fun o => World.cell?_of_block (a := ⟨w.heap.size, o, none⟩) (X1.block w.heap.size (by simp) (fun q => by have := (hAB1 _ q).2; omega))
  have hf1 : ∀ o, w1.frozen? ⟨w.heap.size, o, none⟩ = _ := fun o => World.frozen?_of_block (a := ⟨w.heap.size, o, none⟩) (X1.block w.heap.size (by simp) (fun q => by have := (hAB1 _ q).2; omega))
  simp [go_sem] at hc1
  clear hA1 hAB1 bk1 P1 X1
  have OF := Lib.hid (Rep.own.wide (T := S) O1x (fun j hj => hj.1)); have TF := Lib.hid T1x
  clear ha hl
  go_wp2
  go_ret
  exact ⟨rfl, OF.out, TF.out⟩
end Go.Proofs.Ytdgncogfmchhmaa

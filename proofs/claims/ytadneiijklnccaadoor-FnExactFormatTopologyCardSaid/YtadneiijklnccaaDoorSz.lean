/-
  The laws' measures of size: what they let pass is bounded. Printed by gensz.py.
-/
import Derived.Test.YtadneiijklnccaaDoorProg
import Derived.Test.YtadneiijklnccaaDoorTypes
import Derived.WalkKit
import Derived.WalkSpells
import Derived.WalkLawsBesides
import Derived.BigQuiet
import Derived.Deep.QuietTactic
import Derived.StillTailTactics
namespace Go.Proofs.YtadneiijklnccaaDoor
open Go.RowKit
set_option linter.unusedVariables false
def SzPost (bd : Prop) (left : Int) (w : World) (e : Ending) (w' : World) : Prop := ∃ r : Int, e = .returned (.int .i64 r) ∧ -1 ≤ r ∧ r ≤ left ∧ (0 ≤ r → bd) ∧ Below w.heap.size w w'
theorem sz_minus {bd : Prop} {left : Int} {w w' : World} (hl : 0 ≤ left) (h : Below w.heap.size w w') : SzPost bd left w (.returned (.int .i64 (-1))) w' := ⟨-1, rfl, by omega, by omega, by omega, h⟩
set_option maxRecDepth 100000 in
set_option maxHeartbeats 400000 in
theorem szLinkS_c {w : World} {va : Value} {x : List LLink} {left : Int} (ha : (Rep.slice 43 RLink).raw w [va] x) (hl0 : 0 ≤ left) (hl1 : left ≤ 1048576) :
    Calls Tryd.prog 15 #[va, .int .i64 left] w (SzPost ((Rep.slice 43 RLink).bdd 1048576 x) left w) := by
  obtain ⟨aa, capa, hva, la⟩ := Rep.len_raw ha; obtain rfl : va = _ := by simpa using hva
  clear hva
  go_enter Tryd.func15, Tryd.ntmps15
  by_cases hb : left < (x.length : Int)
  · have hb1 : left - (x.length : Int) < 0 := by omega
    have hb2 : -9223372036854775808 ≤ left - (x.length : Int) := by omega
    go_wp2
    go_ret
    exact sz_minus hl0 (Below.refl _ _)
  · have hb1 : 0 ≤ left - (x.length : Int) := by omega
    have hb2 : ¬ left - (x.length : Int) < 0 := by omega
    go_wp2
    go_ret
    exact ⟨_, rfl, by omega, by omega, fun _ => ⟨by omega, fun _ _ => by first | trivial | exact ⟨trivial, trivial⟩ | exact ⟨trivial, trivial, trivial⟩ | exact ⟨trivial, trivial, trivial, trivial⟩⟩, Below.refl _ _⟩
set_option maxRecDepth 100000 in
set_option maxHeartbeats 400000 in
theorem szTopology_c {w : World} {ca : List Value} {x : LTopology} {left : Int} (ha : RTopology.raw w ca x) (hl0 : 0 ≤ left) (hl1 : left ≤ 1048576) :
    Calls Tryd.prog 5 #[.agg ca.toArray, .int .i64 left] w (SzPost (RTopology.bdd 1048576 x) left w) := by
  obtain ⟨av0, rfl, a_0, a_1⟩ := RTopology_raw ha
  obtain ⟨x0, x1⟩ := x
  clear ha a_0
  go_enter Tryd.func5, Tryd.ntmps5
  go_wp2_with fail
  refine (szLinkS_c (a_1.alloc _) hl0 hl1).mono ?_
  rintro e w1 ⟨r1, rfl, p1, q1, s1, hb1⟩
  have S1 := Lib.hid s1; clear s1
  have D1 := hb1
  have E1 : Below w.heap.size w w1 := ((Below.refl _ _).alloc (Nat.le_refl _) _).trans (hb1.mono (by simp))
  obtain ⟨hc1, hf1⟩ := bcell D1; clear hb1
  by_cases m1 : r1 < 0
  · go_wp2
    go_ret
    exact sz_minus hl0 E1
  have n1 : 0 ≤ r1 := by omega
  go_wp2
  go_ret
  exact ⟨_, rfl, by omega, by omega, fun _ => ⟨trivial, S1.out n1⟩, E1⟩
end Go.Proofs.YtadneiijklnccaaDoor

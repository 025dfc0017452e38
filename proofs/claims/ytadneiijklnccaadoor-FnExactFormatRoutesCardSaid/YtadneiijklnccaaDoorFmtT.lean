/-
  A topology, written as text.
-/
import Derived.Test.YtadneiijklnccaaDoorFInt
import Derived.Test.YtadneiijklnccaaDoorShelf
import Derived.Test.YtadneiijklnccaaDoorTypes
import Derived.Test.YtadneiijklnccaaDoorProg
import Derived.WalkKit
import Derived.WalkSpells
import Derived.WalkLawsBesides
import Derived.BigQuiet
import Derived.Deep.QuietTactic
import Derived.StillTailTactics
import Derived.Test.YtadneiijklnccaaDoorSoft2
import Derived.IntWalk
import Derived.Deep.Cut
import Derived.Lib.AppendIntMem
namespace Go.Proofs.YtadneiijklnccaaDoor
open Go.RowKit
set_option linter.unusedVariables false
set_option linter.unusedSimpArgs false
set_option linter.unnecessarySimpa false
theorem grow_below (w : World) (q : Nat) (os : Array Obj) : Below w.heap.size w (Sort.grow (w.drewN q) os) :=
  ⟨rfl, rfl, rfl, by simp [Sort.grow], fun k hk => by simp [Sort.grow, Array.getElem?_append, hk]⟩
def TabW (P : Program) (w : World) : Prop := Lib.TabIs P w "internal/strconv.uint64pow10" .u64 Lib.pow10Tab
theorem TabW.below {P : Program} {w w' : World} (h : TabW P w) (hb : Below w.heap.size w w') : TabW P w' := Lib.tabBelow_of_tabIs h w' hb
theorem implFormatInt_c {w : World} {n : Int} (hn : -9223372036854775808 ≤ n ∧ n ≤ 9223372036854775807) (ht : TabW Tryd.prog w) :
    Calls Tryd.prog 18 #[.int .i64 n] w fun e w' => e = .returned (.string (itoaB n)) ∧ Below w.heap.size w w' := by
  have HT := Lib.hid (Tryd.strconv_Itoa n hn.1 hn.2 w ht)
  clear ht
  go_enter Tryd.func18, Tryd.ntmps18
  go_wp2_with fail
  refine (HT.out).mono ?_
  rintro e w1 ⟨rfl, k, os, hw⟩
  have HB : Below w.heap.size w w1 := hw ▸ grow_below w k os
  clear hw
  go_wp2
  go_ret
  exact ⟨rfl, HB⟩
end Go.Proofs.YtadneiijklnccaaDoor

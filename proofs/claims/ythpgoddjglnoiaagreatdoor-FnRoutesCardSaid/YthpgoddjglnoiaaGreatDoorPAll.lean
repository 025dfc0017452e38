/-
  Plain facts on tests of all elements and on the first that is hit.
-/
import Derived.Test.YthpgoddjglnoiaaGreatDoorLib
import Derived.Test.YthpgoddjglnoiaaGreatDoorSoft
set_option linter.unusedVariables false
set_option linter.unusedSimpArgs false
set_option linter.unnecessarySimpa false
namespace Go.Proofs.YthpgoddjglnoiaaGreatDoor
theorem allB_iff {f:Nat→Bool}:∀ {n:Nat},yV f n=true↔∀ j,j < n→f j=true
  | 0=>by simp [yV]
  | n + 1=>by
    rw [yV,Bool.and_eq_true,allB_iff]
    constructor
    · rintro ⟨h,k⟩ j hj
      by_cases e:j=n
      · rw [e];exact k
      · exact h j fV
    · intro h;exact ⟨fun j hj=>h j fV,h n fV⟩
theorem idxOf_neg {α:Type} {p:α→Bool} {x:List α}:idxOf p x < 0↔∀ y∈x,p y=false:=by
 unfold idxOf
 cases h:x.findIdx? p with
 | none=>simp [List.findIdx?_eq_none_iff.1 h];exact List.findIdx?_eq_none_iff.1 h
 | some i =>
   obtain ⟨hi,hp,_⟩:=List.findIdx?_eq_some_iff_getElem.1 h
   constructor
   · intro q;simp at q;omega
   · intro q;rw [q _ (List.getElem_mem hi)] at hp;cases hp
end Go.Proofs.YthpgoddjglnoiaaGreatDoor

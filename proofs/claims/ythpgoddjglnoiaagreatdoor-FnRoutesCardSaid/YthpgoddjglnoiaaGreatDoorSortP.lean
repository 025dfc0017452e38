/-
  The stable sort: the merge in place, its plain steps.
-/
import Derived.Test.YthpgoddjglnoiaaGreatDoorSortA
import Derived.Deep.CutRange
set_option linter.unusedVariables false
set_option linter.unusedSimpArgs false
set_option linter.unnecessarySimpa false
namespace Go.Proofs.YthpgoddjglnoiaaGreatDoor
open Go.RowKit
theorem jE {key:kD→Int} {g:FuncId} {cp:Array Value} {S:Nat→Prop} {w w':World} (h:jZ key g cp S w) (t:Touch S w w'):jZ key g cp S w':=fun wr tw=>h wr (t.trans tw)
theorem bs_yes {p:Nat→Bool} {i j h:Nat} (hij:i < j) (hh:(i + j) / 2=h) (q:p h=true):Srt.bs p i j=Srt.bs p (h + 1) j:=by
 subst hh;rw [Srt.bs,dif_pos hij,if_pos q]
theorem bs_no {p:Nat→Bool} {i j h:Nat} (hij:i < j) (hh:(i + j) / 2=h) (q:p h=false):Srt.bs p i j=Srt.bs p i h:=by
 subst hh;rw [Srt.bs,dif_pos hij,if_neg (by rw [q];exact Bool.false_ne_true)]
theorem bs_end {p:Nat→Bool} {i j:Nat} (hij:¬ i < j):Srt.bs p i j=i:=by rw [Srt.bs,dif_neg hij]
theorem up_next {α:Type} {k t:Nat} {cu:List α} (h:k < t):Srt.up (t - k) k cu=Srt.up (t - (k + 1)) (k + 1) (Srt.sw cu k (k + 1)):=by
 rw [show t - k=(t - (k + 1)) + 1 by omega,Srt.up]
theorem up_end {α:Type} {k t:Nat} {cu:List α} (h:¬ k < t):Srt.up (t - k) k cu=cu:=by rw [show t - k=0 by omega,Srt.up]
theorem down_next {α:Type} {i k j:Nat} {cu:List α} (hk:k + 1=j) (h:i < j):Srt.down i j cu=Srt.down i k (Srt.sw cu j k):=by
 subst hk;rw [Srt.down,if_pos h]
theorem down_end {α:Type} {i j:Nat} {cu:List α} (h:¬ i < j):Srt.down i j cu=cu:=by
 cases j with
 | zero=>rfl
 | succ j=>rw [Srt.down,if_neg h]
theorem symm_A {α:Type} {key:α→Int} {f a m z:Nat} {xs:List α} (h:m - a=1):Srt.symm key (f + 1) a m z xs=Srt.up (Srt.bs (fun h=>decide (Srt.kAt key xs h < Srt.kAt key xs a)) m z - 1 - a) a xs:=by
 rw [Srt.symm,if_pos h]
theorem symm_B {α:Type} {key:α→Int} {f a m z:Nat} {xs:List α} (h:¬ m - a=1) (h2:z - m=1):Srt.symm key (f + 1) a m z xs=Srt.down (Srt.bs (fun h=>!decide (Srt.kAt key xs m < Srt.kAt key xs h)) a m) m xs:=by
 rw [Srt.symm,if_neg h,if_pos h2]
theorem symm_C {α:Type} {key:α→Int} {f a m z mid N s e:Nat} {xs y u:List α} (h:¬ m - a=1) (h2:¬ z - m=1) (hmid:(a + z) / 2=mid) (hN:mid + m=N)
    (hs:s=Srt.bs (fun c=>!decide (Srt.kAt key xs (N - 1 - c) < Srt.kAt key xs c)) (if mid < m then N - z else a) (if mid < m then mid else m)) (he:N - s=e)
    (hy:y=if s < m∧m < e then Srt.rot m (m - s) (e - m) xs else xs) (hu:u=if a < s∧s < mid then Srt.symm key f a s mid y else y) :
    Srt.symm key (f + 1) a m z xs=if mid < e∧e < z then Srt.symm key f mid e z u else u:=by
 rw [Srt.symm,if_neg h,if_neg h2]
 simp only
 rw [hmid,hN,← hs,he,← hy,← hu]
end Go.Proofs.YthpgoddjglnoiaaGreatDoor

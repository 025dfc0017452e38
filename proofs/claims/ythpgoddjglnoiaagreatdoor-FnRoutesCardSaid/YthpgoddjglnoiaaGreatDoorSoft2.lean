/-
  Regions with a head in another order than the text's, then a tail in sequence. No program in sight.
-/
import Derived.Test.YthpgoddjglnoiaaGreatDoorSoft
set_option linter.unusedVariables false
set_option linter.unusedSimpArgs false
set_option linter.unnecessarySimpa false
namespace Go.Proofs.YthpgoddjglnoiaaGreatDoor
open Go
section
variable {P:Program} {ops:Array Oper} {S:World→Prop} {Q:Exit→Act→World→Prop}
def yI (md:Region.Mode) (ops:Array Oper) (n g:Nat):List (Nat × Bool)→Array Bool→Bool
  | [],listed=>Region.seqB md ops g n listed
  | (k,true) :: p,listed=>(Region.ready md ops listed).contains k && Region.free md ops listed k && yI md ops n g p (listed.setIfInBounds k true)
  | (k,false) :: p,listed=>(Region.ready md ops listed==[k]) && yI md ops n g p (listed.setIfInBounds k true)
def softTPOk (md:Region.Mode) (ops:Array Oper) (q:List (Nat × Bool)):Bool :=
  Region.noSelect ops && (decide (q.length < ops.size) && (q.all (fun x=>decide (x.1 < q.length)) && (Region.sinkB md ops q.length && (Region.chainB md ops q.length && yI md ops q.length (ops.size - q.length) q (Array.replicate ops.size false)))))
theorem zz {l:List Oper} {n g:Nat} (hsel:Region.noSelect l.toArray=true) (hQ:∀ c a d v w,Q (.panic c) (Act.put a d v) w→Q (.panic c) a w)
    (hs:Region.sinkB .any l.toArray n=true) (hc:Region.chainB .any l.toArray n=true) (hn:n < l.toArray.size) (hg:n + g=l.length):∀ (q:List (Nat × Bool)) (k:Nat) (listed:Array Bool) (a:Act) (w:World),
    q.all (fun x=>decide (x.1 < n))=true→HeadInv .any l.toArray n listed→yI .any l.toArray n g q listed=true→S w→yB P l.toArray S Q k (kK l q++l.drop n) (q.map (·.2)) a w →
    jo P .any l.toArray Q S n (fun listed a w=>Region.seqB .any l.toArray g n listed=true∧∃ r,(∀ j,r[j]?=l.toArray[n + j]?)∧r.length=g∧wpList P l.toArray Q r a w) q.length listed a w
  | [],k,listed,a,w,_,inv,hB,hS,h=>by
    refine ⟨by simpa [yI] using hB,l.drop n,fun j=>by simp [List.getElem?_drop],by simp;omega,?_⟩
    simp only [kK,List.nil_append,List.map_nil] at h
    generalize l.drop n=r at h ⊢
    cases r <;> exact h
  | (i,true) :: q,k,listed,a,w,hi,inv,hB,hS,h=>by
    simp only [List.all_cons,Bool.and_eq_true,decide_eq_true_eq] at hi
    have hil:i < l.toArray.size:=Nat.lt_trans hi.1 hn
    have h0:l.toArray[i]?=some l.toArray[i]:=Array.getElem?_eq_getElem hil
    have hp:kK l ((i,true) :: q)=l.toArray[i] :: kK l q:=by
      have:l[i]?=some l.toArray[i]:=by simp
      simp only [kK,this]
    rw [hp] at h
    obtain ⟨v,hy,h⟩:=h
    simp only [yI,Bool.and_eq_true] at hB
    have hr:i∈Region.ready .any l.toArray listed:=dX
    exact kCj h0 (Region.noSelect_spec hsel) (fun c a w=>hQ c a _ _ w) hs hc hn hi.1 (fun listed' a' w' hL=>seqB_ready hL.1) q.length listed a w inv (Region.free_spec h0 hB.1.2) hr hy hS
      (zz hsel hQ hs hc hn hg q (k + 1) _ _ _ hi.2 (inv.set hr hi.1) hB.2 hS h)
  | (i,false) :: q,k,listed,a,w,hi,inv,hB,hS,h=>by
    simp only [List.all_cons,Bool.and_eq_true,decide_eq_true_eq] at hi
    have hil:i < l.toArray.size:=Nat.lt_trans hi.1 hn
    have h0:l.toArray[i]?=some l.toArray[i]:=Array.getElem?_eq_getElem hil
    have hp:kK l ((i,false) :: q)=l.toArray[i] :: kK l q:=by
      have:l[i]?=some l.toArray[i]:=by simp
      simp only [kK,this]
    rw [hp] at h
    simp only [yI,Bool.and_eq_true,beq_iff_eq] at hB
    have hr:i∈Region.ready .any l.toArray listed:=by rw [hB.1];simp
    refine ⟨by rw [hB.1];simp,fun j hj=>?_⟩
    rw [hB.1] at hj
    obtain rfl:j=i:=fD
    refine ⟨hi.1,?_⟩
    refine wpOp_mono (fun a' w' h'=>⟨h'.1,zz hsel hQ hs hc hn hg q (k + 1) _ _ _ hi.2 (inv.set hr hi.1) hB.2 h'.1 h'.2⟩) (K:=fun a' w'=>S w'∧yB P l.toArray S Q (k + 1) (kK l q++l.drop n) (q.map (·.2)) a' w') ?_
    unfold wpOp
    simp only [h0]
    exact h
theorem jh {id:Nat} {a:Act} {w:World} {l:List Oper} (S:World→Prop) (q:List (Nat × Bool)) (hm:P.follows .mixedOrders=true) (hB:softTPOk .any l.toArray q=true)
    (hQ:∀ c a d v w,Q (.panic c) (Act.put a d v) w→Q (.panic c) a w) (hS:S { w with drawn:=w.drawn + 1 })
    (h:∀ w',S w'→soft P l.toArray S Q 0 (kK l q++l.drop q.length) (q.map (·.2)) a w'):(Code.region id l.toArray true).wp P Q a w:=by
 simp only [softTPOk,Bool.and_eq_true,decide_eq_true_eq] at hB
 have h:=h _ hS
 unfold soft at h
 have hsz:l.toArray.size=l.length:=fZ
 have inv0:HeadInv .any l.toArray q.length (Array.replicate l.toArray.size false) :=
   ⟨by simp,fun j oj _ hl=>bQ,fun t _ ht=>getD_in (by simpa using ht) (getD_replicate_false _ _)⟩
 have H:=zz (g:=l.toArray.size - q.length) hB.1 hQ hB.2.2.2.1 hB.2.2.2.2.1 hB.2.1 (by have:=hB.2.1;omega) q 0 _ a _ hB.2.2.1 inv0 hB.2.2.2.2.2 hS h
 refine wp_region_any hm ?_
 have:=ji (Q:=Q) (g:=l.toArray.size - q.length) (fun listed a' w' hL=>by
   obtain ⟨hq,l',ho,hl',hw⟩:=hL
   have:=wpAny_of_seq (md:=.any) (Q':=Q) l' q.length listed a' w' ho (by rw [hl'];exact hq) hw
   rwa [hl'] at this) _ _ _ _ H
 rw [show q.length + (l.toArray.size - q.length)=l.toArray.size by have:=hB.2.1;omega] at this
 exact this
end
end Go.Proofs.YthpgoddjglnoiaaGreatDoor

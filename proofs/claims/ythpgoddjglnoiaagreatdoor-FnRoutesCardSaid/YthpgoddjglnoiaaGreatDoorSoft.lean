/-
  A region that draws its order, walked in the order of its text: operations that only read are taken first; at each other operation it alone may come up. No program in sight.
-/
import Derived.Test.YthpgoddjglnoiaaGreatDoorAli
import Derived.OrdersHeld
import Derived.StillTail
import Derived.WalkKit
set_option linter.unusedVariables false
set_option linter.unusedSimpArgs false
set_option linter.unnecessarySimpa false
namespace Go.Proofs.YthpgoddjglnoiaaGreatDoor
open Go Go.RowKit
def kGl (md:Region.Mode) (ops:Array Oper):Nat→List Bool→Array Bool→Bool
  | _,[],listed=>(Region.ready md ops listed).isEmpty
  | k,true :: p,listed=>(Region.ready md ops listed).contains k && Region.free md ops listed k && kGl md ops (k + 1) p (listed.setIfInBounds k true)
  | k,false :: p,listed=>(Region.ready md ops listed==[k]) && kGl md ops (k + 1) p (listed.setIfInBounds k true)
def softOk (md:Region.Mode) (ops:Array Oper) (p:List Bool):Bool:=Region.noSelect ops && (p.length==ops.size && kGl md ops 0 p (Array.replicate ops.size false))
section
variable {P:Program} {ops:Array Oper} {S:World→Prop} {Q:Exit→Act→World→Prop}
def yB (P:Program) (ops:Array Oper) (S:World→Prop) (Q:Exit→Act→World→Prop):Nat→List Oper→List Bool→Act→World→Prop
  | k,o :: l,true :: p,a,w=>∃ v,YieldsIf P ops S o v a∧yB P ops S Q (k + 1) l p (a.put o.dst v) w
  | k,o :: l,false :: p,a,w=>if Region.wanted o (yielded ops a.tmps) then o.wp P a w (fun a' w'=>S w'∧yB P ops S Q (k + 1) l p a' w') Q∨(o.asks P a w∧LetsOut Q) else S w∧yB P ops S Q (k + 1) l p (a.put o.dst undef) w
  | _,l,_,a,w=>wpList P ops Q l a w
@[irreducible] def soft (P:Program) (ops:Array Oper) (S:World→Prop) (Q:Exit→Act→World→Prop) (k:Nat) (l:List Oper) (p:List Bool) (a:Act) (w:World):Prop:=yB P ops S Q k l p a w
theorem kBq (hs:Region.noSelect ops=true) (hQ:∀ c a d v w,Q (.panic c) (Act.put a d v) w→Q (.panic c) a w):∀ (p:List Bool) (l:List Oper) (k:Nat) (fuel:Nat) (listed:Array Bool) (a:Act) (w:World),
    l.length=p.length→(∀ j,l[j]?=ops[k + j]?)→p.length≤fuel→kGl .any ops k p listed=true→S w→yB P ops S Q k l p a w→wpAnyH P .any ops Q S fuel listed a w
  | [],[],k,fuel,listed,a,w,_,_,_,hB,_,h=>wpAnyH_done (by simpa [kGl] using hB) (by simpa [yB,wpList] using h) fuel
  | [],o :: l,k,fuel,listed,a,w,hl,_,_,hB,_,h=>by simp at hl
  | b :: p,[],k,fuel,listed,a,w,hl,_,_,hB,_,h=>by simp at hl
  | b :: p,o :: l,k,0,listed,a,w,hl,_,hf,hB,_,h=>by simp at hf
  | true :: p,o :: l,k,fuel + 1,listed,a,w,hl,ho,hf,hB,hS,h=>by
    obtain ⟨v,hy,h⟩:=h
    simp only [kGl,Bool.and_eq_true] at hB
    have h0:ops[k]?=some o:=dP
    exact wpAnyH_take h0 hs hB.1.2 hB.1.1 (fun c a w=>hQ c a _ _ w) hy hS (kBq hs hQ p l (k + 1) fuel _ _ _ fE (fun j=>by have:=ho (j + 1);simpa [Nat.add_assoc,Nat.add_comm 1 j] using this) fJ hB.2 hS h)
  | false :: p,o :: l,k,fuel + 1,listed,a,w,hl,ho,hf,hB,hS,h=>by
    simp only [kGl,Bool.and_eq_true,beq_iff_eq] at hB
    have h0:ops[k]?=some o:=dP
    refine wpAnyH_all hB.1 fZ ?_
    intro j hj
    obtain rfl:j=k:=fD
    have go:∀ a' w',S w'∧yB P ops S Q (j + 1) l p a' w'→S w'∧wpAnyH P .any ops Q S fuel (listed.setIfInBounds j true) a' w':=fun a' w' h' =>
      ⟨h'.1,kBq hs hQ p l (j + 1) fuel _ _ _ fE (fun i=>by have:=ho (i + 1);simpa [Nat.add_assoc,Nat.add_comm 1 i] using this) fJ hB.2 h'.1 h'.2⟩
    refine wpOp_mono go ?_
    unfold wpOp
    simp only [h0]
    exact h
theorem kI {id:Nat} {a:Act} {w:World} {l:List Oper} (S:World→Prop) (p:List Bool) (hm:P.follows .mixedOrders=true) (hB:softOk .any l.toArray p=true)
    (hQ:∀ c a d v w,Q (.panic c) (Act.put a d v) w→Q (.panic c) a w) (hS:S { w with drawn:=w.drawn + 1 })
    (h:∀ w',S w'→soft P l.toArray S Q 0 l p a w'):(Code.region id l.toArray true).wp P Q a w:=by
 simp only [softOk,Bool.and_eq_true,beq_iff_eq] at hB
 have h:=h _ hS
 unfold soft at h
 exact wp_region_held (S:=S) hm (kBq hB.1 hQ p l 0 _ _ a _ (by simpa using hB.2.1.symm) (fun j=>by simp) (by rw [hB.2.1];exact Nat.le_refl _) hB.2.2 hS h)
def jo (P:Program) (md:Region.Mode) (ops:Array Oper) (Q:Exit→Act→World→Prop) (S:World→Prop) (n:Nat) (L:Array Bool→Act→World→Prop):Nat→Array Bool→Act→World→Prop
  | 0,listed,a,w=>L listed a w
  | f + 1,listed,a,w =>
    Region.ready md ops listed≠[]∧∀ i∈Region.ready md ops listed,i < n∧wpOp P ops Q i (fun a' w'=>S w'∧jo P md ops Q S n L f (listed.setIfInBounds i true) a' w') a w
theorem ji {md:Region.Mode} {n g:Nat} {L:Array Bool→Act→World→Prop} (hL:∀ listed a w,L listed a w→wpAny P md ops Q g listed a w) :
    ∀ (f:Nat) (listed:Array Bool) (a:Act) (w:World),jo P md ops Q S n L f listed a w→wpAny P md ops Q (f + g) listed a w
  | 0,listed,a,w,h=>by rw [Nat.zero_add];exact hL _ _ _ h
  | f + 1,listed,a,w,h=>by
    rw [show f + 1 + g=(f + g) + 1 by omega]
    exact ⟨fun h0=>absurd h0 h.1,fun i hi=>wpOp_mono (fun a' w' h'=>ji hL f _ a' w' h'.2) (h.2 i hi).2⟩
theorem kCj {md:Region.Mode} {n i:Nat} {oi:Oper} {v:Value} {L:Array Bool→Act→World→Prop} (hi:ops[i]?=some oi) (hsel:∀ (j:Nat) (o:Oper) cs b,ops[j]?=some o→o.op≠.select cs b)
    (hQ:∀ c a w,Q (.panic c) (a.put oi.dst v) w→Q (.panic c) a w)
    (hs:Region.sinkB md ops n=true) (hc:Region.chainB md ops n=true) (hn:n < ops.size) (hin:i < n)
    (hdone:∀ listed a w,L listed a w→∀ j∈Region.ready md ops listed,n≤j) :
    ∀ (f:Nat) (listed:Array Bool) (a:Act) (w:World),HeadInv md ops n listed →
      (∀ j oj,ops[j]?=some oj→j≠i→listed.getD j true=false→(∀ e∈oj.after,Region.binds md e=true→e.on≠i)→oi.apart ops oj=true) →
      i∈Region.ready md ops listed→YieldsIf P ops S oi v a→S w →
      jo P md ops Q S n L f (listed.setIfInBounds i true) (a.put oi.dst v) w→jo P md ops Q S n L (f + 1) listed a w:=by
 intro f
 induction f with
 | zero =>
   intro listed a w inv _ hr hy hS H
   have hun:=(mem_ready.1 hr).1
   refine ⟨fun h=>dQ,fun j hj=>?_⟩
   have hjn:j < n:=by
     rcases Nat.lt_or_ge j n with h | h
     · exact h
     · exact absurd hj (tail_waits hs hc hn inv _ i rfl hin hun j h)
   refine ⟨hjn,?_⟩
   by_cases hji:j=i
   · subst hji;exact hy.wpOp hi hS ⟨hS,H⟩
   · have:=hdone _ _ _ H j (ready_mono hj hji)
     omega
 | succ f ih =>
   intro listed a w inv hfree hr hy hS H
   have hun:=(mem_ready.1 hr).1
   refine ⟨fun h=>dQ,fun j hj=>?_⟩
   have hjn:j < n:=by
     rcases Nat.lt_or_ge j n with h | h
     · exact h
     · exact absurd hj (tail_waits hs hc hn inv _ i rfl hin hun j h)
   refine ⟨hjn,?_⟩
   by_cases hji:j=i
   · subst hji;exact hy.wpOp hi hS ⟨hS,H⟩
   · have h1:=(H.2 j (ready_mono hj hji)).2
     obtain ⟨hjun,oj,hoj,hall⟩:=mem_ready.1 hj
     have hnot:∀ e∈oj.after,Region.binds md e=true→e.on≠i:=fun e he hb heq=>by
       have h1:=hall e he hb
       rw [heq,getD_both hun] at h1
       cases h1
     have h2:=wpOp_putIf hoj (hfree j oj hoj hji hjun hnot) (fun cs b=>hsel i oi cs b hi) (fun cs b=>hsel j oj cs b hoj) hQ hy h1
     have hfree':∀ k ok,ops[k]?=some ok→k≠i→(listed.setIfInBounds j true).getD k true=false →
         (∀ e∈ok.after,Region.binds md e=true→e.on≠i)→oi.apart ops ok=true:=fun k ok hk hki hun hno=>by
       refine hfree k ok hk hki ?_ hno
       by_cases hjk:j=k
       · subst hjk;exact hjun
       · rw [getD_set_ne true hjk] at hun;exact hun
     refine wpOp_mono (fun a' w' h3=>⟨h3.2.1,ih (listed.setIfInBounds j true) a' w' (inv.set hj hjn) hfree' (ready_mono hr (Ne.symm hji)) h3.1 h3.2.1 ?_⟩) h2
     rw [Array.setIfInBounds_comm _ _ hji]
     exact h3.2.2
def kCv (md:Region.Mode) (ops:Array Oper) (g:Nat):Nat→List Bool→Array Bool→Bool
  | k,[],listed=>Region.seqB md ops g k listed
  | k,true :: p,listed=>(Region.ready md ops listed).contains k && Region.free md ops listed k && kCv md ops g (k + 1) p (listed.setIfInBounds k true)
  | k,false :: p,listed=>(Region.ready md ops listed==[k]) && kCv md ops g (k + 1) p (listed.setIfInBounds k true)
def softTOk (md:Region.Mode) (ops:Array Oper) (p:List Bool):Bool :=
  Region.noSelect ops && (decide (p.length < ops.size) && (Region.sinkB md ops p.length && (Region.chainB md ops p.length && kCv md ops (ops.size - p.length) 0 p (Array.replicate ops.size false))))
theorem kAy {n g:Nat} (hsel:Region.noSelect ops=true) (hQ:∀ c a d v w,Q (.panic c) (Act.put a d v) w→Q (.panic c) a w)
    (hs:Region.sinkB .any ops n=true) (hc:Region.chainB .any ops n=true) (hn:n < ops.size):∀ (p:List Bool) (l:List Oper) (k:Nat) (listed:Array Bool) (a:Act) (w:World),
    k + p.length=n→(∀ j,l[j]?=ops[k + j]?)→HeadInv .any ops n listed→kCv .any ops g k p listed=true→l.length=p.length + g→S w→yB P ops S Q k l p a w →
    jo P .any ops Q S n (fun listed a w=>Region.seqB .any ops g n listed=true∧∃ l,(∀ j,l[j]?=ops[n + j]?)∧l.length=g∧wpList P ops Q l a w) p.length listed a w
  | [],l,k,listed,a,w,hk,ho,inv,hB,hl,hS,h=>by
    obtain rfl:k=n:=by simpa using hk
    refine ⟨by simpa [kCv] using hB,l,ho,by simpa using hl,?_⟩
    cases l <;> exact h
  | b :: p,[],k,listed,a,w,hk,ho,inv,hB,hl,hS,h=>by simp at hl;omega
  | true :: p,o :: l,k,listed,a,w,hk,ho,inv,hB,hl,hS,h=>by
    obtain ⟨v,hy,h⟩:=h
    simp only [kCv,Bool.and_eq_true] at hB
    have h0:ops[k]?=some o:=dP
    have hr:k∈Region.ready .any ops listed:=dX
    have hkn:k < n:=by simp at hk;omega
    exact kCj h0 (Region.noSelect_spec hsel) (fun c a w=>hQ c a _ _ w) hs hc hn hkn (fun listed' a' w' hL=>seqB_ready hL.1) p.length listed a w inv (Region.free_spec h0 hB.1.2) hr hy hS
      (kAy hsel hQ hs hc hn p l (k + 1) _ _ _ (by simp at hk;omega) (fun j=>by have:=ho (j + 1);simpa [Nat.add_assoc,Nat.add_comm 1 j] using this) (inv.set hr hkn) hB.2 (by simp at hl;omega) hS h)
  | false :: p,o :: l,k,listed,a,w,hk,ho,inv,hB,hl,hS,h=>by
    simp only [kCv,Bool.and_eq_true,beq_iff_eq] at hB
    have h0:ops[k]?=some o:=dP
    have hr:k∈Region.ready .any ops listed:=by rw [hB.1];simp
    have hkn:k < n:=by simp at hk;omega
    refine ⟨by rw [hB.1];simp,fun j hj=>?_⟩
    rw [hB.1] at hj
    obtain rfl:j=k:=fD
    refine ⟨hkn,?_⟩
    have go:∀ a' w',S w'∧yB P ops S Q (j + 1) l p a' w'→S w'∧jo P .any ops Q S n (fun listed a w=>Region.seqB .any ops g n listed=true∧∃ l,(∀ j,l[j]?=ops[n + j]?)∧l.length=g∧wpList P ops Q l a w) p.length (listed.setIfInBounds j true) a' w':=fun a' w' h' =>
      ⟨h'.1,kAy hsel hQ hs hc hn p l (j + 1) _ _ _ (by simp at hk;omega) (fun i=>by have:=ho (i + 1);simpa [Nat.add_assoc,Nat.add_comm 1 i] using this) (inv.set hr hkn) hB.2 (by simp at hl;omega) h'.1 h'.2⟩
    refine wpOp_mono go ?_
    unfold wpOp
    simp only [h0]
    exact h
theorem jS {id:Nat} {a:Act} {w:World} {l:List Oper} (S:World→Prop) (p:List Bool) (hm:P.follows .mixedOrders=true) (hB:softTOk .any l.toArray p=true)
    (hQ:∀ c a d v w,Q (.panic c) (Act.put a d v) w→Q (.panic c) a w) (hS:S { w with drawn:=w.drawn + 1 })
    (h:∀ w',S w'→soft P l.toArray S Q 0 l p a w'):(Code.region id l.toArray true).wp P Q a w:=by
 simp only [softTOk,Bool.and_eq_true,decide_eq_true_eq] at hB
 have h:=h _ hS
 unfold soft at h
 have hsz:l.toArray.size=l.length:=fZ
 have inv0:HeadInv .any l.toArray p.length (Array.replicate l.toArray.size false) :=
   ⟨by simp,fun j oj _ hl=>bQ,fun t _ ht=>getD_in (by simpa using ht) (getD_replicate_false _ _)⟩
 have H:=kAy (g:=l.toArray.size - p.length) hB.1 hQ hB.2.2.1 hB.2.2.2.1 hB.2.1 p l 0 _ a _ fZ (fun j=>by simp) inv0 hB.2.2.2.2 (by have:=hB.2.1;omega) hS h
 refine wp_region_any hm ?_
 have:=ji (Q:=Q) (g:=l.toArray.size - p.length) (fun listed a' w' hL=>by
   obtain ⟨hq,l',ho,hl',hw⟩:=hL
   have:=wpAny_of_seq (md:=.any) (Q':=Q) l' p.length listed a' w' ho (by rw [hl'];exact hq) hw
   rwa [hl'] at this) _ _ _ _ H
 rw [show p.length + (l.toArray.size - p.length)=l.toArray.size by have:=hB.2.1;omega] at this
 exact this
theorem zM:∀ (p:List Bool) (l:List Oper) (k:Nat) (a:Act) (w:World),S w→yB P ops S Q k l p a w→wpList P ops Q l a w
  | [],l,k,a,w,_,h=>by cases l <;> exact h
  | b :: p,[],k,a,w,_,h=>by cases b <;> exact h
  | true :: p,o :: l,k,a,w,hS,h=>by
    obtain ⟨v,hy,h⟩:=h
    have:=zM p l (k + 1) _ w hS h
    unfold wpList
    rcases hy with ⟨hw,hv⟩|⟨hw,rfl⟩
    · rw [if_pos hw];left;unfold Oper.wp;rw [hv w hS,Oper.upon_value];exact this
    · rw [if_neg (by rw [hw];exact Bool.false_ne_true)];exact this
  | false :: p,o :: l,k,a,w,hS,h=>by
    unfold wpList
    have h:if Region.wanted o (yielded ops a.tmps) then o.wp P a w (fun a' w'=>S w'∧yB P ops S Q (k + 1) l p a' w') Q∨(o.asks P a w∧LetsOut Q) else S w∧yB P ops S Q (k + 1) l p (a.put o.dst undef) w:=h
    split at h
    · rename_i hw;rw [if_pos hw];exact h.imp (Oper.wp_mono fun a' w' h'=>zM p l (k + 1) a' w' h'.1 h'.2) id
    · rename_i hw;rw [if_neg hw];exact zM p l (k + 1) _ w h.1 h.2
theorem kg {id:Nat} {a:Act} {w:World} {l:List Oper} (S:World→Prop) (p:List Bool) (hS:S w)
    (h:∀ w',S w'→soft P l.toArray S Q 0 l p a w'):(Code.region id l.toArray false).wp P Q a w:=by
 have h:=h _ hS
 unfold soft at h
 exact wp_region_lit (zM p l 0 a w hS h)
def kBb (md:Region.Mode) (ops:Array Oper):List (Nat × Bool)→Array Bool→Bool
  | [],listed=>(Region.ready md ops listed).isEmpty
  | (k,true) :: p,listed=>(Region.ready md ops listed).contains k && Region.free md ops listed k && kBb md ops p (listed.setIfInBounds k true)
  | (k,false) :: p,listed=>(Region.ready md ops listed==[k]) && kBb md ops p (listed.setIfInBounds k true)
def kK (l:List Oper):List (Nat × Bool)→List Oper
  | []=>[]
  | (k,_) :: q=>match l[k]? with
    | some o=>o :: kK l q
    | none=>[]
def softPOk (md:Region.Mode) (ops:Array Oper) (q:List (Nat × Bool)):Bool:=Region.noSelect ops && (decide (q.length≤ops.size) && (q.all (fun x=>decide (x.1 < ops.size)) && kBb md ops q (Array.replicate ops.size false)))
theorem zN {l:List Oper} (hs:Region.noSelect l.toArray=true) (hQ:∀ c a d v w,Q (.panic c) (Act.put a d v) w→Q (.panic c) a w):∀ (q:List (Nat × Bool)) (k:Nat) (fuel:Nat) (listed:Array Bool) (a:Act) (w:World),
    q.all (fun x=>decide (x.1 < l.toArray.size))=true→q.length≤fuel→kBb .any l.toArray q listed=true→S w→yB P l.toArray S Q k (kK l q) (q.map (·.2)) a w→wpAnyH P .any l.toArray Q S fuel listed a w
  | [],k,fuel,listed,a,w,_,_,hB,_,h=>wpAnyH_done (by simpa [kBb] using hB) (by simpa [yB,wpList,kK] using h) fuel
  | (i,b) :: q,k,0,listed,a,w,_,hf,hB,_,h=>by simp at hf
  | (i,true) :: q,k,fuel + 1,listed,a,w,hi,hf,hB,hS,h=>by
    simp only [List.all_cons,Bool.and_eq_true,decide_eq_true_eq] at hi
    have h0:l.toArray[i]?=some l.toArray[i]:=Array.getElem?_eq_getElem hi.1
    have hp:kK l ((i,true) :: q)=l.toArray[i] :: kK l q:=by
      have:l[i]?=some l.toArray[i]:=by simp
      simp only [kK,this]
    rw [hp] at h
    obtain ⟨v,hy,h⟩:=h
    simp only [kBb,Bool.and_eq_true] at hB
    exact wpAnyH_take h0 hs hB.1.2 hB.1.1 (fun c a w=>hQ c a _ _ w) hy hS (zN hs hQ q (k + 1) fuel _ _ _ hi.2 fJ hB.2 hS h)
  | (i,false) :: q,k,fuel + 1,listed,a,w,hi,hf,hB,hS,h=>by
    simp only [List.all_cons,Bool.and_eq_true,decide_eq_true_eq] at hi
    have h0:l.toArray[i]?=some l.toArray[i]:=Array.getElem?_eq_getElem hi.1
    have hp:kK l ((i,false) :: q)=l.toArray[i] :: kK l q:=by
      have:l[i]?=some l.toArray[i]:=by simp
      simp only [kK,this]
    rw [hp] at h
    simp only [kBb,Bool.and_eq_true,beq_iff_eq] at hB
    refine wpAnyH_all hB.1 fZ ?_
    intro j hj
    obtain rfl:j=i:=fD
    have go:∀ a' w',S w'∧yB P l.toArray S Q (k + 1) (kK l q) (q.map (·.2)) a' w'→S w'∧wpAnyH P .any l.toArray Q S fuel (listed.setIfInBounds j true) a' w':=fun a' w' h' =>
      ⟨h'.1,zN hs hQ q (k + 1) fuel _ _ _ hi.2 fJ hB.2 h'.1 h'.2⟩
    refine wpOp_mono go ?_
    unfold wpOp
    simp only [h0]
    exact h
theorem jc {id:Nat} {a:Act} {w:World} {l:List Oper} (S:World→Prop) (q:List (Nat × Bool)) (hm:P.follows .mixedOrders=true) (hB:softPOk .any l.toArray q=true)
    (hQ:∀ c a d v w,Q (.panic c) (Act.put a d v) w→Q (.panic c) a w) (hS:S { w with drawn:=w.drawn + 1 })
    (h:∀ w',S w'→soft P l.toArray S Q 0 (kK l q) (q.map (·.2)) a w'):(Code.region id l.toArray true).wp P Q a w:=by
 simp only [softPOk,Bool.and_eq_true,decide_eq_true_eq] at hB
 have h:=h _ hS
 unfold soft at h
 exact wp_region_held (S:=S) hm (zN hB.1 hQ q 0 _ _ a _ hB.2.2.1 hB.2.1 hB.2.2.2 hS h)
theorem kQ {k:Nat} {a:Act} {w:World} (h:Q .normal a w):soft P ops S Q k [] [] a w:=by unfold soft;exact h
theorem jV {k:Nat} {o:Oper} {l:List Oper} {a:Act} {w:World} (h:wpList P ops Q (o :: l) a w):soft P ops S Q k (o :: l) [] a w:=by unfold soft;exact h
variable {k:Nat} {l:List Oper} {p:List Bool} {a:Act} {w:World} {o:Oper}
theorem kW {v:Value} (hg:Region.wanted o (yielded ops a.tmps)=true)
    (hv:∀ w,S w→(execOp a.eval o).run P w=.ok (.value v) w) (h:soft P ops S Q (k + 1) l p (a.put o.dst v) w):soft P ops S Q k (o :: l) (true :: p) a w:=by
 unfold soft at h ⊢
 exact ⟨v,.inl ⟨hg,hv⟩,h⟩
theorem soft_part {v:Value} {b:Bool} (hg:Region.wanted o (yielded ops a.tmps)=true)
    (hv:∀ w,S w→(execOp a.eval o).run P w=.ok (.value v) w) (hb:v=.bool b) (h:∀ c:Bool,b=c→soft P ops S Q (k + 1) l p (a.put o.dst (.bool c)) w):soft P ops S Q k (o :: l) (true :: p) a w :=
  kW hg hv (hb ▸ h b rfl)
theorem kJ {b:Bool} (hg:Region.wanted o (yielded ops a.tmps)=false)
    (hS:S w) (h:soft P ops S Q (k + 1) l p (a.put o.dst undef) w):soft P ops S Q k (o :: l) (b :: p) a w:=by
 unfold soft at h ⊢
 cases b
 · show if _ then _ else _
   rw [if_neg (by rw [hg];exact Bool.false_ne_true)]
   exact ⟨hS,h⟩
 exact ⟨undef,.inr ⟨hg,rfl⟩,h⟩
theorem jF (hg:Region.wanted o (yielded ops a.tmps)=true)
    (h:∀ K:Act→World→Prop,(∀ a' w',S w'→soft P ops S Q (k + 1) l p a' w'→K a' w')→o.wp P a w K Q):soft P ops S Q k (o :: l) (false :: p) a w:=by
 unfold soft
 show if _ then _ else _
 rw [if_pos hg]
 exact .inl (h _ (fun a' w' h1 h2=>by unfold soft at h2;exact ⟨h1,h2⟩))
end
theorem wkR {p q:Prop} (k:q) (h:Hid q→p:=by intro kq;(first|(refine kJ rfl HS ?_)|(refine kW (v:=?_) rfl (fun W hW=>?_) ?_;rotate_left;(· (try have A:=FX.out W hW);clear hW;go_simp;try with_reducible rfl)));(try simp only [Act.put,zA,zB,zC]);exact kq.out):p:=h (yD k)
theorem wkG {b:Bool} {p:Prop} {q:Bool→Prop} (k:∀ c:Bool,b=c→q c) (h:Hid (∀ c:Bool,b=c→q c)→p:=by intro kq;(refine soft_part (v:=?_) (b:=_) rfl (fun W hW=>?_) ?_ kq.out;rotate_left;(· (try have A:=FX.out W hW);clear hW;go_simp;try with_reducible rfl);(· with_reducible rfl))):p:=h (yD k)
theorem wkB {C p:Prop} {S q:World→Prop} (c:C) (k:∀ W,S W→q W) (h:C→Hid (∀ W,S W→q W)→p:=by intro cq kq;first|(refine kJ rfl HS ?_;(try simp only [Act.put,zA,zB,zC]);exact kq.out _ HS)|(refine jF rfl (fun K hK=>?_);go_simp;refine cq.mono ?_;rintro e wS1 ⟨rfl,hbS⟩;refine hK _ _ (tQ HS hbS) ?_;clear hK K;(try simp only [Act.put,zA,zB,zC]);exact kq.out _ (tQ HS hbS))):p:=h c (yD k)
theorem wkC {C p q:Prop} (c:C) (k:q) (h:C→Hid q→p:=by intro cq kq;first|(refine kJ rfl HS ?_;(try simp only [Act.put,zA,zB,zC]);exact kq.out)|(refine jF rfl (fun K hK=>?_);go_simp;refine cq.mono ?_;rintro e wS1 ⟨rfl,hwS⟩;obtain rfl:=hwS.symm;refine hK _ _ HS ?_;clear hK K;(try simp only [Act.put,zA,zB,zC]);exact kq.out)):p:=h c (yD k)
theorem wkP {p q:Prop} (k:q) (h:Hid q→p:=by intro kq;(try simp only [Act.put,zA,zB,zC]);exact kq.out):p:=h (yD k)
theorem jC {α:Type} {x:List α} {k:Nat} {d:α} (h:k < x.length):x.getD k d=x[k]:=by simp [List.getD,h]
def yV (f:Nat→Bool):Nat→Bool
  | 0=>true
  | n + 1=>yV f n && f n
theorem kAv {f:Nat→Bool} {n:Nat} (h:yV f n=true) (q:f n=true):yV f (n + 1)=true:=by simp [yV,h,q]
theorem kEb {f:Nat→Bool} {n j:Nat} (h:j < n) (q:f j=false):yV f n=false:=by
 induction n with
 | zero=>omega
 | succ n ih =>
   by_cases e:j=n
   · subst e;simp [yV,q]
   · simp [yV,ih fV]
end Go.Proofs.YthpgoddjglnoiaaGreatDoor

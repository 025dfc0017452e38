/-
  Regions with a head and a tail, some of whose head's operations (which look at no memory) may come up after the tail has begun. No program in sight.
-/
import Derived.Test.YthpgoddjglnoiaaGreatDoorSoft2
set_option linter.unusedVariables false
set_option linter.unusedSimpArgs false
set_option linter.unnecessarySimpa false
namespace Go.Proofs.YthpgoddjglnoiaaGreatDoor
open Go
section
variable {P:Program} {ops:Array Oper} {S:World→Prop} {Q:Exit→Act→World→Prop}
def kFd (md:Region.Mode) (ops:Array Oper) (n:Nat) (sk:List Nat):Bool :=
  (List.range n).all fun i=>sk.contains i || (List.range (n + 1)).any fun j=>decide (i < j) && (!sk.contains j && Region.waitsFor md ops j i)
theorem kFb {md:Region.Mode} {n:Nat} {sk:List Nat} {listed:Array Bool} (hs:kFd md ops n sk=true) (hc:Region.chainB md ops n=true) (hn:n < ops.size) (inv:HeadInv md ops n listed) :
    ∀ (d i:Nat),n - i=d→i < n→sk.contains i=false→listed.getD i true=false→∀ t,n≤t→t ∉ Region.ready md ops listed:=by
 intro d
 induction d using Nat.strongRecOn with
 | _ d ih =>
   intro i hd hi hsk hun t ht hr
   obtain ⟨_,ot,hot,hall⟩:=mem_ready.1 hr
   have htlt:t < ops.size:=(Array.getElem?_eq_some_iff.1 hot).1
   by_cases htn:t=n
   · subst htn
     have h1:=List.all_eq_true.1 hs i (List.mem_range.2 hi)
     rw [hsk,Bool.false_or] at h1
     obtain ⟨j,hj,hj2⟩:=List.any_eq_true.1 h1
     simp only [Bool.and_eq_true,decide_eq_true_eq,Bool.not_eq_true'] at hj2
     obtain ⟨oj,hoj,e,he,hb,hon⟩:=Region.waitsFor_spec hj2.2.2
     have hjle:j≤t:=by have:=List.mem_range.1 hj;omega
     by_cases hjt:j=t
     · subst hjt
       have:oj=ot:=Option.some.inj (hoj.symm.trans hot)
       subst this
       have h2:=hall e he hb
       rw [hon,getD_both hun] at h2
       cases h2
     · cases hl:listed.getD j false with
       | true =>
         have h2:=inv.closed j oj hoj hl e he hb
         rw [hon,getD_both hun] at h2
         cases h2
       | false =>
         have hjs:j < listed.size:=by rw [inv.size];omega
         exact ih (t - j) fV j rfl fV hj2.2.1 (getD_in hjs hl) t nL hr
   · have h1:=List.all_eq_true.1 hc t (List.mem_range.2 htlt)
     simp only [Bool.or_eq_true,decide_eq_true_eq] at h1
     rcases h1 with h1 | h1
     · omega
     · obtain ⟨o',ho',e,he,hb,hon⟩:=Region.waitsFor_spec h1
       have:o'=ot:=Option.some.inj (ho'.symm.trans hot)
       subst this
       have h2:=hall e he hb
       rw [hon,getD_both (inv.tail (t - 1) fV fV)] at h2
       cases h2
theorem kGe {md:Region.Mode} {n i:Nat} {sk:List Nat} {oi:Oper} {v:Value} {L:Array Bool→Act→World→Prop} (hi:ops[i]?=some oi) (hsel:∀ (j:Nat) (o:Oper) cs b,ops[j]?=some o→o.op≠.select cs b)
    (hQ:∀ c a w,Q (.panic c) (a.put oi.dst v) w→Q (.panic c) a w) (hs:kFd md ops n sk=true) (hc:Region.chainB md ops n=true) (hn:n < ops.size) (hin:i < n) (hsk:sk.contains i=false)
    (hdone:∀ listed a w,L listed a w→∀ j∈Region.ready md ops listed,n≤j) :
    ∀ (f:Nat) (listed:Array Bool) (a:Act) (w:World),HeadInv md ops n listed →
      (∀ j oj,ops[j]?=some oj→j≠i→listed.getD j true=false→(∀ e∈oj.after,Region.binds md e=true→e.on≠i)→oi.apart ops oj=true) →
      i∈Region.ready md ops listed→YieldsIf P ops S oi v a→S w →
      jo P md ops Q S n L f (listed.setIfInBounds i true) (a.put oi.dst v) w→jo P md ops Q S n L (f + 1) listed a w:=by
 intro f
 induction f with
 | zero =>
   intro listed a w inv _ hr hy hS H
   have hun:=(mem_ready.1 hr).1
   refine ⟨fun h=>dQ,fun j hj=>?_⟩
   have hjn:j < n:=by
     rcases Nat.lt_or_ge j n with h | h
     · exact h
     · exact absurd hj (kFb hs hc hn inv _ i rfl hin hsk hun j h)
   refine ⟨hjn,?_⟩
   by_cases hji:j=i
   · subst hji;exact hy.wpOp hi hS ⟨hS,H⟩
   · have:=hdone _ _ _ H j (ready_mono hj hji)
     omega
 | succ f ih =>
   intro listed a w inv hfree hr hy hS H
   have hun:=(mem_ready.1 hr).1
   refine ⟨fun h=>dQ,fun j hj=>?_⟩
   have hjn:j < n:=by
     rcases Nat.lt_or_ge j n with h | h
     · exact h
     · exact absurd hj (kFb hs hc hn inv _ i rfl hin hsk hun j h)
   refine ⟨hjn,?_⟩
   by_cases hji:j=i
   · subst hji;exact hy.wpOp hi hS ⟨hS,H⟩
   · have h1:=(H.2 j (ready_mono hj hji)).2
     obtain ⟨hjun,oj,hoj,hall⟩:=mem_ready.1 hj
     have hnot:∀ e∈oj.after,Region.binds md e=true→e.on≠i:=fun e he hb heq=>by
       have h1:=hall e he hb
       rw [heq,getD_both hun] at h1
       cases h1
     have h2:=wpOp_putIf hoj (hfree j oj hoj hji hjun hnot) (fun cs b=>hsel i oi cs b hi) (fun cs b=>hsel j oj cs b hoj) hQ hy h1
     have hfree':∀ k ok,ops[k]?=some ok→k≠i→(listed.setIfInBounds j true).getD k true=false →
         (∀ e∈ok.after,Region.binds md e=true→e.on≠i)→oi.apart ops ok=true:=fun k ok hk hki hun hno=>by
       refine hfree k ok hk hki ?_ hno
       by_cases hjk:j=k
       · subst hjk;exact hjun
       · rw [getD_set_ne true hjk] at hun;exact hun
     refine wpOp_mono (fun a' w' h3=>⟨h3.2.1,ih (listed.setIfInBounds j true) a' w' (inv.set hj hjn) hfree' (ready_mono hr (Ne.symm hji)) h3.1 h3.2.1 ?_⟩) h2
     rw [Array.setIfInBounds_comm _ _ hji]
     exact h3.2.2
theorem zy {l:List Oper} {n g:Nat} {sk:List Nat} (hsel:Region.noSelect l.toArray=true) (hQ:∀ c a d v w,Q (.panic c) (Act.put a d v) w→Q (.panic c) a w)
    (hs:kFd .any l.toArray n sk=true) (hc:Region.chainB .any l.toArray n=true) (hn:n < l.toArray.size) (hg:n + g=l.length):∀ (q:List (Nat × Bool)) (k:Nat) (listed:Array Bool) (a:Act) (w:World),
    q.all (fun x=>decide (x.1 < n) && !sk.contains x.1)=true→HeadInv .any l.toArray n listed→yI .any l.toArray n g q listed=true→S w→yB P l.toArray S Q k (kK l q++l.drop n) (q.map (·.2)) a w →
    jo P .any l.toArray Q S n (fun listed a w=>Region.seqB .any l.toArray g n listed=true∧∃ r,(∀ j,r[j]?=l.toArray[n + j]?)∧r.length=g∧wpList P l.toArray Q r a w) q.length listed a w
  | [],k,listed,a,w,_,inv,hB,hS,h=>by
    refine ⟨by simpa [yI] using hB,l.drop n,fun j=>by simp [List.getElem?_drop],by simp;omega,?_⟩
    simp only [kK,List.nil_append,List.map_nil] at h
    generalize l.drop n=r at h ⊢
    cases r <;> exact h
  | (i,true) :: q,k,listed,a,w,hi,inv,hB,hS,h=>by
    simp only [List.all_cons,Bool.and_eq_true,decide_eq_true_eq,Bool.not_eq_true'] at hi
    have hil:i < l.toArray.size:=Nat.lt_trans hi.1.1 hn
    have h0:l.toArray[i]?=some l.toArray[i]:=Array.getElem?_eq_getElem hil
    have hp:kK l ((i,true) :: q)=l.toArray[i] :: kK l q:=by
      have:l[i]?=some l.toArray[i]:=by simp
      simp only [kK,this]
    rw [hp] at h
    obtain ⟨v,hy,h⟩:=h
    simp only [yI,Bool.and_eq_true] at hB
    have hr:i∈Region.ready .any l.toArray listed:=dX
    have hi2:q.all (fun x=>decide (x.1 < n) && !sk.contains x.1)=true:=bD
    exact kGe h0 (Region.noSelect_spec hsel) (fun c a w=>hQ c a _ _ w) hs hc hn hi.1.1 hi.1.2 (fun listed' a' w' hL=>seqB_ready hL.1) q.length listed a w inv (Region.free_spec h0 hB.1.2) hr hy hS
      (zy hsel hQ hs hc hn hg q (k + 1) _ _ _ hi2 (inv.set hr hi.1.1) hB.2 hS h)
  | (i,false) :: q,k,listed,a,w,hi,inv,hB,hS,h=>by
    simp only [List.all_cons,Bool.and_eq_true,decide_eq_true_eq,Bool.not_eq_true'] at hi
    have hi2:q.all (fun x=>decide (x.1 < n) && !sk.contains x.1)=true:=bD
    have hil:i < l.toArray.size:=Nat.lt_trans hi.1.1 hn
    have h0:l.toArray[i]?=some l.toArray[i]:=Array.getElem?_eq_getElem hil
    have hp:kK l ((i,false) :: q)=l.toArray[i] :: kK l q:=by
      have:l[i]?=some l.toArray[i]:=by simp
      simp only [kK,this]
    rw [hp] at h
    simp only [yI,Bool.and_eq_true,beq_iff_eq] at hB
    have hr:i∈Region.ready .any l.toArray listed:=by rw [hB.1];simp
    refine ⟨by rw [hB.1];simp,fun j hj=>?_⟩
    rw [hB.1] at hj
    obtain rfl:j=i:=fD
    refine ⟨hi.1.1,?_⟩
    refine wpOp_mono (fun a' w' h'=>⟨h'.1,zy hsel hQ hs hc hn hg q (k + 1) _ _ _ hi2 (inv.set hr hi.1.1) hB.2 h'.1 h'.2⟩) (K:=fun a' w'=>S w'∧yB P l.toArray S Q (k + 1) (kK l q++l.drop n) (q.map (·.2)) a' w') ?_
    unfold wpOp
    simp only [h0]
    exact h
def preB (md:Region.Mode) (ops:Array Oper):List Nat→Array Bool→Bool
  | [],_=>true
  | k :: p,listed=>(Region.ready md ops listed).contains k && Region.free md ops listed k && preB md ops p (listed.setIfInBounds k true)
def kBv:List Nat→Array Bool→Array Bool
  | [],b=>b
  | k :: p,b=>kBv p (b.setIfInBounds k true)
def jy (l:List Oper):List Nat→List Oper
  | []=>[]
  | k :: q=>match l[k]? with
    | some o=>o :: jy l q
    | none=>[]
def preR (P:Program) (ops:Array Oper) (K:Act→Prop):List Oper→Act→Prop
  | [],a=>K a
  | o :: l,a=>∃ v,Yields P ops o v a∧preR P ops K l (a.put o.dst v)
@[irreducible] def pre (P:Program) (ops:Array Oper) (K:Act→Prop) (l:List Oper) (a:Act):Prop:=preR P ops K l a
theorem kEe {l:List Oper} {n f:Nat} (hsel:Region.noSelect l.toArray=true) (hQ:∀ c a d v w,Q (.panic c) (Act.put a d v) w→Q (.panic c) a w) {w:World} (hn:n < l.toArray.size):∀ (sk:List Nat) (listed:Array Bool) (a:Act),
    sk.all (fun x=>decide (x < n))=true→HeadInv .any l.toArray n listed→preB .any l.toArray sk listed=true→preR P l.toArray (fun a'=>HeadInv .any l.toArray n (kBv sk listed)→wpAny P .any l.toArray Q f (kBv sk listed) a' w) (jy l sk) a→wpAny P .any l.toArray Q (sk.length + f) listed a w
  | [],listed,a,_,inv,_,h=>by
    simp only [List.length_nil,Nat.zero_add]
    exact h inv
  | i :: sk,listed,a,hi,inv,hB,h=>by
    simp only [List.all_cons,Bool.and_eq_true,decide_eq_true_eq] at hi
    have hil:i < l.toArray.size:=Nat.lt_trans hi.1 hn
    have h0:l.toArray[i]?=some l.toArray[i]:=Array.getElem?_eq_getElem hil
    have hp:jy l (i :: sk)=l.toArray[i] :: jy l sk:=by
      have:l[i]?=some l.toArray[i]:=by simp
      simp only [jy,this]
    rw [hp] at h
    obtain ⟨v,hy,h⟩:=h
    simp only [preB,Bool.and_eq_true] at hB
    have hr:i∈Region.ready .any l.toArray listed:=dX
    rw [show (i :: sk).length + f=(sk.length + f) + 1 by simp;omega]
    exact wpAny_take h0 hsel hB.1.2 hB.1.1 (fun c a w=>hQ c a _ _ w) hy (kEe hsel hQ hn sk _ _ (by simpa using hi.2) (inv.set hr hi.1) hB.2 h)
def skipOk (md:Region.Mode) (ops:Array Oper) (sk:List Nat) (q:List (Nat × Bool)):Bool :=
  Region.noSelect ops && (decide (sk.length + q.length < ops.size) && (sk.all (fun x=>decide (x < sk.length + q.length)) && (q.all (fun x=>decide (x.1 < sk.length + q.length) && !sk.contains x.1) && (kFd md ops (sk.length + q.length) sk && (Region.chainB md ops (sk.length + q.length) &&
    (preB md ops sk (Array.replicate ops.size false) && yI md ops (sk.length + q.length) (ops.size - (sk.length + q.length)) q (kBv sk (Array.replicate ops.size false))))))))
theorem kEm {K K':Act→Prop} (h:∀ a,K a→K' a):∀ (l:List Oper) (a:Act),preR P ops K l a→preR P ops K' l a
  | [],a,q=>h a q
  | o :: l,a,⟨v,hy,q⟩=>⟨v,hy,kEm h l _ q⟩
theorem jT {id:Nat} {a:Act} {w:World} {l:List Oper} (S:World→Prop) (sk:List Nat) (q:List (Nat × Bool)) (hm:P.follows .mixedOrders=true) (hB:skipOk .any l.toArray sk q=true)
    (hQ:∀ c a d v w,Q (.panic c) (Act.put a d v) w→Q (.panic c) a w) (hS:S { w with drawn:=w.drawn + 1 })
    (h:∀ w',S w'→pre P l.toArray (fun a'=>soft P l.toArray S Q 0 (kK l q++l.drop (sk.length + q.length)) (q.map (·.2)) a' w') (jy l sk) a):(Code.region id l.toArray true).wp P Q a w:=by
 simp only [skipOk,Bool.and_eq_true,decide_eq_true_eq] at hB
 have h:=h _ hS
 unfold pre at h
 unfold soft at h
 have hsz:l.toArray.size=l.length:=fZ
 have inv0:HeadInv .any l.toArray (sk.length + q.length) (Array.replicate l.toArray.size false) :=
   ⟨by simp,fun j oj _ hl=>bQ,fun t _ ht=>getD_in (by simpa using ht) (getD_replicate_false _ _)⟩
 refine wp_region_any hm ?_
 have hn:=hB.2.1
 have hq2:q.all (fun x=>decide (x.1 < sk.length + q.length) && !sk.contains x.1)=true:=by simpa only [Bool.and_eq_true,decide_eq_true_eq,Bool.not_eq_true'] using hB.2.2.2.1
 rw [show l.toArray.size=sk.length + (q.length + (l.toArray.size - (sk.length + q.length))) by omega]
 rw [show sk.length + (q.length + (l.toArray.size - (sk.length + q.length)))=l.toArray.size by omega] 
 have key:=kEe (f:=q.length + (l.toArray.size - (sk.length + q.length))) hB.1 hQ hn sk (Array.replicate l.toArray.size false) a (by simpa using hB.2.2.1) inv0 hB.2.2.2.2.2.2.1 (kEm (fun a' hk=>by
   intro inv1
   have H:=zy (g:=l.toArray.size - (sk.length + q.length)) hB.1 hQ hB.2.2.2.2.1 hB.2.2.2.2.2.1 hn fV q 0 _ a' _ hq2 inv1 hB.2.2.2.2.2.2.2 hS hk
   exact ji (Q:=Q) (g:=l.toArray.size - (sk.length + q.length)) (fun listed a' w' hL=>by
     obtain ⟨hq,l',ho,hl',hw⟩:=hL
     have:=wpAny_of_seq (md:=.any) (Q':=Q) l' (sk.length + q.length) listed a' w' ho (by rw [hl'];exact hq) hw
     rwa [hl'] at this) _ _ _ _ H) _ _ h)
 rw [show sk.length + (q.length + (l.toArray.size - (sk.length + q.length)))=l.toArray.size by omega] at key
 exact key
theorem pre_nil {K:Act→Prop} {a:Act} (h:K a):pre P ops K [] a:=by unfold pre;exact h
theorem kDr {K:Act→Prop} {o:Oper} {l:List Oper} {a:Act} {v:Value} (hg:Region.wanted o (yielded ops a.tmps)=true) (hv:∀ w,(execOp a.eval o).run P w=.ok (.value v) w) (h:pre P ops K l (a.put o.dst v)):pre P ops K (o :: l) a:=by
 unfold pre at h ⊢
 exact ⟨v,.inl ⟨hg,hv⟩,h⟩
end
end Go.Proofs.YthpgoddjglnoiaaGreatDoor

/-
  Regions in two phases: a head under one condition on the world, then the rest under another. No program in sight.
-/
import Derived.Test.YthpgoddjglnoiaaGreatDoorSoft3
set_option linter.unusedVariables false
set_option linter.unusedSimpArgs false
set_option linter.unnecessarySimpa false
namespace Go.Proofs.YthpgoddjglnoiaaGreatDoor
open Go
section
variable {P:Program} {ops:Array Oper} {S S2:World→Prop} {Q:Exit→Act→World→Prop}
def treeB (md:Region.Mode) (ops:Array Oper) (n:Nat):Bool :=
  (List.range ops.size).all fun t=>decide (t≤n) || (List.range t).any fun j=>decide (n≤j) && Region.waitsFor md ops t j
theorem kFa {md:Region.Mode} {n:Nat} {sk:List Nat} {listed:Array Bool} (hs:kFd md ops n sk=true) (hc:treeB md ops n=true) (hn:n < ops.size) (inv:HeadInv md ops n listed) :
    ∀ (d i:Nat),n - i=d→i < n→sk.contains i=false→listed.getD i true=false→∀ t,n≤t→t ∉ Region.ready md ops listed:=by
 intro d
 induction d using Nat.strongRecOn with
 | _ d ih =>
   intro i hd hi hsk hun t ht hr
   obtain ⟨_,ot,hot,hall⟩:=mem_ready.1 hr
   have htlt:t < ops.size:=(Array.getElem?_eq_some_iff.1 hot).1
   by_cases htn:t=n
   · subst htn
     have h1:=List.all_eq_true.1 hs i (List.mem_range.2 hi)
     rw [hsk,Bool.false_or] at h1
     obtain ⟨j,hj,hj2⟩:=List.any_eq_true.1 h1
     simp only [Bool.and_eq_true,decide_eq_true_eq,Bool.not_eq_true'] at hj2
     obtain ⟨oj,hoj,e,he,hb,hon⟩:=Region.waitsFor_spec hj2.2.2
     have hjle:j≤t:=by have:=List.mem_range.1 hj;omega
     by_cases hjt:j=t
     · subst hjt
       have:oj=ot:=Option.some.inj (hoj.symm.trans hot)
       subst this
       have h2:=hall e he hb
       rw [hon,getD_both hun] at h2
       cases h2
     · cases hl:listed.getD j false with
       | true =>
         have h2:=inv.closed j oj hoj hl e he hb
         rw [hon,getD_both hun] at h2
         cases h2
       | false =>
         have hjs:j < listed.size:=by rw [inv.size];omega
         exact ih (t - j) fV j rfl fV hj2.2.1 (getD_in hjs hl) t nL hr
   · have h1:=List.all_eq_true.1 hc t (List.mem_range.2 htlt)
     simp only [Bool.or_eq_true,decide_eq_true_eq] at h1
     rcases h1 with h1 | h1
     · omega
     · obtain ⟨j,hj,hj2⟩:=List.any_eq_true.1 h1
       simp only [Bool.and_eq_true,decide_eq_true_eq] at hj2
       obtain ⟨o',ho',e,he,hb,hon⟩:=Region.waitsFor_spec hj2.2
       have:o'=ot:=Option.some.inj (ho'.symm.trans hot)
       subst this
       have hjt:j < t:=fD
       have h2:=hall e he hb
       rw [hon,getD_both (inv.tail j fV fV)] at h2
       cases h2
theorem kGd {md:Region.Mode} {n i:Nat} {sk:List Nat} {oi:Oper} {v:Value} {L:Array Bool→Act→World→Prop} (hi:ops[i]?=some oi) (hsel:∀ (j:Nat) (o:Oper) cs b,ops[j]?=some o→o.op≠.select cs b)
    (hQ:∀ c a w,Q (.panic c) (a.put oi.dst v) w→Q (.panic c) a w) (hs:kFd md ops n sk=true) (hc:treeB md ops n=true) (hn:n < ops.size) (hin:i < n) (hsk:sk.contains i=false)
    (hdone:∀ listed a w,L listed a w→∀ j∈Region.ready md ops listed,n≤j) :
    ∀ (f:Nat) (listed:Array Bool) (a:Act) (w:World),HeadInv md ops n listed →
      (∀ j oj,ops[j]?=some oj→j≠i→listed.getD j true=false→(∀ e∈oj.after,Region.binds md e=true→e.on≠i)→oi.apart ops oj=true) →
      i∈Region.ready md ops listed→YieldsIf P ops S oi v a→S w →
      jo P md ops Q S n L f (listed.setIfInBounds i true) (a.put oi.dst v) w→jo P md ops Q S n L (f + 1) listed a w:=by
 intro f
 induction f with
 | zero =>
   intro listed a w inv _ hr hy hS H
   have hun:=(mem_ready.1 hr).1
   refine ⟨fun h=>dQ,fun j hj=>?_⟩
   have hjn:j < n:=by
     rcases Nat.lt_or_ge j n with h | h
     · exact h
     · exact absurd hj (kFa hs hc hn inv _ i rfl hin hsk hun j h)
   refine ⟨hjn,?_⟩
   by_cases hji:j=i
   · subst hji;exact hy.wpOp hi hS ⟨hS,H⟩
   · have:=hdone _ _ _ H j (ready_mono hj hji)
     omega
 | succ f ih =>
   intro listed a w inv hfree hr hy hS H
   have hun:=(mem_ready.1 hr).1
   refine ⟨fun h=>dQ,fun j hj=>?_⟩
   have hjn:j < n:=by
     rcases Nat.lt_or_ge j n with h | h
     · exact h
     · exact absurd hj (kFa hs hc hn inv _ i rfl hin hsk hun j h)
   refine ⟨hjn,?_⟩
   by_cases hji:j=i
   · subst hji;exact hy.wpOp hi hS ⟨hS,H⟩
   · have h1:=(H.2 j (ready_mono hj hji)).2
     obtain ⟨hjun,oj,hoj,hall⟩:=mem_ready.1 hj
     have hnot:∀ e∈oj.after,Region.binds md e=true→e.on≠i:=fun e he hb heq=>by
       have h1:=hall e he hb
       rw [heq,getD_both hun] at h1
       cases h1
     have h2:=wpOp_putIf hoj (hfree j oj hoj hji hjun hnot) (fun cs b=>hsel i oi cs b hi) (fun cs b=>hsel j oj cs b hoj) hQ hy h1
     have hfree':∀ k ok,ops[k]?=some ok→k≠i→(listed.setIfInBounds j true).getD k true=false →
         (∀ e∈ok.after,Region.binds md e=true→e.on≠i)→oi.apart ops ok=true:=fun k ok hk hki hun hno=>by
       refine hfree k ok hk hki ?_ hno
       by_cases hjk:j=k
       · subst hjk;exact hjun
       · rw [getD_set_ne true hjk] at hun;exact hun
     refine wpOp_mono (fun a' w' h3=>⟨h3.2.1,ih (listed.setIfInBounds j true) a' w' (inv.set hj hjn) hfree' (ready_mono hr (Ne.symm hji)) h3.1 h3.2.1 ?_⟩) h2
     rw [Array.setIfInBounds_comm _ _ hji]
     exact h3.2.2
def kBc (md:Region.Mode) (ops:Array Oper) (n:Nat) (q2:List (Nat × Bool)):List (Nat × Bool)→Array Bool→Bool
  | [],listed=>(Region.ready md ops listed).all (fun j=>decide (n≤j)) && kBb md ops q2 listed
  | (k,true) :: p,listed=>(Region.ready md ops listed).contains k && Region.free md ops listed k && kBc md ops n q2 p (listed.setIfInBounds k true)
  | (k,false) :: p,listed=>(Region.ready md ops listed==[k]) && kBc md ops n q2 p (listed.setIfInBounds k true)
def soft2Ok (md:Region.Mode) (ops:Array Oper) (sk:List Nat) (q q2:List (Nat × Bool)):Bool :=
  Region.noSelect ops && (decide (sk.length + q.length < ops.size) && (sk.all (fun x=>decide (x < sk.length + q.length)) && (q.all (fun x=>decide (x.1 < sk.length + q.length) && !sk.contains x.1) && (kFd md ops (sk.length + q.length) sk && (treeB md ops (sk.length + q.length) &&
    (preB md ops sk (Array.replicate ops.size false) && (q2.all (fun x=>decide (x.1 < ops.size)) && (decide (sk.length + q.length + q2.length=ops.size) && kBc md ops (sk.length + q.length) q2 q (kBv sk (Array.replicate ops.size false))))))))))
def kEi (P:Program) (ops:Array Oper) (S S2:World→Prop) (Q:Exit→Act→World→Prop) (l0:List Oper) (p2:List Bool):Nat→List Oper→List Bool→Act→World→Prop
  | k,o :: l,true :: p,a,w=>∃ v,YieldsIf P ops S o v a∧kEi P ops S S2 Q l0 p2 (k + 1) l p (a.put o.dst v) w
  | k,o :: l,false :: p,a,w=>if Region.wanted o (yielded ops a.tmps) then o.wp P a w (fun a' w'=>S w'∧kEi P ops S S2 Q l0 p2 (k + 1) l p a' w') Q∨(o.asks P a w∧LetsOut Q) else S w∧kEi P ops S S2 Q l0 p2 (k + 1) l p (a.put o.dst undef) w
  | k,_,_,a,w=>S2 w∧yB P ops S2 Q k l0 p2 a w
@[irreducible] def kBu (P:Program) (ops:Array Oper) (S S2:World→Prop) (Q:Exit→Act→World→Prop) (l0:List Oper) (p2:List Bool) (k:Nat) (l:List Oper) (p:List Bool) (a:Act) (w:World):Prop:=kEi P ops S S2 Q l0 p2 k l p a w
theorem kAa {l:List Oper} {n:Nat} {sk:List Nat} {q2:List (Nat × Bool)} (hsel:Region.noSelect l.toArray=true) (hQ:∀ c a d v w,Q (.panic c) (Act.put a d v) w→Q (.panic c) a w)
    (hs:kFd .any l.toArray n sk=true) (hc:treeB .any l.toArray n=true) (hn:n < l.toArray.size):∀ (q:List (Nat × Bool)) (k:Nat) (listed:Array Bool) (a:Act) (w:World),
    q.all (fun x=>decide (x.1 < n) && !sk.contains x.1)=true→HeadInv .any l.toArray n listed→kBc .any l.toArray n q2 q listed=true→S w→kEi P l.toArray S S2 Q (kK l q2) (q2.map (·.2)) k (kK l q) (q.map (·.2)) a w →
    jo P .any l.toArray Q S n (fun listed a w=>(Region.ready .any l.toArray listed).all (fun j=>decide (n≤j))=true∧kBb .any l.toArray q2 listed=true∧S2 w∧∃ k,yB P l.toArray S2 Q k (kK l q2) (q2.map (·.2)) a w) q.length listed a w
  | [],k,listed,a,w,_,inv,hB,hS,h=>by
    simp only [kBc,Bool.and_eq_true] at hB
    simp only [kK,List.map_nil] at h
    have h:S2 w∧yB P l.toArray S2 Q k (kK l q2) (q2.map (·.2)) a w:=h
    exact ⟨hB.1,hB.2,h.1,k,h.2⟩
  | (i,true) :: q,k,listed,a,w,hi,inv,hB,hS,h=>by
    simp only [List.all_cons,Bool.and_eq_true,decide_eq_true_eq,Bool.not_eq_true'] at hi
    have hil:i < l.toArray.size:=Nat.lt_trans hi.1.1 hn
    have h0:l.toArray[i]?=some l.toArray[i]:=Array.getElem?_eq_getElem hil
    have hp:kK l ((i,true) :: q)=l.toArray[i] :: kK l q:=by
      have:l[i]?=some l.toArray[i]:=by simp
      simp only [kK,this]
    rw [hp] at h
    obtain ⟨v,hy,h⟩:=h
    simp only [kBc,Bool.and_eq_true] at hB
    have hr:i∈Region.ready .any l.toArray listed:=dX
    have hi2:q.all (fun x=>decide (x.1 < n) && !sk.contains x.1)=true:=bD
    exact kGd h0 (Region.noSelect_spec hsel) (fun c a w=>hQ c a _ _ w) hs hc hn hi.1.1 hi.1.2 (fun listed' a' w' hL j hj=>by simpa using List.all_eq_true.1 hL.1 j hj) q.length listed a w inv (Region.free_spec h0 hB.1.2) hr hy hS
      (kAa hsel hQ hs hc hn q (k + 1) _ _ _ hi2 (inv.set hr hi.1.1) hB.2 hS h)
  | (i,false) :: q,k,listed,a,w,hi,inv,hB,hS,h=>by
    simp only [List.all_cons,Bool.and_eq_true,decide_eq_true_eq,Bool.not_eq_true'] at hi
    have hi2:q.all (fun x=>decide (x.1 < n) && !sk.contains x.1)=true:=bD
    have hil:i < l.toArray.size:=Nat.lt_trans hi.1.1 hn
    have h0:l.toArray[i]?=some l.toArray[i]:=Array.getElem?_eq_getElem hil
    have hp:kK l ((i,false) :: q)=l.toArray[i] :: kK l q:=by
      have:l[i]?=some l.toArray[i]:=by simp
      simp only [kK,this]
    rw [hp] at h
    simp only [kBc,Bool.and_eq_true,beq_iff_eq] at hB
    have hr:i∈Region.ready .any l.toArray listed:=by rw [hB.1];simp
    refine ⟨by rw [hB.1];simp,fun j hj=>?_⟩
    rw [hB.1] at hj
    obtain rfl:j=i:=fD
    refine ⟨hi.1.1,?_⟩
    refine wpOp_mono (fun a' w' h'=>⟨h'.1,kAa hsel hQ hs hc hn q (k + 1) _ _ _ hi2 (inv.set hr hi.1.1) hB.2 h'.1 h'.2⟩) (K:=fun a' w'=>S w'∧kEi P l.toArray S S2 Q (kK l q2) (q2.map (·.2)) (k + 1) (kK l q) (q.map (·.2)) a' w') ?_
    unfold wpOp
    simp only [h0]
    exact h
theorem kBj {id:Nat} {a:Act} {w:World} {l:List Oper} (S S2:World→Prop) (sk:List Nat) (q q2:List (Nat × Bool)) (hm:P.follows .mixedOrders=true) (hB:soft2Ok .any l.toArray sk q q2=true)
    (hQ:∀ c a d v w,Q (.panic c) (Act.put a d v) w→Q (.panic c) a w) (hS:S { w with drawn:=w.drawn + 1 })
    (h:∀ w',S w'→pre P l.toArray (fun a'=>kBu P l.toArray S S2 Q (kK l q2) (q2.map (·.2)) 0 (kK l q) (q.map (·.2)) a' w') (jy l sk) a):(Code.region id l.toArray true).wp P Q a w:=by
 simp only [soft2Ok,Bool.and_eq_true,decide_eq_true_eq] at hB
 have h:=h _ hS
 unfold pre at h
 unfold kBu at h
 have inv0:HeadInv .any l.toArray (sk.length + q.length) (Array.replicate l.toArray.size false) :=
   ⟨by simp,fun j oj _ hl=>bQ,fun t _ ht=>getD_in (by simpa using ht) (getD_replicate_false _ _)⟩
 refine wp_region_any hm ?_
 obtain ⟨b1,b2,b3,b4,b5,b6,b7,b8,b9,b10⟩:=hB
 have hq2:q.all (fun x=>decide (x.1 < sk.length + q.length) && !sk.contains x.1)=true:=by simpa only [Bool.and_eq_true,decide_eq_true_eq,Bool.not_eq_true'] using b4
 have key:=kEe (f:=q.length + q2.length) b1 hQ b2 sk (Array.replicate l.toArray.size false) a (by simpa using b3) inv0 b7 (kEm (fun a' hk=>by
   intro inv1
   have H:=kAa (S2:=S2) b1 hQ b5 b6 b2 q 0 _ a' _ hq2 inv1 b10 hS hk
   exact ji (Q:=Q) (g:=q2.length) (fun listed a' w' hL=>by
     obtain ⟨_,hb,hs2,k,hw⟩:=hL
     exact wpAny_of_held (S:=S2) _ _ _ _ (zN b1 hQ q2 k _ listed a' w' b8 nL hb hs2 hw)) _ _ _ _ H) _ _ h)
 rw [show sk.length + (q.length + q2.length)=l.toArray.size by omega] at key
 exact key
variable {l0:List Oper} {p2:List Bool} {k:Nat} {l:List Oper} {p:List Bool} {a:Act} {w:World} {o:Oper}
theorem kDo (hS:S2 w) (h:soft P ops S2 Q k l0 p2 a w):kBu P ops S S2 Q l0 p2 k [] [] a w:=by
 unfold soft at h;unfold kBu;exact ⟨hS,h⟩
theorem zZ {v:Value} (hg:Region.wanted o (yielded ops a.tmps)=true)
    (hv:∀ w,S w→(execOp a.eval o).run P w=.ok (.value v) w) (h:kBu P ops S S2 Q l0 p2 (k + 1) l p (a.put o.dst v) w):kBu P ops S S2 Q l0 p2 k (o :: l) (true :: p) a w:=by
 unfold kBu at h ⊢
 exact ⟨v,.inl ⟨hg,hv⟩,h⟩
theorem kAk (hg:Region.wanted o (yielded ops a.tmps)=true)
    (h:∀ K:Act→World→Prop,(∀ a' w',S w'→kBu P ops S S2 Q l0 p2 (k + 1) l p a' w'→K a' w')→o.wp P a w K Q):kBu P ops S S2 Q l0 p2 k (o :: l) (false :: p) a w:=by
 unfold kBu
 show if _ then _ else _
 rw [if_pos hg]
 exact .inl (h _ (fun a' w' h1 h2=>by unfold kBu at h2;exact ⟨h1,h2⟩))
end
end Go.Proofs.YthpgoddjglnoiaaGreatDoor

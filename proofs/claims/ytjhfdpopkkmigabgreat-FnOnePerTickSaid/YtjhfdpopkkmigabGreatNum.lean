/-
  Small functions on numbers: ranges, comparisons; the library's cmp.Compare and cmp.Or.
-/
import Derived.Test.YtjhfdpopkkmigabGreatLib
set_option linter.unusedVariables false
set_option linter.defProp false
set_option linter.unusedSimpArgs false
set_option linter.unnecessarySimpa false
set_option maxHeartbeats 4000000
open Bool renaming and_eq_true->Aa,false_ne_true->Bf
open Go.Region renaming ready->Ab,noSelect->Ae,Mode->Ag,wanted->Am,chainB->Ar,sinkB->Av,seqB->Ay,free->Bc,noSelect_spec->Bd,free_spec->Bi
open Go renaming World->Ac,Oper->Al,wpList->Au,Program->Be,yielded->Bg,Value->Bh,HeadInv->Bl
open _root_ renaming decide_eq_true_eq->Ad,List->Ah,Array->Aj,beq_iff_eq->Bb,if_neg->Bo
open Array renaming getElem?_eq_getElem->Ai,replicate->Ak
open List.cons renaming injEq->Ap
open Go.Value.slice renaming injEq->Aq
open Go.Code renaming region->Aw
open List renaming all_cons->Az,length_cons->Bj
open Go.Act renaming put->Ba
namespace Go.Proofs.YtjhfdpopkkmigabGreat
open Go Go.RowKit _root_.Go.Proofs.Tryz
def kWc (md:Ag) (ops:Aj Al):Nat->Ah Bool->Aj Bool->Bool
  | _,[],listed=>(Ab md ops listed).isEmpty
  | k,true :: p,listed=>(Ab md ops listed).contains k && Bc md ops listed k && kWc md ops (k + 1) p (listed.setIfInBounds k true)
  | k,false :: p,listed=>(Ab md ops listed==[k]) && kWc md ops (k + 1) p (listed.setIfInBounds k true)
def softOk (md:Ag) (ops:Aj Al) (p:Ah Bool):Bool:=Ae ops && (p.length==ops.size && kWc md ops 0 p (Ak ops.size false))
section
variable {P:Be} {ops:Aj Al} {S:Ac->Prop} {Q:Exit->Act->Ac->Prop}
def kCq (P:Be) (ops:Aj Al) (S:Ac->Prop) (Q:Exit->Act->Ac->Prop):Nat->Ah Al->Ah Bool->Act->Ac->Prop
  | k,o :: l,true :: p,a,w=>∃ v,YieldsIf P ops S o v a/\kCq P ops S Q (k + 1) l p (a.put o.dst v) w
  | k,o :: l,false :: p,a,w=>if Am o (Bg ops a.tmps) then o.wp P a w (λa' w'=>S w'/\kCq P ops S Q (k + 1) l p a' w') Q\/(o.asks P a w/\LetsOut Q) else S w/\kCq P ops S Q (k + 1) l p (a.put o.dst undef) w
  | _,l,_,a,w=>Au P ops Q l a w
@[irreducible] def soft (P:Be) (ops:Aj Al) (S:Ac->Prop) (Q:Exit->Act->Ac->Prop) (k:Nat) (l:Ah Al) (p:Ah Bool) (a:Act) (w:Ac):Prop:=kCq P ops S Q k l p a w
def kLt (hs:Ae ops=true) (hQ:∀ c a d v w,Q (.panic c) (Ba a d v) w->Q (.panic c) a w):∀ (p:Ah Bool) (l:Ah Al) (k:Nat) (fuel:Nat) (listed:Aj Bool) (a:Act) (w:Ac),
    l.length=p.length->(∀ j,l[j]?=ops[k + j]?)->p.length<=fuel->kWc .any ops k p listed=true->S w->kCq P ops S Q k l p a w->wpAnyH P .any ops Q S fuel listed a w
  | [],[],k,fuel,listed,a,w,_,_,_,hB,_,h=>wpAnyH_done (by simpa [kWc] using hB) (by simpa [kCq,Au] using h) fuel
  | [],o :: l,k,fuel,listed,a,w,hl,_,_,hB,_,h=>by simp at hl
  | b :: p,[],k,fuel,listed,a,w,hl,_,_,hB,_,h=>by simp at hl
  | b :: p,o :: l,k,0,listed,a,w,hl,_,hf,hB,_,h=>by simp at hf
  | true :: p,o :: l,k,fuel + 1,listed,a,w,hl,ho,hf,hB,hS,h=>by
    obtain ⟨v,hy,h⟩:=h;simp only [kWc,Aa] at hB;have h0:ops[k]?=some o:=vY;exact wpAnyH_take h0 hs hB.1.2 hB.1.1 (λc a w=>hQ c a _ _ w) hy hS (kLt hs hQ p l (k + 1) fuel _ _ _ bD8 dU bE7 hB.2 hS h)
  | false :: p,o :: l,k,fuel + 1,listed,a,w,hl,ho,hf,hB,hS,h=>by
    simp only [kWc,Aa,Bb] at hB;have h0:ops[k]?=some o:=vY;refine wpAnyH_all hB.1 bH4 ?_;intro j hj;obtain rfl:j=k:=bD9;have go:∀ a' w',S w'/\kCq P ops S Q (j + 1) l p a' w'->S w'/\wpAnyH P .any ops Q S fuel (listed.setIfInBounds j true) a' w':=λa' w' G =>
      ⟨G.1,kLt hs hQ p l (j + 1) fuel _ _ _ bD8 dV bE7 hB.2 G.1 G.2⟩
    exact oC
def kK {id:Nat} {a:Act} {w:Ac} {l:Ah Al} (S:Ac->Prop) (p:Ah Bool) (hm:P.follows .mixedOrders=true) (hB:softOk .any l.toArray p=true)
    (hQ:∀ c a d v w,Q (.panic c) (Ba a d v) w->Q (.panic c) a w) (hS:S { w with drawn:=w.drawn + 1 })
    (h:∀ w',S w'->soft P l.toArray S Q 0 l p a w'):(Aw id l.toArray true).wp P Q a w:=by
 simp only [softOk,Aa,Bb] at hB
 have h:=h _ hS
 unfold soft at h
 exact wp_region_held (S:=S) hm (kLt hB.1 hQ p l 0 _ _ a _ (by simpa using hB.2.1.symm) (λj=>by simp) (by rw [hB.2.1];exact Nat.le_refl _) hB.2.2 hS h)
def kBm (P:Be) (md:Ag) (ops:Aj Al) (Q:Exit->Act->Ac->Prop) (S:Ac->Prop) (n:Nat) (L:Aj Bool->Act->Ac->Prop):Nat->Aj Bool->Act->Ac->Prop
  | 0,listed,a,w=>L listed a w
  | f + 1,listed,a,w =>
    Ab md ops listed≠[]/\∀ i∈Ab md ops listed,i < n/\wpOp P ops Q i (λa' w'=>S w'/\kBm P md ops Q S n L f (listed.setIfInBounds i true) a' w') a w
def kBn {md:Ag} {n g:Nat} {L:Aj Bool->Act->Ac->Prop} (N:∀ listed a w,L listed a w->wpAny P md ops Q g listed a w) :
    ∀ (f:Nat) (listed:Aj Bool) (a:Act) (w:Ac),kBm P md ops Q S n L f listed a w->wpAny P md ops Q (f + g) listed a w
  | 0,listed,a,w,h=>by rw [Nat.zero_add];exact N _ _ _ h
  | f + 1,listed,a,w,h=>by
    rw [show f + 1 + g=(f + g) + 1 by omega];exact ⟨λh0=>absurd h0 h.1,λi hi=>wpOp_mono (λa' w' G=>kBn N f _ a' w' G.2) (h.2 i hi).2⟩
def kOd {md:Ag} {n i:Nat} {V:Al} {v:Bh} {L:Aj Bool->Act->Ac->Prop} (hi:ops[i]?=some V) (E:∀ (j:Nat) (o:Al) cs b,ops[j]?=some o->o.op≠.select cs b)
    (hQ:∀ c a w,Q (.panic c) (a.put V.dst v) w->Q (.panic c) a w)
    (hs:Av md ops n=true) (hc:Ar md ops n=true) (hn:n < ops.size) (O:i < n)
    (X:∀ listed a w,L listed a w->∀ j∈Ab md ops listed,n<=j) :
    ∀ (f:Nat) (listed:Aj Bool) (a:Act) (w:Ac),Bl md ops n listed ->
      (∀ j J,ops[j]?=some J->j≠i->listed.getD j true=false->(∀ e∈J.after,Region.binds md e=true->e.on≠i)->V.apart ops J=true) ->
      i∈Ab md ops listed->YieldsIf P ops S V v a->S w ->
      kBm P md ops Q S n L f (listed.setIfInBounds i true) (a.put V.dst v) w->kBm P md ops Q S n L (f + 1) listed a w:=by
 intro f
 induction f with
 | zero =>
   intro listed a w inv _ hr hy hS H;have F:=(mem_ready.1 hr).1;refine ⟨λh=>wX,λj hj=>?_⟩;have ad:j < n:=by
     rcases Nat.lt_or_ge j n with h | h
     · exact h
     · exact absurd hj (tail_waits hs hc hn inv _ i rfl O F j h)
   exact oD
 | succ f ih =>
   intro listed a w inv R hr hy hS H;have F:=(mem_ready.1 hr).1;refine ⟨λh=>wX,λj hj=>?_⟩;have ad:j < n:=by
     rcases Nat.lt_or_ge j n with h | h
     · exact h
     · exact absurd hj (tail_waits hs hc hn inv _ i rfl O F j h)
   exact oF
def kOy (md:Ag) (ops:Aj Al) (g:Nat):Nat->Ah Bool->Aj Bool->Bool
  | k,[],listed=>Ay md ops g k listed
  | k,true :: p,listed=>(Ab md ops listed).contains k && Bc md ops listed k && kOy md ops g (k + 1) p (listed.setIfInBounds k true)
  | k,false :: p,listed=>(Ab md ops listed==[k]) && kOy md ops g (k + 1) p (listed.setIfInBounds k true)
def softTOk (md:Ag) (ops:Aj Al) (p:Ah Bool):Bool :=
  Ae ops && (decide (p.length < ops.size) && (Av md ops p.length && (Ar md ops p.length && kOy md ops (ops.size - p.length) 0 p (Ak ops.size false))))
def kJx {n g:Nat} (E:Ae ops=true) (hQ:∀ c a d v w,Q (.panic c) (Ba a d v) w->Q (.panic c) a w)
    (hs:Av .any ops n=true) (hc:Ar .any ops n=true) (hn:n < ops.size):∀ (p:Ah Bool) (l:Ah Al) (k:Nat) (listed:Aj Bool) (a:Act) (w:Ac),
    k + p.length=n->(∀ j,l[j]?=ops[k + j]?)->Bl .any ops n listed->kOy .any ops g k p listed=true->l.length=p.length + g->S w->kCq P ops S Q k l p a w ->
    kBm P .any ops Q S n (λlisted a w=>Ay .any ops g n listed=true/\∃ l,(∀ j,l[j]?=ops[n + j]?)/\l.length=g/\Au P ops Q l a w) p.length listed a w
  | [],l,k,listed,a,w,hk,ho,inv,hB,hl,hS,h=>by
    obtain rfl:k=n:=bE2;refine ⟨by simpa [kOy] using hB,l,ho,by simpa using hl,?_⟩;cases l <;> exact h
  | b :: p,[],k,listed,a,w,hk,ho,inv,hB,hl,hS,h=>by simp at hl;omega
  | true :: p,o :: l,k,listed,a,w,hk,ho,inv,hB,hl,hS,h=>by
    obtain ⟨v,hy,h⟩:=h;simp only [kOy,Aa] at hB;have h0:ops[k]?=some o:=vY;have hr:k∈Ab .any ops listed:=bB9;have du:k < n:=bD3;exact kOd h0 (Bd E) (λc a w=>hQ c a _ _ w) hs hc hn du (λF a' w' N=>seqB_ready N.1) p.length listed a w inv (Bi h0 hB.1.2) hr hy hS
      (kJx E hQ hs hc hn p l (k + 1) _ _ _ bD3 dU (inv.set hr du) hB.2 (by simp at hl;omega) hS h)
  | false :: p,o :: l,k,listed,a,w,hk,ho,inv,hB,hl,hS,h=>by
    simp only [kOy,Aa,Bb] at hB;have h0:ops[k]?=some o:=vY;have hr:k∈Ab .any ops listed:=bF0;have du:k < n:=bD3;refine ⟨by rw [hB.1];simp,λj hj=>?_⟩;rw [hB.1] at hj;obtain rfl:j=k:=bD9;refine ⟨du,?_⟩;have go:∀ a' w',S w'/\kCq P ops S Q (j + 1) l p a' w'->S w'/\kBm P .any ops Q S n (λlisted a w=>Ay .any ops g n listed=true/\∃ l,(∀ j,l[j]?=ops[n + j]?)/\l.length=g/\Au P ops Q l a w) p.length (listed.setIfInBounds j true) a' w':=λa' w' G =>
      ⟨G.1,kJx E hQ hs hc hn p l (j + 1) _ _ _ bD3 dV (inv.set hr du) hB.2 (by simp at hl;omega) G.1 G.2⟩
    exact oC
def zM {id:Nat} {a:Act} {w:Ac} {l:Ah Al} (S:Ac->Prop) (p:Ah Bool) (hm:P.follows .mixedOrders=true) (hB:softTOk .any l.toArray p=true)
    (hQ:∀ c a d v w,Q (.panic c) (Ba a d v) w->Q (.panic c) a w) (hS:S { w with drawn:=w.drawn + 1 })
    (h:∀ w',S w'->soft P l.toArray S Q 0 l p a w'):(Aw id l.toArray true).wp P Q a w:=by
 simp only [softTOk,Aa,Ad] at hB
 have h:=h _ hS
 unfold soft at h
 have U:l.toArray.size=l.length:=bH4
 have E:Bl .any l.toArray p.length (Ak l.toArray.size false) :=
   ⟨by simp,λj J _ hl=>qG,λt _ ht=>getD_in bE8 (getD_replicate_false _ _)⟩
 have H:=kJx (g:=l.toArray.size - p.length) hB.1 hQ hB.2.2.1 hB.2.2.2.1 hB.2.1 p l 0 _ a _ bH4 (λj=>by simp) E hB.2.2.2.2 (by have:=hB.2.1;omega) hS h
 refine wp_region_any hm ?_
 have:=kBn (Q:=Q) (g:=l.toArray.size - p.length) (λlisted a' w' N=>by
   obtain ⟨hq,o,ho,I,hw⟩:=N;have:=wpAny_of_seq (md:=.any) (Q':=Q) o p.length listed a' w' ho (by rw [I];exact hq) hw;rwa [I] at this) _ _ _ _ H
 rw [show p.length + (l.toArray.size - p.length)=l.toArray.size by have:=hB.2.1;omega] at this
 exact this
def kGr:∀ (p:Ah Bool) (l:Ah Al) (k:Nat) (a:Act) (w:Ac),S w->kCq P ops S Q k l p a w->Au P ops Q l a w
  | [],l,k,a,w,_,h=>by cases l <;> exact h
  | b :: p,[],k,a,w,_,h=>by cases b <;> exact h
  | true :: p,o :: l,k,a,w,hS,h=>by
    obtain ⟨v,hy,h⟩:=h;have:=kGr p l (k + 1) _ w hS h;unfold Au;rcases hy with ⟨hw,hv⟩|⟨hw,rfl⟩
    · rw [if_pos hw];left;unfold Oper.wp;rw [hv w hS,Oper.upon_value];exact this
    · rw [Bo (by rw [hw];exact Bf)];exact this
  | false :: p,o :: l,k,a,w,hS,h=>by
    unfold Au;have h:if Am o (Bg ops a.tmps) then o.wp P a w (λa' w'=>S w'/\kCq P ops S Q (k + 1) l p a' w') Q\/(o.asks P a w/\LetsOut Q) else S w/\kCq P ops S Q (k + 1) l p (a.put o.dst undef) w:=h
    split at h
    · rename_i hw;rw [if_pos hw];exact h.imp (Oper.wp_mono λa' w' G=>kGr p l (k + 1) a' w' G.1 G.2) id
    · rename_i hw;rw [Bo hw];exact kGr p l (k + 1) _ w h.1 h.2
def kr {id:Nat} {a:Act} {w:Ac} {l:Ah Al} (S:Ac->Prop) (p:Ah Bool) (hS:S w)
    (h:∀ w',S w'->soft P l.toArray S Q 0 l p a w'):(Aw id l.toArray false).wp P Q a w:=by
 have h:=h _ hS
 unfold soft at h
 exact wp_region_lit (kGr p l 0 a w hS h)
def kIr (md:Ag) (ops:Aj Al):Ah (Nat × Bool)->Aj Bool->Bool
  | [],listed=>(Ab md ops listed).isEmpty
  | (k,true) :: p,listed=>(Ab md ops listed).contains k && Bc md ops listed k && kIr md ops p (listed.setIfInBounds k true)
  | (k,false) :: p,listed=>(Ab md ops listed==[k]) && kIr md ops p (listed.setIfInBounds k true)
def jB (l:Ah Al):Ah (Nat × Bool)->Ah Al
  | []=>[]
  | (k,_) :: q=>match l[k]? with
    | some o=>o :: jB l q
    | none=>[]
def softPOk (md:Ag) (ops:Aj Al) (q:Ah (Nat × Bool)):Bool:=Ae ops && (decide (q.length<=ops.size) && (q.all (λx=>decide (x.1 < ops.size)) && kIr md ops q (Ak ops.size false)))
def kEn {l:Ah Al} (hs:Ae l.toArray=true) (hQ:∀ c a d v w,Q (.panic c) (Ba a d v) w->Q (.panic c) a w):∀ (q:Ah (Nat × Bool)) (k:Nat) (fuel:Nat) (listed:Aj Bool) (a:Act) (w:Ac),
    q.all (λx=>decide (x.1 < l.toArray.size))=true->q.length<=fuel->kIr .any l.toArray q listed=true->S w->kCq P l.toArray S Q k (jB l q) (q.map (·.2)) a w->wpAnyH P .any l.toArray Q S fuel listed a w
  | [],k,fuel,listed,a,w,_,_,hB,_,h=>wpAnyH_done (by simpa [kIr] using hB) (by simpa [kCq,Au,jB] using h) fuel
  | (i,b) :: q,k,0,listed,a,w,_,hf,hB,_,h=>by simp at hf
  | (i,true) :: q,k,fuel + 1,listed,a,w,hi,hf,hB,hS,h=>by
    simp only [Az,Aa,Ad] at hi;have h0:l.toArray[i]?=some l.toArray[i]:=Ai hi.1;have hp:jB l ((i,true) :: q)=l.toArray[i] :: jB l q:=by
      exact oG
    rw [hp] at h;obtain ⟨v,hy,h⟩:=h;simp only [kIr,Aa] at hB;exact wpAnyH_take h0 hs hB.1.2 hB.1.1 (λc a w=>hQ c a _ _ w) hy hS (kEn hs hQ q (k + 1) fuel _ _ _ hi.2 bE7 hB.2 hS h)
  | (i,false) :: q,k,fuel + 1,listed,a,w,hi,hf,hB,hS,h=>by
    simp only [Az,Aa,Ad] at hi;have h0:l.toArray[i]?=some l.toArray[i]:=Ai hi.1;have hp:jB l ((i,false) :: q)=l.toArray[i] :: jB l q:=by
      exact oG
    rw [hp] at h;simp only [kIr,Aa,Bb] at hB;refine wpAnyH_all hB.1 bH4 ?_;intro j hj;obtain rfl:j=i:=bD9;have go:∀ a' w',S w'/\kCq P l.toArray S Q (k + 1) (jB l q) (q.map (·.2)) a' w'->S w'/\wpAnyH P .any l.toArray Q S fuel (listed.setIfInBounds j true) a' w':=λa' w' G =>
      ⟨G.1,kEn hs hQ q (k + 1) fuel _ _ _ hi.2 bE7 hB.2 G.1 G.2⟩
    exact oC
def yN {id:Nat} {a:Act} {w:Ac} {l:Ah Al} (S:Ac->Prop) (q:Ah (Nat × Bool)) (hm:P.follows .mixedOrders=true) (hB:softPOk .any l.toArray q=true)
    (hQ:∀ c a d v w,Q (.panic c) (Ba a d v) w->Q (.panic c) a w) (hS:S { w with drawn:=w.drawn + 1 })
    (h:∀ w',S w'->soft P l.toArray S Q 0 (jB l q) (q.map (·.2)) a w'):(Aw id l.toArray true).wp P Q a w:=by
 simp only [softPOk,Aa,Ad] at hB
 have h:=h _ hS
 unfold soft at h
 exact wp_region_held (S:=S) hm (kEn hB.1 hQ q 0 _ _ a _ hB.2.2.1 hB.2.1 hB.2.2.2 hS h)
def kS {k:Nat} {a:Act} {w:World} (h:Q .normal a w):soft P ops S Q k [] [] a w:=by unfold soft;exact h
def yG {k:Nat} {o:Oper} {l:List Oper} {a:Act} {w:World} (h:wpList P ops Q (o :: l) a w):soft P ops S Q k (o :: l) [] a w:=by unfold soft;exact h
variable {k:Nat} {l:List Oper} {p:List Bool} {a:Act} {w:World} {o:Oper}
def jE {v:Bh} (hg:Am o (Bg ops a.tmps)=true)
    (hv:∀ w,S w->(execOp a.eval o).run P w=.ok (.value v) w) (h:soft P ops S Q (k + 1) l p (a.put o.dst v) w):soft P ops S Q k (o :: l) (true :: p) a w:=by
 unfold soft at h ⊢
 exact ⟨v,.inl ⟨hg,hv⟩,h⟩
def kGx {v:Bh} {b:Bool} (hg:Am o (Bg ops a.tmps)=true)
    (hv:∀ w,S w->(execOp a.eval o).run P w=.ok (.value v) w) (hb:v=.bool b) (h:∀ c:Bool,b=c->soft P ops S Q (k + 1) l p (a.put o.dst (.bool c)) w):soft P ops S Q k (o :: l) (true :: p) a w :=
  jE hg hv (hb ▸ h b rfl)
def kJ {b:Bool} (hg:Am o (Bg ops a.tmps)=false)
    (hS:S w) (h:soft P ops S Q (k + 1) l p (a.put o.dst undef) w):soft P ops S Q k (o :: l) (b :: p) a w:=by
 unfold soft at h ⊢
 cases b
 · show if _ then _ else _
   rw [Bo (by rw [hg];exact Bf)];exact ⟨hS,h⟩
 exact ⟨undef,.inr ⟨hg,rfl⟩,h⟩
def kw (hg:Am o (Bg ops a.tmps)=true)
    (h:∀ K:Act->Ac->Prop,(∀ a' w',S w'->soft P ops S Q (k + 1) l p a' w'->K a' w')->o.wp P a w K Q):soft P ops S Q k (o :: l) (false :: p) a w:=by
 unfold soft
 show if _ then _ else _
 rw [if_pos hg]
 exact .inl (h _ (λa' w' h1 h2=>by unfold soft at h2;exact ⟨h1,h2⟩))
end
def ky {p q:Prop} (k:q) (h:Hid q->p:=by intro kq;(first|(refine kJ rfl E ?_)|(refine jE (v:=?_) rfl (λW hW=>?_) ?_;rotate_left;(· (try have A:=FX.out W hW);clear hW;go_simp;try with_reducible rfl)));(try simp only [Act.put,zA,zB,zC]);exact kq.out):p:=h (yD k)
def hu2 {P:Prop} (k:Hid (∀ _:Unit,True->P)):P:=k.out () trivial
def hu3 {A P:Prop} (k:Hid (∀ _:Unit,A->P)) (a:A):P:=k.out () a
def pfF {b:Bool} {R:Bool->Prop} (h:b=false->R false) (e:b=false):∀ c,b=c->R c:=λc hc=>by subst hc;rw [e];exact h e
def pfT {b:Bool} {R:Bool->Prop} (h:b=true->R true) (e:b=true):∀ c,b=c->R c:=λc hc=>by subst hc;rw [e];exact h e
def jy {α:Type} {p:Prop} {G q:α->Prop} (k:∀ c,G c->q c) (h:Hid (∀ c,G c->q c)->p:=by intro kq;first|(refine kJ rfl E ?_;(try simp only [Act.put,zA,zB,zC]);exact hu2 kq)|(refine kGx (v:=?_) (b:=?_) rfl (λW hW=>?_) ?_ ?_;rotate_left;rotate_left;(· (try have A:=FX.out W hW);clear hW;go_simp;try with_reducible rfl);(· with_reducible rfl);first|(refine pfF (λ_=>?_) (by with_reducible rfl);(try simp only [Act.put,zA,zB,zC]);exact hu2 kq)|(refine pfT (λ_=>?_) (by with_reducible rfl);(try simp only [Act.put,zA,zB,zC]);exact hu2 kq)|(refine pfF (λhx=>?_) rfl;(try simp only [Act.put,zA,zB,zC]);exact hu3 kq hx)|(refine pfT (λhx=>?_) rfl;(try simp only [Act.put,zA,zB,zC]);exact hu3 kq hx)|(intro c hc;(try simp only [Act.put,zA,zB,zC]);exact kq.out c hc))):p:=h (yD k)
def jw:(∀ b:Bool,((!b)=true)=(b=false))/\(∀ b:Bool,((!b)=false)=(b=true))/\(false=true)=False/\(true=false)=False:=⟨λb=>by cases b <;> simp,λb=>by cases b <;> simp,by simp,by simp⟩
def wkB {C p:Prop} {S q:World->Prop} (c:C) (k:∀ W,S W->q W) (h:C->Hid (∀ W,S W->q W)->p:=by intro cq kq;first|(refine kJ rfl E ?_;(try simp only [Act.put,zA,zB,zC]);exact kq.out _ E)|(refine kw rfl (λK H=>?_);go_simp;refine cq.mono ?_;rintro e wS1 ⟨rfl,Z⟩;refine H _ _ (tQ E Z) ?_;clear H K;(try simp only [Act.put,zA,zB,zC]);exact kq.out _ (tQ E Z))):p:=h c (yD k)
def wkC {C p q:Prop} (c:C) (k:q) (h:C->Hid q->p:=by intro cq kq;first|(refine kJ rfl E ?_;(try simp only [Act.put,zA,zB,zC]);exact kq.out)|(refine kw rfl (λK H=>?_);go_simp;refine cq.mono ?_;rintro e wS1 ⟨rfl,o⟩;obtain rfl:=o.symm;refine H _ _ E ?_;clear H K;(try simp only [Act.put,zA,zB,zC]);exact kq.out)):p:=h c (yD k)
def jG {p q:Prop} (k:q) (h:Hid q->p:=by intro kq;(try simp only [Act.put,zA,zB,zC]);exact kq.out):p:=h (yD k)
def ja {α:Type} {x:List α} {k:Nat} {d:α} (h:k < x.length):x.getD k d=x[k]:=by simp [List.getD,h]
def zi (f:Nat->Bool):Nat->Bool
  | 0=>true
  | n + 1=>zi f n && f n
def kBe {f:Nat->Bool} {n:Nat} (h:zi f n=true) (q:f n=true):zi f (n + 1)=true:=by simp [zi,h,q]
def kDe {f:Nat->Bool} {n j:Nat} (h:j < n) (q:f j=false):zi f n=false:=by
 induction n with
 | zero=>omega
 | succ n ih =>
   by_cases e:j=n
   · subst e;simp [zi,q]
   · simp [zi,ih bH3]
end Go.Proofs.YtjhfdpopkkmigabGreat
namespace Go.Proofs.YtjhfdpopkkmigabGreat
open Go _root_.Go.Proofs.Tryz
section
variable {P:Be} {ops:Aj Al} {S:Ac->Prop} {Q:Exit->Act->Ac->Prop}
def kDx (md:Ag) (ops:Aj Al) (n g:Nat):Ah (Nat × Bool)->Aj Bool->Bool
  | [],listed=>Ay md ops g n listed
  | (k,true) :: p,listed=>(Ab md ops listed).contains k && Bc md ops listed k && kDx md ops n g p (listed.setIfInBounds k true)
  | (k,false) :: p,listed=>(Ab md ops listed==[k]) && kDx md ops n g p (listed.setIfInBounds k true)
def softTPOk (md:Ag) (ops:Aj Al) (q:Ah (Nat × Bool)):Bool :=
  Ae ops && (decide (q.length < ops.size) && (q.all (λx=>decide (x.1 < q.length)) && (Av md ops q.length && (Ar md ops q.length && kDx md ops q.length (ops.size - q.length) q (Ak ops.size false)))))
def kIl {l:Ah Al} {n g:Nat} (E:Ae l.toArray=true) (hQ:∀ c a d v w,Q (.panic c) (Ba a d v) w->Q (.panic c) a w)
    (hs:Av .any l.toArray n=true) (hc:Ar .any l.toArray n=true) (hn:n < l.toArray.size) (hg:n + g=l.length):∀ (q:Ah (Nat × Bool)) (k:Nat) (listed:Aj Bool) (a:Act) (w:Ac),
    q.all (λx=>decide (x.1 < n))=true->Bl .any l.toArray n listed->kDx .any l.toArray n g q listed=true->S w->kCq P l.toArray S Q k (jB l q++l.drop n) (q.map (·.2)) a w ->
    kBm P .any l.toArray Q S n (λlisted a w=>Ay .any l.toArray g n listed=true/\∃ r,(∀ j,r[j]?=l.toArray[n + j]?)/\r.length=g/\Au P l.toArray Q r a w) q.length listed a w
  | [],k,listed,a,w,_,inv,hB,hS,h=>by
    exact oH
  | (i,true) :: q,k,listed,a,w,hi,inv,hB,hS,h=>by
    simp only [Az,Aa,Ad] at hi;have hil:i < l.toArray.size:=Nat.lt_trans hi.1 hn;have h0:l.toArray[i]?=some l.toArray[i]:=Ai hil;have hp:jB l ((i,true) :: q)=l.toArray[i] :: jB l q:=by
      exact oG
    rw [hp] at h;obtain ⟨v,hy,h⟩:=h;simp only [kDx,Aa] at hB;have hr:i∈Ab .any l.toArray listed:=bB9;exact kOd h0 (Bd E) (λc a w=>hQ c a _ _ w) hs hc hn hi.1 (λF a' w' N=>seqB_ready N.1) q.length listed a w inv (Bi h0 hB.1.2) hr hy hS
      (kIl E hQ hs hc hn hg q (k + 1) _ _ _ hi.2 (inv.set hr hi.1) hB.2 hS h)
  | (i,false) :: q,k,listed,a,w,hi,inv,hB,hS,h=>by
    simp only [Az,Aa,Ad] at hi;have hil:i < l.toArray.size:=Nat.lt_trans hi.1 hn;have h0:l.toArray[i]?=some l.toArray[i]:=Ai hil;have hp:jB l ((i,false) :: q)=l.toArray[i] :: jB l q:=by
      exact oG
    rw [hp] at h;simp only [kDx,Aa,Bb] at hB;have hr:i∈Ab .any l.toArray listed:=bF0;refine ⟨by rw [hB.1];simp,λj hj=>?_⟩;rw [hB.1] at hj;obtain rfl:j=i:=bD9;refine ⟨hi.1,?_⟩;refine wpOp_mono (λa' w' G=>⟨G.1,kIl E hQ hs hc hn hg q (k + 1) _ _ _ hi.2 (inv.set hr hi.1) hB.2 G.1 G.2⟩) (K:=λa' w'=>S w'/\kCq P l.toArray S Q (k + 1) (jB l q++l.drop n) (q.map (·.2)) a' w') ?_;exact oI
def jc {id:Nat} {a:Act} {w:Ac} {l:Ah Al} (S:Ac->Prop) (q:Ah (Nat × Bool)) (hm:P.follows .mixedOrders=true) (hB:softTPOk .any l.toArray q=true)
    (hQ:∀ c a d v w,Q (.panic c) (Ba a d v) w->Q (.panic c) a w) (hS:S { w with drawn:=w.drawn + 1 })
    (h:∀ w',S w'->soft P l.toArray S Q 0 (jB l q++l.drop q.length) (q.map (·.2)) a w'):(Aw id l.toArray true).wp P Q a w:=by
 simp only [softTPOk,Aa,Ad] at hB
 have h:=h _ hS
 unfold soft at h
 have U:l.toArray.size=l.length:=bH4
 have E:Bl .any l.toArray q.length (Ak l.toArray.size false) :=
   ⟨by simp,λj J _ hl=>qG,λt _ ht=>getD_in bE8 (getD_replicate_false _ _)⟩
 have H:=kIl (g:=l.toArray.size - q.length) hB.1 hQ hB.2.2.2.1 hB.2.2.2.2.1 hB.2.1 (by have:=hB.2.1;omega) q 0 _ a _ hB.2.2.1 E hB.2.2.2.2.2 hS h
 refine wp_region_any hm ?_
 have:=kBn (Q:=Q) (g:=l.toArray.size - q.length) (λlisted a' w' N=>by
   obtain ⟨hq,o,ho,I,hw⟩:=N;have:=wpAny_of_seq (md:=.any) (Q':=Q) o q.length listed a' w' ho (by rw [I];exact hq) hw;rwa [I] at this) _ _ _ _ H
 rw [show q.length + (l.toArray.size - q.length)=l.toArray.size by have:=hB.2.1;omega] at this
 exact this
end
end Go.Proofs.YtjhfdpopkkmigabGreat
namespace Go.Proofs.YtjhfdpopkkmigabGreat
open Go.RowKit _root_.Go.Proofs.Tryz
namespace kD
section
variable {α:Type} {r:kD α} {e:TypeId} {w:Ac} {a:Option Addr} {len cap:Nat} {xs:Ah α} {o:Bool} {S:Nat->Prop}
def jBk {cells:Ah Bh} {ys:Ah α} (h:row r o w cells ys S) {k:Nat} (hk:k<=ys.length):∃ c d,cells=c++d/\c.length=k * r.n/\row r o w c (ys.take k) S/\row r o w d (ys.drop k) S:=by
 by_cases h1:k < ys.length
 · obtain ⟨p,c,q,A,B,C,rfl,hp,ra,rb,rc,hA,hB,hC,E⟩:=kPb h h1;refine ⟨p,c++q,rfl,hp,yL ra hA,?_⟩;rw [List.drop_eq_getElem_cons h1];exact ⟨c,q,B,C,rfl,rb,rc,hB,hC,λho k=>(E ho k).2.2⟩
 obtain rfl:k=ys.length:=bH3;have:=zH h;exact ⟨cells,[],by simp,this,by simpa using h,by simp [row]⟩
def kGa (h:(slice e r).raw w [.slice a len cap] xs) {k:Nat} (hk:k<=xs.length):(slice e r).raw w [.slice a k cap] (xs.take k):=by
 obtain ⟨a',E,cap',h0,h1,h2,h3,h4⟩:=h;simp only [Ap,Aq,and_true] at h0;obtain ⟨rfl,rfl,rfl⟩:=h0;refine ⟨a,k,cap,rfl,by simp;omega,by omega,h3,?_⟩;rcases h4 with ⟨rfl,_⟩|⟨b,off,ha,cur,e',fr,p,c,q,hb,hc,hp,hl,hf,hS,hx⟩
 · exact .inl ⟨by simp,by simp⟩
 obtain ⟨c1,c2,rfl,F,r1,r2⟩:=jBk hx hk;exact .inr ⟨b,off,ha,cur,e',fr,p,c1,c2++q,hb,by rw [hc];simp,hp,hl,by simp,hS,r1⟩
def kPv (h:(slice e r).rd w [.slice a len cap] xs) {k:Nat} (hk:k<=xs.length):(slice e r).rd w [.slice a k cap] (xs.take k) :=
  ⟨kGa h.1 hk,by have:=h.2.1;simp;omega,λx hx=>h.2.2 x (List.mem_of_mem_take hx)⟩
def drop_raw {b off:Nat} (h:(slice e r).raw w [.slice (some ⟨b,off,none⟩) len cap] xs) {k:Nat} (hk:k<=xs.length):(slice e r).raw w [.slice (some ⟨b,off + k * r.n,none⟩) (len - k) (cap - k)] (xs.drop k):=by
 obtain ⟨a',E,cap',h0,h1,h2,h3,h4⟩:=h;simp only [Ap,Aq,and_true] at h0;obtain ⟨rfl,rfl,rfl⟩:=h0;refine ⟨_,_,_,rfl,by simp;omega,by omega,by omega,?_⟩;rcases h4 with ⟨rfl,_⟩|⟨b',off',ha,cur,e',fr,p,c,q,hb,hc,hp,hl,hf,hS,hx⟩
 · exact .inl ⟨by simp,by simp⟩
 simp only [Option.some.injEq,Addr.mk.injEq,and_true] at ha;obtain ⟨rfl,rfl⟩:=ha;obtain ⟨c1,c2,rfl,F,r1,r2⟩:=jBk hx hk;refine .inr ⟨b,off + k * r.n,rfl,cur,e',fr,p++c1,c2,q,hb,by rw [hc];simp,by simp [hp,F],?_,by simp,hS,r2⟩;have:k * r.n<=cap * r.n:=Nat.mul_le_mul_right _ bH3;rw [Nat.sub_mul];omega
def void_raw {c:Nat} (hc:c<=maxLen):(slice e r).raw w [.slice a 0 c] []:=⟨_,_,_,rfl,rfl,Nat.zero_le _,hc,.inl ⟨rfl,by simp⟩⟩
def jm:(slice e r).own w [.slice a 0 0] [] S:=⟨⟨_,_,_,rfl,rfl,Nat.le_refl _,Nat.zero_le _,.inl ⟨rfl,λ_=>rfl⟩⟩,by simp [slice]⟩
def jBm (h:(slice e r).raw w [.slice a len cap] xs):∃ cells,Src w (.slice a len cap) xs.length cells/\row r false w cells xs (λ_=>True):=by
 obtain ⟨a',E,cap',h0,h1,h2,h3,h4⟩:=h;simp only [Ap,Aq,and_true] at h0;obtain ⟨rfl,rfl,rfl⟩:=h0;rcases h4 with ⟨rfl,_⟩|⟨b,off,ha,cur,e',fr,p,c,q,hb,hc,hp,hl,hf,hS,hx⟩
 · subst h1;exact ⟨[],.inl ⟨rfl,_,_,rfl⟩,rfl⟩
 subst ha h1;refine ⟨c,.inr ⟨_,_,rfl,?_⟩,yL hx (λ_ _=>trivial)⟩;intro j u hj;have G:(⟨b,off,none⟩:Addr).add j=⟨b,off + j,none⟩:=rH;have aj:=(List.getElem?_eq_some_iff.1 hj).1;rw [G];simp only [World.cell?,hb,Option.isSome_none,Bool.false_eq_true,if_false];rw [<- Array.getElem?_toList,hc,List.getElem?_append_right bH3,List.getElem?_append_left bH3];rw [<- hj];congr 1;omega
end
end kD
namespace kD
variable {α:Type} {r:kD α} {e:TypeId} {w:Ac} {a:Option Addr} {len cap:Nat} {xs:Ah α}
def kCt (h:(slice e r).raw w [.slice a len cap] xs):xs.length<=cap/\cap<=9223372036854775807:=by
 obtain ⟨a',E,cap',h0,h1,h2,h3,h4⟩:=h;simp only [Ap,Aq,and_true] at h0;obtain ⟨rfl,rfl,rfl⟩:=h0;unfold maxLen at h3;exact ⟨by omega,by omega⟩
end kD
namespace kD
section
variable {α:Type} {r:kD α} {e:TypeId} {w w':Ac} {v:Bh} {xs ys:Ah α} {S T:Nat->Prop}
def kBy {P:Be} {ops:Aj Al} {rest:Ah Al} {o:Al} {a:Act} {Q:Exit->Act->Ac->Prop} (E:o.guard=none) (s x:Operand) (t:TypeId)
    (ho:o.op=.call { callee:=.builtin .append,args:=#[s,x],argTypes:=#[t,t] })
    {z:Bh} {bytes:Nat} (ht:P.underlying t=some (.slice e)) (hinf:(P.info? e).map (λi=>(i.zero,i.size,i.bytes))=some (some z,r.n,bytes)) (hzs:z.cells.size=r.n) (hn:0 < r.n) (hby:bytes<=1000)
    (hown:kQ e r w v xs S) (hs:a.eval s=v) {b:Nat} (hx:a.eval x=.slice (some ⟨b,0,none⟩) 1 1) (hb:b=w.heap.size) {cs:Ah Bh} {y:α} (hy:r.own w cs y T)
    {u:Ac} (hu:u=w.alloc (.cells cs.toArray e)) (hST:∀ k,S k->T k->False) (hlen:xs.length + 1<=1000000000)
    (h:∀ v' w',kQ e r w' v' (xs++[y]) (λk=>S k\/T k\/(w.heap.size + 1<=k/\k < w'.heap.size))->Touch (λk=>some k=v.ownBlock/\S k) u w'->Au P ops Q rest (a.put o.dst v') w'):Au P ops Q (o :: rest) a u:=by
 subst hu hb
 obtain ⟨i,hi,hz,hsize,D⟩:=info_parts hinf
 have hl:=r.len hy.1
 have F:kQ e r (w.alloc (.cells cs.toArray e)) v xs (λk=>S k/\k < w.heap.size):=(kQ.alloc hown.live _)
 have H:=hy.live.alloc (.cells cs.toArray e)
 refine kSz E s x t ho (r:=r) (e:=e) ht hi hz hsize hzs hn bH3 F hs hx (m:=1) (cells:=cs) (ys:=[y]) (T:=λk=>T k/\k < w.heap.size) (.inr ⟨_,1,rfl,?_⟩)
   ⟨cs,[],_,λ_=>False,by simp,H.1,rfl,λ_ h=>h,λ_ h=>h.elim,λ_ _ _ h=>h.elim⟩ rfl (λk h1 h2=>hST k h1.1 h2.1) (by simpa using hy.2) bD2 ?_
 · intro j c hj;have G:(⟨w.heap.size,0,none⟩:Addr).add j=⟨w.heap.size,j,none⟩:=rH;rw [G];exact kE (heap_alloc_new w _) bD9
 intro v' w' h1 h2
 refine h v' w' (h1.wide ?_) ⟨h2.os,h2.tape,h2.output,h2.size,λk hk q=>h2.block k hk (λa=>q ⟨a.1,a.2.1⟩)⟩
 exact aC
def jP {P:Be} {ops:Aj Al} {rest:Ah Al} {o:Al} {a:Act} {Q:Exit->Act->Ac->Prop} (E:o.guard=none) (s x:Operand) (t:TypeId)
    (ho:o.op=.call { callee:=.builtin .append,args:=#[s,x],argTypes:=#[t,t] })
    {z:Bh} {bytes:Nat} (ht:P.underlying t=some (.slice e)) (hinf:(P.info? e).map (λi=>(i.zero,i.size,i.bytes))=some (some z,r.n,bytes)) (hzs:z.cells.size=r.n) (hn:0 < r.n) (hby:bytes<=1000)
    {B:Nat} (hown:kQ e r w v xs S) (hs:a.eval s=v) {b:Nat} (hx:a.eval x=.slice (some ⟨b,0,none⟩) 1 1) (hb:b=w.heap.size) {cs:Ah Bh} {y:α} (hy:r.own w cs y T)
    {u:Ac} (hu:u=w.alloc (.cells cs.toArray e)) (hST:∀ k,S k->T k->False) (hSB:∀ k,S k->B<=k/\k < w.heap.size) (hTB:∀ k,T k->B<=k/\k < w.heap.size) (hB:B<=w.heap.size) (hlen:xs.length + 1<=1000000000)
    (h:∀ v' w',kQ e r w' v' (xs++[y]) (jb B w'.heap.size)->Below B w w'->w.heap.size < w'.heap.size->Au P ops Q rest (a.put o.dst v') w'):Au P ops Q (o :: rest) a u:=by
 refine kBy E s x t ho ht hinf hzs hn hby hown hs hx hb hy hu hST hlen ?_
 intro v' w' h1 h2
 subst hu
 have U:=h2.size
 simp at U
 refine h v' w' (h1.wide ?_) ?_ bH3
 · intro k hk;rcases hk with hk | hk | hk
   · have:=hSB k hk;exact ⟨this.1,by omega⟩
   · have:=hTB k hk;exact ⟨this.1,by omega⟩
   exact ⟨by omega,hk.2⟩
 refine ((Below.refl B w).alloc hB _).trans (h2.below ?_ ?_)
 · simp;omega
 intro k hk;have:=hSB k hk.2;omega
end
end kD
end Go.Proofs.YtjhfdpopkkmigabGreat
namespace Go.Proofs.YtjhfdpopkkmigabGreat
open _root_.Go.Proofs.Tryz
def kAm:(prog.info? 3).map (λi=>(i.zero,i.size,i.bytes))=some (some (.int .i64 0),1,8):=by kernel_rfl
def kCk:(prog.info? 9).map (λi=>(i.zero,i.size,i.bytes))=some (some (.string ByteArray.empty),1,16):=by kernel_rfl
def kFb:(prog.info? 5).map (λi=>(i.zero,i.size,i.bytes))=some (some (.int .u8 0),1,1):=by kernel_rfl
def kAy:(prog.info? 166).map (λi=>(i.zero,i.size,i.bytes))=some (some (.agg #[.slice none 0 0,Qn 0,Qn 0]),3,40):=by kernel_rfl
def kDa:(prog.info? 144).map (λi=>(i.zero,i.size,i.bytes))=some (some (.agg #[.slice none 0 0,Qn 0,Qn 0]),3,40):=by kernel_rfl
def yx:(prog.info? 91).map (λi=>(i.zero,i.size,i.bytes))=some (some (.agg #[Qn 0,Qn 0,Qn 0]),3,24):=by kernel_rfl
def yQ:(prog.info? 93).map (λi=>(i.zero,i.size,i.bytes))=some (some (.agg #[.slice none 0 0,.slice none 0 0,Qn 0]),3,56):=by kernel_rfl
def kFa:(prog.info? 121).map (λi=>(i.zero,i.size,i.bytes))=some (some (.agg #[.slice none 0 0,Qn 0]),2,32):=by kernel_rfl
def kQr:(prog.info? 70).map (λi=>(i.zero,i.size,i.bytes))=some (some (.agg #[.slice none 0 0,.slice none 0 0,.slice none 0 0,Qn 0,Qn 0]),5,88):=by kernel_rfl
def kAv:(prog.info? 127).map (λi=>(i.zero,i.size,i.bytes))=some (some (.agg #[.slice none 0 0,.slice none 0 0,.slice none 0 0,Qn 0,Qn 0,Qn 0]),6,96):=by kernel_rfl
def kMp:(prog.info? 76).map (λi=>(i.zero,i.size,i.bytes))=some (some (.agg #[Qn 0,.bool false,.slice none 0 0,Qn 0,Qn 0,Qn 0,.slice none 0 0,.slice none 0 0,.slice none 0 0,Qn 0,Qn 0]),11,152):=by kernel_rfl
def infRule:(prog.info? 193).map (λi=>(i.zero,i.size,i.bytes))=some (some (.agg #[.slice none 0 0,.slice none 0 0]),2,48):=by kernel_rfl
end Go.Proofs.YtjhfdpopkkmigabGreat
namespace Go.Proofs.YtjhfdpopkkmigabGreat
open Go.RowKit _root_.Go.Proofs.Tryz
def inR (n a b:Int):Bool:=decide (a<=n) && decide (n<=b)
def kDs (a b:Int):Int:=if a < b then -1 else if b < a then 1 else 0
def orI:Ah Int->Int
  | []=>0
  | a :: l=>if a=0 then orI l else a
def jBp {x:Ah Int} {k:Nat} (h:k < x.length) (hx:x[k]≠0) (hno:∀ j,(h:j < k)->(h2:j < x.length)->x[j]=0):orI x=x[k]:=by
 induction x generalizing k with
 | nil=>simp at h
 | cons a l ih =>
   cases k with
   | zero=>simp at hx;simp [orI,hx]
   | succ k =>
     have h0:=hno 0 bH3 bH4;simp at h0;simp only [orI,h0,if_true,List.getElem_cons_succ];exact ih bF6 (by simpa using hx) (λj hj h2=>hno (j + 1) bH3 (by simp only [Bj];omega))
def orI_miss {x:Ah Int} (hno:∀ j,(h2:j < x.length)->x[j]=0):orI x=0:=by
 induction x with
 | nil=>rfl
 | cons a l ih =>
   have h0:=hno 0 bH4;simp at h0;simp only [orI,h0,if_true];exact ih (λj h2=>hno (j + 1) (by simp only [Bj];omega))
def yA {w:Ac} {n a b:Int}:Calls prog 36 #[.int .i64 n,.int .i64 a,.int .i64 b] w λe w'=>e=.returned (.bool (inR n a b))/\w'=w:=by
 go_enter func36,ntmps36;by_cases h:n ≥ a
 · have hd:decide (n ≥ a)=true:=bF6;go_wp2;go_ret;exact ⟨kW (by simp [inR,h]),rfl⟩
 have hd:decide (n ≥ a)=false:=bF6;go_wp2;go_ret;exact ⟨kW (by simp [inR];omega),rfl⟩
def kBj {w:Ac} {n a b:Int}:Calls prog 22 #[.int .i64 n,.int .i64 a,.int .i64 b] w λe w'=>e=.returned (.bool (inR n a b))/\w'=w:=by
 go_enter func22,ntmps22;by_cases h:a<=n
 · have hd:decide (a<=n)=true:=bF6;go_wp2;go_ret;exact ⟨kW (by simp [inR,h]),rfl⟩
 have hd:decide (a<=n)=false:=bF6;go_wp2;go_ret;exact ⟨kW (by simp [inR];omega),rfl⟩
def isNaN_c {w:Ac} {n:Int}:Calls prog 171 #[.int .i64 n] w λe w'=>e=.returned (.bool false)/\w'=w:=by
 go_enter func171,ntmps171;go_wp2;go_ret;exact ⟨kW bH4,rfl⟩
def kRa {w:Ac} {a b:Int}:Calls prog 124 #[.int .i64 a,.int .i64 b] w λe w'=>e=.returned (.int .i64 (kDs a b))/\w'=w:=by
 go_enter func124,ntmps124;go_wp2_with fail;refine isNaN_c.mono ?_;rintro e u ⟨rfl,rfl⟩;go_wp2_with fail;refine isNaN_c.mono ?_;rintro e u ⟨rfl,rfl⟩;by_cases h:a < b
 · go_wp2;go_ret;exact ⟨jV (by simp [kDs,h]),rfl⟩
 by_cases h2:a > b
 · go_wp2;go_ret;exact ⟨jV (by unfold kDs;rw [Bo bH3,if_pos bH3]),rfl⟩
 go_wp2;go_ret;exact ⟨jV (by unfold kDs;rw [Bo bH3,Bo bH3]),rfl⟩
def cmpOr_c {w:Ac} {va:Bh} {x:Ah Int} (ha:(kD.slice 3 kD.int).raw w [va] x):Calls prog 123 #[va] w λe w'=>e=.returned (.int .i64 (orI x))/\w'=w:=by
 obtain ⟨aa,ao,rfl,la⟩:=kD.sl ha;go_enter func123,ntmps123;go_wp2;go_loop [8] (λi=>∃ k:Nat,k<=x.length/\i=.int .i64 k/\(∀ j,(h:j < k)->(h2:j < x.length)->x[j]=0)) (λi=>x.length - (intOf i).toNat);case atStart=>exact ⟨0,Nat.zero_le _,rfl,λ_ h=>by omega⟩
 obtain ⟨k,hk,rfl,hno⟩:=hrel;have HN:=yD hno;clear hno;by_cases hlt:k < x.length
 · obtain ⟨ba,G,rfl,c0,hr,A0⟩:=kD.kCu ha hlt rfl;have he:=kD.je hr;simp only [Ap,and_true] at he;obtain ⟨rfl,bb⟩:=he;clear hr bb;generalize hy:x[k]=y at *;have HY:=yD hy;clear hy;have ae:y≠0->Hid (orI x=y):=λq=>yD ((jBp hlt (by rw [HY.out];exact q) HN.out).trans HY.out);have o:y=0->Hid (∀ j,(h:j < k + 1)->(h2:j < x.length)->x[j]=0):=λq=>yD (λj h h2=>by by_cases e:j=k;(subst e;rw [HY.out];exact q);exact HN.out j bH3 h2);have HI:=yD ae;have HM:=yD o;clear ae o;by_cases h1:y=0
   · have L:=HM.out h1;clear HI HM;go_wp2;go_round;(case rel=>exact ⟨k + 1,by omega,by go_num,L.out⟩);(case measure=>simp [intOf];omega)
   have L:=HI.out h1;clear HI HM;exact lW
 have L:=yD (orI_miss (λj h2=>HN.out j bH3 h2));exact lW
end Go.Proofs.YtjhfdpopkkmigabGreat

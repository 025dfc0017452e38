/-
  Regions in two phases: a head under one condition on the world, then the rest under another. No program in sight.
-/
import Derived.Test.YtjhfdpopkkmigabGreatDrawN
set_option linter.unusedVariables false
set_option linter.defProp false
set_option linter.unusedSimpArgs false
set_option linter.unnecessarySimpa false
open Bool renaming and_eq_true->Aa,not_eq_true'->Am
open _root_ renaming decide_eq_true_eq->Ab,List->Ae,Array->Ak
open Go.Region renaming ready->Ac,Mode->Ai,noSelect->Ap,chainB->Ba,wanted->Bb,noSelect_spec->Be,free_spec->Bg,waitsFor->Bh
open Array renaming getElem?_eq_getElem->Ad,replicate->Ag,getElem?_eq_some_iff->Ah
open Go renaming World->Aj,Oper->Al,HeadInv->Av,Value->Aw,Program->Az,mem_ready->Bc
open List renaming all_cons->Aq,eq_nil_of_length_eq_zero->Ar,all_eq_true->Bd,range->Bf
open Go.Builtin renaming append_->Au
open Option.some renaming injEq->Ay
open Go.Act renaming put->Bi
namespace Go.Proofs.YtjhfdpopkkmigabGreat
open Go.RowKit
namespace kD
section
variable {α:Type} {r:kD α} {e:TypeId} {w w' u:Aj} {v:Aw} {b cap len n:Nat} {kept rest xs:Ae α} {j i:Nat} {x:α} {S T:Nat->Prop}
def zy (h:kQ e r w v xs S) (hi:i < xs.length):∃ b cap,v=.slice (some ⟨b,0,none⟩) xs.length cap/\S b/\b < w.heap.size/\xs.length<=cap/\cap<=9223372036854775807:=by
 obtain ⟨hb,h⟩:=h;rcases h with ⟨⟨a,rfl⟩,rfl⟩|⟨b,cap,cur,cs,tl,rfl,h1,h2,h3,h4,h5,h6,h7⟩
 · simp at hi
 exact ⟨b,cap,rfl,h6,(Ah.1 h3).1,h1,by unfold maxLen at h2;omega⟩
def kZt (h:kQ e r w (.slice (some ⟨b,0,none⟩) len cap) xs S) (hi:0 < xs.length):∃ cur,w.heap[b]?=some (.cells cur e (0,0))/\cur.size=cap * r.n:=by
 obtain ⟨hb,h⟩:=h;rcases h with ⟨⟨a,h0⟩,rfl⟩|⟨b,cap,cur,cs,tl,h0,h1,h2,h3,h4,h5,h6,h7⟩
 · simp at hi
 simp only [Value.slice.injEq,Ay,Addr.mk.injEq,and_true] at h0;obtain ⟨rfl,rfl,rfl⟩:=h0;exact ⟨cur,h3,h5⟩
def own_own0 (h:(slice e r).own w [.slice (some ⟨b,0,none⟩) len cap] xs S) (hne:0 < xs.length) {cur:Ak Aw} (hc:w.heap[b]?=some (.cells cur e (0,0))) (hs:cur.size=cap * r.n) :
    kQ e r w (.slice (some ⟨b,0,none⟩) len cap) xs S:=by
 obtain ⟨h1,h2,h3,h4,h5,hd,cs,tl,h6,h7,h8,h9,G⟩:=kQi h hne
 obtain rfl:hd=[]:=Ar h7
 rw [hc] at h6
 simp only [Ay,Obj.cells.injEq,and_true] at h6
 subst h6
 exact ⟨h5,.inr ⟨b,cap,_,cs,tl,by rw [h1],by omega,h3,hc,by simp,hs,h9,G⟩⟩
def kQ.kBi (h:kQ e r w v xs S):(slice e r).raw w [v] xs:=by
 obtain ⟨hb,h⟩:=h;have k:(slice e r).is true w [v] xs S:=by
  rcases h with ⟨⟨a,rfl⟩,rfl⟩|⟨b,cap,cur,cs,tl,rfl,h1,h2,h3,h4,h5,h6,h7⟩
  · exact ⟨a,0,0,rfl,rfl,Nat.le_refl _,Nat.zero_le _,.inl ⟨rfl,λ_=>rfl⟩⟩
  exact ⟨_,_,cap,rfl,rfl,h1,h2,.inr ⟨b,0,rfl,cur,e,(0,0),[],cs,tl,h3,by simpa using h4,rfl,by omega,λ_=>⟨rfl,rfl⟩,h6,yL h7 (λk hk=>⟨hk.1,λ_=>hk.2⟩)⟩⟩
 exact (slice e r).wide ((slice e r).weak k) (λ_ _=>trivial)
def kEv {j p:Nat} {y:α} {u:Aw} (h:kQ e r w (.slice (some ⟨b,0,none⟩) len cap) xs S) (hl:xs.length<=Big) (hi:i < xs.length) (hj:j < r.n)
    (hy:∀ {w:Aj} {cs:Ae Aw} {S:Nat->Prop},r.is true w cs xs[i] S->r.is true w (cs.set j u) y S) (hby:r.bdd Big y) (hp:p=i * r.n + j) :
    kQ e r (w.setCell ⟨b,p,none⟩ u) (.slice (some ⟨b,0,none⟩) len cap) (xs.set i y) S/\Touch (λk=>k=b) w (w.setCell ⟨b,p,none⟩ u):=by
 obtain ⟨cur,hc,hs⟩:=kZt h bH3
 obtain ⟨h1,h2⟩:=kMi (h.own hl) hi hj hy hby
 rw [Nat.zero_add,<- hp] at h1 h2
 have h3:=heap_setCell_same w b p cur e u hc
 exact ⟨own_own0 h1 (by simpa using (by omega:0 < xs.length)) h3 (by simpa using hs),h2⟩
def kGg (h:kQ e r w (.slice (some ⟨b,0,none⟩) len cap) xs S) (hi:0 < xs.length) (q:Nat):w.frozen? ⟨b,q,none⟩=false:=by
 obtain ⟨cur,hc,_⟩:=kZt h hi;exact frozen_of_row w b q _ _ hc
def blank (n:Nat):kD Unit where
  n:=n
  is _ _ cs _ _:=cs.length=n/\∀ c∈cs,c.oneCell'=true
  bdd _ _:=True
  zero:=()
  zc:=List.replicate n (.int .i64 0)
  mark _ _ k:=((),k)
  held _ _ k:=some k
  cnt:=0
  len h:=h.1
  one h:=h.2
  mono h _:=h
  wide h _:=h
  weak h:=h
  live h:=h
  bdd_mono _ _:=trivial
  bdd_zero:=trivial
  is_zero:=by intro o w S;exact ⟨by simp,λc hc=>by rw [List.eq_of_mem_replicate hc];rfl⟩
  mark_held:=by intros;rfl
  held_ge:=by intro e x k k' h;simp at h;omega
  mark_ge:=by intros;simp
  mark_le:=by intros;simp
  mark_bdd _ _:=trivial
def kZm {n:Nat}:∀ (m:Nat) (cs:Ae Aw),cs.length=m * n->(∀ c∈cs,c.oneCell'=true)->row (blank n) true w cs (List.replicate m ()) (λ_=>False)
  | 0,cs,h,_=>by simpa [row] using Ar bF6
  | m + 1,cs,h,h1=>by
    have hl:n<=cs.length:=by rw [h,Nat.add_mul];omega
    refine ⟨cs.take n,cs.drop n,λ_=>False,λ_=>False,by simp,⟨by simp;omega,λc hc=>h1 c (List.mem_of_mem_take hc)⟩,kZm m _ (by rw [List.length_drop,h,Nat.add_mul];omega) (λc hc=>h1 c (List.mem_of_mem_drop hc)),λ_ h=>h,λ_ h=>h,λ_ _ h _=>h⟩
def run_first {P:Az} {t ty:TypeId} {i:TypeInfo} {z:Aw} (ht:P.underlying t=some (.slice e)) (hi:P.info? e=some i) (hz:i.zero=some z) (hsize:i.size=r.n) (hzs:z.cells.size=r.n) (hn:0 < r.n) (hby:i.bytes<=1000)
    {a0:Option Addr} {sv:Aw} {m:Nat} {cells:Ae Aw} (hsrc:Src u sv m cells) (hl:cells.length=m * r.n) (h1:∀ c∈cells,c.oneCell'=true) (hlen:m<=1000000000) :
    ∃ v' o,(Au #[t,t] ty #[.slice a0 0 0,sv]).run P u=.ok v' o/\Qb u o /\
      ∀ {ys:Ae α} {T:Nat->Prop},row r true u cells ys T->(∀ y∈ys,r.bdd Big y)->kQ e r o v' ys (λk=>T k\/(u.heap.size<=k/\k < o.heap.size))/\(ys≠[]->∀ k,some k=v'.ownBlock->u.heap.size<=k):=by
 obtain ⟨v',o,hr,aa,ho⟩:=kEt (P:=P) (ty:=ty) (r:=r) ht hi hz hsize hzs hn hby (kQ.void (a:=a0) (S:=λ_=>False)) hsrc hl h1 bD2
 refine ⟨v',o,hr,aa.below nL (λk hk=>hk.2.elim),?_⟩
 intro ys T hrow hb
 have h2:=ho hrow (λ_ h=>h.elim) hb
 rw [List.nil_append] at h2
 refine ⟨h2.wide (λk hk=>hk.elim (λq=>q.elim) id),?_⟩
 intro hne k hk
 obtain ⟨v2,u2,I,_,H⟩:=kEt (P:=P) (ty:=ty) (r:=blank r.n) ht hi hz hsize hzs hn hby (kQ.void (a:=a0) (S:=λ_=>False)) hsrc hl h1 bD2
 rw [hr] at I
 simp only [Result.ok.injEq] at I
 obtain ⟨rfl,rfl⟩:=I
 have h3:=H (kZm m cells hl h1) (λ_ h=>h.elim) (λ_ _=>trivial)
 have hm:ys.length=m:=by
  have:=zH hrow;rw [hl] at this;exact (Nat.eq_of_mul_eq_mul_right hn this).symm
 have J:0 < ys.length:=List.length_pos_iff.2 hne
 obtain ⟨b1,E,e1,D,_⟩:=zy (i:=0) h3 bG7
 rw [e1] at hk
 simp only [Value.ownBlock,Option.map_some,Ay] at hk
 subst hk
 rcases D with q | q | q
 · exact q.elim
 · exact q.elim
 exact q.1
def wpList_append_run {P:Az} {ops:Ak Al} {D:Ae Al} {o:Al} {a:Act} {Q:Exit->Act->Aj->Prop} (E:o.guard=none) (s x:Operand) (t:TypeId)
    (ho:o.op=.call { callee:=.builtin .append,args:=#[s,x],argTypes:=#[t,t] }) {v sv v':Aw} (hs:a.eval s=v) (hx:a.eval x=sv)
    (hr:(Au #[t,t] o.type #[v,sv]).run P w=.ok v' w') (h:wpList P ops Q D (a.put o.dst v') w'):wpList P ops Q (o :: D) a w :=
  wpList_plain E λ_ H=>kV s x t ho hs hx hr (H _ _ h)
def kIb {P:Az} {t:TypeId} {z:Aw} {bytes:Nat} (ht:P.underlying t=some (.slice e)) (hinf:(P.info? e).map (λi=>(i.zero,i.size,i.bytes))=some (some z,r.n,bytes)) (hzs:z.cells.size=r.n) (hn:0 < r.n) (hby:bytes<=1000)
    (h:gap e r w b cap n kept j rest S) (hu:Qb w u) {a0:Option Addr} (hlen:n<=16777216) (c1 c2:Nat) (af ag:TypeId) {q kl rl:Nat} (hq:rest≠[]->q=(kept.length + j) * r.n) (hkl:kl=kept.length) (fw:rl=rest.length) :
    ∃ v1 u1,(Au #[t,t] af #[.slice a0 0 0,.slice (some ⟨b,0,none⟩) kl c1]).run P u=.ok v1 u1/\Qb u u1 /\
      ∃ v2 u2,(Au #[t,t] ag #[v1,.slice (some ⟨b,q,none⟩) rl c2]).run P u1=.ok v2 u2/\kQ e r u2 v2 (kept++rest) (λk=>S k\/(u.heap.size<=k/\k < u2.heap.size))/\Qb u u2:=by
 subst hkl fw
 obtain ⟨i,hi,hz,hsize,D⟩:=info_parts hinf
 obtain ⟨a1,a2,a3,a4,a5,Y,c,J,d,tl,A,B,h1,h2,h3,h4,h5,h6,h7,h8⟩:=h
 have F:=zH h4
 have al:=zH h5
 have N:b < w.heap.size:=(Ah.1 h1).1
 have E:u.heap[b]?=_:=(hu.block b N).trans h1
 have U:=hu.size
 have live:∀ {X:Aj},Qb w X->∀ {cells:Ae Aw} {ys:Ae α} {C:Nat->Prop},row r true w cells ys C->row r true X cells ys (λk=>C k/\k < w.heap.size) :=
   by intro X hX cells ys C hr;exact yI (zb hr) (λk hk=>hX.block k hk.2)
 have cellAt:∀ {X:Aj},X.heap[b]?=some (.cells (c++(J++(d++tl))).toArray e (0,0))->∀ (o:Nat) (pre mid L:Ae Aw),c++(J++(d++tl))=pre++(mid++L)->pre.length=o->∀ q uu,mid[q]?=some uu->X.cell? ((⟨b,o,none⟩:Addr).add q)=some uu:=by
  intro X hX o pre mid L he ho q uu hq;have G:(⟨b,o,none⟩:Addr).add q=⟨b,o + q,none⟩:=rH;have bk:=(List.getElem?_eq_some_iff.1 hq).1;rw [G,cell_of_row X b _ _ e (0,0) hX];simp only [List.getElem?_toArray];rw [he,List.getElem?_append_right bH3,List.getElem?_append_left bH3];rw [<- hq];congr 1;omega
 have ad:Src u (.slice (some ⟨b,0,none⟩) kept.length c1) kept.length c:=.inr ⟨_,_,rfl,cellAt E 0 [] c (J++(d++tl)) bH4 rfl⟩
 obtain ⟨v1,u1,bb,O,ac⟩:=run_first (P:=P) (ty:=af) (a0:=a0) ht hi hz hsize hzs hn bH3 ad F (row_one h4) bH3
 have V:Qb w u1:=hu.trans (O.mono U)
 have ah:=O.size
 refine ⟨v1,u1,bb,O,?_⟩
 have aa:u1.heap[b]?=_:=(V.block b N).trans h1
 have ab:Src u1 (.slice (some ⟨b,q,none⟩) rest.length c2) rest.length d:=by
  by_cases a7:rest=[]
  · subst a7;exact .inl ⟨rfl,_,_,rfl⟩
  rw [hq a7];exact .inr ⟨_,_,rfl,cellAt aa _ (c++J) d tl bH4 (by simp [F,h3,Nat.add_mul])⟩
 obtain ⟨R,Z,W,a8⟩:∃ R:Nat->Prop,(∀ k,R k->A k/\k < w.heap.size)/\kQ e r u1 v1 kept (λk=>R k\/(u.heap.size<=k/\k < u1.heap.size))/\∀ k,some k=v1.ownBlock->(R k\/(u.heap.size<=k/\k < u1.heap.size))->u.heap.size<=k:=by
  by_cases ce:kept=[]
  · subst ce;obtain rfl:c=[]:=h4;obtain ⟨o1,_⟩:=ac (ys:=[]) (T:=λ_=>False) rfl bH4;exact ⟨λ_=>False,λ_ h=>h.elim,o1,λk _ h=>h.elim (λq=>q.elim) (λq=>q.1)⟩
  obtain ⟨o1,o2⟩:=ac (live hu h4) a1;exact ⟨_,λk hk=>hk,o1,λk hk _=>o2 ce k hk⟩
 obtain ⟨v2,u2,I,ap,H⟩:=kEt (P:=P) (ty:=ag) ht hi hz hsize hzs hn bH3 W ab al (row_one h5) bH3
 have ae:=H (live V h5) (by
   rintro k (q1 | q1) q2
   · exact h8 k (Z k q1).1 q2.1
   · have:=q2.2;omega) a2
 refine ⟨v2,u2,I,ae.wide ?_,O.trans (ap.below ah (λk hk=>a8 k hk.1 hk.2))⟩
 have c4:=ap.size
 rintro k ((q | q) | q | q)
 · exact .inl (h6 k (Z k q).1).1
 · exact .inr ⟨q.1,by omega⟩
 · exact .inl (h7 k q.1).1
 exact .inr ⟨by omega,q.2⟩
end
end kD
end Go.Proofs.YtjhfdpopkkmigabGreat
namespace Go.Proofs.YtjhfdpopkkmigabGreat
open Go
section
variable {P:Az} {ops:Ak Al} {S:Aj->Prop} {Q:Exit->Act->Aj->Prop}
def kHz (md:Ai) (ops:Ak Al) (n:Nat) (D:Ae Nat):Bool :=
  (Bf n).all λi=>D.contains i || (Bf (n + 1)).any λj=>decide (i < j) && (!D.contains j && Bh md ops j i)
def kTc {md:Ai} {n:Nat} {D:Ae Nat} {listed:Ak Bool} (hs:kHz md ops n D=true) (hc:Ba md ops n=true) (hn:n < ops.size) (inv:Av md ops n listed) :
    ∀ (d i:Nat),n - i=d->i < n->D.contains i=false->listed.getD i true=false->∀ t,n<=t->t ∉ Ac md ops listed:=by
 intro d
 induction d using Nat.strongRecOn with
 | _ d ih =>
   intro i hd hi Y F t ht hr;obtain ⟨_,R,E,G⟩:=Bc.1 hr;have H:t < ops.size:=(Ah.1 E).1;by_cases am:t=n
   · exact oJ
   · have h1:=Bd.1 hc t (List.mem_range.2 H);simp only [Bool.or_eq_true,Ab] at h1;rcases h1 with h1 | h1
     · omega
     · obtain ⟨V,L,e,he,hb,o⟩:=Region.waitsFor_spec h1;have:V=R:=Option.some.inj (L.symm.trans E);subst this;have h2:=G e he hb;rw [o,getD_both (inv.tail (t - 1) bH3 bH3)] at h2;cases h2
def kVj {md:Ai} {n i:Nat} {D:Ae Nat} {V:Al} {v:Aw} {L:Ak Bool->Act->Aj->Prop} (hi:ops[i]?=some V) (E:∀ (j:Nat) (o:Al) cs b,ops[j]?=some o->o.op≠.select cs b)
    (hQ:∀ c a w,Q (.panic c) (a.put V.dst v) w->Q (.panic c) a w) (hs:kHz md ops n D=true) (hc:Ba md ops n=true) (hn:n < ops.size) (O:i < n) (Y:D.contains i=false)
    (X:∀ listed a w,L listed a w->∀ j∈Ac md ops listed,n<=j) :
    ∀ (f:Nat) (listed:Ak Bool) (a:Act) (w:Aj),Av md ops n listed ->
      (∀ j J,ops[j]?=some J->j≠i->listed.getD j true=false->(∀ e∈J.after,Region.binds md e=true->e.on≠i)->V.apart ops J=true) ->
      i∈Ac md ops listed->YieldsIf P ops S V v a->S w ->
      kBm P md ops Q S n L f (listed.setIfInBounds i true) (a.put V.dst v) w->kBm P md ops Q S n L (f + 1) listed a w:=by
 intro f
 induction f with
 | zero =>
   intro listed a w inv _ hr hy hS H;have F:=(Bc.1 hr).1;refine ⟨λh=>wX,λj hj=>?_⟩;have ad:j < n:=by
     rcases Nat.lt_or_ge j n with h | h
     · exact h
     · exact absurd hj (kTc hs hc hn inv _ i rfl O Y F j h)
   exact oD
 | succ f ih =>
   intro listed a w inv R hr hy hS H;have F:=(Bc.1 hr).1;refine ⟨λh=>wX,λj hj=>?_⟩;have ad:j < n:=by
     rcases Nat.lt_or_ge j n with h | h
     · exact h
     · exact absurd hj (kTc hs hc hn inv _ i rfl O Y F j h)
   exact oF
def kIk {l:Ae Al} {n g:Nat} {D:Ae Nat} (E:Ap l.toArray=true) (hQ:∀ c a d v w,Q (.panic c) (Bi a d v) w->Q (.panic c) a w)
    (hs:kHz .any l.toArray n D=true) (hc:Ba .any l.toArray n=true) (hn:n < l.toArray.size) (hg:n + g=l.length):∀ (q:Ae (Nat × Bool)) (k:Nat) (listed:Ak Bool) (a:Act) (w:Aj),
    q.all (λx=>decide (x.1 < n) && !D.contains x.1)=true->Av .any l.toArray n listed->kDx .any l.toArray n g q listed=true->S w->kCq P l.toArray S Q k (jB l q++l.drop n) (q.map (·.2)) a w ->
    kBm P .any l.toArray Q S n (λlisted a w=>Region.seqB .any l.toArray g n listed=true/\∃ r,(∀ j,r[j]?=l.toArray[n + j]?)/\r.length=g/\wpList P l.toArray Q r a w) q.length listed a w
  | [],k,listed,a,w,_,inv,hB,hS,h=>by
    exact oH
  | (i,true) :: q,k,listed,a,w,hi,inv,hB,hS,h=>by
    simp only [Aq,Aa,Ab,Am] at hi;have hil:i < l.toArray.size:=Nat.lt_trans hi.1.1 hn;have h0:l.toArray[i]?=some l.toArray[i]:=Ad hil;have hp:jB l ((i,true) :: q)=l.toArray[i] :: jB l q:=by
      exact oG
    rw [hp] at h;obtain ⟨v,hy,h⟩:=h;simp only [kDx,Aa] at hB;obtain ⟨hr,hi2⟩:=ES;exact kVj h0 (Be E) (λc a w=>hQ c a _ _ w) hs hc hn hi.1.1 hi.1.2 (λF a' w' N=>seqB_ready N.1) q.length listed a w inv (Bg h0 hB.1.2) hr hy hS
      (kIk E hQ hs hc hn hg q (k + 1) _ _ _ hi2 (inv.set hr hi.1.1) hB.2 hS h)
  | (i,false) :: q,k,listed,a,w,hi,inv,hB,hS,h=>by
    simp only [Aq,Aa,Ab,Am] at hi;obtain ⟨hi2,hil⟩:=EZ;have h0:l.toArray[i]?=some l.toArray[i]:=Ad hil;have hp:jB l ((i,false) :: q)=l.toArray[i] :: jB l q:=by
      exact oG
    rw [hp] at h;simp only [kDx,Aa,beq_iff_eq] at hB;have hr:i∈Ac .any l.toArray listed:=bF0;refine ⟨by rw [hB.1];simp,λj hj=>?_⟩;rw [hB.1] at hj;obtain rfl:j=i:=bD9;refine ⟨hi.1.1,?_⟩;refine wpOp_mono (λa' w' G=>⟨G.1,kIk E hQ hs hc hn hg q (k + 1) _ _ _ hi2 (inv.set hr hi.1.1) hB.2 G.1 G.2⟩) (K:=λa' w'=>S w'/\kCq P l.toArray S Q (k + 1) (jB l q++l.drop n) (q.map (·.2)) a' w') ?_;exact oI
def preB (md:Ai) (ops:Ak Al):Ae Nat->Ak Bool->Bool
  | [],_=>true
  | k :: p,listed=>(Ac md ops listed).contains k && Region.free md ops listed k && preB md ops p (listed.setIfInBounds k true)
def kJn:Ae Nat->Ak Bool->Ak Bool
  | [],b=>b
  | k :: p,b=>kJn p (b.setIfInBounds k true)
def zO (l:Ae Al):Ae Nat->Ae Al
  | []=>[]
  | k :: q=>match l[k]? with
    | some o=>o :: zO l q
    | none=>[]
def preR (P:Az) (ops:Ak Al) (K:Act->Prop):Ae Al->Act->Prop
  | [],a=>K a
  | o :: l,a=>∃ v,Yields P ops o v a/\preR P ops K l (a.put o.dst v)
@[irreducible] def pre (P:Az) (ops:Ak Al) (K:Act->Prop) (l:Ae Al) (a:Act):Prop:=preR P ops K l a
def kNa {l:Ae Al} {n f:Nat} (E:Ap l.toArray=true) (hQ:∀ c a d v w,Q (.panic c) (Bi a d v) w->Q (.panic c) a w) {w:Aj} (hn:n < l.toArray.size):∀ (D:Ae Nat) (listed:Ak Bool) (a:Act),
    D.all (λx=>decide (x < n))=true->Av .any l.toArray n listed->preB .any l.toArray D listed=true->preR P l.toArray (λa'=>Av .any l.toArray n (kJn D listed)->wpAny P .any l.toArray Q f (kJn D listed) a' w) (zO l D) a->wpAny P .any l.toArray Q (D.length + f) listed a w
  | [],listed,a,_,inv,_,h=>by
    simp only [List.length_nil,Nat.zero_add];exact h inv
  | i :: D,listed,a,hi,inv,hB,h=>by
    simp only [Aq,Aa,Ab] at hi;have hil:i < l.toArray.size:=Nat.lt_trans hi.1 hn;have h0:l.toArray[i]?=some l.toArray[i]:=Ad hil;have hp:zO l (i :: D)=l.toArray[i] :: zO l D:=by
      have:l[i]?=some l.toArray[i]:=by simp
      simp only [zO,this]
    rw [hp] at h;obtain ⟨v,hy,h⟩:=h;simp only [preB,Aa] at hB;have hr:i∈Ac .any l.toArray listed:=bB9;rw [show (i :: D).length + f=(D.length + f) + 1 by simp;omega];exact wpAny_take h0 E hB.1.2 hB.1.1 (λc a w=>hQ c a _ _ w) hy (kNa E hQ hn D _ _ (by simpa using hi.2) (inv.set hr hi.1) hB.2 h)
def skipOk (md:Ai) (ops:Ak Al) (D:Ae Nat) (q:Ae (Nat × Bool)):Bool :=
  Ap ops && (decide (D.length + q.length < ops.size) && (D.all (λx=>decide (x < D.length + q.length)) && (q.all (λx=>decide (x.1 < D.length + q.length) && !D.contains x.1) && (kHz md ops (D.length + q.length) D && (Ba md ops (D.length + q.length) &&
    (preB md ops D (Ag ops.size false) && kDx md ops (D.length + q.length) (ops.size - (D.length + q.length)) q (kJn D (Ag ops.size false))))))))
def kNi {K D:Act->Prop} (h:∀ a,K a->D a):∀ (l:Ae Al) (a:Act),preR P ops K l a->preR P ops D l a
  | [],a,q=>h a q
  | o :: l,a,⟨v,hy,q⟩=>⟨v,hy,kNi h l _ q⟩
def ym {id:Nat} {a:Act} {w:Aj} {l:Ae Al} (S:Aj->Prop) (D:Ae Nat) (q:Ae (Nat × Bool)) (hm:P.follows .mixedOrders=true) (hB:skipOk .any l.toArray D q=true)
    (hQ:∀ c a d v w,Q (.panic c) (Bi a d v) w->Q (.panic c) a w) (hS:S { w with drawn:=w.drawn + 1 })
    (h:∀ w',S w'->pre P l.toArray (λa'=>soft P l.toArray S Q 0 (jB l q++l.drop (D.length + q.length)) (q.map (·.2)) a' w') (zO l D) a):(Code.region id l.toArray true).wp P Q a w:=by
 simp only [skipOk,Aa,Ab] at hB
 have h:=h _ hS
 unfold pre at h
 unfold soft at h
 have U:l.toArray.size=l.length:=bH4
 have E:Av .any l.toArray (D.length + q.length) (Ag l.toArray.size false) :=
   ⟨by simp,λj J _ hl=>qG,λt _ ht=>getD_in bE8 (getD_replicate_false _ _)⟩
 refine wp_region_any hm ?_
 have hn:=hB.2.1
 have a9:q.all (λx=>decide (x.1 < D.length + q.length) && !D.contains x.1)=true:=by simpa only [Aa,Ab,Am] using hB.2.2.2.1
 rw [show l.toArray.size=D.length + (q.length + (l.toArray.size - (D.length + q.length))) by omega]
 rw [show D.length + (q.length + (l.toArray.size - (D.length + q.length)))=l.toArray.size by omega] 
 have key:=kNa (f:=q.length + (l.toArray.size - (D.length + q.length))) hB.1 hQ hn D (Ag l.toArray.size false) a (by simpa using hB.2.2.1) E hB.2.2.2.2.2.2.1 (kNi (λa' hk=>by
   intro F;have H:=kIk (g:=l.toArray.size - (D.length + q.length)) hB.1 hQ hB.2.2.2.2.1 hB.2.2.2.2.2.1 hn bH3 q 0 _ a' _ a9 F hB.2.2.2.2.2.2.2 hS hk;exact kBn (Q:=Q) (g:=l.toArray.size - (D.length + q.length)) (λlisted a' w' N=>by
     obtain ⟨hq,o,ho,I,hw⟩:=N;have:=wpAny_of_seq (md:=.any) (Q':=Q) o (D.length + q.length) listed a' w' ho (by rw [I];exact hq) hw;rwa [I] at this) _ _ _ _ H) _ _ h)
 rw [show D.length + (q.length + (l.toArray.size - (D.length + q.length)))=l.toArray.size by omega] at key
 exact key
def pre_nil {K:Act->Prop} {a:Act} (h:K a):pre P ops K [] a:=by unfold pre;exact h
def kGe {K:Act->Prop} {o:Al} {l:Ae Al} {a:Act} {v:Aw} (hg:Bb o (yielded ops a.tmps)=true) (hv:∀ w,(execOp a.eval o).run P w=.ok (.value v) w) (h:pre P ops K l (a.put o.dst v)):pre P ops K (o :: l) a:=by
 unfold pre at h ⊢;exact ⟨v,.inl ⟨hg,hv⟩,h⟩
end
section
variable {P:Az} {ops:Ak Al} {S S2:Aj->Prop} {Q:Exit->Act->Aj->Prop}
def treeB (md:Ai) (ops:Ak Al) (n:Nat):Bool :=
  (Bf ops.size).all λt=>decide (t<=n) || (Bf t).any λj=>decide (n<=j) && Bh md ops t j
def kTb {md:Ai} {n:Nat} {D:Ae Nat} {listed:Ak Bool} (hs:kHz md ops n D=true) (hc:treeB md ops n=true) (hn:n < ops.size) (inv:Av md ops n listed) :
    ∀ (d i:Nat),n - i=d->i < n->D.contains i=false->listed.getD i true=false->∀ t,n<=t->t ∉ Ac md ops listed:=by
 intro d
 induction d using Nat.strongRecOn with
 | _ d ih =>
   intro i hd hi Y F t ht hr;obtain ⟨_,R,E,G⟩:=Bc.1 hr;have H:t < ops.size:=(Ah.1 E).1;by_cases am:t=n
   · exact oJ
   · have h1:=Bd.1 hc t (List.mem_range.2 H);simp only [Bool.or_eq_true,Ab] at h1;rcases h1 with h1 | h1
     · omega
     · exact oK
def kVi {md:Ai} {n i:Nat} {D:Ae Nat} {V:Al} {v:Aw} {L:Ak Bool->Act->Aj->Prop} (hi:ops[i]?=some V) (E:∀ (j:Nat) (o:Al) cs b,ops[j]?=some o->o.op≠.select cs b)
    (hQ:∀ c a w,Q (.panic c) (a.put V.dst v) w->Q (.panic c) a w) (hs:kHz md ops n D=true) (hc:treeB md ops n=true) (hn:n < ops.size) (O:i < n) (Y:D.contains i=false)
    (X:∀ listed a w,L listed a w->∀ j∈Ac md ops listed,n<=j) :
    ∀ (f:Nat) (listed:Ak Bool) (a:Act) (w:Aj),Av md ops n listed ->
      (∀ j J,ops[j]?=some J->j≠i->listed.getD j true=false->(∀ e∈J.after,Region.binds md e=true->e.on≠i)->V.apart ops J=true) ->
      i∈Ac md ops listed->YieldsIf P ops S V v a->S w ->
      kBm P md ops Q S n L f (listed.setIfInBounds i true) (a.put V.dst v) w->kBm P md ops Q S n L (f + 1) listed a w:=by
 intro f
 induction f with
 | zero =>
   intro listed a w inv _ hr hy hS H;have F:=(Bc.1 hr).1;refine ⟨λh=>wX,λj hj=>?_⟩;have ad:j < n:=by
     rcases Nat.lt_or_ge j n with h | h
     · exact h
     · exact absurd hj (kTb hs hc hn inv _ i rfl O Y F j h)
   exact oD
 | succ f ih =>
   intro listed a w inv R hr hy hS H;have F:=(Bc.1 hr).1;refine ⟨λh=>wX,λj hj=>?_⟩;have ad:j < n:=by
     rcases Nat.lt_or_ge j n with h | h
     · exact h
     · exact absurd hj (kTb hs hc hn inv _ i rfl O Y F j h)
   exact oF
def kDy (md:Ai) (ops:Ak Al) (n:Nat) (q2:Ae (Nat × Bool)):Ae (Nat × Bool)->Ak Bool->Bool
  | [],listed=>(Ac md ops listed).all (λj=>decide (n<=j)) && kIr md ops q2 listed
  | (k,true) :: p,listed=>(Ac md ops listed).contains k && Region.free md ops listed k && kDy md ops n q2 p (listed.setIfInBounds k true)
  | (k,false) :: p,listed=>(Ac md ops listed==[k]) && kDy md ops n q2 p (listed.setIfInBounds k true)
def soft2Ok (md:Ai) (ops:Ak Al) (D:Ae Nat) (q q2:Ae (Nat × Bool)):Bool :=
  Ap ops && (decide (D.length + q.length < ops.size) && (D.all (λx=>decide (x < D.length + q.length)) && (q.all (λx=>decide (x.1 < D.length + q.length) && !D.contains x.1) && (kHz md ops (D.length + q.length) D && (treeB md ops (D.length + q.length) &&
    (preB md ops D (Ag ops.size false) && (q2.all (λx=>decide (x.1 < ops.size)) && (decide (D.length + q.length + q2.length=ops.size) && kDy md ops (D.length + q.length) q2 q (kJn D (Ag ops.size false))))))))))
def kMb (P:Az) (ops:Ak Al) (S S2:Aj->Prop) (Q:Exit->Act->Aj->Prop) (l0:Ae Al) (p2:Ae Bool):Nat->Ae Al->Ae Bool->Act->Aj->Prop
  | k,o :: l,true :: p,a,w=>∃ v,YieldsIf P ops S o v a/\kMb P ops S S2 Q l0 p2 (k + 1) l p (a.put o.dst v) w
  | k,o :: l,false :: p,a,w=>if Bb o (yielded ops a.tmps) then o.wp P a w (λa' w'=>S w'/\kMb P ops S S2 Q l0 p2 (k + 1) l p a' w') Q\/(o.asks P a w/\LetsOut Q) else S w/\kMb P ops S S2 Q l0 p2 (k + 1) l p (a.put o.dst undef) w
  | k,_,_,a,w=>S2 w/\kCq P ops S2 Q k l0 p2 a w
@[irreducible] def kJk (P:Az) (ops:Ak Al) (S S2:Aj->Prop) (Q:Exit->Act->Aj->Prop) (l0:Ae Al) (p2:Ae Bool) (k:Nat) (l:Ae Al) (p:Ae Bool) (a:Act) (w:Aj):Prop:=kMb P ops S S2 Q l0 p2 k l p a w
def kIm {l:Ae Al} {n:Nat} {D:Ae Nat} {q2:Ae (Nat × Bool)} (E:Ap l.toArray=true) (hQ:∀ c a d v w,Q (.panic c) (Bi a d v) w->Q (.panic c) a w)
    (hs:kHz .any l.toArray n D=true) (hc:treeB .any l.toArray n=true) (hn:n < l.toArray.size):∀ (q:Ae (Nat × Bool)) (k:Nat) (listed:Ak Bool) (a:Act) (w:Aj),
    q.all (λx=>decide (x.1 < n) && !D.contains x.1)=true->Av .any l.toArray n listed->kDy .any l.toArray n q2 q listed=true->S w->kMb P l.toArray S S2 Q (jB l q2) (q2.map (·.2)) k (jB l q) (q.map (·.2)) a w ->
    kBm P .any l.toArray Q S n (λlisted a w=>(Ac .any l.toArray listed).all (λj=>decide (n<=j))=true/\kIr .any l.toArray q2 listed=true/\S2 w/\∃ k,kCq P l.toArray S2 Q k (jB l q2) (q2.map (·.2)) a w) q.length listed a w
  | [],k,listed,a,w,_,inv,hB,hS,h=>by
    exact oL
  | (i,true) :: q,k,listed,a,w,hi,inv,hB,hS,h=>by
    simp only [Aq,Aa,Ab,Am] at hi;have hil:i < l.toArray.size:=Nat.lt_trans hi.1.1 hn;have h0:l.toArray[i]?=some l.toArray[i]:=Ad hil;have hp:jB l ((i,true) :: q)=l.toArray[i] :: jB l q:=by
      exact oG
    rw [hp] at h;obtain ⟨v,hy,h⟩:=h;simp only [kDy,Aa] at hB;obtain ⟨hr,hi2⟩:=ES;exact kVi h0 (Be E) (λc a w=>hQ c a _ _ w) hs hc hn hi.1.1 hi.1.2 (λF a' w' N j hj=>by simpa using Bd.1 N.1 j hj) q.length listed a w inv (Bg h0 hB.1.2) hr hy hS
      (kIm E hQ hs hc hn q (k + 1) _ _ _ hi2 (inv.set hr hi.1.1) hB.2 hS h)
  | (i,false) :: q,k,listed,a,w,hi,inv,hB,hS,h=>by
    simp only [Aq,Aa,Ab,Am] at hi;obtain ⟨hi2,hil⟩:=EZ;have h0:l.toArray[i]?=some l.toArray[i]:=Ad hil;have hp:jB l ((i,false) :: q)=l.toArray[i] :: jB l q:=by
      exact oG
    rw [hp] at h;simp only [kDy,Aa,beq_iff_eq] at hB;have hr:i∈Ac .any l.toArray listed:=bF0;refine ⟨by rw [hB.1];simp,λj hj=>?_⟩;rw [hB.1] at hj;obtain rfl:j=i:=bD9;refine ⟨hi.1.1,?_⟩;refine wpOp_mono (λa' w' G=>⟨G.1,kIm E hQ hs hc hn q (k + 1) _ _ _ hi2 (inv.set hr hi.1.1) hB.2 G.1 G.2⟩) (K:=λa' w'=>S w'/\kMb P l.toArray S S2 Q (jB l q2) (q2.map (·.2)) (k + 1) (jB l q) (q.map (·.2)) a' w') ?_;exact oI
def zl {id:Nat} {a:Act} {w:Aj} {l:Ae Al} (S S2:Aj->Prop) (D:Ae Nat) (q q2:Ae (Nat × Bool)) (hm:P.follows .mixedOrders=true) (hB:soft2Ok .any l.toArray D q q2=true)
    (hQ:∀ c a d v w,Q (.panic c) (Bi a d v) w->Q (.panic c) a w) (hS:S { w with drawn:=w.drawn + 1 })
    (h:∀ w',S w'->pre P l.toArray (λa'=>kJk P l.toArray S S2 Q (jB l q2) (q2.map (·.2)) 0 (jB l q) (q.map (·.2)) a' w') (zO l D) a):(Code.region id l.toArray true).wp P Q a w:=by
 simp only [soft2Ok,Aa,Ab] at hB
 have h:=h _ hS
 unfold pre at h
 unfold kJk at h
 have E:Av .any l.toArray (D.length + q.length) (Ag l.toArray.size false) :=
   ⟨by simp,λj J _ hl=>qG,λt _ ht=>getD_in bE8 (getD_replicate_false _ _)⟩
 refine wp_region_any hm ?_
 obtain ⟨b1,b2,R,L,O,X,U,I,V,G⟩:=hB
 have a9:q.all (λx=>decide (x.1 < D.length + q.length) && !D.contains x.1)=true:=dY
 have key:=kNa (f:=q.length + q2.length) b1 hQ b2 D (Ag l.toArray.size false) a (by simpa using R) E U (kNi (λa' hk=>by
   intro F;have H:=kIm (S2:=S2) b1 hQ O X b2 q 0 _ a' _ a9 F G hS hk;exact kBn (Q:=Q) (g:=q2.length) (λlisted a' w' N=>by
     obtain ⟨_,hb,bn,k,hw⟩:=N;exact wpAny_of_held (S:=S2) _ _ _ _ (kEn b1 hQ q2 k _ listed a' w' I nL hb bn hw)) _ _ _ _ H) _ _ h)
 rw [show D.length + (q.length + q2.length)=l.toArray.size by omega] at key
 exact key
variable {l0:Ae Al} {p2:Ae Bool} {k:Nat} {l:Ae Al} {p:Ae Bool} {a:Act} {w:Aj} {o:Al}
def kAa (hS:S2 w) (h:soft P ops S2 Q k l0 p2 a w):kJk P ops S S2 Q l0 p2 k [] [] a w:=by
 unfold soft at h;unfold kJk;exact ⟨hS,h⟩
def jf {v:Aw} (hg:Bb o (yielded ops a.tmps)=true)
    (hv:∀ w,S w->(execOp a.eval o).run P w=.ok (.value v) w) (h:kJk P ops S S2 Q l0 p2 (k + 1) l p (a.put o.dst v) w):kJk P ops S S2 Q l0 p2 k (o :: l) (true :: p) a w:=by
 unfold kJk at h ⊢
 exact ⟨v,.inl ⟨hg,hv⟩,h⟩
def zK (hg:Bb o (yielded ops a.tmps)=true)
    (h:∀ K:Act->Aj->Prop,(∀ a' w',S w'->kJk P ops S S2 Q l0 p2 (k + 1) l p a' w'->K a' w')->o.wp P a w K Q):kJk P ops S S2 Q l0 p2 k (o :: l) (false :: p) a w:=by
 unfold kJk
 show if _ then _ else _
 rw [if_pos hg]
 exact .inl (h _ (λa' w' h1 h2=>by unfold kJk at h2;exact ⟨h1,h2⟩))
end
end Go.Proofs.YtjhfdpopkkmigabGreat

/-
  Regions in two phases: a head under one condition on the world, then the rest under another. No program in sight.
-/
import Derived.Test.YtjhfdpopkkmigaaGreatDrawN
set_option linter.unusedVariables false
set_option linter.defProp false
set_option linter.unusedSimpArgs false
set_option linter.unnecessarySimpa false
open Bool renaming and_eq_true->Aa,not_eq_true'->Al
open _root_ renaming decide_eq_true_eq->Ab,List->Ae,Array->Ak
open Go.Region renaming ready->Ac,Mode->Ai,noSelect->Ap,chainB->Ay,wanted->Az,noSelect_spec->Be,free_spec->Bg,waitsFor->Bh
open Array renaming getElem?_eq_getElem->Ad,replicate->Ag,getElem?_eq_some_iff->Ah
open Go renaming World->Aj,Oper->Am,HeadInv->Au,Value->Av,mem_ready->Ba,Program->Bc
open List renaming all_cons->Aq,eq_nil_of_length_eq_zero->Ar,all_eq_true->Bb,range->Bf
open Option.some renaming injEq->Aw
open Go.Builtin renaming append_->Bd
open Go.Act renaming put->Bi
namespace Go.Proofs.YtjhfdpopkkmigaaGreat
open Go.RowKit
namespace kD
section
variable {α:Type} {r:kD α} {e:TypeId} {w w' u:Aj} {v:Av} {b cap len n:Nat} {kept rest xs:Ae α} {j i:Nat} {x:α} {S T:Nat->Prop}
def kAr (h:kU e r w v xs S) (hi:i < xs.length):∃ b cap,v=.slice (some ⟨b,0,none⟩) xs.length cap/\S b/\b < w.heap.size/\xs.length<=cap/\cap<=9223372036854775807:=by
 obtain ⟨hb,h⟩:=h;rcases h with ⟨⟨a,rfl⟩,rfl⟩|⟨b,cap,cur,cs,tl,rfl,h1,h2,h3,h4,h5,h6,h7⟩
 · simp at hi
 exact ⟨b,cap,rfl,h6,(Ah.1 h3).1,h1,by unfold maxLen at h2;omega⟩
def kYp (h:kU e r w (.slice (some ⟨b,0,none⟩) len cap) xs S) (hi:0 < xs.length):∃ cur,w.heap[b]?=some (.cells cur e (0,0))/\cur.size=cap * r.n:=by
 obtain ⟨hb,h⟩:=h;rcases h with ⟨⟨a,h0⟩,rfl⟩|⟨b,cap,cur,cs,tl,h0,h1,h2,h3,h4,h5,h6,h7⟩
 · simp at hi
 simp only [Value.slice.injEq,Aw,Addr.mk.injEq,and_true] at h0;obtain ⟨rfl,rfl,rfl⟩:=h0;exact ⟨cur,h3,h5⟩
def own_own0 (h:(slice e r).own w [.slice (some ⟨b,0,none⟩) len cap] xs S) (hne:0 < xs.length) {cur:Ak Av} (hc:w.heap[b]?=some (.cells cur e (0,0))) (hs:cur.size=cap * r.n) :
    kU e r w (.slice (some ⟨b,0,none⟩) len cap) xs S:=by
 obtain ⟨h1,h2,h3,h4,h5,hd,cs,tl,h6,h7,h8,h9,E⟩:=kOw h hne
 obtain rfl:hd=[]:=Ar h7
 rw [hc] at h6
 simp only [Aw,Obj.cells.injEq,and_true] at h6
 subst h6
 exact ⟨h5,.inr ⟨b,cap,_,cs,tl,by rw [h1],by omega,h3,hc,by simp,hs,h9,E⟩⟩
def kU.kAz (h:kU e r w v xs S):(slice e r).raw w [v] xs:=by
 obtain ⟨hb,h⟩:=h;have k:(slice e r).is true w [v] xs S:=by
  rcases h with ⟨⟨a,rfl⟩,rfl⟩|⟨b,cap,cur,cs,tl,rfl,h1,h2,h3,h4,h5,h6,h7⟩
  · exact ⟨a,0,0,rfl,rfl,Nat.le_refl _,Nat.zero_le _,.inl ⟨rfl,λ_=>rfl⟩⟩
  exact ⟨_,_,cap,rfl,rfl,h1,h2,.inr ⟨b,0,rfl,cur,e,(0,0),[],cs,tl,h3,by simpa using h4,rfl,by omega,λ_=>⟨rfl,rfl⟩,h6,yK h7 (λk hk=>⟨hk.1,λ_=>hk.2⟩)⟩⟩
 exact (slice e r).wide ((slice e r).weak k) (λ_ _=>trivial)
def kFu {j p:Nat} {y:α} {u:Av} (h:kU e r w (.slice (some ⟨b,0,none⟩) len cap) xs S) (hl:xs.length<=Big) (hi:i < xs.length) (I:j < r.n)
    (hy:∀ {w:Aj} {cs:Ae Av} {S:Nat->Prop},r.is true w cs xs[i] S->r.is true w (cs.set j u) y S) (hby:r.bdd Big y) (hp:p=i * r.n + j) :
    kU e r (w.setCell ⟨b,p,none⟩ u) (.slice (some ⟨b,0,none⟩) len cap) (xs.set i y) S/\Touch (λk=>k=b) w (w.setCell ⟨b,p,none⟩ u):=by
 obtain ⟨cur,hc,hs⟩:=kYp h bD1
 obtain ⟨h1,h2⟩:=kRs (h.own hl) hi I hy hby
 rw [Nat.zero_add,<- hp] at h1 h2
 have h3:=heap_setCell_same w b p cur e u hc
 exact ⟨own_own0 h1 (by simpa using (by omega:0 < xs.length)) h3 (by simpa using hs),h2⟩
def kHb (h:kU e r w (.slice (some ⟨b,0,none⟩) len cap) xs S) (hi:0 < xs.length) (q:Nat):w.frozen? ⟨b,q,none⟩=false:=by
 obtain ⟨cur,hc,_⟩:=kYp h hi;exact frozen_of_row w b q _ _ hc
def blank (n:Nat):kD Unit where
  n:=n
  is _ _ cs _ _:=cs.length=n/\∀ c∈cs,c.oneCell'=true
  bdd _ _:=True
  zero:=()
  zc:=List.replicate n (.int .i64 0)
  mark _ _ k:=((),k)
  held _ _ k:=some k
  cnt:=0
  len h:=h.1
  one h:=h.2
  mono h _:=h
  wide h _:=h
  weak h:=h
  live h:=h
  bdd_mono _ _:=trivial
  bdd_zero:=trivial
  is_zero:=by intro o w S;exact ⟨by simp,λc hc=>by rw [List.eq_of_mem_replicate hc];rfl⟩
  mark_held:=by intros;rfl
  held_ge:=by intro e x k k' h;simp at h;omega
  mark_ge:=by intros;simp
  mark_le:=by intros;simp
  mark_bdd _ _:=trivial
def kYi {n:Nat}:∀ (m:Nat) (cs:Ae Av),cs.length=m * n->(∀ c∈cs,c.oneCell'=true)->row (blank n) true w cs (List.replicate m ()) (λ_=>False)
  | 0,cs,h,_=>by simpa [row] using Ar bB5
  | m + 1,cs,h,h1=>by
    have hl:n<=cs.length:=by rw [h,Nat.add_mul];omega
    refine ⟨cs.take n,cs.drop n,λ_=>False,λ_=>False,by simp,⟨by simp;omega,λc hc=>h1 c (List.mem_of_mem_take hc)⟩,kYi m _ (by rw [List.length_drop,h,Nat.add_mul];omega) (λc hc=>h1 c (List.mem_of_mem_drop hc)),λ_ h=>h,λ_ h=>h,λ_ _ h _=>h⟩
def run_first {P:Bc} {t ty:TypeId} {i:TypeInfo} {z:Av} (ht:P.underlying t=some (.slice e)) (hi:P.info? e=some i) (hz:i.zero=some z) (hsize:i.size=r.n) (hzs:z.cells.size=r.n) (hn:0 < r.n) (hby:i.bytes<=1000)
    {a0:Option Addr} {sv:Av} {m:Nat} {cells:Ae Av} (hsrc:Src u sv m cells) (hl:cells.length=m * r.n) (h1:∀ c∈cells,c.oneCell'=true) (hlen:m<=1000000000) :
    ∃ v' o,(Bd #[t,t] ty #[.slice a0 0 0,sv]).run P u=.ok v' o/\Qb u o /\
      ∀ {ys:Ae α} {T:Nat->Prop},row r true u cells ys T->(∀ y∈ys,r.bdd Big y)->kU e r o v' ys (λk=>T k\/(u.heap.size<=k/\k < o.heap.size))/\(ys≠[]->∀ k,some k=v'.ownBlock->u.heap.size<=k):=by
 obtain ⟨v',o,hr,ac,ho⟩:=kFc (P:=P) (ty:=ty) (r:=r) ht hi hz hsize hzs hn hby (kU.void (a:=a0) (S:=λ_=>False)) hsrc hl h1 wP
 refine ⟨v',o,hr,ac.below nL (λk hk=>hk.2.elim),?_⟩
 intro ys T hrow hb
 have h2:=ho hrow (λ_ h=>h.elim) hb
 rw [List.nil_append] at h2
 refine ⟨h2.wide (λk hk=>hk.elim (λq=>q.elim) id),?_⟩
 intro hne k hk
 obtain ⟨v2,u2,I,_,ad⟩:=kFc (P:=P) (ty:=ty) (r:=blank r.n) ht hi hz hsize hzs hn hby (kU.void (a:=a0) (S:=λ_=>False)) hsrc hl h1 wP
 rw [hr] at I
 simp only [Result.ok.injEq] at I
 obtain ⟨rfl,rfl⟩:=I
 have h3:=ad (kYi m cells hl h1) (λ_ h=>h.elim) (λ_ _=>trivial)
 have hm:ys.length=m:=by
  have:=zQ hrow;rw [hl] at this;exact (Nat.eq_of_mul_eq_mul_right hn this).symm
 have G:0 < ys.length:=List.length_pos_iff.2 hne
 obtain ⟨b1,E,e1,D,_⟩:=kAr (i:=0) h3 bC6
 rw [e1] at hk
 simp only [Value.ownBlock,Option.map_some,Aw] at hk
 subst hk
 rcases D with q | q | q
 · exact q.elim
 · exact q.elim
 exact q.1
def kHa {P:Bc} {t:TypeId} {z:Av} {bytes:Nat} (ht:P.underlying t=some (.slice e)) (hinf:(P.info? e).map (λi=>(i.zero,i.size,i.bytes))=some (some z,r.n,bytes)) (hzs:z.cells.size=r.n) (hn:0 < r.n) (hby:bytes<=1000)
    (h:gap e r w b cap n kept j rest S) (hu:Qb w u) {a0:Option Addr} (hlen:n<=16777216) (c1 c2:Nat) (ae af:TypeId) {q kl rl:Nat} (hq:rest≠[]->q=(kept.length + j) * r.n) (am:kl=kept.length) (fn:rl=rest.length) :
    ∃ v1 u1,(Bd #[t,t] ae #[.slice a0 0 0,.slice (some ⟨b,0,none⟩) kl c1]).run P u=.ok v1 u1/\Qb u u1 /\
      ∃ v2 u2,(Bd #[t,t] af #[v1,.slice (some ⟨b,q,none⟩) rl c2]).run P u1=.ok v2 u2/\kU e r u2 v2 (kept++rest) (λk=>S k\/(u.heap.size<=k/\k < u2.heap.size))/\Qb u u2:=by
 subst am fn
 obtain ⟨i,hi,hz,hsize,D⟩:=info_parts hinf
 obtain ⟨a1,a2,a3,a4,a5,Z,c,G,d,tl,A,B,h1,h2,h3,h4,h5,h6,h7,h8⟩:=h
 have J:=zQ h4
 have au:=zQ h5
 have L:b < w.heap.size:=(Ah.1 h1).1
 have E:u.heap[b]?=_:=(hu.block b L).trans h1
 have az:=hu.size
 have live:∀ {X:Aj},Qb w X->∀ {cells:Ae Av} {ys:Ae α} {C:Nat->Prop},row r true w cells ys C->row r true X cells ys (λk=>C k/\k < w.heap.size) :=
   by intro X hX cells ys C hr;exact yG (zO hr) (λk hk=>hX.block k hk.2)
 have cellAt:∀ {X:Aj},X.heap[b]?=some (.cells (c++(G++(d++tl))).toArray e (0,0))->∀ (o:Nat) (pre mid H:Ae Av),c++(G++(d++tl))=pre++(mid++H)->pre.length=o->∀ q uu,mid[q]?=some uu->X.cell? ((⟨b,o,none⟩:Addr).add q)=some uu:=by
  intro X hX o pre mid H he ho q uu hq;have F:(⟨b,o,none⟩:Addr).add q=⟨b,o + q,none⟩:=qG;have b8:=(List.getElem?_eq_some_iff.1 hq).1;rw [F,cell_of_row X b _ _ e (0,0) hX];simp only [List.getElem?_toArray];rw [he,List.getElem?_append_right bD1,List.getElem?_append_left bD1];rw [<- hq];congr 1;omega
 have ab:Src u (.slice (some ⟨b,0,none⟩) kept.length c1) kept.length c:=.inr ⟨_,_,rfl,cellAt E 0 [] c (G++(d++tl)) bD2 rfl⟩
 obtain ⟨v1,u1,a6,O,aa⟩:=run_first (P:=P) (ty:=ae) (a0:=a0) ht hi hz hsize hzs hn bD1 ab J (row_one h4) bD1
 have R:Qb w u1:=hu.trans (O.mono az)
 have ag:=O.size
 refine ⟨v1,u1,a6,O,?_⟩
 have W:u1.heap[b]?=_:=(R.block b L).trans h1
 have Y:Src u1 (.slice (some ⟨b,q,none⟩) rest.length c2) rest.length d:=by
  by_cases a8:rest=[]
  · subst a8;exact .inl ⟨rfl,_,_,rfl⟩
  rw [hq a8];exact .inr ⟨_,_,rfl,cellAt W _ (c++G) d tl bD2 (by simp [J,h3,Nat.add_mul])⟩
 obtain ⟨N,V,U,aw⟩:∃ N:Nat->Prop,(∀ k,N k->A k/\k < w.heap.size)/\kU e r u1 v1 kept (λk=>N k\/(u.heap.size<=k/\k < u1.heap.size))/\∀ k,some k=v1.ownBlock->(N k\/(u.heap.size<=k/\k < u1.heap.size))->u.heap.size<=k:=by
  by_cases bk:kept=[]
  · subst bk;obtain rfl:c=[]:=h4;obtain ⟨o1,_⟩:=aa (ys:=[]) (T:=λ_=>False) rfl bD2;exact ⟨λ_=>False,λ_ h=>h.elim,o1,λk _ h=>h.elim (λq=>q.elim) (λq=>q.1)⟩
  obtain ⟨o1,o2⟩:=aa (live hu h4) a1;exact ⟨_,λk hk=>hk,o1,λk hk _=>o2 bk k hk⟩
 obtain ⟨v2,u2,I,bf,ad⟩:=kFc (P:=P) (ty:=af) ht hi hz hsize hzs hn bD1 U Y au (row_one h5) bD1
 have ac:=ad (live R h5) (by
   rintro k (q1 | q1) q2
   · exact h8 k (V k q1).1 q2.1
   · have:=q2.2;omega) a2
 refine ⟨v2,u2,I,ac.wide ?_,O.trans (bf.below ag (λk hk=>aw k hk.1 hk.2))⟩
 have c0:=bf.size
 rintro k ((q | q) | q | q)
 · exact .inl (h6 k (V k q).1).1
 · exact .inr ⟨q.1,by omega⟩
 · exact .inl (h7 k q.1).1
 exact .inr ⟨by omega,q.2⟩
end
end kD
end Go.Proofs.YtjhfdpopkkmigaaGreat
namespace Go.Proofs.YtjhfdpopkkmigaaGreat
open Go
section
variable {P:Bc} {ops:Ak Am} {S:Aj->Prop} {Q:Exit->Act->Aj->Prop}
def kGz (md:Ai) (ops:Ak Am) (n:Nat) (G:Ae Nat):Bool :=
  (Bf n).all λi=>G.contains i || (Bf (n + 1)).any λj=>decide (i < j) && (!G.contains j && Bh md ops j i)
def kRk {md:Ai} {n:Nat} {G:Ae Nat} {listed:Ak Bool} (hs:kGz md ops n G=true) (hc:Ay md ops n=true) (hn:n < ops.size) (inv:Au md ops n listed) :
    ∀ (d i:Nat),n - i=d->i < n->G.contains i=false->listed.getD i true=false->∀ t,n<=t->t ∉ Ac md ops listed:=by
 intro d
 induction d using Nat.strongRecOn with
 | _ d ih =>
   intro i hd hi dy E t ht hr;obtain ⟨_,V,D,O⟩:=Ba.1 hr;have F:t < ops.size:=(Ah.1 D).1;by_cases U:t=n
   · exact oF
   · have h1:=Bb.1 hc t (List.mem_range.2 F);simp only [Bool.or_eq_true,Ab] at h1;rcases h1 with h1 | h1
     · omega
     · obtain ⟨X,L,e,he,hb,o⟩:=Region.waitsFor_spec h1;have:X=V:=Option.some.inj (L.symm.trans D);subst this;have h2:=O e he hb;rw [o,getD_both (inv.tail (t - 1) bD1 bD1)] at h2;cases h2
def kTy {md:Ai} {n i:Nat} {G:Ae Nat} {V:Am} {v:Av} {L:Ak Bool->Act->Aj->Prop} (hi:ops[i]?=some V) (D:∀ (j:Nat) (o:Am) cs b,ops[j]?=some o->o.op≠.select cs b)
    (hQ:∀ c a w,Q (.panic c) (a.put V.dst v) w->Q (.panic c) a w) (hs:kGz md ops n G=true) (hc:Ay md ops n=true) (hn:n < ops.size) (X:i < n) (dy:G.contains i=false)
    (Y:∀ listed a w,L listed a w->∀ j∈Ac md ops listed,n<=j) :
    ∀ (f:Nat) (listed:Ak Bool) (a:Act) (w:Aj),Au md ops n listed ->
      (∀ j N,ops[j]?=some N->j≠i->listed.getD j true=false->(∀ e∈N.after,Region.binds md e=true->e.on≠i)->V.apart ops N=true) ->
      i∈Ac md ops listed->YieldsIf P ops S V v a->S w ->
      kBb P md ops Q S n L f (listed.setIfInBounds i true) (a.put V.dst v) w->kBb P md ops Q S n L (f + 1) listed a w:=by
 intro f
 induction f with
 | zero =>
   intro listed a w inv _ hr hy hS H;have E:=(Ba.1 hr).1;refine ⟨λh=>vF,λj I=>?_⟩;have ab:j < n:=by
     rcases Nat.lt_or_ge j n with h | h
     · exact h
     · exact absurd I (kRk hs hc hn inv _ i rfl X dy E j h)
   exact o7
 | succ f ih =>
   intro listed a w inv R hr hy hS H;have E:=(Ba.1 hr).1;refine ⟨λh=>vF,λj I=>?_⟩;have ab:j < n:=by
     rcases Nat.lt_or_ge j n with h | h
     · exact h
     · exact absurd I (kRk hs hc hn inv _ i rfl X dy E j h)
   exact o8
def kHg {l:Ae Am} {n g:Nat} {G:Ae Nat} (D:Ap l.toArray=true) (hQ:∀ c a d v w,Q (.panic c) (Bi a d v) w->Q (.panic c) a w)
    (hs:kGz .any l.toArray n G=true) (hc:Ay .any l.toArray n=true) (hn:n < l.toArray.size) (hg:n + g=l.length):∀ (q:Ae (Nat × Bool)) (k:Nat) (listed:Ak Bool) (a:Act) (w:Aj),
    q.all (λx=>decide (x.1 < n) && !G.contains x.1)=true->Au .any l.toArray n listed->kDd .any l.toArray n g q listed=true->S w->kCi P l.toArray S Q k (jB l q++l.drop n) (q.map (·.2)) a w ->
    kBb P .any l.toArray Q S n (λlisted a w=>Region.seqB .any l.toArray g n listed=true/\∃ r,(∀ j,r[j]?=l.toArray[n + j]?)/\r.length=g/\wpList P l.toArray Q r a w) q.length listed a w
  | [],k,listed,a,w,_,inv,hB,hS,h=>by
    exact oC
  | (i,true) :: q,k,listed,a,w,hi,inv,hB,hS,h=>by
    simp only [Aq,Aa,Ab,Al] at hi;have hil:i < l.toArray.size:=Nat.lt_trans hi.1.1 hn;have h0:l.toArray[i]?=some l.toArray[i]:=Ad hil;have hp:jB l ((i,true) :: q)=l.toArray[i] :: jB l q:=by
      exact o9
    rw [hp] at h;obtain ⟨v,hy,h⟩:=h;simp only [kDd,Aa] at hB;obtain ⟨hr,bu⟩:=F9;exact kTy h0 (Be D) (λc a w=>hQ c a _ _ w) hs hc hn hi.1.1 hi.1.2 (λF a' w' J=>seqB_ready J.1) q.length listed a w inv (Bg h0 hB.1.2) hr hy hS
      (kHg D hQ hs hc hn hg q (k + 1) _ _ _ bu (inv.set hr hi.1.1) hB.2 hS h)
  | (i,false) :: q,k,listed,a,w,hi,inv,hB,hS,h=>by
    simp only [Aq,Aa,Ab,Al] at hi;obtain ⟨bu,hil⟩:=FD;have h0:l.toArray[i]?=some l.toArray[i]:=Ad hil;have hp:jB l ((i,false) :: q)=l.toArray[i] :: jB l q:=by
      exact o9
    rw [hp] at h;simp only [kDd,Aa,beq_iff_eq] at hB;have hr:i∈Ac .any l.toArray listed:=bB1;refine ⟨by rw [hB.1];simp,λj I=>?_⟩;rw [hB.1] at I;obtain rfl:j=i:=bB6;refine ⟨hi.1.1,?_⟩;refine wpOp_mono (λa' w' E=>⟨E.1,kHg D hQ hs hc hn hg q (k + 1) _ _ _ bu (inv.set hr hi.1.1) hB.2 E.1 E.2⟩) (K:=λa' w'=>S w'/\kCi P l.toArray S Q (k + 1) (jB l q++l.drop n) (q.map (·.2)) a' w') ?_;exact oD
def preB (md:Ai) (ops:Ak Am):Ae Nat->Ak Bool->Bool
  | [],_=>true
  | k :: p,listed=>(Ac md ops listed).contains k && Region.free md ops listed k && preB md ops p (listed.setIfInBounds k true)
def kIh:Ae Nat->Ak Bool->Ak Bool
  | [],b=>b
  | k :: p,b=>kIh p (b.setIfInBounds k true)
def zK (l:Ae Am):Ae Nat->Ae Am
  | []=>[]
  | k :: q=>match l[k]? with
    | some o=>o :: zK l q
    | none=>[]
def preR (P:Bc) (ops:Ak Am) (K:Act->Prop):Ae Am->Act->Prop
  | [],a=>K a
  | o :: l,a=>∃ v,Yields P ops o v a/\preR P ops K l (a.put o.dst v)
@[irreducible] def pre (P:Bc) (ops:Ak Am) (K:Act->Prop) (l:Ae Am) (a:Act):Prop:=preR P ops K l a
def kLe {l:Ae Am} {n f:Nat} (D:Ap l.toArray=true) (hQ:∀ c a d v w,Q (.panic c) (Bi a d v) w->Q (.panic c) a w) {w:Aj} (hn:n < l.toArray.size):∀ (G:Ae Nat) (listed:Ak Bool) (a:Act),
    G.all (λx=>decide (x < n))=true->Au .any l.toArray n listed->preB .any l.toArray G listed=true->preR P l.toArray (λa'=>Au .any l.toArray n (kIh G listed)->wpAny P .any l.toArray Q f (kIh G listed) a' w) (zK l G) a->wpAny P .any l.toArray Q (G.length + f) listed a w
  | [],listed,a,_,inv,_,h=>by
    simp only [List.length_nil,Nat.zero_add];exact h inv
  | i :: G,listed,a,hi,inv,hB,h=>by
    simp only [Aq,Aa,Ab] at hi;have hil:i < l.toArray.size:=Nat.lt_trans hi.1 hn;have h0:l.toArray[i]?=some l.toArray[i]:=Ad hil;have hp:zK l (i :: G)=l.toArray[i] :: zK l G:=by
      have:l[i]?=some l.toArray[i]:=by simp
      simp only [zK,this]
    rw [hp] at h;obtain ⟨v,hy,h⟩:=h;simp only [preB,Aa] at hB;have hr:i∈Ac .any l.toArray listed:=vY;rw [show (i :: G).length + f=(G.length + f) + 1 by simp;omega];exact wpAny_take h0 D hB.1.2 hB.1.1 (λc a w=>hQ c a _ _ w) hy (kLe D hQ hn G _ _ (by simpa using hi.2) (inv.set hr hi.1) hB.2 h)
def skipOk (md:Ai) (ops:Ak Am) (G:Ae Nat) (q:Ae (Nat × Bool)):Bool :=
  Ap ops && (decide (G.length + q.length < ops.size) && (G.all (λx=>decide (x < G.length + q.length)) && (q.all (λx=>decide (x.1 < G.length + q.length) && !G.contains x.1) && (kGz md ops (G.length + q.length) G && (Ay md ops (G.length + q.length) &&
    (preB md ops G (Ag ops.size false) && kDd md ops (G.length + q.length) (ops.size - (G.length + q.length)) q (kIh G (Ag ops.size false))))))))
def kLn {K D:Act->Prop} (h:∀ a,K a->D a):∀ (l:Ae Am) (a:Act),preR P ops K l a->preR P ops D l a
  | [],a,q=>h a q
  | o :: l,a,⟨v,hy,q⟩=>⟨v,hy,kLn h l _ q⟩
def yf {id:Nat} {a:Act} {w:Aj} {l:Ae Am} (S:Aj->Prop) (G:Ae Nat) (q:Ae (Nat × Bool)) (hm:P.follows .mixedOrders=true) (hB:skipOk .any l.toArray G q=true)
    (hQ:∀ c a d v w,Q (.panic c) (Bi a d v) w->Q (.panic c) a w) (hS:S { w with drawn:=w.drawn + 1 })
    (h:∀ w',S w'->pre P l.toArray (λa'=>soft P l.toArray S Q 0 (jB l q++l.drop (G.length + q.length)) (q.map (·.2)) a' w') (zK l G) a):(Code.region id l.toArray true).wp P Q a w:=by
 simp only [skipOk,Aa,Ab] at hB
 have h:=h _ hS
 unfold pre at h
 unfold soft at h
 have az:l.toArray.size=l.length:=bD2
 have D:Au .any l.toArray (G.length + q.length) (Ag l.toArray.size false) :=
   ⟨by simp,λj N _ hl=>pI,λt _ ht=>getD_in bA9 (getD_replicate_false _ _)⟩
 refine wp_region_any hm ?_
 have hn:=hB.2.1
 have bu:q.all (λx=>decide (x.1 < G.length + q.length) && !G.contains x.1)=true:=by simpa only [Aa,Ab,Al] using hB.2.2.2.1
 rw [show l.toArray.size=G.length + (q.length + (l.toArray.size - (G.length + q.length))) by omega]
 rw [show G.length + (q.length + (l.toArray.size - (G.length + q.length)))=l.toArray.size by omega] 
 have key:=kLe (f:=q.length + (l.toArray.size - (G.length + q.length))) hB.1 hQ hn G (Ag l.toArray.size false) a (by simpa using hB.2.2.1) D hB.2.2.2.2.2.2.1 (kLn (λa' hk=>by
   intro E;have H:=kHg (g:=l.toArray.size - (G.length + q.length)) hB.1 hQ hB.2.2.2.2.1 hB.2.2.2.2.2.1 hn bD1 q 0 _ a' _ bu E hB.2.2.2.2.2.2.2 hS hk;exact kBf (Q:=Q) (g:=l.toArray.size - (G.length + q.length)) (λlisted a' w' J=>by
     obtain ⟨hq,o,ho,O,hw⟩:=J;have:=wpAny_of_seq (md:=.any) (Q':=Q) o (G.length + q.length) listed a' w' ho (by rw [O];exact hq) hw;rwa [O] at this) _ _ _ _ H) _ _ h)
 rw [show G.length + (q.length + (l.toArray.size - (G.length + q.length)))=l.toArray.size by omega] at key
 exact key
def pre_nil {K:Act->Prop} {a:Act} (h:K a):pre P ops K [] a:=by unfold pre;exact h
def kFd {K:Act->Prop} {o:Am} {l:Ae Am} {a:Act} {v:Av} (hg:Az o (yielded ops a.tmps)=true) (hv:∀ w,(execOp a.eval o).run P w=.ok (.value v) w) (h:pre P ops K l (a.put o.dst v)):pre P ops K (o :: l) a:=by
 unfold pre at h ⊢;exact ⟨v,.inl ⟨hg,hv⟩,h⟩
end
section
variable {P:Bc} {ops:Ak Am} {S S2:Aj->Prop} {Q:Exit->Act->Aj->Prop}
def treeB (md:Ai) (ops:Ak Am) (n:Nat):Bool :=
  (Bf ops.size).all λt=>decide (t<=n) || (Bf t).any λj=>decide (n<=j) && Bh md ops t j
def kRj {md:Ai} {n:Nat} {G:Ae Nat} {listed:Ak Bool} (hs:kGz md ops n G=true) (hc:treeB md ops n=true) (hn:n < ops.size) (inv:Au md ops n listed) :
    ∀ (d i:Nat),n - i=d->i < n->G.contains i=false->listed.getD i true=false->∀ t,n<=t->t ∉ Ac md ops listed:=by
 intro d
 induction d using Nat.strongRecOn with
 | _ d ih =>
   intro i hd hi dy E t ht hr;obtain ⟨_,V,D,O⟩:=Ba.1 hr;have F:t < ops.size:=(Ah.1 D).1;by_cases U:t=n
   · exact oF
   · have h1:=Bb.1 hc t (List.mem_range.2 F);simp only [Bool.or_eq_true,Ab] at h1;rcases h1 with h1 | h1
     · omega
     · exact oG
def kTx {md:Ai} {n i:Nat} {G:Ae Nat} {V:Am} {v:Av} {L:Ak Bool->Act->Aj->Prop} (hi:ops[i]?=some V) (D:∀ (j:Nat) (o:Am) cs b,ops[j]?=some o->o.op≠.select cs b)
    (hQ:∀ c a w,Q (.panic c) (a.put V.dst v) w->Q (.panic c) a w) (hs:kGz md ops n G=true) (hc:treeB md ops n=true) (hn:n < ops.size) (X:i < n) (dy:G.contains i=false)
    (Y:∀ listed a w,L listed a w->∀ j∈Ac md ops listed,n<=j) :
    ∀ (f:Nat) (listed:Ak Bool) (a:Act) (w:Aj),Au md ops n listed ->
      (∀ j N,ops[j]?=some N->j≠i->listed.getD j true=false->(∀ e∈N.after,Region.binds md e=true->e.on≠i)->V.apart ops N=true) ->
      i∈Ac md ops listed->YieldsIf P ops S V v a->S w ->
      kBb P md ops Q S n L f (listed.setIfInBounds i true) (a.put V.dst v) w->kBb P md ops Q S n L (f + 1) listed a w:=by
 intro f
 induction f with
 | zero =>
   intro listed a w inv _ hr hy hS H;have E:=(Ba.1 hr).1;refine ⟨λh=>vF,λj I=>?_⟩;have ab:j < n:=by
     rcases Nat.lt_or_ge j n with h | h
     · exact h
     · exact absurd I (kRj hs hc hn inv _ i rfl X dy E j h)
   exact o7
 | succ f ih =>
   intro listed a w inv R hr hy hS H;have E:=(Ba.1 hr).1;refine ⟨λh=>vF,λj I=>?_⟩;have ab:j < n:=by
     rcases Nat.lt_or_ge j n with h | h
     · exact h
     · exact absurd I (kRj hs hc hn inv _ i rfl X dy E j h)
   exact o8
def kDe (md:Ai) (ops:Ak Am) (n:Nat) (q2:Ae (Nat × Bool)):Ae (Nat × Bool)->Ak Bool->Bool
  | [],listed=>(Ac md ops listed).all (λj=>decide (n<=j)) && kEb md ops q2 listed
  | (k,true) :: p,listed=>(Ac md ops listed).contains k && Region.free md ops listed k && kDe md ops n q2 p (listed.setIfInBounds k true)
  | (k,false) :: p,listed=>(Ac md ops listed==[k]) && kDe md ops n q2 p (listed.setIfInBounds k true)
def soft2Ok (md:Ai) (ops:Ak Am) (G:Ae Nat) (q q2:Ae (Nat × Bool)):Bool :=
  Ap ops && (decide (G.length + q.length < ops.size) && (G.all (λx=>decide (x < G.length + q.length)) && (q.all (λx=>decide (x.1 < G.length + q.length) && !G.contains x.1) && (kGz md ops (G.length + q.length) G && (treeB md ops (G.length + q.length) &&
    (preB md ops G (Ag ops.size false) && (q2.all (λx=>decide (x.1 < ops.size)) && (decide (G.length + q.length + q2.length=ops.size) && kDe md ops (G.length + q.length) q2 q (kIh G (Ag ops.size false))))))))))
def kKq (P:Bc) (ops:Ak Am) (S S2:Aj->Prop) (Q:Exit->Act->Aj->Prop) (l0:Ae Am) (p2:Ae Bool):Nat->Ae Am->Ae Bool->Act->Aj->Prop
  | k,o :: l,true :: p,a,w=>∃ v,YieldsIf P ops S o v a/\kKq P ops S S2 Q l0 p2 (k + 1) l p (a.put o.dst v) w
  | k,o :: l,false :: p,a,w=>if Az o (yielded ops a.tmps) then o.wp P a w (λa' w'=>S w'/\kKq P ops S S2 Q l0 p2 (k + 1) l p a' w') Q\/(o.asks P a w/\LetsOut Q) else S w/\kKq P ops S S2 Q l0 p2 (k + 1) l p (a.put o.dst undef) w
  | k,_,_,a,w=>S2 w/\kCi P ops S2 Q k l0 p2 a w
@[irreducible] def kIf (P:Bc) (ops:Ak Am) (S S2:Aj->Prop) (Q:Exit->Act->Aj->Prop) (l0:Ae Am) (p2:Ae Bool) (k:Nat) (l:Ae Am) (p:Ae Bool) (a:Act) (w:Aj):Prop:=kKq P ops S S2 Q l0 p2 k l p a w
def kHi {l:Ae Am} {n:Nat} {G:Ae Nat} {q2:Ae (Nat × Bool)} (D:Ap l.toArray=true) (hQ:∀ c a d v w,Q (.panic c) (Bi a d v) w->Q (.panic c) a w)
    (hs:kGz .any l.toArray n G=true) (hc:treeB .any l.toArray n=true) (hn:n < l.toArray.size):∀ (q:Ae (Nat × Bool)) (k:Nat) (listed:Ak Bool) (a:Act) (w:Aj),
    q.all (λx=>decide (x.1 < n) && !G.contains x.1)=true->Au .any l.toArray n listed->kDe .any l.toArray n q2 q listed=true->S w->kKq P l.toArray S S2 Q (jB l q2) (q2.map (·.2)) k (jB l q) (q.map (·.2)) a w ->
    kBb P .any l.toArray Q S n (λlisted a w=>(Ac .any l.toArray listed).all (λj=>decide (n<=j))=true/\kEb .any l.toArray q2 listed=true/\S2 w/\∃ k,kCi P l.toArray S2 Q k (jB l q2) (q2.map (·.2)) a w) q.length listed a w
  | [],k,listed,a,w,_,inv,hB,hS,h=>by
    exact oH
  | (i,true) :: q,k,listed,a,w,hi,inv,hB,hS,h=>by
    simp only [Aq,Aa,Ab,Al] at hi;have hil:i < l.toArray.size:=Nat.lt_trans hi.1.1 hn;have h0:l.toArray[i]?=some l.toArray[i]:=Ad hil;have hp:jB l ((i,true) :: q)=l.toArray[i] :: jB l q:=by
      exact o9
    rw [hp] at h;obtain ⟨v,hy,h⟩:=h;simp only [kDe,Aa] at hB;obtain ⟨hr,bu⟩:=F9;exact kTx h0 (Be D) (λc a w=>hQ c a _ _ w) hs hc hn hi.1.1 hi.1.2 (λF a' w' J j I=>by simpa using Bb.1 J.1 j I) q.length listed a w inv (Bg h0 hB.1.2) hr hy hS
      (kHi D hQ hs hc hn q (k + 1) _ _ _ bu (inv.set hr hi.1.1) hB.2 hS h)
  | (i,false) :: q,k,listed,a,w,hi,inv,hB,hS,h=>by
    simp only [Aq,Aa,Ab,Al] at hi;obtain ⟨bu,hil⟩:=FD;have h0:l.toArray[i]?=some l.toArray[i]:=Ad hil;have hp:jB l ((i,false) :: q)=l.toArray[i] :: jB l q:=by
      exact o9
    rw [hp] at h;simp only [kDe,Aa,beq_iff_eq] at hB;have hr:i∈Ac .any l.toArray listed:=bB1;refine ⟨by rw [hB.1];simp,λj I=>?_⟩;rw [hB.1] at I;obtain rfl:j=i:=bB6;refine ⟨hi.1.1,?_⟩;refine wpOp_mono (λa' w' E=>⟨E.1,kHi D hQ hs hc hn q (k + 1) _ _ _ bu (inv.set hr hi.1.1) hB.2 E.1 E.2⟩) (K:=λa' w'=>S w'/\kKq P l.toArray S S2 Q (jB l q2) (q2.map (·.2)) (k + 1) (jB l q) (q.map (·.2)) a' w') ?_;exact oD
def zZ {id:Nat} {a:Act} {w:Aj} {l:Ae Am} (S S2:Aj->Prop) (G:Ae Nat) (q q2:Ae (Nat × Bool)) (hm:P.follows .mixedOrders=true) (hB:soft2Ok .any l.toArray G q q2=true)
    (hQ:∀ c a d v w,Q (.panic c) (Bi a d v) w->Q (.panic c) a w) (hS:S { w with drawn:=w.drawn + 1 })
    (h:∀ w',S w'->pre P l.toArray (λa'=>kIf P l.toArray S S2 Q (jB l q2) (q2.map (·.2)) 0 (jB l q) (q.map (·.2)) a' w') (zK l G) a):(Code.region id l.toArray true).wp P Q a w:=by
 simp only [soft2Ok,Aa,Ab] at hB
 have h:=h _ hS
 unfold pre at h
 unfold kIf at h
 have D:Au .any l.toArray (G.length + q.length) (Ag l.toArray.size false) :=
   ⟨by simp,λj N _ hl=>pI,λt _ ht=>getD_in bA9 (getD_replicate_false _ _)⟩
 refine wp_region_any hm ?_
 obtain ⟨b1,b2,R,O,V,b6,L,I,U,F⟩:=hB
 have bu:q.all (λx=>decide (x.1 < G.length + q.length) && !G.contains x.1)=true:=dU
 have key:=kLe (f:=q.length + q2.length) b1 hQ b2 G (Ag l.toArray.size false) a (by simpa using R) D L (kLn (λa' hk=>by
   intro E;have H:=kHi (S2:=S2) b1 hQ V b6 b2 q 0 _ a' _ bu E F hS hk;exact kBf (Q:=Q) (g:=q2.length) (λlisted a' w' J=>by
     obtain ⟨_,hb,bo,k,hw⟩:=J;exact wpAny_of_held (S:=S2) _ _ _ _ (kDu b1 hQ q2 k _ listed a' w' I nL hb bo hw)) _ _ _ _ H) _ _ h)
 rw [show G.length + (q.length + q2.length)=l.toArray.size by omega] at key
 exact key
variable {l0:Ae Am} {p2:Ae Bool} {k:Nat} {l:Ae Am} {p:Ae Bool} {a:Act} {w:Aj} {o:Am}
def zl (hS:S2 w) (h:soft P ops S2 Q k l0 p2 a w):kIf P ops S S2 Q l0 p2 k [] [] a w:=by
 unfold soft at h;unfold kIf;exact ⟨hS,h⟩
def jf {v:Av} (hg:Az o (yielded ops a.tmps)=true)
    (hv:∀ w,S w->(execOp a.eval o).run P w=.ok (.value v) w) (h:kIf P ops S S2 Q l0 p2 (k + 1) l p (a.put o.dst v) w):kIf P ops S S2 Q l0 p2 k (o :: l) (true :: p) a w:=by
 unfold kIf at h ⊢
 exact ⟨v,.inl ⟨hg,hv⟩,h⟩
def zH (hg:Az o (yielded ops a.tmps)=true)
    (h:∀ K:Act->Aj->Prop,(∀ a' w',S w'->kIf P ops S S2 Q l0 p2 (k + 1) l p a' w'->K a' w')->o.wp P a w K Q):kIf P ops S S2 Q l0 p2 k (o :: l) (false :: p) a w:=by
 unfold kIf
 show if _ then _ else _
 rw [if_pos hg]
 exact .inl (h _ (λa' w' h1 h2=>by unfold kIf at h2;exact ⟨h1,h2⟩))
end
end Go.Proofs.YtjhfdpopkkmigaaGreat

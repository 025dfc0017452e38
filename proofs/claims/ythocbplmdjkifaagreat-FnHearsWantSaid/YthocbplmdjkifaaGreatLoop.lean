/-
  Interests that come round; when a name was sent last.
-/
import Derived.Test.YthocbplmdjkifaaGreatSoftT
import Derived.Test.YthocbplmdjkifaaGreatPut
set_option linter.unusedVariables false
set_option linter.defProp false
set_option linter.unusedSimpArgs false
set_option linter.unnecessarySimpa false
set_option maxRecDepth 100000
set_option maxHeartbeats 4000000
open Bool renaming true->Tt,false->Ff
open Bool renaming and_false->Aa,not_false->Ab,false_and->Ac,not_true->Ad,and_true->Ae,true_and->Ag,or_false->Ah,false_or->Ai,or_true->Aj,true_or->Ak,not_not->Al
open Int renaming natCast_nonneg->Am,ofNat_lt->Av,toNat_natCast->Bf
open Go renaming World->Ap,Value->Au,Calls->Ba
open _root_ renaming List->Aq,ge_iff_le->Ay
open List renaming findIdx?_eq_some_iff_getElem->Ar,findIdx?_eq_none_iff->Aw,take_length->Az,getElem?_cons_succ->Bb,getElem?_cons_zero->Bc,pairwise_cons->Be,getElem_mem->Bg
open Go.RowKit.Below renaming mono->Bd
namespace Go.Proofs.YthocbplmdjkifaaGreat
open Go.RowKit _root_.Go.Proofs.Tryz
def kHm (n:ko) (t:Int) (l:Aq kF):Aq kF :=
  if idxOf (jV n) l < 0 then l else l.set (idxOf (jV n) l).toNat (zk (l.getD (idxOf (jV n) l).toNat ([],[],0)) t)
def kKz {n:ko} {t:Int} {l:List kF} (h:idxOf (jV n) l < 0):kHm n t l=l:=by unfold kHm;rw [if_pos h]
def kHy {n:ko} {t:Int} {l:Aq kF} {k:Nat} (h:idxOf (jV n) l=k) (hk:k < l.length):kHm n t l=l.set k (zk l[k] t):=by
 unfold kHm;simp only [h,Bf,jb hk];rw [if_neg bF2]
def kNy {w:Ap} {vl:Au} {l:Aq kF} (hl:(kD.slice 107 kH).rd w [vl] l) {cn:Aq Au} {n:ko} (hn:kR.rd w cn n) {t:Int} (ht:Qi t) :
    Ba prog 63 #[vl,.agg cn.toArray,.int .i64 t] w (kBh (kD.slice 107 kH) (kHm n t l) w):=by
 obtain ⟨HL,Y,bc⟩:=CE
 obtain ⟨nv,rfl,az⟩:=kw hn.1
 obtain ⟨na,np,rfl,_,va,vp,rfl,bl⟩:=kD.sx az (kD.sl hl.1)
 clear az hl hn
 go_enter func63,ntmps63
 go_wp2_with fail
 generalize R:World.alloc w _=U
 obtain ⟨Z,K0,bx⟩:=CG
 clear R
 refine (kKb (HL.out.below Z)).mono ?_
 rintro e w1 ⟨v1,rfl,O1,N⟩
 replace K0:=cL N K0
 have E1:=(tQ Z N)
 have J:=yD (O1.wide (T:=jg w w1) sJ)
 obtain ⟨oa,on,oc,ho,ay⟩:=O1.parts
 obtain rfl:=ho
 clear O1 N Z
 have HF:=yD ht
 clear ht
 go_wp2_with fail
 refine (kCt (HL.out.1.below E1) (Y.out.1.below E1)).mono ?_
 exact nC
def jBc {w:Ap} {vl:Au} {l:Aq kF} (hl:(kD.slice 107 kH).rd w [vl] l) {cn:Aq Au} {n:ko} (hn:kR.rd w cn n) {t:Int} (ht:Qi t) :
    Ba prog 44 #[vl,.agg cn.toArray,.int .i64 t] w (kBh (kD.slice 107 kH) (kHm n t l) w):=by
 obtain ⟨HL,Y,bc⟩:=CE
 obtain ⟨nv,rfl,az⟩:=kw hn.1
 obtain ⟨na,np,rfl,_,va,vp,rfl,bl⟩:=kD.sx az (kD.sl hl.1)
 clear az hl hn
 go_enter func44,ntmps44
 go_wp2_with fail
 generalize R:World.alloc w _=U
 obtain ⟨Z,K0,bx⟩:=CG
 clear R
 refine (kJp (HL.out.below Z)).mono ?_
 rintro e w1 ⟨v1,rfl,O1,N⟩
 replace K0:=cL N K0
 have E1:=(tQ Z N)
 have J:=yD (O1.wide (T:=jg w w1) sJ)
 obtain ⟨oa,on,oc,ho,ay⟩:=O1.parts
 obtain rfl:=ho
 clear O1 N Z
 have HF:=yD ht
 clear ht
 go_wp2_with fail
 refine (kBn (HL.out.1.below E1) (Y.out.1.below E1)).mono ?_
 exact nC
def zX (l:Aq jK) (n:ko) (x:Int):Aq jK:=if (24:Nat) < (l++[(n,x)]).length then (l++[(n,x)]).drop 1 else l++[(n,x)]
def kIl {w:Ap} {vl:Au} {l:Aq jK} (hl:(kD.slice 140 kz).rd w [vl] l) (hlen:l.length<=2000000) {cn:Aq Au} {n:ko} (hn:kR.rd w cn n) {x:Int} (hx:Qi x) :
    Ba prog 57 #[vl,.agg cn.toArray,.int .i64 x] w (kBh (kD.slice 140 kz) (zX l n x) w):=by
 have HL:=yD hl
 have Y:=yD hn
 have HX:=yD hx
 obtain ⟨la,lp,rfl,ll⟩:=kD.sl hl.1
 obtain ⟨av,rfl,V⟩:=kw hn.1
 obtain ⟨na,np,rfl,_⟩:=kD.sl V
 clear hl hn V hx
 go_enter func57,ntmps57
 go_upto_region 1 with fail
 generalize R:World.alloc w _=U
 have Z:Qb w U:=by rw [<- R];exact bI
 have bx:w.heap.size + 1<=U.heap.size:=bD4
 have K0:Qd U w 0 (Qs na n np):=vS
 clear R
 have FX:=yD (λ(W:Ap) (hW:Qb U W)=>cL hW K0)
 refine yT (λW=>Qb U W) [(0,true),(2,true),(4,true),(1,false),(3,false),(5,true),(6,false),(7,false),(8,true)] bE5 bE5 qW (bR.drew) ?_
 intro wS E
 simp only [jG,Bb,Bc,List.map_cons,List.map_nil]
 all_goals ((iterate 3 refine kS ?_);(first|(refine kI rfl E ?_)|(refine ku rfl (λK H=>?_);go_simp;refine (kRa (HL.out.below (tQ Z E))).mono ?_;rintro e wA ⟨v1,rfl,O1,F⟩;have af:=E.size;have d1:=F.size;have ag:=E;obtain ⟨va,vn,vc,al,am⟩:=O1.parts;obtain rfl:=al;have aa:=yD O1;clear O1;replace E:=(tQ E F);refine H _ _ E ?_;clear H K F));refine jH ?_;(first|(refine kI rfl E ?_)|(refine ku rfl (λK H=>?_);go_simp;refine (zg (Y.out.below (tQ Z E))).mono ?_;rintro e wC ⟨tc,rfl,O3,an⟩;have bt:=an.size;obtain ⟨tv,rfl,b7⟩:=kw O3.raw;obtain ⟨ta,tp,rfl,_⟩:=kD.sl b7;clear b7;have aq:=yD O3;clear O3;replace aa:=yD (aa.out.below an);have a1:=am.out;subst a1;clear am;replace E:=(tQ E an);refine H _ _ E ?_;clear H K an));refine jH ?_;refine kS ?_;(first|(refine kI rfl E ?_)|(refine ku rfl (λK H=>?_);go_simp;refine H _ _ (E.alloc E.size _) ?_;clear H K));refine jH ?_;(first|(refine kI rfl E ?_)|(refine ku rfl (λK H=>?_);obtain ⟨I,w7,ab,O,J⟩:=kD.kIn (P:=prog) (t:=29) (ty:=29) (r:=kz) (e:=140) (w:=wC) (xs:=l) (c:=1) underlying29 kFn rfl bF1 bF1 (aa.out.own bB1) bR (kD.yQ (r:=kR) (q:=kD.int) (cs:=[.slice ta n.length tp]) (ds:=[.int .i64 x]) (x:=n) (y:=x) aq.out (kD.ky HX.out)) qH bF2;refine kD.kX _ _ _ rfl bF4 bF4 ab ?_;have cv:=J.size;have ai:Qb U w7:=E.trans (J.below E.size (λj q=>by have:=q.1.1;omega));clear ab;generalize N:l++[(n,x)]=q at *;have ak:Hid (q.length=l.length + 1):=yD (by rw [<- N];simp);obtain ⟨a7,o,rfl,_⟩:=kD.sl O.raw;have X:=yD (O.wide (T:=jg w w7) bJ);clear O J;have D:=yD N;clear N;refine H _ _ ai ?_;clear H K E));refine jH ?_;refine kS ?_;refine kM ?_)
 exact oJ
def kSc {w:Ap} {vl:Au} {l:Aq jK} (hl:(kD.slice 140 kz).rd w [vl] l) (hlen:l.length<=2000000) {cn:Aq Au} {n:ko} (hn:kR.rd w cn n) {x:Int} (hx:Qi x) :
    Ba prog 38 #[vl,.agg cn.toArray,.int .i64 x] w (kBh (kD.slice 140 kz) (zX l n x) w):=by
 have HL:=yD hl
 have Y:=yD hn
 have HX:=yD hx
 obtain ⟨la,lp,rfl,ll⟩:=kD.sl hl.1
 obtain ⟨av,rfl,V⟩:=kw hn.1
 obtain ⟨na,np,rfl,_⟩:=kD.sl V
 clear hl hn V hx
 go_enter func38,ntmps38
 go_upto_region 1 with fail
 generalize R:World.alloc w _=U
 have Z:Qb w U:=by rw [<- R];exact bI
 have bx:w.heap.size + 1<=U.heap.size:=bD4
 have K0:Qd U w 0 (Qs na n np):=vS
 clear R
 have FX:=yD (λ(W:Ap) (hW:Qb U W)=>cL hW K0)
 refine yT (λW=>Qb U W) [(0,true),(2,true),(4,true),(1,false),(3,false),(5,true),(6,false),(7,false),(8,true)] bE5 bE5 qW (bR.drew) ?_
 intro wS E
 simp only [jG,Bb,Bc,List.map_cons,List.map_nil]
 all_goals ((iterate 3 refine kS ?_);(first|(refine kI rfl E ?_)|(refine ku rfl (λK H=>?_);go_simp;refine (kOl (HL.out.below (tQ Z E))).mono ?_;rintro e wA ⟨v1,rfl,O1,F⟩;have af:=E.size;have d1:=F.size;have ag:=E;obtain ⟨va,vn,vc,al,am⟩:=O1.parts;obtain rfl:=al;have aa:=yD O1;clear O1;replace E:=(tQ E F);refine H _ _ E ?_;clear H K F));refine jH ?_;(first|(refine kI rfl E ?_)|(refine ku rfl (λK H=>?_);go_simp;refine (zG (Y.out.below (tQ Z E))).mono ?_;rintro e wC ⟨tc,rfl,O3,an⟩;have bt:=an.size;obtain ⟨tv,rfl,b7⟩:=kw O3.raw;obtain ⟨ta,tp,rfl,_⟩:=kD.sl b7;clear b7;have aq:=yD O3;clear O3;replace aa:=yD (aa.out.below an);have a1:=am.out;subst a1;clear am;replace E:=(tQ E an);refine H _ _ E ?_;clear H K an));refine jH ?_;refine kS ?_;(first|(refine kI rfl E ?_)|(refine ku rfl (λK H=>?_);go_simp;refine H _ _ (E.alloc E.size _) ?_;clear H K));refine jH ?_;(first|(refine kI rfl E ?_)|(refine ku rfl (λK H=>?_);obtain ⟨I,w7,ab,O,J⟩:=kD.kIn (P:=prog) (t:=29) (ty:=29) (r:=kz) (e:=140) (w:=wC) (xs:=l) (c:=1) underlying29 kFn rfl bF1 bF1 (aa.out.own bB1) bR (kD.yQ (r:=kR) (q:=kD.int) (cs:=[.slice ta n.length tp]) (ds:=[.int .i64 x]) (x:=n) (y:=x) aq.out (kD.ky HX.out)) qH bF2;refine kD.kX _ _ _ rfl bF4 bF4 ab ?_;have cv:=J.size;have ai:Qb U w7:=E.trans (J.below E.size (λj q=>by have:=q.1.1;omega));clear ab;generalize N:l++[(n,x)]=q at *;have ak:Hid (q.length=l.length + 1):=yD (by rw [<- N];simp);obtain ⟨a7,o,rfl,_⟩:=kD.sl O.raw;have X:=yD (O.wide (T:=jg w w7) bJ);clear O J;have D:=yD N;clear N;refine H _ _ ai ?_;clear H K E));refine jH ?_;refine kS ?_;refine kM ?_)
 exact oJ
end Go.Proofs.YthocbplmdjkifaaGreat
namespace Go.Proofs.YthocbplmdjkifaaGreat
open _root_.Go.Proofs.Tryz
def kUa {f:Nat->Bool}:∀ {n:Nat},zN f n=true↔∀ j,j < n->f j=true
  | 0=>by simp [zN]
  | n + 1=>by
    rw [zN,Bool.and_eq_true,kUa];constructor
    · rintro ⟨h,k⟩ j I;by_cases e:j=n
      · rw [e];exact k
      · exact h j bF2
    · intro h;exact ⟨λj I=>h j bF2,h n bF2⟩
def kLk {α:Type} {p:α->Bool} {x:Aq α}:idxOf p x < 0↔∀ y∈x,p y=false:=by
 unfold idxOf;cases h:x.findIdx? p with
 | none=>simp [Aw.1 h];exact Aw.1 h
 | some i =>
   obtain ⟨hi,hp,_⟩:=Ar.1 h;constructor
   · intro q;simp at q;omega
   · intro q;rw [q _ (Bg hi)] at hp;cases hp
def kEu {α:Type} {p:α->Bool} {x:Aq α} {k:Nat} (h:idxOf p x=k):∃ hk:k < x.length,p x[k]=true/\∀ j (I:j < k),p (x[j]'(Nat.lt_trans I hk))=false:=by
 unfold idxOf at h;cases e:x.findIdx? p with
 | none=>rw [e] at h;simp at h
 | some i =>
   rw [e] at h;obtain rfl:i=k:=by simp only at h;omega
   obtain ⟨hi,hp,hq⟩:=Ar.1 e;exact ⟨hi,hp,λj I=>by have:=hq j I;simpa using this⟩
def kRg {α:Type} {R:α->α->Prop} (tr:∀ a b c,R a b->R b c->R a c):∀ {l:Aq α},(∀ k (h:k + 1 < l.length),R (l[k]'(Nat.lt_of_succ_lt h)) l[k + 1])->l.Pairwise R
  | [],_=>.nil
  | [a],_=>by simp
  | a :: b :: l,h=>by
    have ih:=kRg tr (l:=b :: l) (λk hk=>h (k + 1) (by simp only [List.length_cons] at hk ⊢;omega));have c8:=h 0 bF3;refine Be.2 ⟨?_,ih⟩;intro x hx;rcases List.mem_cons.1 hx with rfl | hx
    · exact c8
    · exact tr _ _ _ c8 ((Be.1 ih).1 x hx)
end Go.Proofs.YthocbplmdjkifaaGreat
namespace Go.Proofs.YthocbplmdjkifaaGreat
open Go.RowKit _root_.Go.Proofs.Tryz
def okA (y x:kV):Bool:=!((!inR x.1 0 6 || !inR x.2.1 0 1000000) || decide (x.1<=y.1))
def okA0 (x:kV):Bool:=!(!inR x.1 0 6 || !inR x.2.1 0 1000000)
def kNi (l:Aq kV) (k:Nat) (x:kV):Bool:=if 0 < k then okA (l.getD (k - 1) (0,0,0)) x else okA0 x
def kNn (l:Aq kV):Bool:=zN (λj=>kNi l j (l.getD j (0,0,0))) l.length && decide (0 < l.length)
def vAsk_bad {l:Aq kV} {k:Nat} (h:k < l.length) (q:kNi l k l[k]=false):kNn l=false:=by
 unfold kNn;rw [kDl h rP];rfl
def jDc {l:Aq kV} {k:Nat} (h:k < l.length) (q:kNi l k l[k]=true) (a:zN (λj=>kNi l j (l.getD j (0,0,0))) k=true):zN (λj=>kNi l j (l.getD j (0,0,0))) (k + 1)=true :=
  kBp a rP
def jDd {l:Aq kV} {k:Nat} (q:zN (λj=>kNi l j (l.getD j (0,0,0))) k=true) (h:¬ k < l.length) (hk:k<=l.length):kNn l=decide (0 < l.length):=by
 obtain rfl:k=l.length:=bF2;unfold kNn;rw [q];rfl
def kMi {l:List kV} {k:Nat} {x:kV} (h:¬ 0 < k):kNi l k x=okA0 x:=by unfold kNi;rw [if_neg h]
def kPl {l:List kV} {k j:Nat} {x:kV} (h:0 < k) (e:k - 1=j) (I:j < l.length):kNi l k x=okA l[j] x:=by unfold kNi;rw [if_pos h,e,jb I]
def kXb {w:Ap} {vl:Au} {l:Aq kV} (hl:(kD.slice 105 kQ).raw w [vl] l) :
    Ba prog 278 #[vl] w (bQ w (.bool (kNn l))):=by
 obtain ⟨al,pl,rfl,ll⟩:=kD.sl hl
 go_enter func278,ntmps278
 go_wp2
 go_loopw [3] (λi wr=>∃ k:Nat,k<=l.length/\i=.int .i64 k/\Hid (zN (λj=>kNi l j (l.getD j (0,0,0))) k=true)/\Qb w wr) (λi _=>l.length - (intOf i).toNat)
 case atStart=>exact ⟨0,Nat.zero_le _,rfl,yD rfl,bR⟩
 obtain ⟨k,hk,rfl,Y,o⟩:=hrel
 by_cases hlt:k < l.length
 · have be:=Av.2 hlt;have b9:=Am k;obtain ⟨qb,qo,rfl,ac,ae,af,qr,ap,aq,au⟩:=kD.zL (hl.below o) (i:=k) bF2 rfl;have hb:=λq=>vAsk_bad hlt q;have N:=λq=>jDc hlt q Y.out;by_cases h0:0 < k
   · obtain ⟨j,I⟩:∃ j,k - 1=j:=⟨_,rfl⟩;have av:j < l.length:=bF2;have J:=yD (kPl (l:=l) (x:=l[k]) h0 I av);have bv:(k:Int) - 1=(j:Int):=bF2;obtain ⟨yb,yo,yE,bh,bo,bn,yr,H,bf,ab⟩:=kD.zL (hl.below o) av rfl;simp only [Option.some.injEq,Addr.mk.injEq,and_true] at yE;obtain ⟨rfl,rfl⟩:=yE;generalize l[j]=y at *;obtain ⟨rfl,rfl,rfl,fe,er,fj⟩:=yf yr;clear yr;have hw:IntKind.i64.wrap (j:Int)=j:=IntWalk.i64_in _ bF2;have bi:=Am j;have bb:=Av.2 av;clear I;have hp:decide ((k:Int) > 0)=true:=bE6;generalize l[k]=x at *;have HB:=yD hb;have HX:=yD N;clear hb N;obtain ⟨rfl,rfl,rfl,ah,aj,ak⟩:=yf qr;go_upto_region 4 with fail;have FX:=yD (λ(W:Ap) (hW:Qb wr W)=>kDk hW ap aq au H);refine kK (λW=>Qb wr W) [Tt,Tt,Tt,Tt,Tt,Ff,Tt,Tt,Tt,Tt,Tt,Tt,Tt,Ff,Tt,Tt,Tt,Tt,Tt,Tt,Tt,Tt,Tt,Tt,Tt,Tt,Tt,Tt,Tt,Tt,Tt,Tt,Tt,Tt] bE5 bE5 qW (bR.drew) ?_;intro wS E;all_goals ((iterate 5 refine kS ?_);(first | refine wkC (yL) ?_ | refine kS ?_);refine kS ?_;refine jT λb ax=>?_;cases b <;> try simp only [jS] at ax)
     all_goals ((iterate 5 refine kS ?_);(first | refine wkC (yL) ?_ | refine kS ?_);refine kS ?_;refine kS ?_;refine jT λb ao=>?_;cases b <;> try simp only [jS] at ao)
     all_goals (refine kS ?_;refine kS ?_;refine jT λb O=>?_;cases b <;> try simp only [jS] at O)
     all_goals ((iterate 13 refine kS ?_);refine jT λb ai=>?_;cases b <;> try simp only [jS] at ai)
     all_goals (refine kM ?_;have D:=(tQ o E))
     all_goals first
       | (have L:=yD (HB.out (show _=false by rw [J.out];simp only [okA,Ad,Ab,Ae,Ag,Aa,Ac,Aj,Ak,Ah,Ai,Al,Ay,ax,ao,O,ai]));clear HB HX Y J;go_wp2;go_ret;exact ⟨kJ L.out.symm,D⟩)
       | (have L:=yD (HX.out (show _=true by rw [J.out];simp only [okA,Ad,Ab,Ae,Ag,Aa,Ac,Aj,Ak,Ah,Ai,Al,Ay,ax,ao,O,ai]));clear HB HX Y J;refine Qg ?_;exact ⟨k + 1,by omega,by go_num,L,D⟩)
   have J:=yD (kMi (l:=l) (x:=l[k]) h0);have hp:decide ((k:Int) > 0)=false:=bE6;generalize l[k]=x at *;have HB:=yD hb;have HX:=yD N;clear hb N;obtain ⟨rfl,rfl,rfl,ah,aj,ak⟩:=yf qr;go_upto_region 4 with fail;have FX:=yD (λ(W:Ap) (hW:Qb wr W)=>kMt hW ap aq au);refine kK (λW=>Qb wr W) [Tt,Tt,Tt,Tt,Tt,Ff,Tt,Tt,Tt,Tt,Tt,Tt,Tt,Ff,Tt,Tt,Tt,Tt,Tt,Tt,Tt,Tt,Tt,Tt,Tt,Tt,Tt,Tt,Tt,Tt,Tt,Tt,Tt,Tt] bE5 bE5 qW (bR.drew) ?_;intro wS E;all_goals ((iterate 5 refine kS ?_);(first | refine wkC (yL) ?_ | refine kS ?_);refine kS ?_;refine jT λb ax=>?_;cases b <;> try simp only [jS] at ax)
   all_goals ((iterate 5 refine kS ?_);(first | refine wkC (yL) ?_ | refine kS ?_);refine kS ?_;refine kS ?_;refine jT λb ao=>?_;cases b <;> try simp only [jS] at ao)
   all_goals (refine kS ?_;refine kS ?_;refine jT λb O=>?_;cases b <;> try simp only [jS] at O)
   all_goals ((iterate 13 refine kS ?_);refine jT λb ai=>?_;cases b <;> try simp only [jS] at ai)
   all_goals (refine kM ?_;have D:=(tQ o E))
   all_goals first
     | (have L:=yD (HB.out (show _=false by rw [J.out];simp only [okA0,Ad,Ab,Ae,Ag,Aa,Ac,Aj,Ak,Ah,Ai,Al,Ay,ax,ao,O,ai]));clear HB HX Y J;go_wp2;go_ret;exact ⟨kJ L.out.symm,D⟩)
     | (have L:=yD (HX.out (show _=true by rw [J.out];simp only [okA0,Ad,Ab,Ae,Ag,Aa,Ac,Aj,Ak,Ah,Ai,Al,Ay,ax,ao,O,ai]));clear HB HX Y J;refine Qg ?_;exact ⟨k + 1,by omega,by go_num,L,D⟩)
 have L:=yD (jDd Y.out hlt hk)
 have dq:¬ (k:Int) < l.length:=bF2
 go_wp2
 go_ret
 exact ⟨kJ (L.out.trans bF3).symm,o⟩
def kCx (l:Aq kF) (k:Nat) (x:kF):Bool:=!((((!zx x.1 || ((x.1.length:Int)==0)) || !kNn x.2.1) || !inR x.2.2 0 100000) || decide (idxOf (jV x.1) (l.take k) ≥ 0))
def kDf (l:Aq kF):Bool:=zN (λj=>kCx l j (l.getD j ([],[],0))) l.length && decide (l.length<=12)
def kYv {l:Aq kF} {k:Nat} (h:k < l.length) (q:kCx l k l[k]=false):kDf l=false:=by
 unfold kDf;rw [kDl h rP];rfl
def kWe {l:Aq kF} {k:Nat} (h:k < l.length) (q:kCx l k l[k]=true) (a:zN (λj=>kCx l j (l.getD j ([],[],0))) k=true):zN (λj=>kCx l j (l.getD j ([],[],0))) (k + 1)=true :=
  kBp a rP
def kWf {l:Aq kF} {k:Nat} (q:zN (λj=>kCx l j (l.getD j ([],[],0))) k=true) (h:¬ k < l.length) (hk:k<=l.length):kDf l=decide (l.length<=12):=by
 obtain rfl:k=l.length:=bF2;unfold kDf;rw [q];rfl
def kRm {w:Ap} {vl:Au} {l:Aq kF} (hl:(kD.slice 107 kH).raw w [vl] l) :
    Ba prog 259 #[vl] w (bQ w (.bool (kDf l))):=by
 obtain ⟨al,pl,rfl,ll⟩:=kD.sl hl
 have br:=kD.kBj hl
 go_enter func259,ntmps259
 go_wp2
 go_loopw [3] (λi wr=>∃ k:Nat,k<=l.length/\i=.int .i64 k/\Hid (zN (λj=>kCx l j (l.getD j ([],[],0))) k=true)/\Qb w wr) (λi _=>l.length - (intOf i).toNat)
 case atStart=>exact ⟨0,Nat.zero_le _,rfl,yD rfl,bR⟩
 obtain ⟨k,hk,rfl,Y,o⟩:=hrel
 by_cases hlt:k < l.length
 · obtain ⟨qb,qo,rfl,ac,ae,af,qr,ap,aq,au⟩:=kD.zL (hl.below o) (i:=k) bF2 rfl;have ay:=yD (kD.kBz (hl.below o) hk);have hb:=λq=>kYv hlt q;have hx:=λq=>kWe hlt q Y.out;generalize l[k]=x at *;have HB:=yD hb;have HX:=yD hx;clear hb hx;obtain ⟨x0,x1,x2⟩:=x;obtain ⟨rfl,ah,aj,ak,aw⟩:=jP qr;obtain ⟨ad,a4,rfl,a6,am,bk,rfl,bq⟩:=kD.sx aj (kD.sl ak);obtain ⟨be,b9,ch⟩:=xJ;go_upto_region 4 with fail;have FX:=yD (λ(W:Ap) (hW:Qb wr W)=>kMt hW ap aq au);refine kK (λW=>Qb wr W) [Tt,Tt,Tt,Tt,Tt,Ff,Tt,Tt,Tt,Tt,Tt,Tt,Tt,Tt,Tt,Tt,Tt,Tt,Tt,Tt,Tt,Tt,Tt,Ff,Tt,Tt,Tt,Tt,Tt,Tt,Tt,Tt,Ff,Tt,Tt,Tt,Tt,Tt,Tt,Tt,Tt,Tt,Tt,Tt,Ff,Tt,Tt] bE5 bE5 qW (bR.drew) ?_;intro wS E;all_goals ((iterate 5 refine kS ?_);(first | refine zi (zF (kD.raw.below ah E)) (λwS1 E=>?_) | refine kS ?_);refine kS ?_;refine jT λb ax=>?_;cases b <;> try simp only [jS] at ax)
   all_goals ((iterate 9 refine kS ?_);refine jT λb U=>?_;cases b <;> try simp only [jS] at U)
   all_goals ((iterate 5 refine kS ?_);(first | refine zi (kXb (kD.raw.below ak E)) (λwS1 E=>?_) | refine kS ?_);refine kS ?_;refine kS ?_;refine jT λb J=>?_;cases b <;> try simp only [jS] at J)
   all_goals ((iterate 5 refine kS ?_);(first | refine wkC (yL) ?_ | refine kS ?_);refine kS ?_;refine kS ?_;refine jT λb H=>?_;cases b <;> try simp only [jS] at H)
   all_goals ((iterate 8 refine kS ?_);(first | refine zi (kCt (kD.raw.below ay.out E) (kD.raw.below ah E)) (λwS1 E=>?_) | refine kS ?_);refine kS ?_;refine jT λb F=>?_;cases b <;> try simp only [jS] at F)
   all_goals (refine kM ?_;have D:=o.trans (Bd E o.size))
   all_goals first
     | (have L:=yD (HB.out (show _=false by simp only [kCx,Ad,Ab,Ae,Ag,Aa,Ac,Aj,Ak,Ah,Ai,Al,Ay,ax,U,J,H,F]));clear HB HX Y ay;go_wp2;go_ret;exact ⟨kJ L.out.symm,D⟩)
     | (have L:=yD (HX.out (show _=true by simp only [kCx,Ad,Ab,Ae,Ag,Aa,Ac,Aj,Ak,Ah,Ai,Al,Ay,ax,U,J,H,F]));clear HB HX Y ay;refine Qg ?_;exact ⟨k + 1,by omega,by go_num,L,D⟩)
 have L:=yD (kWf Y.out hlt hk)
 exact tX
def kRw (l:Aq kF) (n:ko):Int:=if idxOf (jV n) l < 0 then 0 else (l.getD (idxOf (jV n) l).toNat ([],[],0)).2.2
def jEg {l:List kF} {n:ko} (h:idxOf (jV n) l < 0):kRw l n=0:=by unfold kRw;rw [if_pos h]
def jAv {l:Aq kF} {n:ko} {k:Nat} (hk:k < l.length) (h:idxOf (jV n) l=k):kRw l n=l[k].2.2:=by
 unfold kRw;rw [h,if_neg bF2,Bf,jb hk]
def kJk (c:Int) (r:kV):Bool:=r.2.1==c
def kEt (x:jE) (p:kF):Bool:=eqN p.1 x.1 && p.2.1.any (kJk x.2.1)
def kIq (x:jE) (s:jK):Bool:=eqN s.1 x.1 && (s.2==x.2.1)
def kHo (x:jE) (l:Aq kF) (s:Aq jK):Bool:=l.any (kEt x) || s.any (kIq x)
def kPq {α:Type} {p:α->Bool} {l:Aq α} {k:Nat} (h:k < l.length) (q:p l[k]=true):l.any p=true:=List.any_eq_true.2 ⟨_,Bg h,q⟩
def kTz {α:Type} {p:α->Bool} {l:Aq α} {k:Nat} (h:k < l.length) (a:(l.take k).any p=false) (q:p l[k]=false):(l.take (k + 1)).any p=false:=by
 rw [List.take_succ_eq_append_getElem h,List.any_append,a];simp [q]
def jGk {α:Type} (p:α->Bool) (l:Aq α):decide (0<=idxOf p l)=l.any p:=by
 unfold idxOf;cases h:l.findIdx? p with
 | none =>
   have:l.any p=false:=by rw [List.any_eq_false];intro y hy q;have:=Aw.1 h y hy;rw [q] at this;cases this
   rw [this];simp
 | some i =>
   obtain ⟨hi,hp,_⟩:=Ar.1 h;rw [kPq hi hp];simp
def kUn {w:Ap} {vl:Au} {l:Aq kF} (hl:(kD.slice 107 kH).raw w [vl] l) {cn:Aq Au} {n:ko} (hn:kR.raw w cn n) :
    Ba prog 62 #[vl,.agg cn.toArray] w (bQ w (.int .i64 (kRw l n))):=by
 have HL:=yD hl
 have Y:=yD hn
 obtain ⟨la,lp,rfl,ll⟩:=kD.sl hl
 obtain ⟨av,rfl,V⟩:=kw hn
 obtain ⟨na,np,rfl,_⟩:=kD.sl V
 clear hl hn V
 go_enter func62,ntmps62
 go_wp2_with fail
 refine (kCt (HL.out.below bI) (Y.out.below bI)).mono ?_
 exact lZ
def kVk {w:Ap} {vl:Au} {l:Aq kF} (hl:(kD.slice 107 kH).raw w [vl] l) {cn:Aq Au} {n:ko} (hn:kR.raw w cn n) :
    Ba prog 43 #[vl,.agg cn.toArray] w (bQ w (.int .i64 (kRw l n))):=by
 have HL:=yD hl
 have Y:=yD hn
 obtain ⟨la,lp,rfl,ll⟩:=kD.sl hl
 obtain ⟨av,rfl,V⟩:=kw hn
 obtain ⟨na,np,rfl,_⟩:=kD.sl V
 clear hl hn V
 go_enter func43,ntmps43
 go_wp2_with fail
 refine (kBn (HL.out.below bI) (Y.out.below bI)).mono ?_
 exact lZ
def jCs {w:Ap} {cr:Aq Au} {r:kV} (hr:kQ.raw w cr r) {x:jE} {cf cc cd aa:Au} {V:Nat} (xr:jM.raw w [cf,cc,cd,aa] x) (ac:Qc w V 0 cf) (ad:Qc w V 1 cc) (N:Qc w V 2 cd) (H:Qc w V 3 aa) :
    Ba prog 104 (#[.agg cr.toArray]++#[.pointer (some ⟨V,0,none⟩)]) w (bQ w (.bool (kJk x.2.1 r))):=by
 have Hr:=yD hr
 obtain ⟨rfl,I,J,O⟩:=kAa hr
 obtain ⟨rfl,rfl,rfl,ao,am,aq,ap,Y⟩:=kOx xr
 obtain ⟨b9,ai,rfl,an⟩:=kD.sl am
 show Ba prog 104 #[_,_] w _
 go_enter func104,ntmps104
 go_upto_region 1 with fail
 refine ja ?_
 intro U Z F _
 obtain ⟨X,o,R⟩:=kBd F
 clear F
 replace ac:=cL Z ac
 replace ad:=cL Z ad
 replace N:=cL Z N
 replace H:=cL Z H
 have FX:=yD (λ(W:Ap) (hW:Qb U W)=>cLs7 hW X o R ac ad N H)
 refine kL (λW=>Qb U W) [Tt,Tt,Tt,Tt,Tt,Tt] bR ?_
 intro wS E
 all_goals ((iterate 5 refine kS ?_);refine jT λb a3=>?_;cases b <;> try simp only [jS] at a3)
 all_goals (refine kM ?_;have D:=(tQ Z E))
 all_goals first
   | (have L:=yD (show (kJk x.2.1 r)=false by simp only [kJk,Ad,Ab,Ae,Ag,Aa,Ac,Aj,Ak,Ah,Ai,Al,a3]);go_wp2;go_ret;exact ⟨kJ L.out.symm,D⟩)
   | (have L:=yD (show (kJk x.2.1 r)=true by simp only [kJk,Ad,Ab,Ae,Ag,Aa,Ac,Aj,Ak,Ah,Ai,Al,a3]);go_wp2;go_ret;exact ⟨kJ L.out.symm,D⟩)
def kMs:jL prog 104:=yM func104 bE5 bE5
def jCr {w:Ap} {cs:Aq Au} {s:jK} (hs:kz.raw w cs s) {x:jE} {cf cc cd aa:Au} {V:Nat} (xr:jM.raw w [cf,cc,cd,aa] x) (ac:Qc w V 0 cf) (ad:Qc w V 1 cc) (N:Qc w V 2 cd) (H:Qc w V 3 aa) :
    Ba prog 106 (#[.agg cs.toArray]++#[.pointer (some ⟨V,0,none⟩)]) w (bQ w (.bool (kIq x s))):=by
 have Hs:=yD hs
 obtain ⟨O,rfl,I,J,ag⟩:=kFt hs
 obtain ⟨R,af,rfl,ae⟩:=kD.sl J
 obtain ⟨rfl,rfl,rfl,ao,am,aq,ap,Y⟩:=kOx xr
 obtain ⟨b9,ai,rfl,an⟩:=kD.sl am
 show Ba prog 106 #[_,_] w _
 go_enter func106,ntmps106
 go_upto_region 1 with fail
 refine ja ?_
 intro U Z F _
 obtain ⟨X,o⟩:=yN F
 clear F
 replace ac:=cL Z ac
 replace ad:=cL Z ad
 replace N:=cL Z N
 replace H:=cL Z H
 have FX:=yD (λ(W:Ap) (hW:Qb U W)=>kJf hW X o ac ad N H)
 refine kL (λW=>Qb U W) [Tt,Tt,Tt,Tt,Ff,Tt,Tt,Tt,Tt,Tt,Tt,Tt,Tt] bR ?_
 intro wS E
 all_goals ((iterate 4 refine kS ?_);(first | refine zi (jw (kD.raw.below I (tQ Z E)) (kD.raw.below ao (tQ Z E))) (λwS1 E=>?_) | refine kS ?_);refine jT λb a3=>?_;cases b <;> try simp only [jS] at a3)
 all_goals ((iterate 6 refine kS ?_);refine jT λb ab=>?_;cases b <;> try simp only [jS] at ab)
 all_goals (refine kM ?_;have D:=(tQ Z E))
 all_goals first
   | (have L:=yD (show (kIq x s)=false by simp only [kIq,Ad,Ab,Ae,Ag,Aa,Ac,Aj,Ak,Ah,Ai,Al,a3,ab]);go_wp2;go_ret;exact ⟨kJ L.out.symm,D⟩)
   | (have L:=yD (show (kIq x s)=true by simp only [kIq,Ad,Ab,Ae,Ag,Aa,Ac,Aj,Ak,Ah,Ai,Al,a3,ab]);go_wp2;go_ret;exact ⟨kJ L.out.symm,D⟩)
def kMr:jL prog 106:=yM func106 bE5 bE5
def jFp {w:Ap} {vl:Au} {l:Aq kF} (hl:(kD.slice 107 kH).rd w [vl] l) {vs:Au} {s:Aq jK} (hs:(kD.slice 140 kz).rd w [vs] s) {cx:Aq Au} {x:jE} (hx:jM.rd w cx x) :
    Ba prog 52 #[vl,vs,.agg cx.toArray] w (bQ w (.bool (kHo x l s))):=by
 obtain ⟨x0,x1,x2,x3⟩:=x
 have HL:=yD hl
 have ac:=yD hs
 have HX:=yD hx
 obtain ⟨la,lp,rfl,ll,sa,sp,rfl,sl⟩:=kD.sx hl.1 (kD.sl hs.1)
 obtain ⟨a1,rfl,ao,am,aq,ap,Y⟩:=jY hx.1
 obtain ⟨na,np,rfl,_⟩:=kD.sl am
 have R:Hid (kR.raw w [Qs na x0 np] x0):=yD ao
 clear hl hs hx ao am
 go_enter func52,ntmps52
 go_upto_region 1 with fail
 refine ja ?_
 intro U Z F _
 obtain ⟨K0,K1,K2,K3⟩:=jW F
 clear F
 have bh:=K1
 go_wp2
 go_loopw [7] (λi wr=>∃ k:Nat,i=.int .i64 k/\k<=l.length/\Hid ((l.take k).any (kEt (x0,x1,x2,x3))=false)/\Qb U wr) (λi _=>l.length - (intOf i).toNat)
 case atStart=>exact ⟨0,rfl,Nat.zero_le _,yD bF3,bR⟩
 rename Ap=>wq
 obtain ⟨k,rfl,hk,HA,J⟩:=hrel
 have b9:=Am k
 by_cases hlt:k < l.length
 · have dt:=Av.2 hlt;obtain ⟨qb,qo,bf,c0,c1,c2,qr,ba,a3,bg⟩:=kD.zL HL.out.1 hlt rfl;have ad:=λq=>kPq (p:=kEt (x0,x1,x2,x3)) hlt q;have av:=λq=>kTz (p:=kEt (x0,x1,x2,x3)) hlt HA.out q;generalize l[k]=y at *;have az:=yD ad;have al:=yD av;clear ad av;obtain ⟨y0,y1,y2⟩:=y;obtain ⟨rfl,ah,aj,ak,aw⟩:=jP qr;obtain ⟨ma,mp,rfl,_,ra,rp,rfl,_⟩:=kD.sx aj (kD.sl ak);have o:Hid (kR.raw w [Qs ma y0 mp] y0):=yD ah;have HQ:=yD ak;try simp only at ba a3 bg
   clear qr ah aj ak aw;subst bf;cases he:eqN y0 x0
   · have HE:=yD he;clear he;have a5:=yD (show kEt (x0,x1,x2,x3) (y0,y1,y2)=false by unfold kEt;simp only [HE.out];rfl);go_wp2;go_loopw [8] (λi wr=>∃ m:Nat,i=.int .i64 m/\m<=y1.length/\Hid ((y1.take m).any (kJk x1)=false)/\Qb U wr) (λi _=>y1.length - (intOf i).toNat);case atStart=>exact ⟨0,rfl,Nat.zero_le _,yD bF3,J⟩
     rename Ap=>L;obtain ⟨m,rfl,hm,HM,I⟩:=hrel;have bc:=Am m;have X:=(tQ Z I);have A0:=cL X ba;have A1:=cL X a3;replace K0:=cL I K0;replace K1:=cL I K1;by_cases aa:m < y1.length
     · have bq:=Av.2 aa;go_upto_region 5 with fail;have FX:=yD (λ(W:Ap) (hW:Qb L W)=>kDk hW A0 A1 K0 K1);refine kK (λW=>Qb L W) [Tt,Tt,Tt,Tt,Tt,Tt,Tt,Tt,Tt,Tt,Tt,Tt,Tt,Tt,Tt,Tt,Ff,Tt] bE5 bE5 qW (bR.drew) ?_;intro wS E;all_goals ((iterate 8 refine kS ?_);refine jT λb b6=>?_;cases b <;> try simp only [jS] at b6)
       all_goals ((iterate 7 refine kS ?_);(first|(refine kI rfl E ?_)|(refine ku rfl (λK H=>?_);go_simp;refine (jU (o.out.below (tQ X E)) (R.out.below (tQ X E))).mono ?_;rintro e wS1 ⟨ab,V⟩;have D:e=.returned (.bool false):=ab.trans bE3;subst D;clear ab;replace E:=(tQ E V);refine H _ _ E ?_;clear H K V));refine jH ?_;refine kS ?_;refine kM ?_)
       exact mG
     have bb:¬ ((m:Int) < y1.length):=bF2;obtain rfl:m=y1.length:=bF2;go_upto_region 5 with fail;have FX:=yD (λ(W:Ap) (hW:Qb L W)=>kDk hW A0 A1 K0 K1);refine kK (λW=>Qb L W) [Tt,Tt,Tt,Tt,Tt,Tt,Tt,Tt,Tt,Tt,Tt,Tt,Tt,Tt,Tt,Tt,Ff,Tt] bE5 bE5 qW (bR.drew) ?_;intro wS E;all_goals ((iterate 8 refine kS ?_);refine jT λb b6=>?_;cases b <;> try simp only [jS] at b6)
     all_goals ((iterate 7 refine kS ?_);(first|(refine kI rfl E ?_)|(refine ku rfl (λK H=>?_);go_simp;refine (jU (o.out.below (tQ X E)) (R.out.below (tQ X E))).mono ?_;rintro e wS1 ⟨ab,V⟩;have D:e=.returned (.bool false):=ab.trans bE3;subst D;clear ab;replace E:=(tQ E V);refine H _ _ E ?_;clear H K V));refine jH ?_;refine kS ?_;refine kM ?_)
     exact mG
   have HE:=yD he;clear he;go_wp2;go_loopw [8] (λi wr=>∃ m:Nat,i=.int .i64 m/\m<=y1.length/\Hid ((y1.take m).any (kJk x1)=false)/\Qb U wr) (λi _=>y1.length - (intOf i).toNat);case atStart=>exact ⟨0,rfl,Nat.zero_le _,yD bF3,J⟩
   rename Ap=>L;obtain ⟨m,rfl,hm,HM,I⟩:=hrel;have bc:=Am m;have X:=(tQ Z I);have A0:=cL X ba;have A1:=cL X a3;replace K0:=cL I K0;replace K1:=cL I K1;by_cases aa:m < y1.length
   · have bq:=Av.2 aa;obtain ⟨rb,ro,a8,r0,r1,r2,rr,a4,an,be⟩:=kD.zL HQ.out aa rfl;have af:=λq=>kPq (p:=kJk x1) aa q;have ae:=λq=>kTz (p:=kJk x1) aa HM.out q;generalize y1[m]=z at *;have ax:=yD af;have ag:=yD ae;clear af ae;obtain ⟨z0,z1,z2⟩:=z;obtain ⟨rfl,rfl,rfl,N,a2,bd⟩:=yf rr;try simp only at a4 an be
     subst a8;clear rr N a2 bd;go_upto_region 5 with fail;have FX:=yD (λ(W:Ap) (hW:Qb L W)=>kDk hW A0 A1 K0 K1);refine kK (λW=>Qb L W) [Tt,Tt,Tt,Tt,Tt,Tt,Tt,Tt,Tt,Tt,Tt,Tt,Tt,Tt,Tt,Tt,Ff,Tt] bE5 bE5 qW (bR.drew) ?_;intro wS E;all_goals ((iterate 8 refine kS ?_);refine jT λb b6=>?_;cases b <;> try simp only [jS] at b6)
     all_goals ((iterate 7 refine kS ?_);(first|(refine kI rfl E ?_)|(refine ku rfl (λK H=>?_);go_simp;refine (jU (o.out.below (tQ X E)) (R.out.below (tQ X E))).mono ?_;rintro e wS1 ⟨ab,V⟩;have D:e=.returned (.bool true):=ab.trans bE3;subst D;clear ab;replace E:=(tQ E V);refine H _ _ E ?_;clear H K V));refine jH ?_;refine kS ?_;refine kM ?_)
     have O:=(tQ X E);have ai:=(tQ I E);clear E;have B1:=cL O a3;have R1:=cL O an;have N1:Qd wS1 w 1 (Qn x1):=cL (ai) bh;by_cases hz:z1=x1
     · have HH:=yD (ax.out (by unfold kJk;simp [hz]));have bi:=yD (az.out (by unfold kEt;simp only [HE.out,HH.out];rfl));go_upto_region 7 with fail;refine kK (λW=>Qb wS1 W) [Tt,Tt,Tt,Tt,Tt,Tt,Tt,Tt,Tt,Tt,Tt,Tt] bE5 bE5 qW (bR.drew) ?_;intro wT ew;all_goals ((iterate 4 (first|(refine kI rfl ew ?_)|(refine jC (v:=?_) rfl (λW hW=>?_) ?_;rotate_left;(· go_simp;try with_reducible rfl)));refine jH ?_);(first|(refine kI rfl ew ?_)|(refine jC (v:=?_) rfl (λW hW=>?_) ?_;rotate_left;(· have ar:=cL hW B1;have ay:=cL hW R1;have au:=cL hW N1;clear hW;go_simp;try with_reducible rfl)));(iterate 3 refine jH ?_;(first|(refine kI rfl ew ?_)|(refine jC (v:=?_) rfl (λW hW=>?_) ?_;rotate_left;(· go_simp;try with_reducible rfl))));(iterate 2 refine jH ?_;(first|(refine kI rfl ew ?_)|(refine jC (v:=?_) rfl (λW hW=>?_) ?_;rotate_left;(· have ar:=cL hW B1;have ay:=cL hW R1;have au:=cL hW N1;clear hW;go_simp;try with_reducible rfl)));refine jH ?_;(first|(refine kI rfl ew ?_)|(refine jC (v:=?_) rfl (λW hW=>?_) ?_;rotate_left;(· go_simp;try with_reducible rfl))));refine jH ?_;refine kM ?_)
       have EV:=(tQ O ew);go_wp2;go_ret;exact ⟨kJ (by unfold kHo;rw [bi.out];rfl),EV⟩
     have HH:=yD (ag.out (by unfold kJk;simp [hz]));go_upto_region 7 with fail;refine kK (λW=>Qb wS1 W) [Tt,Tt,Tt,Tt,Tt,Tt,Tt,Tt,Tt,Tt,Tt,Tt] bE5 bE5 qW (bR.drew) ?_;intro wT ew;all_goals ((iterate 4 (first|(refine kI rfl ew ?_)|(refine jC (v:=?_) rfl (λW hW=>?_) ?_;rotate_left;(· go_simp;try with_reducible rfl)));refine jH ?_);(first|(refine kI rfl ew ?_)|(refine jC (v:=?_) rfl (λW hW=>?_) ?_;rotate_left;(· have ar:=cL hW B1;have ay:=cL hW R1;have au:=cL hW N1;clear hW;go_simp;try with_reducible rfl)));(iterate 3 refine jH ?_;(first|(refine kI rfl ew ?_)|(refine jC (v:=?_) rfl (λW hW=>?_) ?_;rotate_left;(· go_simp;try with_reducible rfl))));(iterate 2 refine jH ?_;(first|(refine kI rfl ew ?_)|(refine jC (v:=?_) rfl (λW hW=>?_) ?_;rotate_left;(· have ar:=cL hW B1;have ay:=cL hW R1;have au:=cL hW N1;clear hW;go_simp;try with_reducible rfl)));refine jH ?_;(first|(refine kI rfl ew ?_)|(refine jC (v:=?_) rfl (λW hW=>?_) ?_;rotate_left;(· go_simp;try with_reducible rfl))));refine jH ?_;refine kM ?_)
     have a6:=(tQ ai ew);refine Qg ?_;exact ⟨m + 1,by go_num,by omega,HH,a6⟩
   have bb:¬ ((m:Int) < y1.length):=bF2;obtain rfl:m=y1.length:=bF2;have a5:=yD (show kEt (x0,x1,x2,x3) (y0,y1,y2)=false by have h_:=HM.out;rw [Az] at h_;unfold kEt;simp only [h_];exact Aa _);go_upto_region 5 with fail;have FX:=yD (λ(W:Ap) (hW:Qb L W)=>kDk hW A0 A1 K0 K1);refine kK (λW=>Qb L W) [Tt,Tt,Tt,Tt,Tt,Tt,Tt,Tt,Tt,Tt,Tt,Tt,Tt,Tt,Tt,Tt,Ff,Tt] bE5 bE5 qW (bR.drew) ?_;intro wS E;all_goals ((iterate 8 refine kS ?_);refine jT λb b6=>?_;cases b <;> try simp only [jS] at b6)
   all_goals ((iterate 7 refine kS ?_);(first|(refine kI rfl E ?_)|(refine ku rfl (λK H=>?_);go_simp;refine (jU (o.out.below (tQ X E)) (R.out.below (tQ X E))).mono ?_;rintro e wS1 ⟨ab,V⟩;have D:e=.returned (.bool true):=ab.trans bE3;subst D;clear ab;replace E:=(tQ E V);refine H _ _ E ?_;clear H K V));refine jH ?_;refine kS ?_;refine kM ?_)
   exact mG
 have fd:¬ ((k:Int) < l.length):=bF2
 obtain rfl:k=l.length:=bF2
 have a7:=yD (show l.any (kEt (x0,x1,x2,x3))=false by have h_:=HA.out;rwa [Az] at h_)
 clear HA
 go_wp2
 go_loopw [9] (λi wr=>∃ m:Nat,i=.int .i64 m/\m<=s.length/\Hid ((s.take m).any (kIq (x0,x1,x2,x3))=false)/\Qb U wr) (λi _=>s.length - (intOf i).toNat)
 case atStart=>exact ⟨0,rfl,Nat.zero_le _,yD bF3,J⟩
 rename Ap=>L
 obtain ⟨m,rfl,hm,HM,I⟩:=hrel
 have bc:=Am m
 have X:=(tQ Z I)
 replace K0:=cL I K0
 replace K1:=cL I K1
 by_cases aa:m < s.length
 · have bq:=Av.2 aa;obtain ⟨rb,ro,a8,r0,r1,rr,a4,an⟩:=kD.get2 ac.out.1 aa rfl;have af:=λq=>kPq (p:=kIq (x0,x1,x2,x3)) aa q;have ae:=λq=>kTz (p:=kIq (x0,x1,x2,x3)) aa HM.out q;generalize s[m]=z at *;have ax:=yD af;have ag:=yD ae;clear af ae;obtain ⟨z0,z1⟩:=z;obtain ⟨rfl,N,a2,bd⟩:=zh rr;obtain ⟨za,zp,rfl,_⟩:=kD.sl a2;have a9:Hid (kR.raw w [Qs za z0 zp] z0):=yD N;try simp only at a4 an
   subst a8;clear rr N a2 bd;have R0:=cL X a4;have R1:=cL X an;by_cases hz:z1=x1
   · subst hz;cases he:eqN z0 x0
     · have HE:=yD he;clear he;have HH:=yD (ag.out (by unfold kIq;simp only [HE.out];rfl));go_upto_region 12 with fail;have FX:=yD (λ(W:Ap) (hW:Qb L W)=>kDk hW R0 R1 K0 K1);refine kK (λW=>Qb L W) [Tt,Tt,Tt,Tt,Tt,Tt,Tt,Tt,Tt,Tt,Tt,Tt,Tt,Tt,Tt,Tt,Ff,Tt] bE5 bE5 qW (bR.drew) ?_;intro wS E;all_goals ((iterate 8 refine kS ?_);refine jT λb b6=>?_;cases b <;> try simp only [jS] at b6)
       all_goals ((iterate 7 refine kS ?_);(first|(refine kI rfl E ?_)|(refine ku rfl (λK H=>?_);go_simp;refine (jU (a9.out.below (tQ X E)) (R.out.below (tQ X E))).mono ?_;rintro e wS1 ⟨ab,V⟩;have D:e=.returned (.bool false):=ab.trans bE3;subst D;clear ab;replace E:=(tQ E V);refine H _ _ E ?_;clear H K V));refine jH ?_;refine kS ?_;refine kM ?_)
       have ai:=(tQ I E);refine Qg ?_;exact ⟨m + 1,by go_num,by omega,HH,ai⟩
     have HE:=yD he;clear he;have HH:=yD (ax.out (by unfold kIq;simp only [HE.out];simp));go_upto_region 12 with fail;have FX:=yD (λ(W:Ap) (hW:Qb L W)=>kDk hW R0 R1 K0 K1);refine kK (λW=>Qb L W) [Tt,Tt,Tt,Tt,Tt,Tt,Tt,Tt,Tt,Tt,Tt,Tt,Tt,Tt,Tt,Tt,Ff,Tt] bE5 bE5 qW (bR.drew) ?_;intro wS E;all_goals ((iterate 8 refine kS ?_);refine jT λb b6=>?_;cases b <;> try simp only [jS] at b6)
     all_goals ((iterate 7 refine kS ?_);(first|(refine kI rfl E ?_)|(refine ku rfl (λK H=>?_);go_simp;refine (jU (a9.out.below (tQ X E)) (R.out.below (tQ X E))).mono ?_;rintro e wS1 ⟨ab,V⟩;have D:e=.returned (.bool true):=ab.trans bE3;subst D;clear ab;replace E:=(tQ E V);refine H _ _ E ?_;clear H K V));refine jH ?_;refine kS ?_;refine kM ?_)
     have EV:=(tQ X E);go_wp2;go_ret;exact ⟨kJ (by unfold kHo;rw [HH.out];exact (Aj _).symm),EV⟩
   have bx:((z1==x1)=false):=bB9;have HH:=yD (ag.out (by unfold kIq;simp [hz]));go_upto_region 12 with fail;have FX:=yD (λ(W:Ap) (hW:Qb L W)=>kDk hW R0 R1 K0 K1);refine kK (λW=>Qb L W) [Tt,Tt,Tt,Tt,Tt,Tt,Tt,Tt,Tt,Tt,Tt,Tt,Tt,Tt,Tt,Tt,Ff,Tt] bE5 bE5 qW (bR.drew) ?_;intro wS E;all_goals ((iterate 8 refine kS ?_);refine jT λb b6=>?_;cases b <;> try simp only [jS] at b6)
   all_goals ((iterate 7 refine kS ?_);(first|(refine kI rfl E ?_)|(refine ku rfl (λK H=>?_);go_simp;refine (jU (a9.out.below (tQ X E)) (R.out.below (tQ X E))).mono ?_;rintro e wS1 ⟨ab,V⟩;have D:e=.returned (.bool (eqN z0 x0)):=ab.trans bE3;subst D;clear ab;replace E:=(tQ E V);refine H _ _ E ?_;clear H K V));refine jH ?_;refine kS ?_;refine kM ?_)
   have ai:=(tQ I E);refine Qg ?_;exact ⟨m + 1,by go_num,by omega,HH,ai⟩
 have bb:¬ ((m:Int) < s.length):=bF2
 obtain rfl:m=s.length:=bF2
 go_wp2
 go_ret
 exact ⟨kJ (by have h_:=HM.out;rw [Az] at h_;unfold kHo;rw [a7.out,h_];rfl),X⟩
def jGd {w:Ap} {vl:Au} {l:Aq kF} (hl:(kD.slice 107 kH).rd w [vl] l) {vs:Au} {s:Aq jK} (hs:(kD.slice 140 kz).rd w [vs] s) {cx:Aq Au} {x:jE} (hx:jM.rd w cx x) :
    Ba prog 35 #[vl,vs,.agg cx.toArray] w (bQ w (.bool (kHo x l s))):=by
 obtain ⟨x0,x1,x2,x3⟩:=x
 have HL:=yD hl
 have ac:=yD hs
 have HX:=yD hx
 obtain ⟨la,lp,rfl,ll,sa,sp,rfl,sl⟩:=kD.sx hl.1 (kD.sl hs.1)
 obtain ⟨a1,rfl,ao,am,aq,ap,Y⟩:=jY hx.1
 obtain ⟨na,np,rfl,_⟩:=kD.sl am
 have R:Hid (kR.raw w [Qs na x0 np] x0):=yD ao
 clear hl hs hx ao am
 go_enter func35,ntmps35
 go_upto_region 1 with fail
 refine ja ?_
 intro U Z F _
 obtain ⟨K0,K1,K2,K3⟩:=jW F
 clear F
 go_wp2
 go_loopw [11] (λi wr=>∃ k:Nat,i=.int .i64 k/\k<=l.length/\Hid ((l.take k).any (kEt (x0,x1,x2,x3))=false)/\Qb U wr) (λi _=>l.length - (intOf i).toNat)
 case atStart=>exact ⟨0,rfl,Nat.zero_le _,yD bF3,bR⟩
 rename Ap=>wq
 obtain ⟨k,rfl,hk,HA,J⟩:=hrel
 have EQ:=(tQ Z J)
 replace K0:=cL J K0
 replace K1:=cL J K1
 replace K2:=cL J K2
 replace K3:=cL J K3
 have b9:=Am k
 by_cases hlt:k < l.length
 · have dt:=Av.2 hlt;obtain ⟨qb,qo,rfl,c0,c1,c2,qr,A0,A1,A2⟩:=kD.zL (HL.out.1.below EQ) hlt rfl;have ad:=λq=>kPq (p:=kEt (x0,x1,x2,x3)) hlt q;have av:=λq=>kTz (p:=kEt (x0,x1,x2,x3)) hlt HA.out q;generalize l[k]=y at *;obtain ⟨y0,y1,y2⟩:=y;have az:=yD ad;have al:=yD av;clear ad av;obtain ⟨rfl,ah,aj,ak,aw⟩:=jP qr;obtain ⟨ma,mp,rfl,_,ra,rp,rfl,_⟩:=kD.sx aj (kD.sl ak);have o:Hid (kR.raw wq [Qs ma y0 mp] y0):=yD ah;have HQ:=yD ak;try simp only at A0 A1 A2
   clear qr ah aj ak aw;go_upto_region 4 with fail;refine ja ?_;intro wC EC F _;replace K0:=cL EC K0;replace K1:=cL EC K1;replace K2:=cL EC K2;replace K3:=cL EC K3;obtain ⟨M0,M1,M2⟩:=kBd F;clear F;have FX:=yD (λ(W:Ap) (hW:Qb wC W)=>cLs7 hW K0 K1 K2 K3 M0 M1 M2);refine kL (λW=>Qb wC W) [Tt,Tt,Tt,Tt,Ff,Tt,Tt,Tt,Ff,Ff,Tt] bR ?_;intro wS E;all_goals ((iterate 4 refine kS ?_);(first | refine zi (jw (o.out.below (tQ EC E)) (R.out.below (EQ.trans (Bd (tQ EC E) EQ.size)))) (λwS1 E=>?_) | refine kS ?_);refine jT λb a3=>?_;cases b <;> try simp only [jS] at a3)
   all_goals (refine kS ?_;refine kS ?_;(first|(refine kI rfl E ?_)|(refine ku rfl (λK H=>?_);go_simp;refine H _ _ E ?_;clear H K));refine jH ?_;(first|(refine kI rfl E ?_)|(refine ku rfl (λK H=>?_);go_simp;refine (kEc (kJk x1) kMs (HQ.out.below (tQ EC E)) ?_).mono ?_;(· intro bn ag i hi en ab;exact jCs ab (kD.raw.below HX.out.1 ((EQ.trans (Bd (tQ EC E) EQ.size)).trans (ag.mono (Below.size (EQ.trans (Bd (tQ EC E) EQ.size)))))) (cL ag (cL E K0)) (cL ag (cL E K1)) (cL ag (cL E K2)) (cL ag (cL E K3)));rintro e wS1 ⟨rfl,V⟩;replace E:=(tQ E V);refine H _ _ E ?_;clear H K V));refine jH ?_;refine jT λb ar=>?_;cases b <;> try simp only [jS] at ar)
   all_goals (refine kM ?_;have D:=J.trans (Bd (tQ EC E) J.size))
   all_goals first|(have L:=yD (az.out (show _=true by simp only [kEt,<- jGk,Ad,Ab,Ae,Ag,Aa,Ac,Aj,Ak,Ah,Ai,Al,Ay,a3,ar]));clear az al HA;go_wp2;go_ret;exact ⟨kJ (by unfold kHo;rw [L.out];exact (Ak _).symm),(tQ Z D)⟩)|(have L:=yD (al.out (show _=false by simp only [kEt,<- jGk,Ad,Ab,Ae,Ag,Aa,Ac,Aj,Ak,Ah,Ai,Al,Ay,a3,ar]));clear az al HA;refine Qg ?_;exact ⟨k + 1,by go_num,by omega,L,D⟩)
 have fd:¬ ((k:Int) < l.length):=bF2
 obtain rfl:k=l.length:=bF2
 have a7:=yD (show l.any (kEt (x0,x1,x2,x3))=false by have h_:=HA.out;rwa [Az] at h_)
 clear HA
 go_upto_region 7 with fail
 refine kL (λW=>Qb wq W) [Tt,Ff,Ff,Tt] bR ?_
 intro wS E
 all_goals (refine kS ?_;(first|(refine kI rfl E ?_)|(refine ku rfl (λK H=>?_);go_simp;refine H _ _ E ?_;clear H K));refine jH ?_;(first|(refine kI rfl E ?_)|(refine ku rfl (λK H=>?_);go_simp;refine (kKp (kIq (x0,x1,x2,x3)) kMr (ac.out.1.below (tQ EQ E)) ?_).mono ?_;(· intro bn ag i hi en ab;exact jCr ab (kD.raw.below HX.out.1 ((tQ EQ E).trans (ag.mono (Below.size (tQ EQ E))))) (cL ag (cL E K0)) (cL ag (cL E K1)) (cL ag (cL E K2)) (cL ag (cL E K3)));rintro e wS1 ⟨rfl,V⟩;replace E:=(tQ E V);refine H _ _ E ?_;clear H K V));refine jH ?_;refine kS ?_;refine kM ?_)
 go_wp2
 go_ret
 exact ⟨kJ (by unfold kHo;rw [a7.out,jGk];rfl),(tQ EQ E)⟩
end Go.Proofs.YthocbplmdjkifaaGreat

/-
  Lists of pending interests that are valid.
-/
import Derived.Test.YtjhfdpopkkmigabGreatSoftT
import Derived.Test.YtjhfdpopkkmigabGreatPut
set_option linter.unusedVariables false
set_option linter.defProp false
set_option linter.unusedSimpArgs false
set_option linter.unnecessarySimpa false
set_option maxRecDepth 100000
set_option maxHeartbeats 4000000
open Bool renaming true->Tt,false->Ff
open Bool renaming not_false->Aa,and_false->Ab,false_and->Ac,not_true->Ad,and_true->Ae,true_and->Ag,or_false->Ah,false_or->Ai,or_true->Ak,true_or->Al,not_not->Am
open List renaming findIdx?_eq_some_iff_getElem->Aj,findIdx?_eq_none_iff->Ar,getElem?_cons_succ->Au,getElem?_cons_zero->Av
open _root_ renaming List->Ap,ge_iff_le->Aw
open List.cons renaming injEq->Aq
open Go renaming World->Ay,Value->Ba
open Int renaming natCast_nonneg->Az
namespace Go.Proofs.YtjhfdpopkkmigabGreat
open Go.RowKit _root_.Go.Proofs.Tryz
def kCe (n:kg) (t:Int) (l:Ap kF):Ap kF :=
  if idxOf (jQ n) l < 0 then l else l.set (idxOf (jQ n) l).toNat (kAe (l.getD (idxOf (jQ n) l).toNat ([],[],0)) t)
def kQg {n:kg} {t:Int} {l:List kF} (h:idxOf (jQ n) l < 0):kCe n t l=l:=by unfold kCe;rw [if_pos h]
def kGy {n:kg} {t:Int} {l:Ap kF} {k:Nat} (h:idxOf (jQ n) l=k) (hk:k < l.length):kCe n t l=l.set k (kAe l[k] t):=by
 unfold kCe;simp only [h,Int.toNat_natCast,ja hk];rw [if_neg bH3]
def kLz {w:Ay} {vl:Ba} {l:Ap kF} (hl:(kD.slice 93 kH).rd w [vl] l) {cn:Ap Ba} {n:kg} (hn:kN.rd w cn n) {t:Int} (ht:Qi t) :
    Calls prog 49 #[vl,.agg cn.toArray,.int .i64 t] w (kBb (kD.slice 93 kH) (kCe n t l) w):=by
 obtain ⟨HL,HN,bc⟩:=EJ
 obtain ⟨nv,rfl,a5⟩:=kX hn.1
 obtain ⟨na,np,rfl,_⟩:=kD.sl a5
 obtain ⟨va,vp,rfl,bv⟩:=kD.sl hl.1
 clear a5 hl hn
 go_enter func49,ntmps49
 go_wp2_with fail
 generalize J:World.alloc w _=N
 obtain ⟨EB,K0,bk⟩:=DI
 clear J
 refine (kIq (HL.out.below EB)).mono ?_
 rintro e w1 ⟨v1,rfl,O1,O⟩
 replace K0:=cL O K0
 obtain ⟨E1,bf,I⟩:=EN
 obtain ⟨oa,on,oc,ho,a1⟩:=O1.parts;obtain rfl:=ho
 clear O1 O EB
 have HF:=yD ht
 clear ht
 go_wp2_with fail
 refine (kCi (HL.out.1.below E1) (HN.out.1.below E1)).mono ?_
 exact lS
def kXf {w:Ay} {vl:Ba} {l:Ap kF} (hl:(kD.slice 93 kH).rd w [vl] l) {cn:Ap Ba} {n:kg} (hn:kN.rd w cn n) {t:Int} (ht:Qi t) :
    Calls prog 31 #[vl,.agg cn.toArray,.int .i64 t] w (kBb (kD.slice 93 kH) (kCe n t l) w):=by
 obtain ⟨HL,HN,bc⟩:=EJ
 obtain ⟨nv,rfl,a5⟩:=kX hn.1
 obtain ⟨na,np,rfl,_⟩:=kD.sl a5
 obtain ⟨va,vp,rfl,bv⟩:=kD.sl hl.1
 clear a5 hl hn
 go_enter func31,ntmps31
 go_wp2_with fail
 generalize J:World.alloc w _=N
 obtain ⟨EB,K0,bk⟩:=DI
 clear J
 refine (kIf (HL.out.below EB)).mono ?_
 rintro e w1 ⟨v1,rfl,O1,O⟩
 replace K0:=cL O K0
 obtain ⟨E1,bf,I⟩:=EN
 obtain ⟨oa,on,oc,ho,a1⟩:=O1.parts;obtain rfl:=ho
 clear O1 O EB
 have HF:=yD ht
 clear ht
 go_wp2_with fail
 refine (kCg (HL.out.1.below E1) (HN.out.1.below E1)).mono ?_
 exact lS
def kAu (l:Ap jL) (n:kg) (x:Int):Ap jL:=if (24:Nat) < (l++[(n,x)]).length then (l++[(n,x)]).drop 1 else l++[(n,x)]
def kHj {w:Ay} {vl:Ba} {l:Ap jL} (hl:(kD.slice 121 jD).rd w [vl] l) (hlen:l.length<=2000000) {cn:Ap Ba} {n:kg} (hn:kN.rd w cn n) {x:Int} (hx:Qi x) :
    Calls prog 42 #[vl,.agg cn.toArray,.int .i64 x] w (kBb (kD.slice 121 jD) (kAu l n x) w):=by
 have HL:=yD hl
 have HN:=yD hn
 have HX:=yD hx
 obtain ⟨la,lp,rfl,ll⟩:=kD.sl hl.1
 obtain ⟨av,rfl,Z⟩:=kX hn.1
 obtain ⟨na,np,rfl,_⟩:=kD.sl Z
 clear hl hn Z hx
 go_enter func42,ntmps42
 go_upto_region 1 with fail
 generalize J:World.alloc w _=N
 have EB:Qb w N:=by rw [<- J];exact bI
 have bk:w.heap.size + 1<=N.heap.size:=bF5
 have K0:Qd N w 0 (.slice na n.length np):=wF
 clear J
 have FX:=yD (λ(W:Ay) (hW:Qb N W)=>cL hW K0)
 refine yN (λW=>Qb N W) [(0,true),(2,true),(4,true),(1,false),(3,false),(5,true),(6,false),(7,false),(8,true)] bG6 bG6 qY (bR.drew) ?_
 intro wS E
 simp only [jB,Au,Av,List.map_cons,List.map_nil]
 iterate 3
  all_goals refine ky ?_
 all_goals first|(refine kJ rfl E ?_)|(refine kw rfl (λK H=>?_);go_simp;refine (kOo (HL.out.below (tQ EB E))).mono ?_;rintro e wA ⟨v1,rfl,O1,O⟩;have af:=E.size;have dv:=O.size;have ak:=E;obtain ⟨va,vn,vc,ac,ah⟩:=O1.parts;obtain rfl:=ac;have ab:=yD O1;clear O1;replace E:=(tQ E O);refine H _ _ E ?_;clear H K O)
 all_goals refine jG ?_
 all_goals first|(refine kJ rfl E ?_)|(refine kw rfl (λK H=>?_);go_simp;refine (zX (HN.out.below (tQ EB E))).mono ?_;rintro e wC ⟨tc,rfl,O3,L⟩;have aw:=L.size;obtain ⟨tv,rfl,b6⟩:=kX O3.raw;obtain ⟨ta,tp,rfl,_⟩:=kD.sl b6;clear b6;have ai:=yD O3;clear O3;replace ab:=yD (ab.out.below L);have az:=ah.out;subst az;clear ah;replace E:=(tQ E L);refine H _ _ E ?_;clear H K L)
 all_goals refine jG ?_
 all_goals refine ky ?_
 all_goals first|(refine kJ rfl E ?_)|(refine kw rfl (λK H=>?_);go_simp;refine H _ _ (E.alloc E.size _) ?_;clear H K)
 all_goals refine jG ?_
 all_goals first|(refine kJ rfl E ?_)|(refine kw rfl (λK H=>?_);obtain ⟨I,w7,Y,X,R⟩:=kD.kHl (P:=prog) (t:=29) (ty:=29) (r:=jD) (e:=121) (w:=wC) (xs:=l) (c:=1) underlying29 kFa rfl bH2 bH2 (ab.out.own bD0) bR (kD.yF (r:=kN) (q:=kD.int) (cs:=[.slice ta n.length tp]) (ds:=[.int .i64 x]) (x:=n) (y:=x) ai.out (kD.ku HX.out)) qJ bH3;refine kD.kV _ _ _ rfl bH5 bH5 Y ?_;have c3:=R.size;have ap:Qb N w7:=E.trans (R.below E.size (λj q=>by have:=q.1.1;omega));clear Y;generalize V:l++[(n,x)]=q at *;have aj:Hid (q.length=l.length + 1):=yD (by rw [<- V];simp);obtain ⟨a7,o,rfl,_⟩:=kD.sl X.raw;have a5:=yD (X.wide (T:=jb w.heap.size w7.heap.size) bJ);clear X R;have D:=yD V;clear V;refine H _ _ ap ?_;clear H K E)
 all_goals refine jG ?_
 all_goals refine ky ?_
 all_goals refine kS ?_
 exact o8
def kPg {w:Ay} {vl:Ba} {l:Ap jL} (hl:(kD.slice 121 jD).rd w [vl] l) (hlen:l.length<=2000000) {cn:Ap Ba} {n:kg} (hn:kN.rd w cn n) {x:Int} (hx:Qi x) :
    Calls prog 26 #[vl,.agg cn.toArray,.int .i64 x] w (kBb (kD.slice 121 jD) (kAu l n x) w):=by
 have HL:=yD hl
 have HN:=yD hn
 have HX:=yD hx
 obtain ⟨la,lp,rfl,ll⟩:=kD.sl hl.1
 obtain ⟨av,rfl,Z⟩:=kX hn.1
 obtain ⟨na,np,rfl,_⟩:=kD.sl Z
 clear hl hn Z hx
 go_enter func26,ntmps26
 go_upto_region 1 with fail
 generalize J:World.alloc w _=N
 have EB:Qb w N:=by rw [<- J];exact bI
 have bk:w.heap.size + 1<=N.heap.size:=bF5
 have K0:Qd N w 0 (.slice na n.length np):=wF
 clear J
 have FX:=yD (λ(W:Ay) (hW:Qb N W)=>cL hW K0)
 refine yN (λW=>Qb N W) [(0,true),(2,true),(4,true),(1,false),(3,false),(5,true),(6,false),(7,false),(8,true)] bG6 bG6 qY (bR.drew) ?_
 intro wS E
 simp only [jB,Au,Av,List.map_cons,List.map_nil]
 iterate 3
  all_goals refine ky ?_
 all_goals first|(refine kJ rfl E ?_)|(refine kw rfl (λK H=>?_);go_simp;refine (kMq (HL.out.below (tQ EB E))).mono ?_;rintro e wA ⟨v1,rfl,O1,O⟩;have af:=E.size;have dv:=O.size;have ak:=E;obtain ⟨va,vn,vc,ac,ah⟩:=O1.parts;obtain rfl:=ac;have ab:=yD O1;clear O1;replace E:=(tQ E O);refine H _ _ E ?_;clear H K O)
 all_goals refine jG ?_
 all_goals first|(refine kJ rfl E ?_)|(refine kw rfl (λK H=>?_);go_simp;refine (yh (HN.out.below (tQ EB E))).mono ?_;rintro e wC ⟨tc,rfl,O3,L⟩;have aw:=L.size;obtain ⟨tv,rfl,b6⟩:=kX O3.raw;obtain ⟨ta,tp,rfl,_⟩:=kD.sl b6;clear b6;have ai:=yD O3;clear O3;replace ab:=yD (ab.out.below L);have az:=ah.out;subst az;clear ah;replace E:=(tQ E L);refine H _ _ E ?_;clear H K L)
 all_goals refine jG ?_
 all_goals refine ky ?_
 all_goals first|(refine kJ rfl E ?_)|(refine kw rfl (λK H=>?_);go_simp;refine H _ _ (E.alloc E.size _) ?_;clear H K)
 all_goals refine jG ?_
 all_goals first|(refine kJ rfl E ?_)|(refine kw rfl (λK H=>?_);obtain ⟨I,w7,Y,X,R⟩:=kD.kHl (P:=prog) (t:=29) (ty:=29) (r:=jD) (e:=121) (w:=wC) (xs:=l) (c:=1) underlying29 kFa rfl bH2 bH2 (ab.out.own bD0) bR (kD.yF (r:=kN) (q:=kD.int) (cs:=[.slice ta n.length tp]) (ds:=[.int .i64 x]) (x:=n) (y:=x) ai.out (kD.ku HX.out)) qJ bH3;refine kD.kV _ _ _ rfl bH5 bH5 Y ?_;have c3:=R.size;have ap:Qb N w7:=E.trans (R.below E.size (λj q=>by have:=q.1.1;omega));clear Y;generalize V:l++[(n,x)]=q at *;have aj:Hid (q.length=l.length + 1):=yD (by rw [<- V];simp);obtain ⟨a7,o,rfl,_⟩:=kD.sl X.raw;have a5:=yD (X.wide (T:=jb w.heap.size w7.heap.size) bJ);clear X R;have D:=yD V;clear V;refine H _ _ ap ?_;clear H K E)
 all_goals refine jG ?_
 all_goals refine ky ?_
 all_goals refine kS ?_
 exact o8
end Go.Proofs.YtjhfdpopkkmigabGreat
namespace Go.Proofs.YtjhfdpopkkmigabGreat
open _root_.Go.Proofs.Tryz
def kSp {α:Type} {p:α->Bool} {x:Ap α}:idxOf p x < 0↔∀ y∈x,p y=false:=by
 unfold idxOf;cases h:x.findIdx? p with
 | none=>simp [Ar.1 h];exact Ar.1 h
 | some i =>
   obtain ⟨hi,hp,_⟩:=Aj.1 h;constructor
   · intro q;simp at q;omega
   · intro q;rw [q _ (List.getElem_mem hi)] at hp;cases hp
def kDc {α:Type} {p:α->Bool} {x:Ap α} {k:Nat} (h:idxOf p x=k):∃ hk:k < x.length,p x[k]=true/\∀ j (hj:j < k),p (x[j]'(Nat.lt_trans hj hk))=false:=by
 unfold idxOf at h;cases e:x.findIdx? p with
 | none=>rw [e] at h;simp at h
 | some i =>
   rw [e] at h;obtain rfl:i=k:=by simp only at h;omega
   obtain ⟨hi,hp,hq⟩:=Aj.1 e;exact ⟨hi,hp,λj hj=>by have:=hq j hj;simpa using this⟩
end Go.Proofs.YtjhfdpopkkmigabGreat
namespace Go.Proofs.YtjhfdpopkkmigabGreat
open Go.RowKit _root_.Go.Proofs.Tryz
def okA (y x:kU):Bool:=!((!inR x.1 0 6 || !inR x.2.1 0 1000000) || decide (x.1<=y.1))
def okA0 (x:kU):Bool:=!(!inR x.1 0 6 || !inR x.2.1 0 1000000)
def kMj (l:Ap kU) (k:Nat) (x:kU):Bool:=if 0 < k then okA (l.getD (k - 1) (0,0,0)) x else okA0 x
def vAsk (l:Ap kU):Bool:=zi (λj=>kMj l j (l.getD j (0,0,0))) l.length && decide (0 < l.length)
def vAsk_bad {l:Ap kU} {k:Nat} (h:k < l.length) (q:kMj l k l[k]=false):vAsk l=false:=by
 unfold vAsk;rw [kDe h rT];rfl
def vAsk_next {l:Ap kU} {k:Nat} (h:k < l.length) (q:kMj l k l[k]=true) (a:zi (λj=>kMj l j (l.getD j (0,0,0))) k=true):zi (λj=>kMj l j (l.getD j (0,0,0))) (k + 1)=true :=
  kBe a rT
def vAsk_good {l:Ap kU} {k:Nat} (q:zi (λj=>kMj l j (l.getD j (0,0,0))) k=true) (h:¬ k < l.length) (hk:k<=l.length):vAsk l=decide (0 < l.length):=by
 obtain rfl:k=l.length:=bH3;unfold vAsk;rw [q];rfl
def okAsk_zero {l:List kU} {k:Nat} {x:kU} (h:¬ 0 < k):kMj l k x=okA0 x:=by unfold kMj;rw [if_neg h]
def okAsk_pos {l:List kU} {k j:Nat} {x:kU} (h:0 < k) (e:k - 1=j) (hj:j < l.length):kMj l k x=okA l[j] x:=by unfold kMj;rw [if_pos h,e,ja hj]
def kTx {w:Ay} {vl:Ba} {l:Ap kU} (hl:(kD.slice 91 kM).raw w [vl] l) :
    Calls prog 224 #[vl] w (bQ w (.bool (vAsk l))):=by
 obtain ⟨al,pl,rfl,ll⟩:=kD.sl hl
 go_enter func224,ntmps224
 go_wp2
 go_loopw [3] (λi wr=>∃ k:Nat,k<=l.length/\i=.int .i64 k/\Hid (zi (λj=>kMj l j (l.getD j (0,0,0))) k=true)/\Qb w wr) (λi _=>l.length - (intOf i).toNat)
 case atStart=>exact ⟨0,Nat.zero_le _,rfl,yD rfl,bR⟩
 obtain ⟨k,hk,rfl,HN,o⟩:=hrel
 by_cases hlt:k < l.length
 · have b4:=Int.ofNat_lt.2 hlt;have ce:=Az k;obtain ⟨qb,qo,rfl,Y,ae,ah,qr,ap,aq,ay⟩:=kD.kAn (hl.below o) (i:=k) bH3 rfl;have hb:=λq=>vAsk_bad hlt q;have F:=λq=>vAsk_next hlt q HN.out;by_cases h0:0 < k
   · obtain ⟨j,hj⟩:∃ j,k - 1=j:=⟨_,rfl⟩;have aj:j < l.length:=bH3;have I:=yD (okAsk_pos (l:=l) (x:=l[k]) h0 hj aj);have bd:(k:Int) - 1=(j:Int):=bH3;obtain ⟨yb,yo,yE,az,a3,a1,yr,H,aw,ar⟩:=kD.kAn (hl.below o) aj rfl;simp only [Option.some.injEq,Addr.mk.injEq,and_true] at yE;obtain ⟨rfl,rfl⟩:=yE;generalize l[j]=y at *;obtain ⟨O,ff,e3,f3⟩:=yU yr;simp only [Aq,and_true] at O;obtain ⟨rfl,rfl,rfl⟩:=O;clear yr;have hw:IntKind.i64.wrap (j:Int)=j:=IntWalk.i64_in _ bH3;have bz:=Az j;have bf:=Int.ofNat_lt.2 aj;clear hj;have hp:decide ((k:Int) > 0)=true:=bG7;have ch:decide (0 < k)=true:=bE9;have ck:(0:Int) < k:=bH3;generalize l[k]=x at *;have HB:=yD hb;have HX:=yD F;clear hb F;obtain ⟨G,ag,ak,am⟩:=yU qr;simp only [Aq,and_true] at G;obtain ⟨rfl,rfl,rfl⟩:=G;go_upto_region 4 with fail;have FX:=yD (λ(W:Ay) (hW:Qb wr W)=>kEe hW ap aq ay H);refine kK (λW=>Qb wr W) [Tt,Tt,Tt,Tt,Tt,Ff,Tt,Tt,Tt,Tt,Tt,Tt,Tt,Ff,Tt,Tt,Tt,Tt,Tt,Tt,Tt,Tt,Tt,Tt,Tt,Tt,Tt,Tt,Tt,Tt,Tt,Tt,Tt,Tt] bG6 bG6 qY (bR.drew) ?_;intro wS E;iterate 5
      all_goals refine ky ?_
     all_goals first | refine wkC (yA) ?_ | refine ky ?_
     all_goals refine ky ?_
     all_goals (refine jy λb ax=>?_;cases b <;> try simp only [jw] at ax)
     iterate 5
      all_goals refine ky ?_
     all_goals first | refine wkC (yA) ?_ | refine ky ?_
     all_goals refine ky ?_
     all_goals refine ky ?_
     all_goals (refine jy λb V=>?_;cases b <;> try simp only [jw] at V)
     all_goals refine ky ?_
     all_goals refine ky ?_
     all_goals (refine jy λb an=>?_;cases b <;> try simp only [jw] at an)
     iterate 13
      all_goals refine ky ?_
     all_goals (refine jy λb U=>?_;cases b <;> try simp only [jw] at U)
     all_goals refine kS ?_
     all_goals have EG:=(tQ o E)
     all_goals first
       | (have L:=yD (HB.out (show _=false by rw [I.out];simp only [okA,Ad,Aa,Ae,Ag,Ab,Ac,Ak,Al,Ah,Ai,Am,Aw,ax,V,an,U]));clear HB HX HN I;go_wp2;go_ret;exact ⟨kW L.out.symm,EG⟩)
       | (have L:=yD (HX.out (show _=true by rw [I.out];simp only [okA,Ad,Aa,Ae,Ag,Ab,Ac,Ak,Al,Ah,Ai,Am,Aw,ax,V,an,U]));clear HB HX HN I;go_wp2;go_roundw;(case rel=>exact ⟨k + 1,by omega,by go_num,L,EG⟩);(case measure=>simp [intOf];omega))
   have I:=yD (okAsk_zero (l:=l) (x:=l[k]) h0);have hp:decide ((k:Int) > 0)=false:=bG7;have ch:decide (0 < k)=false:=bE9;have ck:¬ (0:Int) < k:=bH3;generalize l[k]=x at *;have HB:=yD hb;have HX:=yD F;clear hb F;obtain ⟨G,ag,ak,am⟩:=yU qr;simp only [Aq,and_true] at G;obtain ⟨rfl,rfl,rfl⟩:=G;go_upto_region 4 with fail;have FX:=yD (λ(W:Ay) (hW:Qb wr W)=>kOb hW ap aq ay);refine kK (λW=>Qb wr W) [Tt,Tt,Tt,Tt,Tt,Ff,Tt,Tt,Tt,Tt,Tt,Tt,Tt,Ff,Tt,Tt,Tt,Tt,Tt,Tt,Tt,Tt,Tt,Tt,Tt,Tt,Tt,Tt,Tt,Tt,Tt,Tt,Tt,Tt] bG6 bG6 qY (bR.drew) ?_;intro wS E;iterate 5
    all_goals refine ky ?_
   all_goals first | refine wkC (yA) ?_ | refine ky ?_
   all_goals refine ky ?_
   all_goals (refine jy λb ax=>?_;cases b <;> try simp only [jw] at ax)
   iterate 5
    all_goals refine ky ?_
   all_goals first | refine wkC (yA) ?_ | refine ky ?_
   all_goals refine ky ?_
   all_goals refine ky ?_
   all_goals (refine jy λb V=>?_;cases b <;> try simp only [jw] at V)
   all_goals refine ky ?_
   all_goals refine ky ?_
   all_goals (refine jy λb an=>?_;cases b <;> try simp only [jw] at an)
   iterate 13
    all_goals refine ky ?_
   all_goals (refine jy λb U=>?_;cases b <;> try simp only [jw] at U)
   all_goals refine kS ?_
   all_goals have EG:=(tQ o E)
   all_goals first
     | (have L:=yD (HB.out (show _=false by rw [I.out];simp only [okA0,Ad,Aa,Ae,Ag,Ab,Ac,Ak,Al,Ah,Ai,Am,Aw,ax,V,an,U]));clear HB HX HN I;go_wp2;go_ret;exact ⟨kW L.out.symm,EG⟩)
     | (have L:=yD (HX.out (show _=true by rw [I.out];simp only [okA0,Ad,Aa,Ae,Ag,Ab,Ac,Ak,Al,Ah,Ai,Am,Aw,ax,V,an,U]));clear HB HX HN I;go_wp2;go_roundw;(case rel=>exact ⟨k + 1,by omega,by go_num,L,EG⟩);(case measure=>simp [intOf];omega))
 have L:=yD (vAsk_good HN.out hlt hk)
 have du:¬ (k:Int) < l.length:=bH3
 go_wp2
 go_ret
 exact ⟨kW (L.out.trans bH4).symm,o⟩
def kKi (l:Ap kF) (k:Nat) (x:kF):Bool:=!((((!kAp x.1 || ((x.1.length:Int)==0)) || !vAsk x.2.1) || !inR x.2.2 0 100000) || decide (idxOf (jQ x.1) (l.take k) ≥ 0))
def kRq (l:Ap kF):Bool:=zi (λj=>kKi l j (l.getD j ([],[],0))) l.length && decide (l.length<=12)
def vPends_bad {l:Ap kF} {k:Nat} (h:k < l.length) (q:kKi l k l[k]=false):kRq l=false:=by
 unfold kRq;rw [kDe h rT];rfl
def vPends_next {l:Ap kF} {k:Nat} (h:k < l.length) (q:kKi l k l[k]=true) (a:zi (λj=>kKi l j (l.getD j ([],[],0))) k=true):zi (λj=>kKi l j (l.getD j ([],[],0))) (k + 1)=true :=
  kBe a rT
def vPends_good {l:Ap kF} {k:Nat} (q:zi (λj=>kKi l j (l.getD j ([],[],0))) k=true) (h:¬ k < l.length) (hk:k<=l.length):kRq l=decide (l.length<=12):=by
 obtain rfl:k=l.length:=bH3;unfold kRq;rw [q];rfl
def kOw {w:Ay} {vl:Ba} {l:Ap kF} (hl:(kD.slice 93 kH).raw w [vl] l) :
    Calls prog 207 #[vl] w (bQ w (.bool (kRq l))):=by
 obtain ⟨al,pl,rfl,ll⟩:=kD.sl hl
 have b0:=kD.kCt hl
 go_enter func207,ntmps207
 go_wp2
 go_loopw [3] (λi wr=>∃ k:Nat,k<=l.length/\i=.int .i64 k/\Hid (zi (λj=>kKi l j (l.getD j ([],[],0))) k=true)/\Qb w wr) (λi _=>l.length - (intOf i).toNat)
 case atStart=>exact ⟨0,Nat.zero_le _,rfl,yD rfl,bR⟩
 obtain ⟨k,hk,rfl,HN,o⟩:=hrel
 by_cases hlt:k < l.length
 · obtain ⟨qb,qo,rfl,Y,ae,ah,qr,ap,aq,ay⟩:=kD.kAn (hl.below o) (i:=k) bH3 rfl;have au:=yD (kD.kGa (hl.below o) hk);have hb:=λq=>vPends_bad hlt q;have hx:=λq=>vPends_next hlt q HN.out;generalize l[k]=x at *;have HB:=yD hb;have HX:=yD hx;clear hb hx;obtain ⟨U,F,x2⟩:=x;obtain ⟨a6,bn,G,ag,ak,am,ar⟩:=jR qr;simp only [Aq,and_true] at G;obtain ⟨rfl,rfl,rfl⟩:=G;obtain ⟨ac,az,rfl,a8⟩:=kD.sl ak;obtain ⟨ai,bl,rfl,bt⟩:=kD.sl am;obtain ⟨b4,ce,br,ab⟩:=DJ;go_upto_region 4 with fail;have FX:=yD (λ(W:Ay) (hW:Qb wr W)=>kOb hW ap aq ay);refine kK (λW=>Qb wr W) [Tt,Tt,Tt,Tt,Tt,Ff,Tt,Tt,Tt,Tt,Tt,Tt,Tt,Tt,Tt,Tt,Tt,Tt,Tt,Tt,Tt,Tt,Tt,Ff,Tt,Tt,Tt,Tt,Tt,Tt,Tt,Tt,Ff,Tt,Tt,Tt,Tt,Tt,Tt,Tt,Tt,Tt,Tt,Tt,Ff,Tt,Tt] bG6 bG6 qY (bR.drew) ?_;intro wS E;iterate 5
    all_goals refine ky ?_
   all_goals first | refine wkB (yg (kD.raw.below ag E)) (λwS1 E=>?_) | refine ky ?_
   all_goals refine ky ?_
   all_goals (refine jy λb ax=>?_;cases b <;> try simp only [jw] at ax)
   iterate 9
    all_goals refine ky ?_
   all_goals (refine jy λb D=>?_;cases b <;> try simp only [jw] at D)
   iterate 5
    all_goals refine ky ?_
   all_goals first | refine wkB (kTx (kD.raw.below am E)) (λwS1 E=>?_) | refine ky ?_
   all_goals refine ky ?_
   all_goals refine ky ?_
   all_goals (refine jy λb H=>?_;cases b <;> try simp only [jw] at H)
   iterate 5
    all_goals refine ky ?_
   all_goals first | refine wkC (yA) ?_ | refine ky ?_
   all_goals refine ky ?_
   all_goals refine ky ?_
   all_goals (refine jy λb R=>?_;cases b <;> try simp only [jw] at R)
   iterate 8
    all_goals refine ky ?_
   all_goals first | refine wkB (kCi (kD.raw.below au.out E) (kD.raw.below ag E)) (λwS1 E=>?_) | refine ky ?_
   all_goals refine ky ?_
   all_goals (refine jy λb I=>?_;cases b <;> try simp only [jw] at I)
   all_goals refine kS ?_
   all_goals have EG:=o.trans (Below.mono E o.size)
   all_goals first
     | (have L:=yD (HB.out (show _=false by simp only [kKi,Ad,Aa,Ae,Ag,Ab,Ac,Ak,Al,Ah,Ai,Am,Aw,ax,D,H,R,I]));clear HB HX HN au;go_wp2;go_ret;exact ⟨kW L.out.symm,EG⟩)
     | (have L:=yD (HX.out (show _=true by simp only [kKi,Ad,Aa,Ae,Ag,Ab,Ac,Ak,Al,Ah,Ai,Am,Aw,ax,D,H,R,I]));clear HB HX HN au;go_wp2;go_roundw;(case rel=>exact ⟨k + 1,by omega,by go_num,L,EG⟩);(case measure=>simp [intOf];omega))
 have L:=yD (vPends_good HN.out hlt hk)
 go_wp2
 go_ret
 exact ⟨kW fG,o⟩
end Go.Proofs.YtjhfdpopkkmigabGreat

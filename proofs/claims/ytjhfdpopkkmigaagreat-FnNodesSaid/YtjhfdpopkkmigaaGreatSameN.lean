/-
  Data, stores, nodes, wants, what goes out: compared by the laws.
-/
import Derived.Test.YtjhfdpopkkmigaaGreatEqNodes
set_option linter.unusedVariables false
set_option linter.defProp false
set_option linter.unusedSimpArgs false
set_option linter.unnecessarySimpa false
set_option maxRecDepth 100000
set_option maxHeartbeats 4000000
open Bool renaming true->Tt,false->Ff
open Bool renaming not_false->Aa,and_false->Ab,false_and->Ac,not_true->Ad,and_true->Ae,true_and->Ag,or_false->Ah,false_or->Ai,or_true->Ak,true_or->Al,not_not->Am
open List.cons renaming injEq->Aj
open Go renaming World->Ap,Value->Aq,Calls->Aw
open Int renaming ofNat_lt->Ar,natCast_nonneg->Au
open Go.RowKit renaming intOf->Av
open _root_ renaming List->Ay
namespace Go.Proofs.YtjhfdpopkkmigaaGreat
open Go.RowKit _root_.Go.Proofs.Tryz
def kSr {w:Ap} {va L:Aq} {a b:Ay ByteArray} (G:(kD.slice 9 kD.str).raw w [va] a) (al:(kD.slice 9 kD.str).raw w [L] b) :
    Aw prog 128 #[va,L] w (bQ w (.bool (eqN a b))):=by
 obtain ⟨aa,am,rfl,la⟩:=kD.sl G
 obtain ⟨ab,aq,rfl,lb⟩:=kD.sl al
 go_enter func128,ntmps128
 by_cases hl:a.length=b.length
 case neg =>
  exact lS
 obtain ⟨hz,a3⟩:=xG
 have HL:=yD hl;clear hl
 go_wp2
 go_loopw [5] (λi wr=>∃ k:Nat,k<=a.length/\i=.int .i64 k/\Hid (a.take k=b.take k)/\Qb w wr) (λi _=>a.length - (Av i).toNat)
 case atStart=>exact ⟨0,Nat.zero_le _,rfl,yD rfl,bR⟩
 exact uR
def kBk {w:Ap} {ca:Ay Aq} {a:kr} (ha:kW.raw w ca a) {cb:Ay Aq} {b:kr} (hb:kW.raw w cb b) :
    Aw prog 60 #[.agg ca.toArray,.agg cb.toArray] w (bQ w (.bool (eqN a b))):=by
 obtain ⟨av,rfl,G⟩:=ko ha
 obtain ⟨bv,rfl,al⟩:=ko hb
 obtain ⟨aa,am,rfl,la⟩:=kD.sl G
 obtain ⟨ab,aq,rfl,lb⟩:=kD.sl al
 go_enter func60,ntmps60
 go_wp2_with fail
 refine (kSr (G.below bG) (al.below bG)).mono ?_
 rintro e w1 ⟨rfl,O⟩
 have EF:Qb w w1:=Below.trans bG (O.mono bC6)
 clear O
 go_wp2
 go_ret
 exact ⟨rfl,EF⟩
def kQe {w:Ap} {va L:Aq} {a b:(Ay kz)} (G:(kD.slice 131 kS).raw w [va] a) (al:(kD.slice 131 kS).raw w [L] b) :
    Aw prog 58 #[va,L] w (bQ w (.bool (decide (a=b)))):=by
 obtain ⟨aa,am,rfl,la⟩:=kD.sl G
 obtain ⟨ab,aq,rfl,lb⟩:=kD.sl al
 go_enter func58,ntmps58
 by_cases hl:a.length=b.length
 case neg =>
  exact iG
 obtain ⟨hz,a3⟩:=xG
 have HL:=yD hl;clear hl
 go_wp2
 go_loopw [5] (λi wr=>∃ k:Nat,k<=a.length/\i=.int .i64 k/\Hid (a.take k=b.take k)/\Qb w wr) (λi _=>a.length - (Av i).toNat)
 case atStart=>exact ⟨0,Nat.zero_le _,rfl,yD rfl,bR⟩
 obtain ⟨k,hk,rfl,HN,o⟩:=hrel
 by_cases hlt:k < a.length
 · have X:k < b.length:=vQ;obtain ⟨pb,po,rfl,ba,b9,ch,pr,a7,bb,bg⟩:=kD.zt (G.below o) (i:=k) bD1 rfl;obtain ⟨qb,qo,rfl,ae,af,ah,qr,ap,ar,ay⟩:=kD.zt (al.below o) (i:=k) bD1 rfl;obtain ⟨hne,D⟩:=A9;generalize a[k]=x at *;generalize b[k]=y at *;obtain ⟨HD,HX⟩:=y9;have H:=yD (vRouteS_eq x y);clear hne D;obtain ⟨x0,x1,x2⟩:=x;obtain ⟨y0,y1,y2⟩:=y;obtain ⟨b7,an,a8,a6,bh,bz⟩:=jJ pr;simp only [Aj,and_true] at an;obtain ⟨rfl,rfl,rfl⟩:=an;obtain ⟨a2,be,rfl,cd⟩:=kD.sl a6;obtain ⟨bd,ac,ag,ak,ao,ax⟩:=jJ qr;simp only [Aj,and_true] at ac;obtain ⟨rfl,rfl,rfl⟩:=ac;obtain ⟨ad,aw,rfl,bf⟩:=kD.sl ak;go_wp2_with fail;have FX:=yD (λ(W:Ap) (hW:Qb wr W)=>kGx hW a7 bb bg ap ar ay);refine kM (λW=>Qb wr W) [Tt,Tt,Tt,Tt,Tt,Tt,Tt,Tt,Tt,Tt,Tt,Tt,Tt,Tt,Tt,Tt,Tt,Tt,Tt,Tt,Tt,Tt,Tt,Tt,Tt,Tt,Tt,Tt,Tt,Tt,Tt,Tt,Tt,Tt,Tt,Ff,Tt,Tt] bC5 bC5 pY (bR.drew) ?_;intro wS E;iterate 11
    all_goals refine kX ?_
   all_goals (refine jd λb au=>?_;cases b <;> try simp only [jc] at au)
   iterate 12
    all_goals refine kX ?_
   all_goals (refine jd λb I=>?_;cases b <;> try simp only [jc] at I)
   iterate 10
    all_goals refine kX ?_
   all_goals first | refine wkB (kBk (kD.raw.below a8 E) (kD.raw.below ag E)) (λwS1 E=>?_) | refine kX ?_
   all_goals refine kX ?_
   all_goals (refine jd λb J=>?_;cases b <;> try simp only [jc] at J)
   all_goals refine kR ?_
   all_goals have F:=(tQ o E)
   all_goals first
     | (have Y:=H.out.symm.trans (show _=false by simp only [kTm,Ad,Aa,Ae,Ag,Ab,Ac,Ak,Al,Ah,Ai,Am,au,I,J]);have U:=yD (HD.out Y);clear Y H HD HX;go_wp2;go_ret;exact ⟨kK U.out.symm,F⟩)
     | (have Y:=H.out.symm.trans (show _=true by simp only [kTm,Ad,Aa,Ae,Ag,Ab,Ac,Ak,Al,Ah,Ai,Am,au,I,J]);have U:=yD (HX.out Y);clear Y H HD HX;go_wp2;go_roundw;(case rel=>exact ⟨k + 1,by omega,by go_num,U,F⟩);(case measure=>simp [Av];omega))
 exact iI
def kVx {w:Ap} {va L:Aq} {a b:(Ay kT)} (G:(kD.slice 149 kL).raw w [va] a) (al:(kD.slice 149 kL).raw w [L] b) :
    Aw prog 59 #[va,L] w (bQ w (.bool (decide (a=b)))):=by
 obtain ⟨aa,am,rfl,la⟩:=kD.sl G
 obtain ⟨ab,aq,rfl,lb⟩:=kD.sl al
 go_enter func59,ntmps59
 by_cases hl:a.length=b.length
 case neg =>
  exact iG
 obtain ⟨hz,a3⟩:=xG
 have HL:=yD hl;clear hl
 go_wp2
 go_loopw [5] (λi wr=>∃ k:Nat,k<=a.length/\i=.int .i64 k/\Hid (a.take k=b.take k)/\Qb w wr) (λi _=>a.length - (Av i).toNat)
 case atStart=>exact ⟨0,Nat.zero_le _,rfl,yD rfl,bR⟩
 obtain ⟨k,hk,rfl,HN,o⟩:=hrel
 by_cases hlt:k < a.length
 · have X:k < b.length:=vQ;obtain ⟨pb,po,rfl,ba,b9,ch,pr,a7,bb,bg⟩:=kD.zt (G.below o) (i:=k) bD1 rfl;obtain ⟨qb,qo,rfl,ae,af,ah,qr,ap,ar,ay⟩:=kD.zt (al.below o) (i:=k) bD1 rfl;obtain ⟨hne,D⟩:=A9;generalize a[k]=x at *;generalize b[k]=y at *;obtain ⟨HD,HX⟩:=y9;have H:=yD (vMeasS_eq x y);clear hne D;obtain ⟨x0,x1,x2⟩:=x;obtain ⟨y0,y1,y2⟩:=y;obtain ⟨b7,an,a8,a6,bh,bz⟩:=jh pr;simp only [Aj,and_true] at an;obtain ⟨rfl,rfl,rfl⟩:=an;obtain ⟨a2,be,rfl,cd⟩:=kD.sl a6;obtain ⟨bd,ac,ag,ak,ao,ax⟩:=jh qr;simp only [Aj,and_true] at ac;obtain ⟨rfl,rfl,rfl⟩:=ac;obtain ⟨ad,aw,rfl,bf⟩:=kD.sl ak;go_wp2_with fail;have FX:=yD (λ(W:Ap) (hW:Qb wr W)=>kGx hW a7 bb bg ap ar ay);refine kM (λW=>Qb wr W) [Tt,Tt,Tt,Tt,Tt,Tt,Tt,Tt,Tt,Tt,Tt,Tt,Tt,Tt,Tt,Tt,Tt,Tt,Tt,Tt,Tt,Tt,Tt,Tt,Tt,Tt,Tt,Tt,Tt,Tt,Tt,Tt,Tt,Tt,Tt,Ff,Tt,Tt] bC5 bC5 pY (bR.drew) ?_;intro wS E;iterate 11
    all_goals refine kX ?_
   all_goals (refine jd λb au=>?_;cases b <;> try simp only [jc] at au)
   iterate 12
    all_goals refine kX ?_
   all_goals (refine jd λb I=>?_;cases b <;> try simp only [jc] at I)
   iterate 10
    all_goals refine kX ?_
   all_goals first | refine wkB (kBk (kD.raw.below a8 E) (kD.raw.below ag E)) (λwS1 E=>?_) | refine kX ?_
   all_goals refine kX ?_
   all_goals (refine jd λb J=>?_;cases b <;> try simp only [jc] at J)
   all_goals refine kR ?_
   all_goals have F:=(tQ o E)
   all_goals first
     | (have Y:=H.out.symm.trans (show _=false by simp only [kZm,Ad,Aa,Ae,Ag,Ab,Ac,Ak,Al,Ah,Ai,Am,au,I,J]);have U:=yD (HD.out Y);clear Y H HD HX;go_wp2;go_ret;exact ⟨kK U.out.symm,F⟩)
     | (have Y:=H.out.symm.trans (show _=true by simp only [kZm,Ad,Aa,Ae,Ag,Ab,Ac,Ak,Al,Ah,Ai,Am,au,I,J]);have U:=yD (HX.out Y);clear Y H HD HX;go_wp2;go_roundw;(case rel=>exact ⟨k + 1,by omega,by go_num,U,F⟩);(case measure=>simp [Av];omega))
 exact iI
def kSs {w:Ap} {va L:Aq} {a b:Ay kI} (G:(kD.slice 145 kJ).raw w [va] a) (al:(kD.slice 145 kJ).raw w [L] b) :
    Aw prog 56 #[va,L] w (bQ w (.bool (decide (a=b)))):=by
 obtain ⟨aa,am,rfl,la⟩:=kD.sl G
 obtain ⟨ab,aq,rfl,lb⟩:=kD.sl al
 go_enter func56,ntmps56
 by_cases hl:a.length=b.length
 case neg =>
  exact iG
 obtain ⟨hz,a3⟩:=xG
 have HL:=yD hl;clear hl
 go_wp2
 go_loopw [5] (λi wr=>∃ k:Nat,k<=a.length/\i=.int .i64 k/\Hid (a.take k=b.take k)/\Qb w wr) (λi _=>a.length - (Av i).toNat)
 case atStart=>exact ⟨0,Nat.zero_le _,rfl,yD rfl,bR⟩
 obtain ⟨k,hk,rfl,HN,o⟩:=hrel
 by_cases hlt:k < a.length
 · have X:k < b.length:=vQ;obtain ⟨pb,po,rfl,ba,b9,ch,pr,a7,bb,bg⟩:=kD.zt (G.below o) (i:=k) bD1 rfl;obtain ⟨qb,qo,rfl,ae,af,ah,qr,ap,ar,ay⟩:=kD.zt (al.below o) (i:=k) bD1 rfl;obtain ⟨hne,D⟩:=A9;have bv:=Ar.2 hlt;have cl:=Ar.2 X;have bk:=Au k;generalize a[k]=x at *;generalize b[k]=y at *;have HD:Hid (kHj x y=false->decide (a=b)=false):=yD (λq=>by simpa using hne (vPendS_no q));have HE:Hid (¬ x.2.1=y.2.1->decide (a=b)=false):=yD (λq=>by simpa using hne (λe=>q (by rw [e])));have HX:Hid (kHj x y=true->x.2.1.length=y.2.1.length/\(x.2.1=y.2.1->a.take (k + 1)=b.take (k + 1))):=yD (λq=>⟨(kUg q).1,λe=>D ((kUg q).2 e)⟩);clear hne D;obtain ⟨b7,Z,an,a8,a6,bh,bz⟩:=jT pr;simp only [Aj,and_true] at an;obtain ⟨rfl,rfl,rfl⟩:=an;obtain ⟨a2,be,rfl,cd⟩:=kD.sl a6;obtain ⟨b8,ck,rfl,a5⟩:=kD.sl bh;obtain ⟨bd,b5,ac,ag,ak,ao,ax⟩:=jT qr;simp only [Aj,and_true] at ac;obtain ⟨rfl,rfl,rfl⟩:=ac;obtain ⟨ad,aw,rfl,bf⟩:=kD.sl ak;obtain ⟨ai,bj,rfl,cg⟩:=kD.sl ao;go_upto_region 6 with fail;have FX:=yD (λ(W:Ap) (hW:Qb wr W)=>kGx hW a7 bb bg ap ar ay);refine kM (λW=>Qb wr W) [Tt,Tt,Tt,Tt,Tt,Tt,Tt,Tt,Tt,Tt,Tt,Tt,Tt,Tt,Tt,Tt,Tt,Tt,Tt,Tt,Tt,Tt,Ff,Tt,Tt,Tt,Tt,Tt,Tt,Tt,Tt,Tt,Tt,Tt,Tt,Tt,Tt,Tt,Tt,Tt] bC5 bC5 pY (bR.drew) ?_;intro wS E;iterate 11
    all_goals refine kX ?_
   all_goals (refine jd λb au=>?_;cases b <;> try simp only [jc] at au)
   iterate 10
    all_goals refine kX ?_
   all_goals first | refine wkB (kBk (kD.raw.below a8 E) (kD.raw.below ag E)) (λwS1 E=>?_) | refine kX ?_
   all_goals refine kX ?_
   all_goals refine kX ?_
   all_goals (refine jd λb H=>?_;cases b <;> try simp only [jc] at H)
   iterate 13
    all_goals refine kX ?_
   all_goals (refine jd λb N=>?_;cases b <;> try simp only [jc] at N)
   all_goals refine kR ?_
   all_goals have F:=(tQ o E)
   all_goals first
     | (have U:=yD (HD.out (show kHj x y=false by simp only [kHj,Ad,Aa,Ae,Ag,Ab,Ac,Ak,Al,Ah,Ai,Am,au,H,N]));clear HD HE HX;go_wp2;go_ret;exact ⟨kK U.out.symm,F⟩)
     | have U:=yD (HX.out (show kHj x y=true by simp only [kHj,Ad,Aa,Ae,Ag,Ab,Ac,Ak,Al,Ah,Ai,Am,au,H,N]))
   all_goals try clear HD HX
   have b4:=bb;have b3:=ar;have pn:=bh;have qn:=ao;have Y:=yD U.out.1;clear au H N;have bc:=yD U.out.2;clear U;generalize x.2.1=P at *;generalize y.2.1=Q at *;clear HN;go_wp2;go_loopw [6] (λi wq=>∃ j:Nat,j<=P.length/\i=.int .i64 j/\Hid (P.take j=Q.take j)/\Qb wr wq) (λi _=>P.length - (Av i).toNat);case atStart=>exact ⟨0,Nat.zero_le _,rfl,yD rfl,E⟩
   obtain ⟨j,I,rfl,HM,hq⟩:=hrel;have B3:=cL hq b4;have D3:=cL hq b3;by_cases a4:j < P.length
   · have bn:j < Q.length:=by have:=Y.out;omega
     obtain ⟨R,no,rfl,cc,fi,fk,nr,aj,bq,bw⟩:=kD.zt (pn.below hq) a4 rfl;obtain ⟨mb,mo,rfl,ce,ca,b6,mr,bt,br,b2⟩:=kD.zt (qn.below hq) bn rfl;obtain ⟨a1,_⟩:=yz nr;obtain ⟨bu,_⟩:=yz mr;simp only [Aj,and_true] at a1 bu;obtain ⟨rfl,rfl,rfl⟩:=a1;obtain ⟨rfl,rfl,rfl⟩:=bu;clear nr mr;have dn:=Ar.2 a4;have cf:=Ar.2 bn;have b0:=Au j;have hne:=λq=>zF a4 bn q;have D:=λq=>jv HM.out a4 bn q;generalize P[j]=u at *;generalize Q[j]=v at *;have bl:Hid (vReq u v=false->decide (a=b)=false):=yD (λq=>HE.out (hne (by rw [kZl] at q;simpa using q)));have az:Hid (vReq u v=true->P.take (j + 1)=Q.take (j + 1)):=yD (λq=>D (by rw [kZl] at q;simpa using q));clear hne D;obtain ⟨O,u1,u2⟩:=u;obtain ⟨v0,v1,v2⟩:=v;have J:(O=v0/\u1=v1/\u2=v2)\/(O≠v0)\/(O=v0/\u1≠v1)\/(O=v0/\u1=v1/\u2≠v2):=bD1;rcases J with ⟨rfl,rfl,rfl⟩ | e|⟨rfl,e⟩|⟨rfl,rfl,e⟩;all_goals go_upto_region 11 with fail
     all_goals refine kM (λW=>Qb wr W) [Tt,Tt,Tt,Tt,Tt,Tt,Tt,Tt,Tt,Tt,Tt,Tt,Tt,Tt,Tt,Tt,Tt] bC5 bC5 pY (bR.drew) ?_
     all_goals intro wS E
     iterate 4
      all_goals refine kX ?_
     iterate 2
      all_goals first|(refine kG rfl E ?_)|(refine kw (v:=?_) rfl (λW hW=>?_) ?_;rotate_left;(· have bx:=cL hW B3;have b1:=cL hW D3;have a9:=cL hW aj;have av:=cL hW bq;have bp:=cL hW bw;have bi:=cL hW bt;have bm:=cL hW br;have bo:=cL hW b2;clear hW;go_simp;try with_reducible rfl))
      all_goals refine jD ?_
      all_goals refine kX ?_
      all_goals refine kX ?_
     iterate 2
      all_goals refine kX ?_
      all_goals refine kX ?_
      all_goals first|(refine kG rfl E ?_)|(refine kw (v:=?_) rfl (λW hW=>?_) ?_;rotate_left;(· have bx:=cL hW B3;have b1:=cL hW D3;have a9:=cL hW aj;have av:=cL hW bq;have bp:=cL hW bw;have bi:=cL hW bt;have bm:=cL hW br;have bo:=cL hW b2;clear hW;go_simp;try with_reducible rfl))
      all_goals refine jD ?_
     all_goals (refine jd λb V=>?_;cases b <;> try simp only [jc] at V)
     all_goals refine kR ?_
     all_goals have EQ:=(tQ hq E)
     all_goals first
       | (have U:=yD (bl.out (by first|(simp [vReq,e];done)|(simp [vReq];done)));clear bl az;have F:=(tQ o EQ);go_wp2;go_ret;exact ⟨kK U.out.symm,F⟩)
       | (have U:=yD (az.out (by first|(simp [vReq];done)));clear bl az;go_wp2;go_roundw;(case rel=>exact ⟨j + 1,by omega,by go_num,U,EQ⟩);(case measure=>simp [Av];omega))
   have U:=yD (bc.out (yY HM.out a4 Y.out));have F:=(tQ o hq);exact mW
 exact iI
def lawssame_c {w:Ap} {va L:Aq} {a b:Ay UInt8} (G:(kD.slice 5 kD.byte).raw w [va] a) (al:(kD.slice 5 kD.byte).raw w [L] b) :
    Aw prog 61 #[va,L] w (bQ w (.bool (decide (a=b)))):=by
 obtain ⟨aa,am,rfl,la⟩:=kD.sl G
 obtain ⟨ab,aq,rfl,lb⟩:=kD.sl al
 go_enter func61,ntmps61
 by_cases hl:a.length=b.length
 case neg =>
  exact iG
 obtain ⟨hz,a3⟩:=xG
 have HL:=yD hl;clear hl
 go_wp2
 go_loopw [5] (λi wr=>∃ k:Nat,k<=a.length/\i=.int .i64 k/\Hid (a.take k=b.take k)/\Qb w wr) (λi _=>a.length - (Av i).toNat)
 case atStart=>exact ⟨0,Nat.zero_le _,rfl,yD rfl,bR⟩
 exact uL
def kSq {w:Ap} {cx:Ay Aq} {x:jL} (hx:jF.raw w cx x) {cy:Ay Aq} {y:jL} (hy:jF.raw w cy y) :
    Aw prog 18 #[.agg cx.toArray,.agg cy.toArray] w (bQ w (.bool (kJl x y))):=by
 have Hx:=yD hx
 obtain ⟨ax,bg,bb,rfl,I,o,ad,ah,am,aw,az⟩:=jM hx
 obtain ⟨ac,Y,rfl,av⟩:=kD.sl o
 obtain ⟨au,ap,rfl,bf⟩:=kD.sl ad
 obtain ⟨ar,ao,rfl,bd⟩:=kD.sl am
 have Hy:=yD hy
 obtain ⟨a3,bh,bm,rfl,aj,ai,an,aq,X,a2,ba⟩:=jM hy
 obtain ⟨al,ak,rfl,a9⟩:=kD.sl ai
 obtain ⟨a6,a7,rfl,bk⟩:=kD.sl an
 obtain ⟨a1,a5,rfl,bl⟩:=kD.sl X
 go_enter func18,ntmps18
 go_upto_region 1 with fail
 generalize J:World.alloc (World.alloc w _) _=N
 obtain ⟨R,L⟩:=xW
 obtain ⟨Z,af,V,ay,D,ae,ag,a8,a4⟩:=BP
 clear J
 have FX:=yD (λ(W:Ap) (hW:Qb N W)=>cLs10 hW L Z af V ay D ae ag a8 a4)
 refine ky (λW=>Qb N W) [Tt,Tt,Tt,Tt,Ff,Tt,Tt,Tt,Tt,Tt,Ff,Tt,Tt,Tt,Tt,Tt,Tt,Ff,Tt,Tt,Tt,Tt,Tt,Tt,Tt,Tt,Tt,Tt,Tt,Tt,Tt,Tt,Tt,Tt] bR ?_
 intro wS E
 iterate 4
  all_goals refine kX ?_
 all_goals first | refine wkB (kBk (kD.raw.below I (tQ R E)) (kD.raw.below aj (tQ R E))) (λwS1 E=>?_) | refine kX ?_
 all_goals (refine jd λb H=>?_;cases b <;> try simp only [jc] at H)
 iterate 4
  all_goals refine kX ?_
 all_goals first | refine wkB (lawssame_c (kD.raw.below ad (tQ R E)) (kD.raw.below an (tQ R E))) (λwS1 E=>?_) | refine kX ?_
 all_goals refine kX ?_
 all_goals (refine jd λb ab=>?_;cases b <;> try simp only [jc] at ab)
 iterate 4
  all_goals refine kX ?_
 all_goals first | refine wkB (kBk (kD.raw.below ah (tQ R E)) (kD.raw.below aq (tQ R E))) (λwS1 E=>?_) | refine kX ?_
 all_goals refine kX ?_
 all_goals (refine jd λb aa=>?_;cases b <;> try simp only [jc] at aa)
 iterate 6
  all_goals refine kX ?_
 all_goals (refine jd λb G=>?_;cases b <;> try simp only [jc] at G)
 iterate 6
  all_goals refine kX ?_
 all_goals (refine jd λb O=>?_;cases b <;> try simp only [jc] at O)
 all_goals refine kR ?_
 all_goals have F:=(tQ R E)
 all_goals first
   | (have U:=yD (show (kJl x y)=false by simp only [kJl,Ad,Aa,Ae,Ag,Ab,Ac,Ak,Al,Ah,Ai,Am,H,ab,aa,G,O]);go_wp2;go_ret;exact ⟨kK U.out.symm,F⟩)
   | (have U:=yD (show (kJl x y)=true by simp only [kJl,Ad,Aa,Ae,Ag,Ab,Ac,Ak,Al,Ah,Ai,Am,H,ab,aa,G,O]);go_wp2;go_ret;exact ⟨kK U.out.symm,F⟩)
def kBx {w:Ap} {cx:Ay Aq} {x:jL} (hx:jF.raw w cx x) {cy:Ay Aq} {y:jL} (hy:jF.raw w cy y) :
    Aw prog 18 #[.agg cx.toArray,.agg cy.toArray] w (bQ w (.bool (decide (x=y)))):=by
 have h:=kSq hx hy
 rw [vData_eq] at h
 exact h
def kEo {w:Ap} {va L:Aq} {a b:(Ay jL)} (G:(kD.slice 38 jF).raw w [va] a) (al:(kD.slice 38 jF).raw w [L] b) :
    Aw prog 30 #[va,L] w (bQ w (.bool (decide (a=b)))):=by
 obtain ⟨aa,am,rfl,la⟩:=kD.sl G
 obtain ⟨ab,aq,rfl,lb⟩:=kD.sl al
 go_enter func30,ntmps30
 by_cases hl:a.length=b.length
 case neg =>
  exact iG
 obtain ⟨hz,a3⟩:=xG
 have HL:=yD hl;clear hl
 go_wp2
 go_loopw [5] (λi wr=>∃ k:Nat,k<=a.length/\i=.int .i64 k/\Hid (a.take k=b.take k)/\Qb w wr) (λi _=>a.length - (Av i).toNat)
 case atStart=>exact ⟨0,Nat.zero_le _,rfl,yD rfl,bR⟩
 obtain ⟨k,hk,rfl,HN,o⟩:=hrel
 by_cases hlt:k < a.length
 · have X:k < b.length:=vQ;obtain ⟨pb,po,rfl,ba,b9,ch,dh,df,pr,a7,bb,bg,az,au⟩:=kD.get5 (G.below o) (i:=k) bD1 rfl;obtain ⟨qb,qo,rfl,ae,af,ah,cv,cw,qr,ap,ar,ay,bo,b2⟩:=kD.get5 (al.below o) (i:=k) bD1 rfl;obtain ⟨hne,D⟩:=A9;generalize a[k]=x at *;generalize b[k]=y at *;obtain ⟨HD,HX⟩:=y9;have H:=yD (vDatS_eq x y);clear hne D;obtain ⟨x0,x1,x2,x3,x4⟩:=x;obtain ⟨y0,y1,y2,y3,y4⟩:=y;obtain ⟨b7,Z,bc,an,a8,a6,bh,bz,I,V,bl⟩:=jM pr;simp only [Aj,and_true] at an;obtain ⟨rfl,rfl,rfl,rfl,rfl⟩:=an;obtain ⟨a2,be,rfl,cd⟩:=kD.sl a6;obtain ⟨b8,ck,rfl,a5⟩:=kD.sl bh;obtain ⟨db,di,rfl,bm⟩:=kD.sl I;obtain ⟨bd,b5,cq,ac,ag,ak,ao,ax,b3,bq,cm⟩:=jM qr;simp only [Aj,and_true] at ac;obtain ⟨rfl,rfl,rfl,rfl,rfl⟩:=ac;obtain ⟨ad,aw,rfl,bf⟩:=kD.sl ak;obtain ⟨ai,bj,rfl,cg⟩:=kD.sl ao;obtain ⟨aj,cl,rfl,c2⟩:=kD.sl b3;go_wp2_with fail;have FX:=yD (λ(W:Ap) (hW:Qb wr W)=>cLs10 hW a7 bb bg az au ap ar ay bo b2);refine kM (λW=>Qb wr W) [Tt,Tt,Tt,Tt,Tt,Tt,Tt,Tt,Ff,Tt] bC5 bC5 pY (bR.drew) ?_;intro wS E;iterate 8
    all_goals refine kX ?_
   all_goals first | refine wkB (kBx (kD.raw.below pr E) (kD.raw.below qr E)) (λwS1 E=>?_) | refine kX ?_
   all_goals (refine jd λb c4=>?_;cases b <;> try simp only [jc] at c4)
   all_goals refine kR ?_
   all_goals have F:=(tQ o E)
   all_goals first
     | (have Y:=H.out.symm.trans (show _=false by simp only [vDatS,Ad,Aa,Ae,Ag,Ab,Ac,Ak,Al,Ah,Ai,Am,c4]);have U:=yD (HD.out Y);clear Y H HD HX;go_wp2;go_ret;exact ⟨kK U.out.symm,F⟩)
     | (have Y:=H.out.symm.trans (show _=true by simp only [vDatS,Ad,Aa,Ae,Ag,Ab,Ac,Ak,Al,Ah,Ai,Am,c4]);have U:=yD (HX.out Y);clear Y H HD HX;go_wp2;go_roundw;(case rel=>exact ⟨k + 1,by omega,by go_num,U,F⟩);(case measure=>simp [Av];omega))
 exact iI
def kVv {w:Ap} {va L:Aq} {a b:(Ay jK)} (G:(kD.slice 102 jE).raw w [va] a) (al:(kD.slice 102 jE).raw w [L] b) :
    Aw prog 57 #[va,L] w (bQ w (.bool (decide (a=b)))):=by
 obtain ⟨aa,am,rfl,la⟩:=kD.sl G
 obtain ⟨ab,aq,rfl,lb⟩:=kD.sl al
 go_enter func57,ntmps57
 by_cases hl:a.length=b.length
 case neg =>
  exact iG
 obtain ⟨hz,a3⟩:=xG
 have HL:=yD hl;clear hl
 go_wp2
 go_loopw [5] (λi wr=>∃ k:Nat,k<=a.length/\i=.int .i64 k/\Hid (a.take k=b.take k)/\Qb w wr) (λi _=>a.length - (Av i).toNat)
 case atStart=>exact ⟨0,Nat.zero_le _,rfl,yD rfl,bR⟩
 obtain ⟨k,hk,rfl,HN,o⟩:=hrel
 by_cases hlt:k < a.length
 · have X:k < b.length:=vQ;obtain ⟨pb,po,rfl,ba,b9,pr,a7,bb⟩:=kD.get2 (G.below o) (i:=k) bD1 rfl;obtain ⟨qb,qo,rfl,ae,af,qr,ap,ar⟩:=kD.get2 (al.below o) (i:=k) bD1 rfl;obtain ⟨hne,D⟩:=A9;generalize a[k]=x at *;generalize b[k]=y at *;obtain ⟨HD,HX⟩:=y9;have H:=yD (vSeenS_eq x y);clear hne D;obtain ⟨x0,x1⟩:=x;obtain ⟨y0,y1⟩:=y;obtain ⟨b7,an,a8,a6,bh⟩:=kAb pr;simp only [Aj,and_true] at an;obtain ⟨rfl,rfl⟩:=an;obtain ⟨a2,be,rfl,cd⟩:=kD.sl a6;obtain ⟨bd,ac,ag,ak,ao⟩:=kAb qr;simp only [Aj,and_true] at ac;obtain ⟨rfl,rfl⟩:=ac;obtain ⟨ad,aw,rfl,bf⟩:=kD.sl ak;go_wp2_with fail;have FX:=yD (λ(W:Ap) (hW:Qb wr W)=>kGr hW a7 bb ap ar);refine kM (λW=>Qb wr W) [Tt,Tt,Tt,Tt,Tt,Tt,Tt,Tt,Tt,Tt,Tt,Tt,Tt,Tt,Tt,Tt,Tt,Tt,Tt,Tt,Tt,Tt,Ff,Tt,Tt] bC5 bC5 pY (bR.drew) ?_;intro wS E;iterate 11
    all_goals refine kX ?_
   all_goals (refine jd λb au=>?_;cases b <;> try simp only [jc] at au)
   iterate 10
    all_goals refine kX ?_
   all_goals first | refine wkB (kBk (kD.raw.below a8 E) (kD.raw.below ag E)) (λwS1 E=>?_) | refine kX ?_
   all_goals refine kX ?_
   all_goals (refine jd λb I=>?_;cases b <;> try simp only [jc] at I)
   all_goals refine kR ?_
   all_goals have F:=(tQ o E)
   all_goals first
     | (have Y:=H.out.symm.trans (show _=false by simp only [kZk,Ad,Aa,Ae,Ag,Ab,Ac,Ak,Al,Ah,Ai,Am,au,I]);have U:=yD (HD.out Y);clear Y H HD HX;go_wp2;go_ret;exact ⟨kK U.out.symm,F⟩)
     | (have Y:=H.out.symm.trans (show _=true by simp only [kZk,Ad,Aa,Ae,Ag,Ab,Ac,Ak,Al,Ah,Ai,Am,au,I]);have U:=yD (HX.out Y);clear Y H HD HX;go_wp2;go_roundw;(case rel=>exact ⟨k + 1,by omega,by go_num,U,F⟩);(case measure=>simp [Av];omega))
 exact iI
def kSt {w:Ap} {ca cb:Ay Aq} {a b:kg} (ha:kP.raw w ca a) (hb:kP.raw w cb b) :
    Aw prog 55 #[.agg ca.toArray,.agg cb.toArray] w (bQ w (.bool (vSt a b))):=by
 obtain ⟨av,rfl,bw,G⟩:=jI ha
 obtain ⟨bv,rfl,bu,al⟩:=jI hb
 obtain ⟨aa,am,rfl,la⟩:=kD.sl G
 obtain ⟨ab,aq,rfl,lb⟩:=kD.sl al
 obtain ⟨a0,a1⟩:=a
 obtain ⟨O,b1⟩:=b
 clear bw bu ha hb
 go_enter func55,ntmps55
 go_upto_region 1 with fail
 generalize J:World.alloc (World.alloc w _) _=N
 have R:Qb w N:=by rw [<- J];exact bG
 have K0:Qd N w 0 (.int .i64 a0):=tT
 have K1:Qd N w 1 (.slice aa a1.length am):=tT
 have L0:Qc N (w.heap.size + 1) 0 (.int .i64 O):=tT
 have L1:Qc N (w.heap.size + 1) 1 (.slice ab b1.length aq):=tT
 clear J
 replace G:=G.below R
 replace al:=al.below R
 by_cases hc:a0=O
 case neg =>
  have U:=yD (show vSt (a0,a1) (O,b1)=false by simp [vSt,hc]);have hz:(a0 != O)=true:=bA1;go_wp2;go_ret;exact ⟨kK U.out.symm,R⟩
 have b0:(a0 != O)=false:=bA1
 have HC:=yD hc;clear hc
 by_cases hl:a1.length=b1.length
 case neg =>
  have U:=yD (show vSt (a0,a1) (O,b1)=false by simp [vSt];rintro _ rfl;exact hl rfl);have hz:((a1.length:Int) != b1.length)=true:=bC6;have a3:(a1.length != b1.length)=true:=wY;go_wp2;go_ret;exact ⟨kK U.out.symm,R⟩
 have hz:((a1.length:Int) != b1.length)=false:=bC6
 have a3:(a1.length != b1.length)=false:=wY
 have HL:=yD hl;clear hl
 go_wp2
 go_loopw [5] (λi wr=>∃ k:Nat,k<=a1.length/\i=.int .i64 k/\Hid (a1.take k=b1.take k)/\Qb N wr) (λi _=>a1.length - (Av i).toNat)
 case atStart=>exact ⟨0,Nat.zero_le _,rfl,yD rfl,bR⟩
 obtain ⟨k,hk,rfl,HN,o⟩:=hrel
 replace K1:=cL o K1
 replace L1:=cL o L1
 by_cases hlt:k < a1.length
 · have X:k < b1.length:=vQ;have dy:=Ar.2 hlt;have co:=Ar.2 X;have bk:=Au k;obtain ⟨pb,po,rfl,ba,b9,ch,dh,df,ep,pr,a7,bb,bg,az,au,bn⟩:=kD.kPk (G.below o) (i:=k) bD1 rfl;obtain ⟨qb,qo,rfl,ae,af,ah,cv,cw,br,qr,ap,ar,ay,bo,b2,a4⟩:=kD.kPk (al.below o) (i:=k) bD1 rfl;obtain ⟨hne,D⟩:=A9;generalize a1[k]=x at *;generalize b1[k]=y at *;have HD:Hid (decide (x=y)=false->vSt (a0,a1) (O,b1)=false):=yD (λq=>by have:=hne bB7;simp [vSt,this]);have HX:Hid (decide (x=y)=true->a1.take (k + 1)=b1.take (k + 1)):=yD tH;have H:=yD (vCeS_eq x y);clear hne D;obtain ⟨x0,x1⟩:=x;obtain ⟨y0,y1⟩:=y;obtain ⟨b7,Z,bc,an,a8,a6,bh,bz,I,V,bl,bt,bx⟩:=jV pr;simp only [Aj,and_true] at an;obtain ⟨rfl,rfl,rfl,rfl,rfl,rfl⟩:=an;obtain ⟨a2,be,rfl,cd⟩:=kD.sl bh;obtain ⟨b8,ck,rfl,a5⟩:=kD.sl bz;obtain ⟨db,di,rfl,bm⟩:=kD.sl V;obtain ⟨bd,b5,cq,ac,ag,ak,ao,ax,b3,bq,cm,bp,bi⟩:=jV qr;simp only [Aj,and_true] at ac;obtain ⟨rfl,rfl,rfl,rfl,rfl,rfl⟩:=ac;obtain ⟨ad,aw,rfl,bf⟩:=kD.sl ao;obtain ⟨ai,bj,rfl,cg⟩:=kD.sl ax;obtain ⟨aj,cl,rfl,c2⟩:=kD.sl bq;go_upto_region 6 with fail;have FX:=yD (λ(W:Ap) (hW:Qb wr W)=>cLs14 hW K1 L1 a7 bb bg az au bn ap ar ay bo b2 a4);refine kM (λW=>Qb wr W) [Tt,Tt,Tt,Tt,Tt,Tt,Tt,Tt,Tt,Tt,Tt,Tt,Tt,Tt,Tt,Tt,Tt,Tt,Tt,Tt,Tt,Tt,Tt,Tt,Tt,Tt,Ff,Tt,Tt] bC5 bC5 pY (bR.drew) ?_;intro wS E;iterate 13
    all_goals refine kX ?_
   all_goals (refine jd λb a9=>?_;cases b <;> try simp only [jc] at a9)
   iterate 12
    all_goals refine kX ?_
   all_goals first | refine wkB (kBx (kD.raw.below a8 E) (kD.raw.below ag E)) (λwS1 E=>?_) | refine kX ?_
   all_goals refine kX ?_
   all_goals (refine jd λb L=>?_;cases b <;> try simp only [jc] at L)
   all_goals refine kR ?_
   all_goals have F:=(tQ o E)
   all_goals first
     | (have Y:=H.out.symm.trans (show _=false by simp only [vCeS,Ad,Aa,Ae,Ag,Ab,Ac,Ak,Al,Ah,Ai,Am,a9,L]);have U:=yD (HD.out Y);clear Y H HD HX;go_wp2;go_ret;exact ⟨kK U.out.symm,(tQ R F)⟩)
     | (have Y:=H.out.symm.trans (show _=true by simp only [vCeS,Ad,Aa,Ae,Ag,Ab,Ac,Ak,Al,Ah,Ai,Am,a9,L]);have U:=yD (HX.out Y);clear Y H HD HX;go_wp2;go_roundw;(case rel=>exact ⟨k + 1,by omega,by go_num,U,F⟩);(case measure=>simp [Av];omega))
 have U:=yD (show vSt (a0,a1) (O,b1)=true by have:=yY HN.out hlt HL.out;have h2:=HC.out;subst this h2;simp [vSt])
 have b6:¬ (k:Int) < a1.length:=bD1
 go_wp2
 go_ret
 exact ⟨kK U.out.symm,(tQ R o)⟩
def kSu {w:Ap} {cx:Ay Aq} {x:kg} (hx:kP.raw w cx x) {cy:Ay Aq} {y:kg} (hy:kP.raw w cy y) :
    Aw prog 55 #[.agg cx.toArray,.agg cy.toArray] w (bQ w (.bool (decide (x=y)))):=by
 have h:=kSt hx hy
 rw [vSt_eq] at h
 exact h
def kVw {w:Ap} {cx:Ay Aq} {x:jq} (hx:je.raw w cx x) {cy:Ay Aq} {y:jq} (hy:je.raw w cy y) :
    Aw prog 17 #[.agg cx.toArray,.agg cy.toArray] w (bQ w (.bool (kJk x y))):=by
 have Hx:=yD hx
 obtain ⟨ax,bb,ch,cm,cd,b6,rfl,I,o,ad,ah,am,aw,az,bi,br⟩:=yB hx
 obtain ⟨ac,Y,rfl,av⟩:=kD.sl I
 obtain ⟨ar,ao,rfl,bd⟩:=kD.sl ah
 obtain ⟨bx,a6,rfl,cc⟩:=kD.sl am
 obtain ⟨bq,bn,rfl,cg⟩:=kD.sl aw
 obtain ⟨bv,bt,rfl,ck⟩:=kD.sl az
 obtain ⟨bg,bk,rfl,ce⟩:=kD.sl bi
 have Hy:=yD hy
 obtain ⟨a3,bm,cf,b7,b9,co,rfl,aj,ai,an,aq,X,a2,ba,bc,b4⟩:=yB hy
 obtain ⟨al,ak,rfl,a9⟩:=kD.sl aj
 obtain ⟨a1,a5,rfl,bl⟩:=kD.sl aq
 obtain ⟨b1,a7,rfl,b5⟩:=kD.sl X
 obtain ⟨bf,bw,rfl,b8⟩:=kD.sl a2
 obtain ⟨b0,b3,rfl,cl⟩:=kD.sl ba
 obtain ⟨bh,bu,rfl,ca⟩:=kD.sl bc
 go_enter func17,ntmps17
 go_upto_region 1 with fail
 generalize J:World.alloc (World.alloc w _) _=N
 obtain ⟨R,L⟩:=xW
 have Z:Qd N w 1 (.int .i64 x.2.1.1):=tT
 obtain ⟨af,V,ay,bj,bp,bo,D,ae,ag,a8,a4,be,b2,bz⟩:=xQ
 clear J
 have FX:=yD (λ(W:Ap) (hW:Qb N W)=>cLs16 hW L Z af V ay bj bp bo D ae ag a8 a4 be b2 bz)
 refine ky (λW=>Qb N W) [Tt,Tt,Tt,Tt,Ff,Tt,Tt,Tt,Tt,Tt,Ff,Tt,Tt,Tt,Tt,Tt,Tt,Ff,Tt,Tt,Tt,Tt,Tt,Tt,Ff,Tt,Tt,Tt,Tt,Tt,Tt,Ff,Tt,Tt,Tt,Tt,Tt,Tt,Ff,Tt,Tt,Tt,Tt,Tt,Tt,Tt,Tt,Tt] bR ?_
 intro wS E
 iterate 4
  all_goals refine kX ?_
 all_goals first | refine wkB (kEo (kD.raw.below I (tQ R E)) (kD.raw.below aj (tQ R E))) (λwS1 E=>?_) | refine kX ?_
 all_goals (refine jd λb H=>?_;cases b <;> try simp only [jc] at H)
 iterate 4
  all_goals refine kX ?_
 all_goals first | refine wkB (kSu (kD.raw.below o (tQ R E)) (kD.raw.below ai (tQ R E))) (λwS1 E=>?_) | refine kX ?_
 all_goals refine kX ?_
 all_goals (refine jd λb ab=>?_;cases b <;> try simp only [jc] at ab)
 iterate 4
  all_goals refine kX ?_
 all_goals first | refine wkB (kSs (kD.raw.below am (tQ R E)) (kD.raw.below X (tQ R E))) (λwS1 E=>?_) | refine kX ?_
 all_goals refine kX ?_
 all_goals (refine jd λb aa=>?_;cases b <;> try simp only [jc] at aa)
 iterate 4
  all_goals refine kX ?_
 all_goals first | refine wkB (kVv (kD.raw.below aw (tQ R E)) (kD.raw.below a2 (tQ R E))) (λwS1 E=>?_) | refine kX ?_
 all_goals refine kX ?_
 all_goals (refine jd λb G=>?_;cases b <;> try simp only [jc] at G)
 iterate 4
  all_goals refine kX ?_
 all_goals first | refine wkB (kQe (kD.raw.below az (tQ R E)) (kD.raw.below ba (tQ R E))) (λwS1 E=>?_) | refine kX ?_
 all_goals refine kX ?_
 all_goals (refine jd λb O=>?_;cases b <;> try simp only [jc] at O)
 iterate 4
  all_goals refine kX ?_
 all_goals first | refine wkB (kVx (kD.raw.below bi (tQ R E)) (kD.raw.below bc (tQ R E))) (λwS1 E=>?_) | refine kX ?_
 all_goals refine kX ?_
 all_goals (refine jd λb au=>?_;cases b <;> try simp only [jc] at au)
 iterate 6
  all_goals refine kX ?_
 all_goals (refine jd λb ap=>?_;cases b <;> try simp only [jc] at ap)
 all_goals refine kR ?_
 all_goals have F:=(tQ R E)
 all_goals first
   | (have U:=yD (show (kJk x y)=false by simp only [kJk,Ad,Aa,Ae,Ag,Ab,Ac,Ak,Al,Ah,Ai,Am,H,ab,aa,G,O,au,ap]);go_wp2;go_ret;exact ⟨kK U.out.symm,F⟩)
   | (have U:=yD (show (kJk x y)=true by simp only [kJk,Ad,Aa,Ae,Ag,Ab,Ac,Ak,Al,Ah,Ai,Am,H,ab,aa,G,O,au,ap]);go_wp2;go_ret;exact ⟨kK U.out.symm,F⟩)
def kBj {w:Ap} {cx:Ay Aq} {x:jq} (hx:je.raw w cx x) {cy:Ay Aq} {y:jq} (hy:je.raw w cy y) :
    Aw prog 17 #[.agg cx.toArray,.agg cy.toArray] w (bQ w (.bool (decide (x=y)))):=by
 have h:=kVw hx hy
 rw [vNode_eq] at h
 exact h
end Go.Proofs.YtjhfdpopkkmigaaGreat

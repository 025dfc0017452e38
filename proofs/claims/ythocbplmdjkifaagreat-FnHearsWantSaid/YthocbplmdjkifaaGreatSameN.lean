/-
  Data, stores, nodes, wants, what goes out: compared by the laws.
-/
import Derived.Test.YthocbplmdjkifaaGreatEqNodes
set_option linter.unusedVariables false
set_option linter.defProp false
set_option linter.unusedSimpArgs false
set_option linter.unnecessarySimpa false
set_option maxRecDepth 100000
set_option maxHeartbeats 4000000
open Bool renaming true->Tt,false->Ff
open Bool renaming not_false->Aa,and_false->Ab,false_and->Ac,not_true->Ad,and_true->Ae,true_and->Ag,or_false->Ah,false_or->Ai,or_true->Aj,true_or->Ak,not_not->Al
open Go renaming World->Am,Value->Ap,Calls->Au
open Int renaming ofNat_lt->Aq,natCast_nonneg->Ar
open _root_ renaming List->Av
open Go.RowKit renaming intOf->Aw
namespace Go.Proofs.YthocbplmdjkifaaGreat
open Go.RowKit _root_.Go.Proofs.Tryz
def kXm {w:Am} {va O:Ap} {a b:Av ByteArray} (V:(kD.slice 9 kD.str).raw w [va] a) (ag:(kD.slice 9 kD.str).raw w [O] b) :
    Au prog 79 #[va,O] w (bQ w (.bool (eqN a b))):=by
 obtain ⟨aa,al,rfl,la,ab,ar,rfl,lb⟩:=kD.sx V (kD.sl ag)
 go_enter func79,ntmps79
 by_cases hl:a.length=b.length
 case neg =>
  exact o6
 obtain ⟨hz,HL⟩:=uX
 clear hl
 go_wp2
 go_loopw [5] (λi wr=>∃ k:Nat,k<=a.length/\i=.int .i64 k/\Hid (a.take k=b.take k)/\Qb w wr) (λi _=>a.length - (Aw i).toNat)
 case atStart=>exact ⟨0,Nat.zero_le _,rfl,yD rfl,bR⟩
 exact o7
def zz {w:Am} {ca:Av Ap} {a:ko} (ha:kR.raw w ca a) {cb:Av Ap} {b:ko} (hb:kR.raw w cb b) :
    Au prog 23 #[.agg ca.toArray,.agg cb.toArray] w (bQ w (.bool (eqN a b))):=by
 obtain ⟨av,rfl,V⟩:=kw ha
 obtain ⟨bv,rfl,ag⟩:=kw hb
 obtain ⟨aa,al,rfl,la,ab,ar,rfl,lb⟩:=kD.sx V (kD.sl ag)
 go_enter func23,ntmps23
 go_wp2_with fail
 refine (kXm (V.below bI) (ag.below bI)).mono ?_
 rintro e w1 ⟨rfl,N⟩
 have EF:Qb w w1:=Below.trans bI (N.mono bE6)
 clear N
 go_wp2
 go_ret
 exact ⟨rfl,EF⟩
def kVb {w:Am} {va O:Ap} {a b:(Av jI)} (V:(kD.slice 176 jA).raw w [va] a) (ag:(kD.slice 176 jA).raw w [O] b) :
    Au prog 128 #[va,O] w (bQ w (.bool (decide (a=b)))):=by
 obtain ⟨aa,al,rfl,la,ab,ar,rfl,lb⟩:=kD.sx V (kD.sl ag)
 go_enter func128,ntmps128
 by_cases hl:a.length=b.length
 case neg =>
  exact iQ
 obtain ⟨hz,HL⟩:=uX
 clear hl
 go_wp2
 go_loopw [5] (λi wr=>∃ k:Nat,k<=a.length/\i=.int .i64 k/\Hid (a.take k=b.take k)/\Qb w wr) (λi _=>a.length - (Aw i).toNat)
 case atStart=>exact ⟨0,Nat.zero_le _,rfl,yD rfl,bR⟩
 obtain ⟨k,hk,rfl,Y,o⟩:=hrel
 by_cases hlt:k < a.length
 · have ai:k < b.length:=wZ;obtain ⟨pb,po,rfl,bg,bl,bm,pr,ax,a3,bc⟩:=kD.zL (V.below o) (i:=k) bF2 rfl;obtain ⟨qb,qo,rfl,ac,ae,af,qr,ap,aq,au⟩:=kD.zL (ag.below o) (i:=k) bF2 rfl;obtain ⟨hne,H⟩:=vN;generalize a[k]=x at *;generalize b[k]=y at *;obtain ⟨HD,HX⟩:=uV;have I:=yD (kYu x y);clear hne H;obtain ⟨x0,x1,x2⟩:=x;obtain ⟨y0,y1,y2⟩:=y;obtain ⟨rfl,rfl,a2,az,a9,ay⟩:=yI pr;obtain ⟨a8,bf,rfl,bo⟩:=kD.sl az;obtain ⟨rfl,rfl,ah,aj,ak,aw⟩:=yI qr;obtain ⟨ad,a4,rfl,a6⟩:=kD.sl aj;go_wp2_with fail;have FX:=yD (λ(W:Am) (hW:Qb wr W)=>kJf hW ax a3 bc ap aq au);refine kK (λW=>Qb wr W) [Tt,Tt,Tt,Tt,Tt,Tt,Tt,Tt,Tt,Tt,Tt,Tt,Tt,Tt,Tt,Tt,Tt,Tt,Tt,Tt,Tt,Tt,Tt,Tt,Tt,Tt,Tt,Tt,Tt,Tt,Tt,Tt,Tt,Tt,Tt,Ff,Tt,Tt] bE5 bE5 qW (bR.drew) ?_;intro wS E;all_goals ((iterate 11 refine kS ?_);refine jT λb an=>?_;cases b <;> try simp only [jS] at an)
   all_goals ((iterate 12 refine kS ?_);refine jT λb J=>?_;cases b <;> try simp only [jS] at J)
   all_goals ((iterate 10 refine kS ?_);(first | refine zi (zz (kD.raw.below a2 E) (kD.raw.below ah E)) (λwS1 E=>?_) | refine kS ?_);refine kS ?_;refine jT λb F=>?_;cases b <;> try simp only [jS] at F)
   all_goals (refine kM ?_;have D:=(tQ o E))
   all_goals first
     | (have X:=I.out.symm.trans (show _=false by simp only [kPc,Ad,Aa,Ae,Ag,Ab,Ac,Aj,Ak,Ah,Ai,Al,an,J,F]);have L:=yD (HD.out X);clear X I HD HX;go_wp2;go_ret;exact ⟨kJ L.out.symm,D⟩)
     | (have X:=I.out.symm.trans (show _=true by simp only [kPc,Ad,Aa,Ae,Ag,Ab,Ac,Aj,Ak,Ah,Ai,Al,an,J,F]);have L:=yD (HX.out X);clear X I HD HX;refine Qg ?_;exact ⟨k + 1,by omega,by go_num,L,D⟩)
 exact iV
def jAu {w:Am} {va O:Ap} {a b:(Av kW)} (V:(kD.slice 179 kN).raw w [va] a) (ag:(kD.slice 179 kN).raw w [O] b) :
    Au prog 129 #[va,O] w (bQ w (.bool (decide (a=b)))):=by
 obtain ⟨aa,al,rfl,la,ab,ar,rfl,lb⟩:=kD.sx V (kD.sl ag)
 go_enter func129,ntmps129
 by_cases hl:a.length=b.length
 case neg =>
  exact iQ
 obtain ⟨hz,HL⟩:=uX
 clear hl
 go_wp2
 go_loopw [5] (λi wr=>∃ k:Nat,k<=a.length/\i=.int .i64 k/\Hid (a.take k=b.take k)/\Qb w wr) (λi _=>a.length - (Aw i).toNat)
 case atStart=>exact ⟨0,Nat.zero_le _,rfl,yD rfl,bR⟩
 obtain ⟨k,hk,rfl,Y,o⟩:=hrel
 by_cases hlt:k < a.length
 · have ai:k < b.length:=wZ;obtain ⟨pb,po,rfl,bg,bl,bm,pr,ax,a3,bc⟩:=kD.zL (V.below o) (i:=k) bF2 rfl;obtain ⟨qb,qo,rfl,ac,ae,af,qr,ap,aq,au⟩:=kD.zL (ag.below o) (i:=k) bF2 rfl;obtain ⟨hne,H⟩:=vN;generalize a[k]=x at *;generalize b[k]=y at *;obtain ⟨HD,HX⟩:=uV;have I:=yD (jDb x y);clear hne H;obtain ⟨x0,x1,x2⟩:=x;obtain ⟨y0,y1,y2⟩:=y;obtain ⟨rfl,rfl,a2,az,a9,ay⟩:=yG pr;obtain ⟨a8,bf,rfl,bo⟩:=kD.sl az;obtain ⟨rfl,rfl,ah,aj,ak,aw⟩:=yG qr;obtain ⟨ad,a4,rfl,a6⟩:=kD.sl aj;go_wp2_with fail;have FX:=yD (λ(W:Am) (hW:Qb wr W)=>kJf hW ax a3 bc ap aq au);refine kK (λW=>Qb wr W) [Tt,Tt,Tt,Tt,Tt,Tt,Tt,Tt,Tt,Tt,Tt,Tt,Tt,Tt,Tt,Tt,Tt,Tt,Tt,Tt,Tt,Tt,Tt,Tt,Tt,Tt,Tt,Tt,Tt,Tt,Tt,Tt,Tt,Tt,Tt,Ff,Tt,Tt] bE5 bE5 qW (bR.drew) ?_;intro wS E;all_goals ((iterate 11 refine kS ?_);refine jT λb an=>?_;cases b <;> try simp only [jS] at an)
   all_goals ((iterate 12 refine kS ?_);refine jT λb J=>?_;cases b <;> try simp only [jS] at J)
   all_goals ((iterate 10 refine kS ?_);(first | refine zi (zz (kD.raw.below a2 E) (kD.raw.below ah E)) (λwS1 E=>?_) | refine kS ?_);refine kS ?_;refine jT λb F=>?_;cases b <;> try simp only [jS] at F)
   all_goals (refine kM ?_;have D:=(tQ o E))
   all_goals first
     | (have X:=I.out.symm.trans (show _=false by simp only [kUl,Ad,Aa,Ae,Ag,Ab,Ac,Aj,Ak,Ah,Ai,Al,an,J,F]);have L:=yD (HD.out X);clear X I HD HX;go_wp2;go_ret;exact ⟨kJ L.out.symm,D⟩)
     | (have X:=I.out.symm.trans (show _=true by simp only [kUl,Ad,Aa,Ae,Ag,Ab,Ac,Aj,Ak,Ah,Ai,Al,an,J,F]);have L:=yD (HX.out X);clear X I HD HX;refine Qg ?_;exact ⟨k + 1,by omega,by go_num,L,D⟩)
 exact iV
def kXn {w:Am} {va O:Ap} {a b:Av kF} (V:(kD.slice 107 kH).raw w [va] a) (ag:(kD.slice 107 kH).raw w [O] b) :
    Au prog 126 #[va,O] w (bQ w (.bool (decide (a=b)))):=by
 obtain ⟨aa,al,rfl,la,ab,ar,rfl,lb⟩:=kD.sx V (kD.sl ag)
 go_enter func126,ntmps126
 by_cases hl:a.length=b.length
 case neg =>
  exact iQ
 obtain ⟨hz,HL⟩:=uX
 clear hl
 go_wp2
 go_loopw [5] (λi wr=>∃ k:Nat,k<=a.length/\i=.int .i64 k/\Hid (a.take k=b.take k)/\Qb w wr) (λi _=>a.length - (Aw i).toNat)
 case atStart=>exact ⟨0,Nat.zero_le _,rfl,yD rfl,bR⟩
 obtain ⟨k,hk,rfl,Y,o⟩:=hrel
 by_cases hlt:k < a.length
 · have ai:k < b.length:=wZ;obtain ⟨pb,po,rfl,bg,bl,bm,pr,ax,a3,bc⟩:=kD.zL (V.below o) (i:=k) bF2 rfl;obtain ⟨qb,qo,rfl,ac,ae,af,qr,ap,aq,au⟩:=kD.zL (ag.below o) (i:=k) bF2 rfl;obtain ⟨hne,H⟩:=vN;have be:=Aq.2 hlt;have b8:=Aq.2 ai;have b9:=Ar k;generalize a[k]=x at *;generalize b[k]=y at *;obtain ⟨HD,HE,HX⟩:=AR;clear hne H;obtain ⟨rfl,a2,az,a9,ay⟩:=jP pr;obtain ⟨a8,bf,rfl,bo,cl,cz,rfl,br⟩:=kD.sx az (kD.sl a9);obtain ⟨rfl,ah,aj,ak,aw⟩:=jP qr;obtain ⟨ad,a4,rfl,a6,am,bk,rfl,bq⟩:=kD.sx aj (kD.sl ak);go_upto_region 6 with fail;have FX:=yD (λ(W:Am) (hW:Qb wr W)=>kJf hW ax a3 bc ap aq au);refine kK (λW=>Qb wr W) [Tt,Tt,Tt,Tt,Tt,Tt,Tt,Tt,Tt,Tt,Tt,Tt,Tt,Tt,Tt,Tt,Tt,Tt,Tt,Tt,Tt,Tt,Ff,Tt,Tt,Tt,Tt,Tt,Tt,Tt,Tt,Tt,Tt,Tt,Tt,Tt,Tt,Tt,Tt,Tt] bE5 bE5 qW (bR.drew) ?_;intro wS E;all_goals ((iterate 11 refine kS ?_);refine jT λb an=>?_;cases b <;> try simp only [jS] at an)
   all_goals ((iterate 10 refine kS ?_);(first | refine zi (zz (kD.raw.below a2 E) (kD.raw.below ah E)) (λwS1 E=>?_) | refine kS ?_);refine kS ?_;refine kS ?_;refine jT λb R=>?_;cases b <;> try simp only [jS] at R)
   all_goals ((iterate 13 refine kS ?_);refine jT λb F=>?_;cases b <;> try simp only [jS] at F)
   all_goals (refine kM ?_;have D:=(tQ o E))
   all_goals first
     | (have L:=yD (HD.out (show kDr x y=false by simp only [kDr,Ad,Aa,Ae,Ag,Ab,Ac,Aj,Ak,Ah,Ai,Al,an,R,F]));clear HD HE HX;go_wp2;go_ret;exact ⟨kJ L.out.symm,D⟩)
     | have L:=yD (HX.out (show kDr x y=true by simp only [kDr,Ad,Aa,Ae,Ag,Ab,Ac,Aj,Ak,Ah,Ai,Al,an,R,F]))
   all_goals try clear HD HX
   have b3:=a3;have b2:=aq;have pn:=a9;have qn:=ak;have N:=yD L.out.1;clear an R F;have b1:=yD L.out.2;clear L;generalize x.2.1=P at *;generalize y.2.1=Q at *;clear Y;go_wp2;go_loopw [6] (λi wq=>∃ j:Nat,j<=P.length/\i=.int .i64 j/\Hid (P.take j=Q.take j)/\Qb wr wq) (λi _=>P.length - (Aw i).toNat);case atStart=>exact ⟨0,Nat.zero_le _,rfl,yD rfl,E⟩
   obtain ⟨j,I,rfl,HM,hq⟩:=hrel;have B3:=cL hq b3;have D3:=cL hq b2;by_cases av:j < P.length
   · have bb:j < Q.length:=by have:=N.out;omega
     obtain ⟨nb,no,rfl,bn,cm,co,nr,J,bj,bw⟩:=kD.zL (pn.below hq) av rfl;obtain ⟨mb,mo,rfl,b6,b5,b4,mr,bt,bp,b0⟩:=kD.zL (qn.below hq) bb rfl;obtain ⟨bu,_⟩:=kAa nr;obtain ⟨bv,_⟩:=kAa mr;simp only [List.cons.injEq,and_true] at bu bv;obtain ⟨rfl,rfl,rfl⟩:=bu;obtain ⟨rfl,rfl,rfl⟩:=bv;clear nr mr;have c9:=Aq.2 av;have b7:=Aq.2 bb;have bi:=Ar j;have hne:=λq=>yS av bb q;have H:=λq=>jd HM.out av bb q;generalize P[j]=u at *;generalize Q[j]=v at *;have a7:Hid (kPt u v=false->decide (a=b)=false):=yD mU;have X:Hid (kPt u v=true->P.take (j + 1)=Q.take (j + 1)):=yD qR;clear hne H;obtain ⟨u0,u1,u2⟩:=u;obtain ⟨v0,v1,v2⟩:=v;have a5:(u0=v0/\u1=v1/\u2=v2)\/(u0≠v0)\/(u0=v0/\u1≠v1)\/(u0=v0/\u1=v1/\u2≠v2):=bF2;rcases a5 with ⟨rfl,rfl,rfl⟩ | e|⟨rfl,e⟩|⟨rfl,rfl,e⟩;all_goals go_upto_region 11 with fail
     all_goals refine kK (λW=>Qb wr W) [Tt,Tt,Tt,Tt,Tt,Tt,Tt,Tt,Tt,Tt,Tt,Tt,Tt,Tt,Tt,Tt,Tt] bE5 bE5 qW (bR.drew) ?_
     all_goals intro wS E
     all_goals ((iterate 4 refine kS ?_);(iterate 2 (first|(refine kI rfl E ?_)|(refine jC (v:=?_) rfl (λW hW=>?_) ?_;rotate_left;(· have bx:=cL hW B3;have bz:=cL hW D3;have Z:=cL hW J;have U:=cL hW bj;have bh:=cL hW bw;have a1:=cL hW bt;have ba:=cL hW bp;have bd:=cL hW b0;clear hW;go_simp;try with_reducible rfl)));refine jH ?_;refine kS ?_;refine kS ?_);(iterate 2 refine kS ?_;refine kS ?_;(first|(refine kI rfl E ?_)|(refine jC (v:=?_) rfl (λW hW=>?_) ?_;rotate_left;(· have bx:=cL hW B3;have bz:=cL hW D3;have Z:=cL hW J;have U:=cL hW bj;have bh:=cL hW bw;have a1:=cL hW bt;have ba:=cL hW bp;have bd:=cL hW b0;clear hW;go_simp;try with_reducible rfl)));refine jH ?_);refine jT λb ao=>?_;cases b <;> try simp only [jS] at ao)
     all_goals (refine kM ?_;have EQ:=(tQ hq E))
     all_goals first
       | (have L:=yD (a7.out pG);clear a7 X;have D:=(tQ o EQ);go_wp2;go_ret;exact ⟨kJ L.out.symm,D⟩)
       | (have L:=yD (X.out (by first|(simp [kPt];done)));clear a7 X;refine Qg ?_;exact ⟨j + 1,by omega,by go_num,L,EQ⟩)
   exact iU
 exact iV
def lawssame_c {w:Am} {va O:Ap} {a b:Av UInt8} (V:(kD.slice 5 kD.byte).raw w [va] a) (ag:(kD.slice 5 kD.byte).raw w [O] b) :
    Au prog 161 #[va,O] w (bQ w (.bool (decide (a=b)))):=by
 obtain ⟨aa,al,rfl,la,ab,ar,rfl,lb⟩:=kD.sx V (kD.sl ag)
 go_enter func161,ntmps161
 by_cases hl:a.length=b.length
 case neg =>
  exact iQ
 obtain ⟨hz,HL⟩:=uX
 clear hl
 go_wp2
 go_loopw [5] (λi wr=>∃ k:Nat,k<=a.length/\i=.int .i64 k/\Hid (a.take k=b.take k)/\Qb w wr) (λi _=>a.length - (Aw i).toNat)
 case atStart=>exact ⟨0,Nat.zero_le _,rfl,yD rfl,bR⟩
 exact iR
def kXl {w:Am} {cx:Av Ap} {x:jQ} (hx:jF.raw w cx x) {cy:Av Ap} {y:jQ} (hy:jF.raw w cy y) :
    Au prog 72 #[.agg cx.toArray,.agg cy.toArray] w (bQ w (.bool (kGq x y))):=by
 have Hx:=yD hx
 obtain ⟨a4,bl,bd,rfl,Y,N,ae,ag,aj,au,a6⟩:=jf hx
 obtain ⟨a5,a2,rfl,ay,bg,bc,rfl,bk,bj,be,rfl,bi⟩:=kD.sx N (kD.sx ae (kD.sl aj))
 have Hy:=yD hy
 obtain ⟨a8,bf,bu,rfl,aa,ad,ah,ak,al,ao,aw⟩:=jf hy
 obtain ⟨aq,ap,rfl,ba,bo,bp,rfl,bn,a7,a9,rfl,bt⟩:=kD.sx ad (kD.sx ah (kD.sl al))
 go_enter func72,ntmps72
 go_upto_region 1 with fail
 refine kAe ?_
 intro U Z F an _
 obtain ⟨X,o,R,am,av⟩:=yZ F
 obtain ⟨I,ac,af,ar,az⟩:=yZ an
 clear F an
 have FX:=yD (λ(W:Am) (hW:Qb U W)=>cLs10 hW X o R am av I ac af ar az)
 refine kL (λW=>Qb U W) [Tt,Tt,Tt,Tt,Ff,Tt,Tt,Tt,Tt,Tt,Ff,Tt,Tt,Tt,Tt,Tt,Tt,Ff,Tt,Tt,Tt,Tt,Tt,Tt,Tt,Tt,Tt,Tt,Tt,Tt,Tt,Tt,Tt,Tt] bR ?_
 intro wS E
 all_goals ((iterate 4 refine kS ?_);(first | refine zi (zz (kD.raw.below Y (tQ Z E)) (kD.raw.below aa (tQ Z E))) (λwS1 E=>?_) | refine kS ?_);refine jT λb a3=>?_;cases b <;> try simp only [jS] at a3)
 all_goals ((iterate 4 refine kS ?_);(first | refine zi (lawssame_c (kD.raw.below ae (tQ Z E)) (kD.raw.below ah (tQ Z E))) (λwS1 E=>?_) | refine kS ?_);refine kS ?_;refine jT λb ab=>?_;cases b <;> try simp only [jS] at ab)
 all_goals ((iterate 4 refine kS ?_);(first | refine zi (zz (kD.raw.below ag (tQ Z E)) (kD.raw.below ak (tQ Z E))) (λwS1 E=>?_) | refine kS ?_);refine kS ?_;refine jT λb O=>?_;cases b <;> try simp only [jS] at O)
 all_goals ((iterate 6 refine kS ?_);refine jT λb J=>?_;cases b <;> try simp only [jS] at J)
 all_goals ((iterate 6 refine kS ?_);refine jT λb ai=>?_;cases b <;> try simp only [jS] at ai)
 all_goals (refine kM ?_;have D:=(tQ Z E))
 all_goals first
   | (have L:=yD (show (kGq x y)=false by simp only [kGq,Ad,Aa,Ae,Ag,Ab,Ac,Aj,Ak,Ah,Ai,Al,a3,ab,O,J,ai]);go_wp2;go_ret;exact ⟨kJ L.out.symm,D⟩)
   | (have L:=yD (show (kGq x y)=true by simp only [kGq,Ad,Aa,Ae,Ag,Ab,Ac,Aj,Ak,Ah,Ai,Al,a3,ab,O,J,ai]);go_wp2;go_ret;exact ⟨kJ L.out.symm,D⟩)
def kHf {w:Am} {cx:Av Ap} {x:jQ} (hx:jF.raw w cx x) {cy:Av Ap} {y:jQ} (hy:jF.raw w cy y) :
    Au prog 72 #[.agg cx.toArray,.agg cy.toArray] w (bQ w (.bool (decide (x=y)))):=by
 have h:=kXl hx hy
 rw [kZc] at h
 exact h
def kVa {w:Am} {va O:Ap} {a b:(Av jQ)} (V:(kD.slice 60 jF).raw w [va] a) (ag:(kD.slice 60 jF).raw w [O] b) :
    Au prog 124 #[va,O] w (bQ w (.bool (decide (a=b)))):=by
 obtain ⟨aa,al,rfl,la,ab,ar,rfl,lb⟩:=kD.sx V (kD.sl ag)
 go_enter func124,ntmps124
 by_cases hl:a.length=b.length
 case neg =>
  exact iQ
 obtain ⟨hz,HL⟩:=uX
 clear hl
 go_wp2
 go_loopw [5] (λi wr=>∃ k:Nat,k<=a.length/\i=.int .i64 k/\Hid (a.take k=b.take k)/\Qb w wr) (λi _=>a.length - (Aw i).toNat)
 case atStart=>exact ⟨0,Nat.zero_le _,rfl,yD rfl,bR⟩
 obtain ⟨k,hk,rfl,Y,o⟩:=hrel
 by_cases hlt:k < a.length
 · have ai:k < b.length:=wZ;obtain ⟨pb,po,rfl,bg,bl,bm,c1,cm,pr,ax,a3,bc,be,bb⟩:=kD.kTr (V.below o) (i:=k) bF2 rfl;obtain ⟨qb,qo,rfl,ac,ae,af,bt,bu,qr,ap,aq,au,a7,ba⟩:=kD.kTr (ag.below o) (i:=k) bF2 rfl;obtain ⟨hne,H⟩:=vN;generalize a[k]=x at *;generalize b[k]=y at *;obtain ⟨HD,HX⟩:=uV;have I:=yD (vDatS_eq x y);clear hne H;obtain ⟨x0,x1,x2,x3,x4⟩:=x;obtain ⟨y0,y1,y2,y3,y4⟩:=y;obtain ⟨rfl,rfl,a2,az,a9,ay,bh,bn,b5⟩:=kAi pr;obtain ⟨a8,bf,rfl,bo,cl,cz,rfl,br,cf,c2,rfl,b6⟩:=kD.sx az (kD.sx a9 (kD.sl bh));obtain ⟨rfl,rfl,ah,aj,ak,aw,bj,bd,bp⟩:=kAi qr;obtain ⟨ad,a4,rfl,a6,am,bk,rfl,bq,ao,bx,rfl,bw⟩:=kD.sx aj (kD.sx ak (kD.sl bj));go_wp2_with fail;have FX:=yD (λ(W:Am) (hW:Qb wr W)=>cLs10 hW ax a3 bc be bb ap aq au a7 ba);refine kK (λW=>Qb wr W) [Tt,Tt,Tt,Tt,Tt,Tt,Tt,Tt,Ff,Tt] bE5 bE5 qW (bR.drew) ?_;intro wS E;all_goals ((iterate 8 refine kS ?_);(first | refine zi (kHf (kD.raw.below pr E) (kD.raw.below qr E)) (λwS1 E=>?_) | refine kS ?_);refine jT λb a5=>?_;cases b <;> try simp only [jS] at a5)
   all_goals (refine kM ?_;have D:=(tQ o E))
   all_goals first
     | (have X:=I.out.symm.trans (show _=false by simp only [vDatS,Ad,Aa,Ae,Ag,Ab,Ac,Aj,Ak,Ah,Ai,Al,a5]);have L:=yD (HD.out X);clear X I HD HX;go_wp2;go_ret;exact ⟨kJ L.out.symm,D⟩)
     | (have X:=I.out.symm.trans (show _=true by simp only [vDatS,Ad,Aa,Ae,Ag,Ab,Ac,Aj,Ak,Ah,Ai,Al,a5]);have L:=yD (HX.out X);clear X I HD HX;refine Qg ?_;exact ⟨k + 1,by omega,by go_num,L,D⟩)
 exact iV
def jAr {w:Am} {va O:Ap} {a b:(Av jK)} (V:(kD.slice 140 kz).raw w [va] a) (ag:(kD.slice 140 kz).raw w [O] b) :
    Au prog 127 #[va,O] w (bQ w (.bool (decide (a=b)))):=by
 obtain ⟨aa,al,rfl,la,ab,ar,rfl,lb⟩:=kD.sx V (kD.sl ag)
 go_enter func127,ntmps127
 by_cases hl:a.length=b.length
 case neg =>
  exact iQ
 obtain ⟨hz,HL⟩:=uX
 clear hl
 go_wp2
 go_loopw [5] (λi wr=>∃ k:Nat,k<=a.length/\i=.int .i64 k/\Hid (a.take k=b.take k)/\Qb w wr) (λi _=>a.length - (Aw i).toNat)
 case atStart=>exact ⟨0,Nat.zero_le _,rfl,yD rfl,bR⟩
 obtain ⟨k,hk,rfl,Y,o⟩:=hrel
 by_cases hlt:k < a.length
 · have ai:k < b.length:=wZ;obtain ⟨pb,po,rfl,bg,bl,pr,ax,a3⟩:=kD.get2 (V.below o) (i:=k) bF2 rfl;obtain ⟨qb,qo,rfl,ac,ae,qr,ap,aq⟩:=kD.get2 (ag.below o) (i:=k) bF2 rfl;obtain ⟨hne,H⟩:=vN;generalize a[k]=x at *;generalize b[k]=y at *;obtain ⟨HD,HX⟩:=uV;have I:=yD (jCv x y);clear hne H;obtain ⟨x0,x1⟩:=x;obtain ⟨y0,y1⟩:=y;obtain ⟨rfl,a2,az,a9⟩:=zh pr;obtain ⟨a8,bf,rfl,bo⟩:=kD.sl az;obtain ⟨rfl,ah,aj,ak⟩:=zh qr;obtain ⟨ad,a4,rfl,a6⟩:=kD.sl aj;go_wp2_with fail;have FX:=yD (λ(W:Am) (hW:Qb wr W)=>kDk hW ax a3 ap aq);refine kK (λW=>Qb wr W) [Tt,Tt,Tt,Tt,Tt,Tt,Tt,Tt,Tt,Tt,Tt,Tt,Tt,Tt,Tt,Tt,Tt,Tt,Tt,Tt,Tt,Tt,Ff,Tt,Tt] bE5 bE5 qW (bR.drew) ?_;intro wS E;all_goals ((iterate 11 refine kS ?_);refine jT λb an=>?_;cases b <;> try simp only [jS] at an)
   all_goals ((iterate 10 refine kS ?_);(first | refine zi (zz (kD.raw.below a2 E) (kD.raw.below ah E)) (λwS1 E=>?_) | refine kS ?_);refine kS ?_;refine jT λb J=>?_;cases b <;> try simp only [jS] at J)
   all_goals (refine kM ?_;have D:=(tQ o E))
   all_goals first
     | (have X:=I.out.symm.trans (show _=false by simp only [kUk,Ad,Aa,Ae,Ag,Ab,Ac,Aj,Ak,Ah,Ai,Al,an,J]);have L:=yD (HD.out X);clear X I HD HX;go_wp2;go_ret;exact ⟨kJ L.out.symm,D⟩)
     | (have X:=I.out.symm.trans (show _=true by simp only [kUk,Ad,Aa,Ae,Ag,Ab,Ac,Aj,Ak,Ah,Ai,Al,an,J]);have L:=yD (HX.out X);clear X I HD HX;refine Qg ?_;exact ⟨k + 1,by omega,by go_num,L,D⟩)
 exact iV
def kXo {w:Am} {ca cb:Av Ap} {a b:kg} (ha:kP.raw w ca a) (hb:kP.raw w cb b) :
    Au prog 125 #[.agg ca.toArray,.agg cb.toArray] w (bQ w (.bool (vSt a b))):=by
 obtain ⟨av,rfl,R,V⟩:=jN ha
 obtain ⟨bv,rfl,N,ag⟩:=jN hb
 obtain ⟨aa,al,rfl,la,ab,ar,rfl,lb⟩:=kD.sx V (kD.sl ag)
 obtain ⟨a0,a1⟩:=a
 obtain ⟨J,b1⟩:=b
 clear R N ha hb
 go_enter func125,ntmps125
 go_upto_region 1 with fail
 refine kAe ?_
 intro U Z F an _
 obtain ⟨K0,K1⟩:=yN F
 obtain ⟨L0,L1⟩:=yN an
 clear F an
 replace V:=V.below Z
 replace ag:=ag.below Z
 by_cases hc:a0=J
 case neg =>
  exact iW
 have a5:(a0 != J)=false:=bC1
 have HC:=yD hc
 clear hc
 by_cases hl:a1.length=b1.length
 case neg =>
  exact iX
 have hz:((a1.length:Int) != b1.length)=false:=bE6
 have b8:(a1.length != b1.length)=false:=bC0
 have HL:=yD hl
 clear hl
 go_wp2
 go_loopw [5] (λi wr=>∃ k:Nat,k<=a1.length/\i=.int .i64 k/\Hid (a1.take k=b1.take k)/\Qb U wr) (λi _=>a1.length - (Aw i).toNat)
 case atStart=>exact ⟨0,Nat.zero_le _,rfl,yD rfl,bR⟩
 obtain ⟨k,hk,rfl,Y,o⟩:=hrel
 replace K1:=cL o K1
 replace L1:=cL o L1
 by_cases hlt:k < a1.length
 · have ai:k < b1.length:=wZ;have ce:=Aq.2 hlt;have dt:=Aq.2 ai;have b9:=Ar k;obtain ⟨pb,po,rfl,bg,bl,bm,c1,cm,de,pr,ax,a3,bc,be,bb,b4⟩:=kD.kOr (V.below o) (i:=k) bF2 rfl;obtain ⟨qb,qo,rfl,ac,ae,af,bt,bu,b3,qr,ap,aq,au,a7,ba,bi⟩:=kD.kOr (ag.below o) (i:=k) bF2 rfl;obtain ⟨hne,H⟩:=vN;generalize a1[k]=x at *;generalize b1[k]=y at *;obtain ⟨HD,HX,I⟩:=EX;clear hne H;obtain ⟨x0,x1⟩:=x;obtain ⟨y0,y1⟩:=y;obtain ⟨rfl,rfl,rfl,a2,az,a9,ay,bh,bn,b5,b7,c3⟩:=jy pr;obtain ⟨a8,bf,rfl,bo,cl,cz,rfl,br,cf,c2,rfl,b6⟩:=kD.sx a9 (kD.sx ay (kD.sl bn));obtain ⟨rfl,rfl,rfl,ah,aj,ak,aw,bj,bd,bp,bz,b2⟩:=jy qr;obtain ⟨ad,a4,rfl,a6,am,bk,rfl,bq,ao,bx,rfl,bw⟩:=kD.sx ak (kD.sx aw (kD.sl bd));go_upto_region 6 with fail;have FX:=yD (λ(W:Am) (hW:Qb wr W)=>cLs14 hW K1 L1 ax a3 bc be bb b4 ap aq au a7 ba bi);refine kK (λW=>Qb wr W) [Tt,Tt,Tt,Tt,Tt,Tt,Tt,Tt,Tt,Tt,Tt,Tt,Tt,Tt,Tt,Tt,Tt,Tt,Tt,Tt,Tt,Tt,Tt,Tt,Tt,Tt,Ff,Tt,Tt] bE5 bE5 qW (bR.drew) ?_;intro wS E;all_goals ((iterate 13 refine kS ?_);refine jT λb O=>?_;cases b <;> try simp only [jS] at O)
   all_goals ((iterate 12 refine kS ?_);(first | refine zi (kHf (kD.raw.below a2 E) (kD.raw.below ah E)) (λwS1 E=>?_) | refine kS ?_);refine kS ?_;refine jT λb cd=>?_;cases b <;> try simp only [jS] at cd)
   all_goals (refine kM ?_;have D:=(tQ o E))
   all_goals first
     | (have X:=I.out.symm.trans (show _=false by simp only [vCeS,Ad,Aa,Ae,Ag,Ab,Ac,Aj,Ak,Ah,Ai,Al,O,cd]);have L:=yD (HD.out X);clear X I HD HX;go_wp2;go_ret;exact ⟨kJ L.out.symm,(tQ Z D)⟩)
     | (have X:=I.out.symm.trans (show _=true by simp only [vCeS,Ad,Aa,Ae,Ag,Ab,Ac,Aj,Ak,Ah,Ai,Al,O,cd]);have L:=yD (HX.out X);clear X I HD HX;refine Qg ?_;exact ⟨k + 1,by omega,by go_num,L,D⟩)
 exact iY
def kXp {w:Am} {cx:Av Ap} {x:kg} (hx:kP.raw w cx x) {cy:Av Ap} {y:kg} (hy:kP.raw w cy y) :
    Au prog 125 #[.agg cx.toArray,.agg cy.toArray] w (bQ w (.bool (decide (x=y)))):=by
 have h:=kXo hx hy
 rw [vSt_eq] at h
 exact h
def jAs {w:Am} {cx:Av Ap} {x:jX} (hx:jo.raw w cx x) {cy:Av Ap} {y:jX} (hy:jo.raw w cy y) :
    Au prog 49 #[.agg cx.toArray,.agg cy.toArray] w (bQ w (.bool (kGp x y))):=by
 have Hx:=yD hx
 obtain ⟨a4,bd,cz,c2,cl,cc,rfl,Y,N,ae,ag,aj,au,a6,a1,b0⟩:=yO hx
 obtain ⟨a5,a2,rfl,ay,bj,be,rfl,bi,cv,cf,rfl,ch,ck,cg,rfl,cw,co,cm,rfl,c1,b9,cd,rfl,ce⟩:=kD.sx Y (kD.sx ag (kD.sx aj (kD.sx au (kD.sx a6 (kD.sl a1)))))
 have Hy:=yD hy
 obtain ⟨a8,bu,b7,b4,b6,b2,rfl,aa,ad,ah,ak,al,ao,aw,ax,bh⟩:=yO hy
 obtain ⟨aq,ap,rfl,ba,a7,a9,rfl,bt,bp,bk,rfl,b3,bl,bn,rfl,b5,bo,bq,rfl,b8,bc,bf,rfl,b1⟩:=kD.sx aa (kD.sx ak (kD.sx al (kD.sx ao (kD.sx aw (kD.sl ax)))))
 go_enter func49,ntmps49
 go_upto_region 1 with fail
 refine kAe ?_
 intro U Z F an _
 obtain ⟨X,o,R,am,av,bb,bw,bv⟩:=yu F
 obtain ⟨I,ac,af,ar,az,bm,bz,bx⟩:=yu an
 clear F an
 have FX:=yD (λ(W:Am) (hW:Qb U W)=>cLs16 hW X o R am av bb bw bv I ac af ar az bm bz bx)
 refine kL (λW=>Qb U W) [Tt,Tt,Tt,Tt,Ff,Tt,Tt,Tt,Tt,Tt,Ff,Tt,Tt,Tt,Tt,Tt,Tt,Ff,Tt,Tt,Tt,Tt,Tt,Tt,Ff,Tt,Tt,Tt,Tt,Tt,Tt,Ff,Tt,Tt,Tt,Tt,Tt,Tt,Ff,Tt,Tt,Tt,Tt,Tt,Tt,Tt,Tt,Tt] bR ?_
 intro wS E
 all_goals ((iterate 4 refine kS ?_);(first | refine zi (kVa (kD.raw.below Y (tQ Z E)) (kD.raw.below aa (tQ Z E))) (λwS1 E=>?_) | refine kS ?_);refine jT λb a3=>?_;cases b <;> try simp only [jS] at a3)
 all_goals ((iterate 4 refine kS ?_);(first | refine zi (kXp (kD.raw.below N (tQ Z E)) (kD.raw.below ad (tQ Z E))) (λwS1 E=>?_) | refine kS ?_);refine kS ?_;refine jT λb ab=>?_;cases b <;> try simp only [jS] at ab)
 all_goals ((iterate 4 refine kS ?_);(first | refine zi (kXn (kD.raw.below aj (tQ Z E)) (kD.raw.below al (tQ Z E))) (λwS1 E=>?_) | refine kS ?_);refine kS ?_;refine jT λb O=>?_;cases b <;> try simp only [jS] at O)
 all_goals ((iterate 4 refine kS ?_);(first | refine zi (jAr (kD.raw.below au (tQ Z E)) (kD.raw.below ao (tQ Z E))) (λwS1 E=>?_) | refine kS ?_);refine kS ?_;refine jT λb J=>?_;cases b <;> try simp only [jS] at J)
 all_goals ((iterate 4 refine kS ?_);(first | refine zi (kVb (kD.raw.below a6 (tQ Z E)) (kD.raw.below aw (tQ Z E))) (λwS1 E=>?_) | refine kS ?_);refine kS ?_;refine jT λb ai=>?_;cases b <;> try simp only [jS] at ai)
 all_goals ((iterate 4 refine kS ?_);(first | refine zi (jAu (kD.raw.below a1 (tQ Z E)) (kD.raw.below ax (tQ Z E))) (λwS1 E=>?_) | refine kS ?_);refine kS ?_;refine jT λb br=>?_;cases b <;> try simp only [jS] at br)
 all_goals ((iterate 6 refine kS ?_);refine jT λb bg=>?_;cases b <;> try simp only [jS] at bg)
 all_goals (refine kM ?_;have D:=(tQ Z E))
 all_goals first
   | (have L:=yD (show (kGp x y)=false by simp only [kGp,Ad,Aa,Ae,Ag,Ab,Ac,Aj,Ak,Ah,Ai,Al,a3,ab,O,J,ai,br,bg]);go_wp2;go_ret;exact ⟨kJ L.out.symm,D⟩)
   | (have L:=yD (show (kGp x y)=true by simp only [kGp,Ad,Aa,Ae,Ag,Ab,Ac,Aj,Ak,Ah,Ai,Al,a3,ab,O,J,ai,br,bg]);go_wp2;go_ret;exact ⟨kJ L.out.symm,D⟩)
def jAt {w:Am} {cx:Av Ap} {x:jX} (hx:jo.raw w cx x) {cy:Av Ap} {y:jX} (hy:jo.raw w cy y) :
    Au prog 49 #[.agg cx.toArray,.agg cy.toArray] w (bQ w (.bool (decide (x=y)))):=by
 have h:=jAs hx hy
 rw [kYy] at h
 exact h
end Go.Proofs.YthocbplmdjkifaaGreat

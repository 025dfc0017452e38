/-
  A node over time: impl.
-/
import Derived.Test.YtonmjkmaadgceabGreatSamePend
set_option linter.unusedVariables false
set_option linter.defProp false
set_option linter.unusedSimpArgs false
set_option linter.unnecessarySimpa false
set_option maxRecDepth 100000
set_option maxHeartbeats 8000000
open Bool renaming true->Tt,false->Ff
open Bool renaming not_false->Aa,and_false->Ab,false_and->Ac,not_true->Ad,and_true->Ae,true_and->Ag,or_false->Ah,false_or->Ai,or_true->Ak,true_or->Al,not_not->Am
open List.cons renaming injEq->Aj
open Go renaming World->Ap,Value->Ar,Calls->Aw
open Int renaming natCast_nonneg->Aq,ofNat_lt->Au
open _root_ renaming List->Av
open Go.RowKit renaming intOf->Ay
namespace Go.Proofs.YtonmjkmaadgceabGreat
open Go.RowKit _root_.Go.Proofs.Tryz
def lawssame_c {w:Ap} {va D:Ar} {a b:Av UInt8} (ad:(kD.slice 5 kD.byte).raw w [va] a) (ag:(kD.slice 5 kD.byte).raw w [D] b) :
    Aw prog 90 #[va,D] w (bQ w (.bool (decide (a=b)))):=by
 obtain ⟨aa,al,rfl,la⟩:=kD.sl ad
 obtain ⟨ab,X,rfl,lb⟩:=kD.sl ag
 go_enter func90,ntmps90
 by_cases hl:a.length=b.length
 case neg =>
  exact lW
 obtain ⟨hz,bj⟩:=y8
 have HL:=yD hl;clear hl
 go_wp2
 go_loopw [5] (λi wr=>∃ k:Nat,k<=a.length/\i=.int .i64 k/\Hid (a.take k=b.take k)/\Qb w wr) (λi _=>a.length - (Ay i).toNat)
 case atStart=>exact ⟨0,Nat.zero_le _,rfl,yD rfl,bR⟩
 obtain ⟨k,hk,rfl,HN,o⟩:=hrel
 by_cases hlt:k < a.length
 · have az:k < b.length:=vN;obtain ⟨ba,H,rfl,c0,hr,A0⟩:=kD.kCv (ad.below o) hlt rfl;obtain ⟨bb,J,rfl,Y,G,B0⟩:=kD.kCv (ag.below o) az rfl;have he:=kD.kVz hr;obtain rfl:c0=_:=by simpa using he
   have I:=kD.kVz G;obtain rfl:Y=_:=by simpa using I
   clear he I hr G;obtain ⟨hne,bx⟩:=CL;generalize a[k]=x at *;generalize b[k]=y at *;have HD:=yD hne;have HX:=yD bx;clear hne bx;go_wp2_with fail;have FX:=yD (λ(W:Ap) (hW:Qb wr W)=>kIk hW A0 B0);refine kM (λW=>Qb wr W) [Tt,Tt,Tt,Tt,Tt,Tt,Tt,Tt,Tt] bC3 bC3 pK (bR.drew) ?_;intro wS E;iterate 9
    all_goals refine ku ?_
   all_goals refine kS ?_
   have F:=(tQ o E);cases hz:((x.toNat:Int)==(y.toNat:Int))
   · have L:=yD (show decide (a=b)=false by
       simp at hz;simp;exact HD.out (λq=>hz (by rw [q])))
     clear HD HX;go_wp2;go_ret;exact ⟨kX L.out.symm,F⟩
   have L:=yD (HX.out (u8_inj bA4));clear HD HX;go_wp2;go_roundw;case rel=>exact ⟨k + 1,by omega,by go_num,L,F⟩
   simp [Ay];omega
 exact lX
def kSi {w:Ap} {cx:Av Ar} {x:jN} (hx:jJ.raw w cx x) {cy:Av Ar} {y:jN} (hy:jJ.raw w cy y) :
    Aw prog 41 #[.agg cx.toArray,.agg cy.toArray] w (bQ w (.bool (kTv x y))):=by
 have Hx:=yD hx
 obtain ⟨ar,a7,a2,rfl,ab,Z,ac,ae,V,al,ap⟩:=jb hx
 obtain ⟨aa,R,rfl,an⟩:=kD.sl Z
 obtain ⟨aj,ah,rfl,a5⟩:=kD.sl ac
 obtain ⟨ag,X,rfl,a3⟩:=kD.sl V
 have Hy:=yD hy
 obtain ⟨a9,bh,bg,rfl,au,aw,U,av,a1,ay,a8⟩:=jb hy
 obtain ⟨am,ak,rfl,be⟩:=kD.sl aw
 obtain ⟨bb,bc,rfl,bi⟩:=kD.sl U
 obtain ⟨ax,az,rfl,bf⟩:=kD.sl a1
 go_enter func41,ntmps41
 go_upto_region 1 with fail
 generalize D:World.alloc (World.alloc w _) _=N
 obtain ⟨EB,J,I,o,Y,ai⟩:=DL
 have G:Qc N (w.heap.size + 1) 0 (.slice am (y.1).length ak):=tK
 have ad:Qc N (w.heap.size + 1) 1 (.slice bb (y.2.1).length bc):=tK
 have af:Qc N (w.heap.size + 1) 2 (.slice ax (y.2.2.1).length az):=tK
 have bd:Qc N (w.heap.size + 1) 3 (.int .i64 y.2.2.2.1):=tK
 have ba:Qc N (w.heap.size + 1) 4 (.int .i64 y.2.2.2.2):=tK
 clear D
 have FX:=yD (λ(W:Ap) (hW:Qb N W)=>cLs10 hW J I o Y ai G ad af bd ba)
 refine jE (λW=>Qb N W) [Tt,Tt,Tt,Tt,Ff,Tt,Tt,Tt,Tt,Tt,Ff,Tt,Tt,Tt,Tt,Tt,Tt,Ff,Tt,Tt,Tt,Tt,Tt,Tt,Tt,Tt,Tt,Tt,Tt,Tt,Tt,Tt,Tt,Tt] bR ?_
 intro wS E
 iterate 4
  all_goals refine ku ?_
 all_goals first | refine wkB (kBk (kD.raw.below ab (tQ EB E)) (kD.raw.below au (tQ EB E))) (λwS1 E=>?_) | refine ku ?_
 all_goals (refine jy λb ao=>?_;cases b <;> try simp only [jw] at ao)
 iterate 4
  all_goals refine ku ?_
 all_goals first | refine wkB (lawssame_c (kD.raw.below ac (tQ EB E)) (kD.raw.below U (tQ EB E))) (λwS1 E=>?_) | refine ku ?_
 all_goals refine ku ?_
 all_goals (refine jy λb a6=>?_;cases b <;> try simp only [jw] at a6)
 iterate 4
  all_goals refine ku ?_
 all_goals first | refine wkB (kBk (kD.raw.below ae (tQ EB E)) (kD.raw.below av (tQ EB E))) (λwS1 E=>?_) | refine ku ?_
 all_goals refine ku ?_
 all_goals (refine jy λb aq=>?_;cases b <;> try simp only [jw] at aq)
 iterate 6
  all_goals refine ku ?_
 all_goals (refine jy λb H=>?_;cases b <;> try simp only [jw] at H)
 iterate 6
  all_goals refine ku ?_
 all_goals (refine jy λb O=>?_;cases b <;> try simp only [jw] at O)
 all_goals refine kS ?_
 all_goals have F:=(tQ EB E)
 all_goals first
   | (have L:=yD (show (kTv x y)=false by simp only [kTv,Ad,Aa,Ae,Ag,Ab,Ac,Ak,Al,Ah,Ai,Am,ao,a6,aq,H,O]);go_wp2;go_ret;exact ⟨kX L.out.symm,F⟩)
   | (have L:=yD (show (kTv x y)=true by simp only [kTv,Ad,Aa,Ae,Ag,Ab,Ac,Ak,Al,Ah,Ai,Am,ao,a6,aq,H,O]);go_wp2;go_ret;exact ⟨kX L.out.symm,F⟩)
def kJq {w:Ap} {cx:Av Ar} {x:jN} (hx:jJ.raw w cx x) {cy:Av Ar} {y:jN} (hy:jJ.raw w cy y) :
    Aw prog 41 #[.agg cx.toArray,.agg cy.toArray] w (bQ w (.bool (decide (x=y)))):=by
 have h:=kSi hx hy
 rw [vData_eq] at h
 exact h
def kBi {w:Ap} {va D:Ar} {a b:(Av jN)} (ad:(kD.slice 68 jJ).raw w [va] a) (ag:(kD.slice 68 jJ).raw w [D] b) :
    Aw prog 11 #[va,D] w (bQ w (.bool (decide (a=b)))):=by
 obtain ⟨aa,al,rfl,la⟩:=kD.sl ad
 obtain ⟨ab,X,rfl,lb⟩:=kD.sl ag
 go_enter func11,ntmps11
 by_cases hl:a.length=b.length
 case neg =>
  exact lW
 obtain ⟨hz,bj⟩:=y8
 have HL:=yD hl;clear hl
 go_wp2
 go_loopw [5] (λi wr=>∃ k:Nat,k<=a.length/\i=.int .i64 k/\Hid (a.take k=b.take k)/\Qb w wr) (λi _=>a.length - (Ay i).toNat)
 case atStart=>exact ⟨0,Nat.zero_le _,rfl,yD rfl,bR⟩
 obtain ⟨k,hk,rfl,HN,o⟩:=hrel
 by_cases hlt:k < a.length
 · have az:k < b.length:=vN;obtain ⟨pb,po,rfl,bm,cm,cl,eo,d6,pr,a5,a6,bb,R,O⟩:=kD.get5 (ad.below o) (i:=k) bC9 rfl;obtain ⟨qb,qo,rfl,ae,af,ah,cc,ck,qr,ar,ax,a2,an,a4⟩:=kD.get5 (ag.below o) (i:=k) bC9 rfl;obtain ⟨hne,bx⟩:=CL;generalize a[k]=x at *;generalize b[k]=y at *;obtain ⟨HD,HX⟩:=AX;have H:=yD (vDatS_eq x y);clear hne bx;obtain ⟨x0,x1,x2,x3,x4⟩:=x;obtain ⟨y0,y1,y2,y3,y4⟩:=y;obtain ⟨b8,be,a8,aq,a7,bi,bw,b6,V,Y,ba⟩:=jb pr;simp only [Aj,and_true] at aq;obtain ⟨rfl,rfl,rfl,rfl,rfl⟩:=aq;obtain ⟨bn,bo,rfl,cd⟩:=kD.sl bi;obtain ⟨d5,d8,rfl,bz⟩:=kD.sl bw;obtain ⟨d4,ep,rfl,bf⟩:=kD.sl V;obtain ⟨bg,dc,b2,Z,aj,ap,ao,au,bq,bh,cq⟩:=jb qr;simp only [Aj,and_true] at Z;obtain ⟨rfl,rfl,rfl,rfl,rfl⟩:=Z;obtain ⟨ac,ay,rfl,bd⟩:=kD.sl ap;obtain ⟨ai,bc,rfl,bl⟩:=kD.sl ao;obtain ⟨am,bu,rfl,ce⟩:=kD.sl bq;go_wp2_with fail;have FX:=yD (λ(W:Ap) (hW:Qb wr W)=>cLs10 hW a5 a6 bb R O ar ax a2 an a4);refine kM (λW=>Qb wr W) [Tt,Tt,Tt,Tt,Tt,Tt,Tt,Tt,Ff,Tt] bC3 bC3 pK (bR.drew) ?_;intro wS E;iterate 8
    all_goals refine ku ?_
   all_goals first | refine wkB (kJq (kD.raw.below pr E) (kD.raw.below qr E)) (λwS1 E=>?_) | refine ku ?_
   all_goals (refine jy λb J=>?_;cases b <;> try simp only [jw] at J)
   all_goals refine kS ?_
   all_goals have F:=(tQ o E)
   all_goals first
     | (have U:=H.out.symm.trans (show _=false by simp only [vDatS,Ad,Aa,Ae,Ag,Ab,Ac,Ak,Al,Ah,Ai,Am,J]);have L:=yD (HD.out U);clear U H HD HX;go_wp2;go_ret;exact ⟨kX L.out.symm,F⟩)
     | (have U:=H.out.symm.trans (show _=true by simp only [vDatS,Ad,Aa,Ae,Ag,Ab,Ac,Ak,Al,Ah,Ai,Am,J]);have L:=yD (HX.out U);clear U H HD HX;go_wp2;go_roundw;(case rel=>exact ⟨k + 1,by omega,by go_num,L,F⟩);(case measure=>simp [Ay];omega))
 exact lX
def kVf {w:Ap} {va D:Ar} {a b:(Av jH)} (ad:(kD.slice 99 jG).raw w [va] a) (ag:(kD.slice 99 jG).raw w [D] b) :
    Aw prog 25 #[va,D] w (bQ w (.bool (decide (a=b)))):=by
 obtain ⟨aa,al,rfl,la⟩:=kD.sl ad
 obtain ⟨ab,X,rfl,lb⟩:=kD.sl ag
 go_enter func25,ntmps25
 by_cases hl:a.length=b.length
 case neg =>
  exact lW
 obtain ⟨hz,bj⟩:=y8
 have HL:=yD hl;clear hl
 go_wp2
 go_loopw [5] (λi wr=>∃ k:Nat,k<=a.length/\i=.int .i64 k/\Hid (a.take k=b.take k)/\Qb w wr) (λi _=>a.length - (Ay i).toNat)
 case atStart=>exact ⟨0,Nat.zero_le _,rfl,yD rfl,bR⟩
 obtain ⟨k,hk,rfl,HN,o⟩:=hrel
 by_cases hlt:k < a.length
 · have az:k < b.length:=vN;obtain ⟨pb,po,rfl,bm,cm,pr,a5,a6⟩:=kD.get2 (ad.below o) (i:=k) bC9 rfl;obtain ⟨qb,qo,rfl,ae,af,qr,ar,ax⟩:=kD.get2 (ag.below o) (i:=k) bC9 rfl;obtain ⟨hne,bx⟩:=CL;generalize a[k]=x at *;generalize b[k]=y at *;obtain ⟨HD,HX⟩:=AX;have H:=yD (vSeenS_eq x y);clear hne bx;obtain ⟨x0,x1⟩:=x;obtain ⟨y0,y1⟩:=y;obtain ⟨b8,aq,a7,bi,bw⟩:=kEm pr;simp only [Aj,and_true] at aq;obtain ⟨rfl,rfl⟩:=aq;obtain ⟨bn,bo,rfl,cd⟩:=kD.sl bi;obtain ⟨bg,Z,aj,ap,ao⟩:=kEm qr;simp only [Aj,and_true] at Z;obtain ⟨rfl,rfl⟩:=Z;obtain ⟨ac,ay,rfl,bd⟩:=kD.sl ap;go_wp2_with fail;have FX:=yD (λ(W:Ap) (hW:Qb wr W)=>kGr hW a5 a6 ar ax);refine kM (λW=>Qb wr W) [Tt,Tt,Tt,Tt,Tt,Tt,Tt,Tt,Tt,Tt,Tt,Tt,Tt,Tt,Tt,Tt,Tt,Tt,Tt,Tt,Tt,Tt,Ff,Tt,Tt] bC3 bC3 pK (bR.drew) ?_;intro wS E;iterate 11
    all_goals refine ku ?_
   all_goals (refine jy λb V=>?_;cases b <;> try simp only [jw] at V)
   iterate 10
    all_goals refine ku ?_
   all_goals first | refine wkB (kBk (kD.raw.below a7 E) (kD.raw.below aj E)) (λwS1 E=>?_) | refine ku ?_
   all_goals refine ku ?_
   all_goals (refine jy λb G=>?_;cases b <;> try simp only [jw] at G)
   all_goals refine kS ?_
   all_goals have F:=(tQ o E)
   all_goals first
     | (have U:=H.out.symm.trans (show _=false by simp only [kYx,Ad,Aa,Ae,Ag,Ab,Ac,Ak,Al,Ah,Ai,Am,V,G]);have L:=yD (HD.out U);clear U H HD HX;go_wp2;go_ret;exact ⟨kX L.out.symm,F⟩)
     | (have U:=H.out.symm.trans (show _=true by simp only [kYx,Ad,Aa,Ae,Ag,Ab,Ac,Ak,Al,Ah,Ai,Am,V,G]);have L:=yD (HX.out U);clear U H HD HX;go_wp2;go_roundw;(case rel=>exact ⟨k + 1,by omega,by go_num,L,F⟩);(case measure=>simp [Ay];omega))
 exact lX
def kSl {w:Ap} {ca cb:Av Ar} {a b:kg} (ha:kN.raw w ca a) (hb:kN.raw w cb b) :
    Aw prog 23 #[.agg ca.toArray,.agg cb.toArray] w (bQ w (.bool (vSt a b))):=by
 obtain ⟨av,rfl,aw,ad⟩:=jK ha
 obtain ⟨bv,rfl,ak,ag⟩:=jK hb
 obtain ⟨aa,al,rfl,la⟩:=kD.sl ad
 obtain ⟨ab,X,rfl,lb⟩:=kD.sl ag
 obtain ⟨a0,a1⟩:=a
 obtain ⟨J,b1⟩:=b
 clear aw ak ha hb
 go_enter func23,ntmps23
 go_upto_region 1 with fail
 generalize D:World.alloc (World.alloc w _) _=N
 have EB:Qb w N:=by rw [<- D];exact bF
 have K0:Qd N w 0 (.int .i64 a0):=tK
 have K1:Qd N w 1 (.slice aa a1.length al):=tK
 have L0:Qc N (w.heap.size + 1) 0 (.int .i64 J):=tK
 have L1:Qc N (w.heap.size + 1) 1 (.slice ab b1.length X):=tK
 clear D
 replace ad:=ad.below EB
 replace ag:=ag.below EB
 by_cases hc:a0=J
 case neg =>
  have L:=yD (show vSt (a0,a1) (J,b1)=false by simp [vSt,hc]);have hz:(a0 != J)=true:=wW;go_wp2;go_ret;exact ⟨kX L.out.symm,EB⟩
 have bk:(a0 != J)=false:=wW
 have HC:=yD hc;clear hc
 by_cases hl:a1.length=b1.length
 case neg =>
  have L:=yD (show vSt (a0,a1) (J,b1)=false by simp [vSt];rintro _ rfl;exact hl rfl);have hz:((a1.length:Int) != b1.length)=true:=bC4;have bj:(a1.length != b1.length)=true:=wR;go_wp2;go_ret;exact ⟨kX L.out.symm,EB⟩
 have hz:((a1.length:Int) != b1.length)=false:=bC4
 have bj:(a1.length != b1.length)=false:=wR
 have HL:=yD hl;clear hl
 go_wp2
 go_loopw [5] (λi wr=>∃ k:Nat,k<=a1.length/\i=.int .i64 k/\Hid (a1.take k=b1.take k)/\Qb N wr) (λi _=>a1.length - (Ay i).toNat)
 case atStart=>exact ⟨0,Nat.zero_le _,rfl,yD rfl,bR⟩
 obtain ⟨k,hk,rfl,HN,o⟩:=hrel
 replace K1:=cL o K1
 replace L1:=cL o L1
 by_cases hlt:k < a1.length
 · have az:k < b1.length:=vN;have c4:=Au.2 hlt;have dr:=Au.2 az;have bp:=Aq k;obtain ⟨pb,po,rfl,bm,cm,cl,eo,d6,e5,pr,a5,a6,bb,R,O,a9⟩:=kD.get6 (ad.below o) (i:=k) bC9 rfl;obtain ⟨qb,qo,rfl,ae,af,ah,cc,ck,cz,qr,ar,ax,a2,an,a4,a3⟩:=kD.get6 (ag.below o) (i:=k) bC9 rfl;obtain ⟨hne,bx⟩:=CL;generalize a1[k]=x at *;generalize b1[k]=y at *;have HD:Hid (decide (x=y)=false->vSt (a0,a1) (J,b1)=false):=yD (λq=>by have:=hne bB5;simp [vSt,this]);have HX:Hid (decide (x=y)=true->a1.take (k + 1)=b1.take (k + 1)):=yD sO;have H:=yD (vCeS_eq x y);clear hne bx;obtain ⟨x0,x1⟩:=x;obtain ⟨y0,y1⟩:=y;obtain ⟨b8,be,a8,aq,a7,bi,bw,b6,V,Y,ba,br,bt⟩:=jq pr;simp only [Aj,and_true] at aq;obtain ⟨rfl,rfl,rfl,rfl,rfl,rfl⟩:=aq;obtain ⟨bn,bo,rfl,cd⟩:=kD.sl bw;obtain ⟨d5,d8,rfl,bz⟩:=kD.sl b6;obtain ⟨d4,ep,rfl,bf⟩:=kD.sl Y;obtain ⟨bg,dc,b2,Z,aj,ap,ao,au,bq,bh,cq,cw,cv⟩:=jq qr;simp only [Aj,and_true] at Z;obtain ⟨rfl,rfl,rfl,rfl,rfl,rfl⟩:=Z;obtain ⟨ac,ay,rfl,bd⟩:=kD.sl ao;obtain ⟨ai,bc,rfl,bl⟩:=kD.sl au;obtain ⟨am,bu,rfl,ce⟩:=kD.sl bh;go_upto_region 6 with fail;have FX:=yD (λ(W:Ap) (hW:Qb wr W)=>cLs14 hW K1 L1 a5 a6 bb R O a9 ar ax a2 an a4 a3);refine kM (λW=>Qb wr W) [Tt,Tt,Tt,Tt,Tt,Tt,Tt,Tt,Tt,Tt,Tt,Tt,Tt,Tt,Tt,Tt,Tt,Tt,Tt,Tt,Tt,Tt,Tt,Tt,Tt,Tt,Ff,Tt,Tt] bC3 bC3 pK (bR.drew) ?_;intro wS E;iterate 13
    all_goals refine ku ?_
   all_goals (refine jy λb G=>?_;cases b <;> try simp only [jw] at G)
   iterate 12
    all_goals refine ku ?_
   all_goals first | refine wkB (kJq (kD.raw.below a7 E) (kD.raw.below aj E)) (λwS1 E=>?_) | refine ku ?_
   all_goals refine ku ?_
   all_goals (refine jy λb I=>?_;cases b <;> try simp only [jw] at I)
   all_goals refine kS ?_
   all_goals have F:=(tQ o E)
   all_goals first
     | (have U:=H.out.symm.trans (show _=false by simp only [vCeS,Ad,Aa,Ae,Ag,Ab,Ac,Ak,Al,Ah,Ai,Am,G,I]);have L:=yD (HD.out U);clear U H HD HX;go_wp2;go_ret;exact ⟨kX L.out.symm,(tQ EB F)⟩)
     | (have U:=H.out.symm.trans (show _=true by simp only [vCeS,Ad,Aa,Ae,Ag,Ab,Ac,Ak,Al,Ah,Ai,Am,G,I]);have L:=yD (HX.out U);clear U H HD HX;go_wp2;go_roundw;(case rel=>exact ⟨k + 1,by omega,by go_num,L,F⟩);(case measure=>simp [Ay];omega))
 have L:=yD (show vSt (a0,a1) (J,b1)=true by have:=kBa HN.out hlt HL.out;have h2:=HC.out;subst this h2;simp [vSt])
 have b3:¬ (k:Int) < a1.length:=bC9
 go_wp2
 go_ret
 exact ⟨kX L.out.symm,(tQ EB o)⟩
def kSm {w:Ap} {cx:Av Ar} {x:kg} (hx:kN.raw w cx x) {cy:Av Ar} {y:kg} (hy:kN.raw w cy y) :
    Aw prog 23 #[.agg cx.toArray,.agg cy.toArray] w (bQ w (.bool (decide (x=y)))):=by
 have h:=kSl hx hy
 rw [vSt_eq] at h
 exact h
def kVg {w:Ap} {cx:Av Ar} {x:yB} (hx:jr.raw w cx x) {cy:Av Ar} {y:yB} (hy:jr.raw w cy y) :
    Aw prog 7 #[.agg cx.toArray,.agg cy.toArray] w (bQ w (.bool (kTs x y))):=by
 have Hx:=yD hx
 obtain ⟨ar,a2,cg,cl,cc,b5,rfl,ab,Z,ac,ae,V,al,ap,bb,bq⟩:=yS hx
 obtain ⟨aa,R,rfl,an⟩:=kD.sl ab
 obtain ⟨ag,X,rfl,a3⟩:=kD.sl ae
 obtain ⟨bx,a7,rfl,ca⟩:=kD.sl V
 obtain ⟨bp,bm,rfl,cf⟩:=kD.sl al
 obtain ⟨bu,br,rfl,ch⟩:=kD.sl ap
 obtain ⟨bj,bl,rfl,cd⟩:=kD.sl bb
 have Hy:=yD hy
 obtain ⟨a9,bg,ce,b6,b8,cm,rfl,au,aw,U,av,a1,ay,a8,aj,bw⟩:=yS hy
 obtain ⟨am,ak,rfl,be⟩:=kD.sl au
 obtain ⟨ax,az,rfl,bf⟩:=kD.sl av
 obtain ⟨b1,bc,rfl,b4⟩:=kD.sl a1
 obtain ⟨bh,bv,rfl,b7⟩:=kD.sl ay
 obtain ⟨b0,b3,rfl,ck⟩:=kD.sl a8
 obtain ⟨bk,bt,rfl,b9⟩:=kD.sl aj
 go_enter func7,ntmps7
 go_upto_region 1 with fail
 generalize D:World.alloc (World.alloc w _) _=N
 have EB:Qb w N:=by rw [<- D];exact bF
 have J:Qd N w 0 (.slice aa (x.1).length R):=tK
 have I:Qd N w 1 (.int .i64 x.2.1.1):=tK
 have o:Qd N w 2 (.slice ag (x.2.1.2).length X):=tK
 have Y:Qd N w 3 (.slice bx (x.2.2.1).length a7):=tK
 have ai:Qd N w 4 (.slice bp (x.2.2.2.1).length bm):=tK
 have a4:Qd N w 5 (.slice bu (x.2.2.2.2.1).length br):=tK
 have bo:Qd N w 6 (.slice bj (x.2.2.2.2.2.1).length bl):=tK
 have bn:Qd N w 7 (.int .i64 x.2.2.2.2.2.2):=tK
 have G:Qc N (w.heap.size + 1) 0 (.slice am (y.1).length ak):=tK
 have ad:Qc N (w.heap.size + 1) 1 (.int .i64 y.2.1.1):=tK
 have af:Qc N (w.heap.size + 1) 2 (.slice ax (y.2.1.2).length az):=tK
 have bd:Qc N (w.heap.size + 1) 3 (.slice b1 (y.2.2.1).length bc):=tK
 have ba:Qc N (w.heap.size + 1) 4 (.slice bh (y.2.2.2.1).length bv):=tK
 have bi:Qc N (w.heap.size + 1) 5 (.slice b0 (y.2.2.2.2.1).length b3):=tK
 have b2:Qc N (w.heap.size + 1) 6 (.slice bk (y.2.2.2.2.2.1).length bt):=tK
 have bz:Qc N (w.heap.size + 1) 7 (.int .i64 y.2.2.2.2.2.2):=tK
 clear D
 have FX:=yD (λ(W:Ap) (hW:Qb N W)=>cLs16 hW J I o Y ai a4 bo bn G ad af bd ba bi b2 bz)
 refine jE (λW=>Qb N W) [Tt,Tt,Tt,Tt,Ff,Tt,Tt,Tt,Tt,Tt,Ff,Tt,Tt,Tt,Tt,Tt,Tt,Ff,Tt,Tt,Tt,Tt,Tt,Tt,Ff,Tt,Tt,Tt,Tt,Tt,Tt,Ff,Tt,Tt,Tt,Tt,Tt,Tt,Ff,Tt,Tt,Tt,Tt,Tt,Tt,Tt,Tt,Tt] bR ?_
 intro wS E
 iterate 4
  all_goals refine ku ?_
 all_goals first | refine wkB (kBi (kD.raw.below ab (tQ EB E)) (kD.raw.below au (tQ EB E))) (λwS1 E=>?_) | refine ku ?_
 all_goals (refine jy λb ao=>?_;cases b <;> try simp only [jw] at ao)
 iterate 4
  all_goals refine ku ?_
 all_goals first | refine wkB (kSm (kD.raw.below Z (tQ EB E)) (kD.raw.below aw (tQ EB E))) (λwS1 E=>?_) | refine ku ?_
 all_goals refine ku ?_
 all_goals (refine jy λb a6=>?_;cases b <;> try simp only [jw] at a6)
 iterate 4
  all_goals refine ku ?_
 all_goals first | refine wkB (kSk (kD.raw.below V (tQ EB E)) (kD.raw.below a1 (tQ EB E))) (λwS1 E=>?_) | refine ku ?_
 all_goals refine ku ?_
 all_goals (refine jy λb aq=>?_;cases b <;> try simp only [jw] at aq)
 iterate 4
  all_goals refine ku ?_
 all_goals first | refine wkB (kVf (kD.raw.below al (tQ EB E)) (kD.raw.below ay (tQ EB E))) (λwS1 E=>?_) | refine ku ?_
 all_goals refine ku ?_
 all_goals (refine jy λb H=>?_;cases b <;> try simp only [jw] at H)
 iterate 4
  all_goals refine ku ?_
 all_goals first | refine wkB (kBj (kD.raw.below ap (tQ EB E)) (kD.raw.below a8 (tQ EB E))) (λwS1 E=>?_) | refine ku ?_
 all_goals refine ku ?_
 all_goals (refine jy λb O=>?_;cases b <;> try simp only [jw] at O)
 iterate 4
  all_goals refine ku ?_
 all_goals first | refine wkB (kVi (kD.raw.below bb (tQ EB E)) (kD.raw.below aj (tQ EB E))) (λwS1 E=>?_) | refine ku ?_
 all_goals refine ku ?_
 all_goals (refine jy λb a5=>?_;cases b <;> try simp only [jw] at a5)
 iterate 6
  all_goals refine ku ?_
 all_goals (refine jy λb ah=>?_;cases b <;> try simp only [jw] at ah)
 all_goals refine kS ?_
 all_goals have F:=(tQ EB E)
 all_goals first
   | (have L:=yD (show (kTs x y)=false by simp only [kTs,Ad,Aa,Ae,Ag,Ab,Ac,Ak,Al,Ah,Ai,Am,ao,a6,aq,H,O,a5,ah]);go_wp2;go_ret;exact ⟨kX L.out.symm,F⟩)
   | (have L:=yD (show (kTs x y)=true by simp only [kTs,Ad,Aa,Ae,Ag,Ab,Ac,Ak,Al,Ah,Ai,Am,ao,a6,aq,H,O,a5,ah]);go_wp2;go_ret;exact ⟨kX L.out.symm,F⟩)
def kVh {w:Ap} {cx:Av Ar} {x:yB} (hx:jr.raw w cx x) {cy:Av Ar} {y:yB} (hy:jr.raw w cy y) :
    Aw prog 7 #[.agg cx.toArray,.agg cy.toArray] w (bQ w (.bool (decide (x=y)))):=by
 have h:=kVg hx hy
 rw [vNode_eq] at h
 exact h
def kKw {w:Ap} {cx:Av Ar} {x:yB} (hx:jr.rd w cx x) {now:Int} (_:Qi now) (hB:lenN 1048576 x) :
    Aw prog 6 #[.agg cx.toArray,.int .i64 now] w (kAe jr (kOa now x) w):=by
 obtain ⟨x0,⟨xc,xe⟩,x2,x3,x4,x5,x6⟩:=x
 have HX:=yD hx
 have HB:=yD hB
 obtain ⟨d4,d7,en,el,eg,ef,rfl,ad,a3,bi,a9,az,ba,bm,bz,dg⟩:=yS hx.1
 obtain ⟨cw,b6,rfl,d6⟩:=kD.sl ad
 obtain ⟨cz,co,rfl,d8⟩:=kD.sl a9
 obtain ⟨dk,c8,rfl,eh⟩:=kD.sl az
 obtain ⟨dj,di,rfl,ek⟩:=kD.sl ba
 obtain ⟨c5,c4,rfl,eq⟩:=kD.sl bm
 obtain ⟨c3,cm,rfl,ej⟩:=kD.sl bz
 obtain ⟨eo,gb,a8,em,d5,ga⟩:=BH
 clear hx hB ad a3 bi a9 az ba bm bz dg
 go_enter func6,ntmps6
 go_upto_region 1 with fail
 generalize F:World.alloc (World.alloc w _) _=Y
 obtain ⟨U,BX,BR,bd⟩:=BC
 clear F
 obtain ⟨X,aa,af,ac,ae,ai,al,an⟩:=jR BX
 go_wp2_with fail
 refine (kVo (HX.out.below U)).mono ?_
 rintro e V ⟨cs,rfl,O,hb⟩
 have bk:=hb.size
 replace BX:=kC BX hb
 replace BR:=kC BR hb
 replace U:=(tQ U hb)
 clear X aa af ac ae ai al an
 clear hb
 obtain ⟨gd,gf,gs,gq,gm,gj,rfl,e1,fe,fd,ey,es,e4,e5,fk,f9⟩:=yS O.raw
 obtain ⟨cc,ck,rfl,gc⟩:=kD.sl e1
 obtain ⟨c9,dh,rfl,gg⟩:=kD.sl ey
 obtain ⟨f3,f5,rfl,gp⟩:=kD.sl es
 obtain ⟨e3,e0,rfl,gt⟩:=kD.sl e4
 obtain ⟨dd,df,rfl,gl⟩:=kD.sl e5
 obtain ⟨ez,e6,rfl,gi⟩:=kD.sl fk
 clear e1 fe fd ey es e4 e5 fk f9
 have J:=yD (O.wide (T:=(λj=>w.heap.size + 2<=j/\j < V.heap.size/\j≠V.heap.size)) gQ)
 clear O
 go_upto_region 2 with fail
 generalize F:World.alloc V _=w3
 obtain ⟨ak,BO,bl⟩:=FO
 clear F
 replace BX:=kC BX ak
 obtain ⟨BR,J,U⟩:=DJ
 clear ak
 obtain ⟨X,aa,af,ac,ae,ai,al,an⟩:=jR BX
 obtain ⟨G,o,H,D,N,ag,ab,ah⟩:=jR BO
 obtain ⟨ar,ax,aw,a1,a2,be,bc,a7⟩:=kAw BO
 go_wp2_with fail
 refine (kMc (eo.out.below U) a8 em.out).mono ?_
 rintro e w4 ⟨v4,rfl,O4,hb⟩
 have bw:=hb.size
 replace BX:=kC BX hb
 obtain ⟨BR,BO,J,U⟩:=xN
 clear X aa af ac ae ai al an G o H D N ag ab ah ar ax aw a1 a2 be bc a7
 clear hb
 obtain ⟨X,aa,af,ac,ae,ai,al,an⟩:=jR BX
 obtain ⟨G,o,H,D,N,ag,ab,ah⟩:=jR BO
 obtain ⟨ar,ax,aw,a1,a2,be,bc,a7⟩:=kAw BO
 have f7:=kIh now x2
 obtain ⟨P,hP⟩:∃ P,kDc now x2=P:=⟨_,rfl⟩
 rw [hP] at O4 f7
 have HP:=yD hP
 clear hP
 obtain ⟨pa,pc,rfl,_⟩:=kD.sl O4.raw
 have R:=yD ((kIy J.out O4 nI).wide (T:=(λj=>w.heap.size + 2<=j/\j < w4.heap.size/\j≠V.heap.size)) cB)
 clear J O4
 go_upto_region 3 with fail
 generalize F:World.setCell w4 _ _=w5
 obtain ⟨bt,BO,bv⟩:=EN
 clear F
 replace BX:=bt.kC BX bC9
 replace BR:=bt.kC BR bC9
 replace R:=yD (R.out.touch bt pJ)
 replace U:=U.trans (bt.below U.size wM)
 clear X aa af ac ae ai al an G o H D N ag ab ah ar ax aw a1 a2 be bc a7
 clear bt
 have J:=yD (R.out.wide (T:=(λj=>w.heap.size + 2<=j/\j < w5.heap.size/\j≠V.heap.size)) sF)
 clear R
 obtain ⟨X,aa,af,ac,ae,ai,al,an⟩:=jR BX
 go_wp2
 go_loopw [23] (λi wr=>∃ (k:Nat) (sa ma:Option Addr) (sc mc:Nat) (s:Av jH) (m:Av kJ),i=.int .i64 k/\k<=x2.length/\Hid ((s,m)=zf now (x0,(xc,xe),x2,x3,x4,x5,x6) k)/\Hid (jr.own wr [Qs cc x0 ck,Qn xc,Qs c9 xe dh,Qs pa P pc,Qs sa s sc,Qs dd x4 df,Qs ma m mc,Qn x6] (x0,(xc,xe),P,s,x4,m,x6) (λj=>w.heap.size + 2<=j/\j < wr.heap.size/\j≠V.heap.size))/\Qr wr w.heap.size #[Qs cw x0 b6,Qn xc,Qs cz xe co,Qs dk x2 c8,Qs dj x3 di,Qs c5 x4 c4,Qs c3 x5 cm,Qn x6] 33/\Qr wr (w.heap.size + 1) #[.slice none 0 0,Qn 0,.slice none 0 0,.slice none 0 0,.slice none 0 0,.slice none 0 0,.slice none 0 0,Qn 0] 33/\Qr wr V.heap.size #[Qs cc x0 ck,Qn xc,Qs c9 xe dh,Qs pa P pc,Qs sa s sc,Qs dd x4 df,Qs ma m mc,Qn x6] 33/\w5.heap.size<=wr.heap.size/\Qb w wr) (λi _=>x2.length - (Ay i).toNat)
 case atStart=>exact ⟨0,e3,ez,e0,e6,x3,x5,rfl,Nat.zero_le _,yD rfl,J,BX,BR,BO,Nat.le_refl _,U⟩
 rename Ap=>wq
 clear U BX BR BO J
 obtain ⟨k,sa,ma,sc,mc,s,m,rfl,hk,L,J,BX,BR,BO,dt,U⟩:=hrel
 have bp:=Aq k
 have d9:s.length<=2000000:=bX
 by_cases hlt:k < x2.length
 · have dr:=Au.2 hlt;have bx:zf now (x0,(xc,xe),x2,x3,x4,x5,x6) (k + 1)=zT (x0,(xc,xe),x2,x3,x4,x5,x6) P (s,m) x2[k]:=bP;have ed:=em.out _ (List.getElem_mem hlt);obtain ⟨qb,qo,fn,c0,c1,c2,qr,fx,er,f2⟩:=kD.zg eo.out.1 hlt rfl;have av:=kD.yX eo.out hlt;generalize x2[k]=y at *;have db:=yD bx;clear bx;obtain ⟨y0,y1,y2⟩:=y;try simp only at ed
   obtain ⟨bg,dc,Z,aj,ap,ao,au⟩:=jQ qr;simp only [Aj,and_true] at Z;obtain ⟨rfl,rfl,rfl⟩:=Z;obtain ⟨na,np,rfl,_⟩:=kD.sl ap;obtain ⟨ra,rp,rfl,_⟩:=kD.sl ao;have cl:Hid (kU.rd w [Qs na y0 np] y0):=yD ⟨aj,av.1⟩;have HQ:=yD ao;try simp only at fx er f2
   clear qr aj ap ao au av;subst fn;obtain ⟨X,aa,af,ac,ae,ai,al,an⟩:=jR BX;have A0:=cL U fx;have A1:=cL U er;have A2:=cL U f2;go_upto_region 6 with fail;generalize F:World.alloc wq _=w6;have aq:Qb wq w6:=rM;have BT:Qr w6 wq.heap.size #[Qs na y0 np,Qs ra y1 rp,Qn y2] 43:=vB;have cf:wq.heap.size + 1<=w6.heap.size:=bB1;clear F;replace BX:=kC BX aq;replace BR:=kC BR aq;replace BO:=kC BO aq;replace J:=yD (J.out.below aq);replace U:=(tQ U aq);clear X aa af ac ae ai al an A0 A1 A2;clear aq;by_cases du:y1.length=0
   · have am:=yD (show zf now (x0,(xc,xe),x2,x3,x4,x5,x6) (k + 1)=(s,m) by rw [db.out];unfold zT;rw [if_pos du]);have fg:(y1.length:Int)=0:=bC9;have fw:((y1.length:Int)==0)=true:=by rw [beq_iff_eq];omega
     obtain ⟨G,o,H,D,N,ag,ab,ah⟩:=jR BO;obtain ⟨ay,bn,bq⟩:=kOn BT;exact uE
   have fg:¬ (y1.length:Int)=0:=bC9;have fw:((y1.length:Int)==0)=false:=by rw [beq_eq_false_iff_ne];omega
   obtain ⟨G,o,H,D,N,ag,ab,ah⟩:=jR BO;obtain ⟨ay,bn,bq⟩:=kOn BT;go_wp2_with fail;refine (kQg (vl:=.slice pa P.length pc) (l:=P) (kLo J.out.raw) (cn:=[.slice na y0.length np]) (cl.out.1.below U)).mono ?_;rintro e w7 ⟨rfl,hb⟩;have dp:=hb.size;obtain ⟨BX,BR,BO,BT,J,U⟩:=AB;clear G o H D N ag ab ah ay bn bq;clear hb;by_cases ei:0<=idxOf (ja y0) P
   · exact uF
   obtain ⟨dq,fq⟩:=BI;generalize idxOf (ja y0) P=ip at *;clear db;obtain ⟨ay,bn,bq⟩:=kOn BT;go_wp2;go_loopw [41] (λi wr=>∃ (j:Nat) (ta:Option Addr) (tc:Nat) (u:Av jH),i=.int .i64 j/\j<=y1.length/\u.length<=2000000/\Hid (u=(y1.take j).foldl (λs r=>yK s y0 r.2.1) s)/\Hid (jr.own wr [Qs cc x0 ck,Qn xc,Qs c9 xe dh,Qs pa P pc,Qs ta u tc,Qs dd x4 df,Qs ma m mc,Qn x6] (x0,(xc,xe),P,u,x4,m,x6) (λj=>w.heap.size + 2<=j/\j < wr.heap.size/\j≠V.heap.size))/\Qr wr w.heap.size #[Qs cw x0 b6,Qn xc,Qs cz xe co,.slice (some ⟨qb,qo,none⟩) x2.length c8,Qs dj x3 di,Qs c5 x4 c4,Qs c3 x5 cm,Qn x6] 33/\Qr wr (w.heap.size + 1) #[.slice none 0 0,Qn 0,.slice none 0 0,.slice none 0 0,.slice none 0 0,.slice none 0 0,.slice none 0 0,Qn 0] 33/\Qr wr V.heap.size #[Qs cc x0 ck,Qn xc,Qs c9 xe dh,Qs pa P pc,Qs ta u tc,Qs dd x4 df,Qs ma m mc,Qn x6] 33/\Qr wr wq.heap.size #[Qs na y0 np,Qs ra y1 rp,Qn y2] 43/\w7.heap.size<=wr.heap.size/\Qb w wr) (λi _=>y1.length - (Ay i).toNat);case atStart=>exact ⟨0,sa,sc,s,rfl,Nat.zero_le _,d9,yD rfl,yD (J.out.wide sF),BX,BR,BO,BT,Nat.le_refl _,U⟩
   rename Ap=>wp;clear U BX BR BO BT J;obtain ⟨j,ta,tc,u,rfl,I,f6,HU,J,BX,BR,BO,BT,gu,U⟩:=hrel;have ch:=Aq j;by_cases d3:j < y1.length
   · have br:=Au.2 d3;have a6:=kMs (n:=y0) (s:=s) d3;rw [<- HU.out] at a6;obtain ⟨rb,ro,fp,r0,r1,r2,rr,f1,fi,fz⟩:=kD.zg HQ.out d3 rfl;generalize y1[j]=z at *;have f4:=yD a6;clear a6;obtain ⟨z0,z1,z2⟩:=z;obtain ⟨cd,ew,ee,e7⟩:=yG rr;simp only [Aj,and_true] at cd;obtain ⟨rfl,rfl,rfl⟩:=cd;try simp only at f1 fi fz
     subst fp;have HZ:=yD ee;clear ew ee e7 rr;obtain ⟨G,o,H,D,N,ag,ab,ah⟩:=jR BO;obtain ⟨ay,bn,bq⟩:=kOn BT;have R0:=cL U f1;have R1:=cL U fi;have R2:=cL U fz;go_upto_region 10 with fail;generalize F:World.alloc wp _=w9;have eb:Qb wp w9:=rM;have BQ:Qr w9 wp.heap.size #[Qn z0,Qn z1,Qn z2] 45:=vB;have de:wp.heap.size + 1<=w9.heap.size:=bB1;clear F;replace BX:=kC BX eb;replace BR:=kC BR eb;replace BO:=kC BO eb;replace BT:=kC BT eb;replace J:=yD (J.out.below eb);replace U:=(tQ U eb);clear G o H D N ag ab ah ay bn bq R0 R1 R2;clear eb;obtain ⟨G,o,H,D,N,ag,ab,ah⟩:=jR BO;obtain ⟨ay,bn,bq⟩:=kOn BT;obtain ⟨b3,ce,cg⟩:=kOn BQ;go_wp2_with fail;refine (kNl (kYd J.out.rd) f6 (cn:=[.slice na y0.length np]) (cl.out.below U) HZ.out).mono ?_;rintro e bj ⟨v9,rfl,O9,hb⟩;have c6:=hb.size;replace BX:=kC BX hb;replace BR:=kC BR hb;replace BO:=kC BO hb;replace BT:=kC BT hb;replace BQ:=kC BQ hb;replace J:=yD (J.out.below hb);replace U:=(tQ U hb);clear G o H D N ag ab ah ay bn bq b3 ce cg;clear hb;have fm:=kJf (l:=u) (n:=y0) (x:=z1);obtain ⟨u2,hu2⟩:∃ u2,yK u y0 z1=u2:=⟨_,rfl⟩;rw [hu2] at O9 fm;have f8:=yD (show u2=(y1.take (j + 1)).foldl (λs r=>yK s y0 r.2.1) s by rw [f4.out];exact hu2.symm);clear hu2;obtain ⟨va,vc,rfl,_⟩:=kD.sl O9.raw;have R:=yD ((kIx J.out O9 nI).wide (T:=(λj=>w.heap.size + 2<=j/\j < bj.heap.size/\j≠V.heap.size)) cB);clear J O9;obtain ⟨G,o,H,D,N,ag,ab,ah⟩:=jR BO;obtain ⟨ar,ax,aw,a1,a2,be,bc,a7⟩:=kAw BO;go_upto_region 11 with fail;generalize F:World.setCell bj _ _=bu;have dv:Touch (λk=>k=V.heap.size) bj bu:=vO;replace BO:Qr bu V.heap.size #[Qs cc x0 ck,Qn xc,Qs c9 xe dh,Qs pa P pc,Qs va u2 vc,Qs dd x4 df,Qs ma m mc,Qn x6] 33:=tZ;have dl:=dv.size;clear F;replace BX:=dv.kC BX bC9;replace BR:=dv.kC BR bC9;replace BT:=dv.kC BT bC9;replace BQ:=dv.kC BQ bC9;replace R:=yD (R.out.touch dv pJ);replace U:=U.trans (dv.below U.size wM);clear G o H D N ag ab ah ar ax aw a1 a2 be bc a7;clear dv;have J:=yD (R.out.wide (T:=(λj=>w.heap.size + 2<=j/\j < bu.heap.size/\j≠V.heap.size)) sF);exact uG
   have gn:¬ ((j:Int) < y1.length):=bC9;obtain rfl:j=y1.length:=bC9;obtain ⟨fh,dq⟩:=CG;clear HU fh;obtain ⟨G,o,H,D,N,ag,ab,ah⟩:=jR BO;obtain ⟨ay,bn,bq⟩:=kOn BT;go_wp2_with fail;refine (kCu (kAl J.out.rd) (cn:=[.slice na y0.length np]) (cl.out.below U)).mono ?_;rintro e w9 ⟨cq,rfl,Oq,hb⟩;have de:=hb.size;obtain ⟨BX,BR,BO,BT,J,U⟩:=AB;clear G o H D N ag ab ah ay bn bq;clear hb;obtain ⟨qv,rfl,fu⟩:=kZ Oq.raw;obtain ⟨ka,kp,rfl,_⟩:=kD.sl fu;clear fu;have HK:=yD (Oq);clear Oq;go_upto_region 13 with fail;generalize F:World.alloc w9 _=bj;have b0:Qb w9 bj:=rM;have BK:Qr bj w9.heap.size #[.slice ka (zX y0 x4).length kp] 40:=vB;have c6:w9.heap.size + 1<=bj.heap.size:=bB1;clear F;replace BX:=kC BX b0;replace BR:=kC BR b0;replace BO:=kC BO b0;replace BT:=kC BT b0;replace J:=yD (J.out.below b0);replace HK:=yD (HK.out.below b0);replace U:=(tQ U b0);clear b0;obtain ⟨G,o,H,D,N,ag,ab,ah⟩:=jR BO;obtain ⟨ay,bn,bq⟩:=kOn BT;go_wp2_with fail;refine (kMb J.out.rd (cn:=[.slice na y0.length np]) (cl.out.below U) (ex:=0) bC9).mono ?_;rintro e bu ⟨vf,rfl,Of,hb⟩;have dl:=hb.size;replace BX:=kC BX hb;replace BR:=kC BR hb;replace BO:=kC BO hb;replace BT:=kC BT hb;replace BK:=kC BK hb;replace J:=yD (J.out.below hb);replace HK:=yD (HK.out.below hb);replace U:=(tQ U hb);clear G o H D N ag ab ah ay bn bq;clear hb;obtain ⟨fs,eu⟩:∃ fs,kJy (x0,(xc,xe),P,u,x4,m,x6) y0 0=fs:=⟨_,rfl⟩;rw [eu] at Of;replace dq:=yD (show zf now (x0,(xc,xe),x2,x3,x4,x5,x6) (k + 1)=(u,if mOk y0 x4 then kOb fs (zX y0 x4) m else m) by rw [dq.out,eu]);clear eu;obtain ⟨fa,fc,rfl,_⟩:=kD.sl Of.raw;have HF:=yD (Of);clear Of;cases dm:mOk y0 x4
   · exact uH
   cases fs with
   | nil =>
     exact uI
   | cons f0 fr =>
     obtain ⟨fb,fo,rfl,g0,gr,G0⟩:=kD.kCv HF.out.raw (i:=0) bD0 rfl;obtain ⟨ge,fy⟩:=kD.jY gr;obtain rfl:g0=_:=by simpa using ge
     have fv:Qi f0:=fy;have G1:Qc bu fb fo (.int .i64 f0):=by simpa using G0
     clear ge gr G0 fy;obtain ⟨am,e9,da⟩:=FI;generalize (f0 :: fr).length=fl at *;clear da;obtain ⟨G,o,H,D,N,ag,ab,ah⟩:=jR BO;have bo:Qd bu w9 0 (.slice ka (zX y0 x4).length kp):=kE BK rfl;go_upto_region 15 with fail;have FX:=yD (λ(W:Ap) (hW:Qb bu W)=>cLs10 hW G o H D N ag ab ah bo G1);refine yH (λW=>Qb bu W) [Tt,Tt,Tt,Tt,Tt,Tt] bC3 bC3 pK (bR.drew) ?_;intro wS E;iterate 6
      all_goals refine ku ?_
     all_goals refine jc ?_
     clear G1;have gh:=E.size;replace BX:=kC BX E;replace BR:=kC BR E;replace BO:=kC BO E;replace BT:=kC BT E;replace BK:=kC BK E;replace J:=yD (J.out.below E);replace HK:=yD (HK.out.below E);replace HF:=yD (HF.out.below E);replace U:=(tQ U E);clear G o H D N ag ab ah bo;clear E;obtain ⟨G,o,H,D,N,ag,ab,ah⟩:=jR BO;have bo:Qd wS w9 0 (.slice ka (zX y0 x4).length kp):=kE BK rfl;obtain ⟨ar,ax,aw,a1,a2,be,bc,a7⟩:=kAw BO;go_wp2_with fail;refine (kMa (kYe J.out.rd) (cn:=[.slice ka (zX y0 x4).length kp]) HK.out.rd fv).mono ?_;rintro e cv ⟨v9,rfl,O9,hb⟩;have d0:=hb.size;exact uJ
 have ff:¬ ((k:Int) < x2.length):=bC9
 obtain rfl:k=x2.length:=bC9
 obtain ⟨X,aa,af,ac,ae,ai,al,an⟩:=jR BX
 obtain ⟨G,o,H,D,N,ag,ab,ah⟩:=jR BO
 go_wp2_with fail
 refine (kQi (now:=now) (kUz J.out.rd)).mono ?_
 rintro e w6 ⟨ec,rfl,Oe,hb⟩
 have cf:=hb.size
 replace BX:=kC BX hb
 obtain ⟨BR,BO,J,U⟩:=xN
 clear X aa af ac ae ai al an G o H D N ag ab ah
 clear hb
 obtain ⟨ev,he⟩:∃ ev,kRs now (xc,xe)=(xc,ev):=⟨_,rfl⟩
 rw [he] at Oe
 have HE:=yD he
 clear he
 obtain ⟨sv,rfl,c7,ft⟩:=jK Oe.raw
 obtain ⟨ea,ep,rfl,_⟩:=kD.sl ft
 clear c7 ft
 have R:=yD ((kHk J.out Oe nI).wide (T:=(λj=>w.heap.size + 2<=j/\j < w6.heap.size/\j≠V.heap.size)) cB)
 clear J Oe
 obtain ⟨G,o,H,D,N,ag,ab,ah⟩:=jR BO
 obtain ⟨a4,a5,b8,b5,ca,dx,dw,dy⟩:=jR BR
 obtain ⟨ar,ax,aw,a1,a2,be,bc,a7⟩:=kAw BO
 obtain ⟨bh,bf,b4,b7,b9,dz,d2,d1⟩:=kAw BR
 have fj:=yD (show kOa now (x0,(xc,xe),x2,x3,x4,x5,x6)=(x0,(xc,ev),P,s,x4,m,x6) by unfold kOa;simp only [HE.out,HP.out,<- L.out])
 go_upto_region 18 with fail
 generalize F:World.setCell (World.setCell w6 _ _) _ _=w7
 obtain ⟨b2,BO,dp⟩:=EI
 clear F
 replace BX:=b2.kC BX bC9
 replace BR:=b2.kC BR bC9
 replace R:=yD (R.out.touch b2 pJ)
 replace U:=U.trans (b2.below U.size wM)
 clear G o H D N ag ab ah a4 a5 b8 b5 ca dx dw dy ar ax aw a1 a2 be bc a7 bh bf b4 b7 b9 dz d2 d1
 clear b2
 obtain ⟨G,o,H,D,N,ag,ab,ah⟩:=jR BO
 obtain ⟨a4,a5,b8,b5,ca,dx,dw,dy⟩:=jR BR
 obtain ⟨bh,bf,b4,b7,b9,dz,d2,d1⟩:=kAw BR
 go_wp2
 refine bodyPost_ret (v:=.agg #[Qs cc x0 ck,Qn xc,Qs ea ev ep,Qs pa P pc,Qs sa s sc,Qs dd x4 df,Qs ma m mc,Qn x6]) (by simp [results,results6,go_sem,a4,bh,a5,bf,b8,b4,b5,b7,ca,b9,dx,dz,dw,d2,dy,d1]) rfl ⟨[Qs cc x0 ck,Qn xc,Qs ea ev ep,Qs pa P pc,Qs sa s sc,Qs dd x4 df,Qs ma m mc,Qn x6],rfl,?_,?_⟩
 · rw [fj.out];exact (R.out.touch sT8 rF).wide dW
 exact U.trans (Touch.below sT8 U.size wM)
end Go.Proofs.YtonmjkmaadgceabGreat

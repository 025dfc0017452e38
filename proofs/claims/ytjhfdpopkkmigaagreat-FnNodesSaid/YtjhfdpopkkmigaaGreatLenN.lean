/-
  How long a node's lists are. No program in sight.
-/
import Derived.Test.YtjhfdpopkkmigaaGreatRule
set_option linter.unusedVariables false
set_option linter.defProp false
set_option linter.unusedSimpArgs false
set_option linter.unnecessarySimpa false
set_option maxRecDepth 100000
set_option maxHeartbeats 4000000
open Bool renaming true->Tt,false->Ff
open List.cons renaming injEq->Aa
open Go renaming Value->Ab,World->Aq,Calls->Au,bodyPost_ret->Ba,FuncId->Bf
open Bool renaming not_false->Ac,and_false->Ad,false_and->Ae,not_true->Ag,and_true->Ah,true_and->Ai,or_false->Aj,false_or->Ak,or_true->Al,true_or->Am,not_not->Ap,noConfusion->Be
open _root_ renaming List->Ar
open Go.RowKit.Below renaming setCell->Av,trans->Aw,size->Bb
open Go.RowKit renaming intOf->Ay
open Int renaming natCast_nonneg->Az,ofNat_lt->Bc,toNat_natCast->Bd
namespace Go.Proofs.YtjhfdpopkkmigaaGreat
open Go.RowKit _root_.Go.Proofs.Tryz
def kIt {w:Aq} {va L:Ab} {a b:Ar kT} {g:Bf} {cp:Array Ab} (hg:jH prog g) (G:(kD.slice 149 kL).raw w [va] a) (al:(kD.slice 149 kL).raw w [L] b)
    (J:∀ wr,Qb w wr->∀ (cs ds:Ar Ab) (x y:kT),kL.raw wr cs x->kL.raw wr ds y->Au prog g (#[.agg cs.toArray,.agg ds.toArray]++cp) wr (λe w'=>e=.returned (.bool (decide (x=y)))/\Qb wr w')) :
    Au prog 142 #[va,L,.func (.func g) #[] cp] w (bQ w (.bool (decide (a=b)))):=by
 obtain ⟨aa,am,rfl,la⟩:=kD.sl G
 obtain ⟨ab,aq,rfl,lb⟩:=kD.sl al
 have av:=yD J;clear J
 unfold jH at hg
 go_enter func142,ntmps142
 by_cases hl:a.length=b.length
 case neg =>
  exact iG
 obtain ⟨hz,a3⟩:=xG
 have HL:=yD hl;clear hl
 go_wp2
 go_loopw [17] (λi wr=>∃ k:Nat,k<=a.length/\i=.int .i64 k/\Hid (a.take k=b.take k)/\Qb w wr) (λi _=>a.length - (Ay i).toNat)
 case atStart=>exact ⟨0,Nat.zero_le _,rfl,yD rfl,bR⟩
 obtain ⟨k,hk,rfl,HN,o⟩:=hrel
 by_cases hlt:k < a.length
 · have X:k < b.length:=vQ;obtain ⟨pb,po,rfl,ba,b9,ch,pr,a7,bb,bg⟩:=kD.zt (G.below o) (i:=k) bD1 rfl;obtain ⟨qb,qo,rfl,ae,af,ah,qr,ap,ar,ay⟩:=kD.zt (al.below o) (i:=k) bD1 rfl;obtain ⟨hne,D⟩:=A9;generalize a[k]=x at *;generalize b[k]=y at *;have HD:=yD hne;have HX:=yD D;have HR:=yD pr;have N:=yD qr;clear hne D;obtain ⟨b7,an,a8,a6,bh,bz⟩:=jh pr;simp only [Aa,and_true] at an;obtain ⟨rfl,rfl,rfl⟩:=an;obtain ⟨a2,be,rfl,cd⟩:=kD.sl a6;obtain ⟨bd,ac,ag,ak,ao,ax⟩:=jh qr;exact lI
 exact iI
def kPr {w:Aq} {va L:Ab} {a b:Ar kz} {g:Bf} {cp:Array Ab} (hg:jH prog g) (G:(kD.slice 131 kS).raw w [va] a) (al:(kD.slice 131 kS).raw w [L] b)
    (J:∀ wr,Qb w wr->∀ (cs ds:Ar Ab) (x y:kz),kS.raw wr cs x->kS.raw wr ds y->Au prog g (#[.agg cs.toArray,.agg ds.toArray]++cp) wr (λe w'=>e=.returned (.bool (decide (x=y)))/\Qb wr w')) :
    Au prog 140 #[va,L,.func (.func g) #[] cp] w (bQ w (.bool (decide (a=b)))):=by
 obtain ⟨aa,am,rfl,la⟩:=kD.sl G
 obtain ⟨ab,aq,rfl,lb⟩:=kD.sl al
 have av:=yD J;clear J
 unfold jH at hg
 go_enter func140,ntmps140
 by_cases hl:a.length=b.length
 case neg =>
  exact iG
 obtain ⟨hz,a3⟩:=xG
 have HL:=yD hl;clear hl
 go_wp2
 go_loopw [17] (λi wr=>∃ k:Nat,k<=a.length/\i=.int .i64 k/\Hid (a.take k=b.take k)/\Qb w wr) (λi _=>a.length - (Ay i).toNat)
 case atStart=>exact ⟨0,Nat.zero_le _,rfl,yD rfl,bR⟩
 obtain ⟨k,hk,rfl,HN,o⟩:=hrel
 by_cases hlt:k < a.length
 · have X:k < b.length:=vQ;obtain ⟨pb,po,rfl,ba,b9,ch,pr,a7,bb,bg⟩:=kD.zt (G.below o) (i:=k) bD1 rfl;obtain ⟨qb,qo,rfl,ae,af,ah,qr,ap,ar,ay⟩:=kD.zt (al.below o) (i:=k) bD1 rfl;obtain ⟨hne,D⟩:=A9;generalize a[k]=x at *;generalize b[k]=y at *;have HD:=yD hne;have HX:=yD D;have HR:=yD pr;have N:=yD qr;clear hne D;obtain ⟨b7,an,a8,a6,bh,bz⟩:=jJ pr;simp only [Aa,and_true] at an;obtain ⟨rfl,rfl,rfl⟩:=an;obtain ⟨a2,be,rfl,cd⟩:=kD.sl a6;obtain ⟨bd,ac,ag,ak,ao,ax⟩:=jJ qr;exact lI
 exact iI
def kGa {w:Aq} {va L:Ab} {a b:Ar kI} {g:Bf} {cp:Array Ab} (hg:jH prog g) (G:(kD.slice 145 kJ).raw w [va] a) (al:(kD.slice 145 kJ).raw w [L] b)
    (J:∀ wr,Qb w wr->∀ (cs ds:Ar Ab) (x y:kI),kJ.raw wr cs x->kJ.raw wr ds y->Au prog g (#[.agg cs.toArray,.agg ds.toArray]++cp) wr (λe w'=>e=.returned (.bool (decide (x=y)))/\Qb wr w')) :
    Au prog 136 #[va,L,.func (.func g) #[] cp] w (bQ w (.bool (decide (a=b)))):=by
 obtain ⟨aa,am,rfl,la⟩:=kD.sl G
 obtain ⟨ab,aq,rfl,lb⟩:=kD.sl al
 have av:=yD J;clear J
 unfold jH at hg
 go_enter func136,ntmps136
 by_cases hl:a.length=b.length
 case neg =>
  exact iG
 obtain ⟨hz,a3⟩:=xG
 have HL:=yD hl;clear hl
 go_wp2
 go_loopw [17] (λi wr=>∃ k:Nat,k<=a.length/\i=.int .i64 k/\Hid (a.take k=b.take k)/\Qb w wr) (λi _=>a.length - (Ay i).toNat)
 case atStart=>exact ⟨0,Nat.zero_le _,rfl,yD rfl,bR⟩
 obtain ⟨k,hk,rfl,HN,o⟩:=hrel
 by_cases hlt:k < a.length
 · have X:k < b.length:=vQ;obtain ⟨pb,po,rfl,ba,b9,ch,pr,a7,bb,bg⟩:=kD.zt (G.below o) (i:=k) bD1 rfl;obtain ⟨qb,qo,rfl,ae,af,ah,qr,ap,ar,ay⟩:=kD.zt (al.below o) (i:=k) bD1 rfl;obtain ⟨hne,D⟩:=A9;generalize a[k]=x at *;generalize b[k]=y at *;have HD:=yD hne;have HX:=yD D;have HR:=yD pr;have N:=yD qr;clear hne D;obtain ⟨b7,Z,an,a8,a6,bh,bz⟩:=jT pr;simp only [Aa,and_true] at an;obtain ⟨rfl,rfl,rfl⟩:=an;obtain ⟨a2,be,rfl,cd⟩:=kD.sl a6;obtain ⟨b8,ck,rfl,a5⟩:=kD.sl bh;obtain ⟨bd,b5,ac,ag,ak,ao,ax⟩:=jT qr;simp only [Aa,and_true] at ac;obtain ⟨rfl,rfl,rfl⟩:=ac;obtain ⟨ad,aw,rfl,bf⟩:=kD.sl ak;obtain ⟨ai,bj,rfl,cg⟩:=kD.sl ao;exact lJ
 exact iI
def kKd {w:Aq} {va L:Ab} {a b:Ar jK} {g:Bf} {cp:Array Ab} (hg:jH prog g) (G:(kD.slice 102 jE).raw w [va] a) (al:(kD.slice 102 jE).raw w [L] b)
    (J:∀ wr,Qb w wr->∀ (cs ds:Ar Ab) (x y:jK),jE.raw wr cs x->jE.raw wr ds y->Au prog g (#[.agg cs.toArray,.agg ds.toArray]++cp) wr (λe w'=>e=.returned (.bool (decide (x=y)))/\Qb wr w')) :
    Au prog 72 #[va,L,.func (.func g) #[] cp] w (bQ w (.bool (decide (a=b)))):=by
 obtain ⟨aa,am,rfl,la⟩:=kD.sl G
 obtain ⟨ab,aq,rfl,lb⟩:=kD.sl al
 have av:=yD J;clear J
 unfold jH at hg
 go_enter func72,ntmps72
 by_cases hl:a.length=b.length
 case neg =>
  exact iG
 obtain ⟨hz,a3⟩:=xG
 have HL:=yD hl;clear hl
 go_wp2
 go_loopw [17] (λi wr=>∃ k:Nat,k<=a.length/\i=.int .i64 k/\Hid (a.take k=b.take k)/\Qb w wr) (λi _=>a.length - (Ay i).toNat)
 case atStart=>exact ⟨0,Nat.zero_le _,rfl,yD rfl,bR⟩
 obtain ⟨k,hk,rfl,HN,o⟩:=hrel
 by_cases hlt:k < a.length
 · have X:k < b.length:=vQ;obtain ⟨pb,po,rfl,ba,b9,pr,a7,bb⟩:=kD.get2 (G.below o) (i:=k) bD1 rfl;obtain ⟨qb,qo,rfl,ae,af,qr,ap,ar⟩:=kD.get2 (al.below o) (i:=k) bD1 rfl;obtain ⟨hne,D⟩:=A9;generalize a[k]=x at *;generalize b[k]=y at *;have HD:=yD hne;have HX:=yD D;have HR:=yD pr;have N:=yD qr;clear hne D;obtain ⟨b7,an,a8,a6,bh⟩:=kAb pr;simp only [Aa,and_true] at an;obtain ⟨rfl,rfl⟩:=an;obtain ⟨a2,be,rfl,cd⟩:=kD.sl a6;obtain ⟨bd,ac,ag,ak,ao⟩:=kAb qr;simp only [Aa,and_true] at ac;obtain ⟨rfl,rfl⟩:=ac;obtain ⟨ad,aw,rfl,bf⟩:=kD.sl ak;have a1:=Bc.2 X;have H:=World.block_lt_of_cell? _ _ a7;have E:=World.block_lt_of_cell? _ _ ap;simp only at H E;go_wp2_with fail;refine (av.out _ bM _ _ x y (HR.out.below dB) (N.out.below dB)).mono ?_;rintro e w1 ⟨rfl,O⟩;have F:Qb w w1:=Aw bM (O.mono sD);clear O;cases hz:decide (x=y)
   · have U:=yD (show decide (a=b)=false by simp;exact HD.out bA0);clear HD HX HR N;go_wp2;go_ret;exact ⟨kK U.out.symm,F⟩
   have U:=yD (HX.out bA0);clear HD HX HR N;go_wp2;go_roundw;case rel=>exact ⟨k + 1,by omega,by go_num,U,F⟩
   simp [Ay];omega
 exact iI
def kQz {w:Aq} {va L:Ab} {a b:Ar jL} {g:Bf} {cp:Array Ab} (hg:jH prog g) (G:(kD.slice 38 jF).raw w [va] a) (al:(kD.slice 38 jF).raw w [L] b)
    (J:∀ wr,Qb w wr->∀ (cs ds:Ar Ab) (x y:jL),jF.raw wr cs x->jF.raw wr ds y->Au prog g (#[.agg cs.toArray,.agg ds.toArray]++cp) wr (λe w'=>e=.returned (.bool (decide (x=y)))/\Qb wr w')) :
    Au prog 68 #[va,L,.func (.func g) #[] cp] w (bQ w (.bool (decide (a=b)))):=by
 obtain ⟨aa,am,rfl,la⟩:=kD.sl G
 obtain ⟨ab,aq,rfl,lb⟩:=kD.sl al
 have av:=yD J;clear J
 unfold jH at hg
 go_enter func68,ntmps68
 by_cases hl:a.length=b.length
 case neg =>
  exact iG
 obtain ⟨hz,a3⟩:=xG
 have HL:=yD hl;clear hl
 go_wp2
 go_loopw [17] (λi wr=>∃ k:Nat,k<=a.length/\i=.int .i64 k/\Hid (a.take k=b.take k)/\Qb w wr) (λi _=>a.length - (Ay i).toNat)
 case atStart=>exact ⟨0,Nat.zero_le _,rfl,yD rfl,bR⟩
 obtain ⟨k,hk,rfl,HN,o⟩:=hrel
 by_cases hlt:k < a.length
 · have X:k < b.length:=vQ;obtain ⟨pb,po,rfl,ba,b9,ch,dh,df,pr,a7,bb,bg,az,au⟩:=kD.get5 (G.below o) (i:=k) bD1 rfl;obtain ⟨qb,qo,rfl,ae,af,ah,cv,cw,qr,ap,ar,ay,bo,b2⟩:=kD.get5 (al.below o) (i:=k) bD1 rfl;obtain ⟨hne,D⟩:=A9;generalize a[k]=x at *;generalize b[k]=y at *;have HD:=yD hne;have HX:=yD D;have HR:=yD pr;have N:=yD qr;clear hne D;obtain ⟨b7,Z,bc,an,a8,a6,bh,bz,I,V,bl⟩:=jM pr;simp only [Aa,and_true] at an;obtain ⟨rfl,rfl,rfl,rfl,rfl⟩:=an;obtain ⟨a2,be,rfl,cd⟩:=kD.sl a6;obtain ⟨b8,ck,rfl,a5⟩:=kD.sl bh;obtain ⟨db,di,rfl,bm⟩:=kD.sl I;obtain ⟨bd,b5,cq,ac,ag,ak,ao,ax,b3,bq,cm⟩:=jM qr;simp only [Aa,and_true] at ac;obtain ⟨rfl,rfl,rfl,rfl,rfl⟩:=ac;obtain ⟨ad,aw,rfl,bf⟩:=kD.sl ak;obtain ⟨ai,bj,rfl,cg⟩:=kD.sl ao;obtain ⟨aj,cl,rfl,c2⟩:=kD.sl b3;exact lJ
 exact iI
def kJj {w:Aq} {va L:Ab} {a b:Ar kZ} {g:Bf} {cp:Array Ab} (hg:jH prog g) (G:(kD.slice 122 jC).raw w [va] a) (al:(kD.slice 122 jC).raw w [L] b)
    (J:∀ wr,Qb w wr->∀ (cs ds:Ar Ab) (x y:kZ),jC.raw wr cs x->jC.raw wr ds y->Au prog g (#[.agg cs.toArray,.agg ds.toArray]++cp) wr (λe w'=>e=.returned (.bool (decide (x=y)))/\Qb wr w')) :
    Au prog 134 #[va,L,.func (.func g) #[] cp] w (bQ w (.bool (decide (a=b)))):=by
 obtain ⟨aa,am,rfl,la⟩:=kD.sl G
 obtain ⟨ab,aq,rfl,lb⟩:=kD.sl al
 have av:=yD J;clear J
 unfold jH at hg
 go_enter func134,ntmps134
 by_cases hl:a.length=b.length
 case neg =>
  exact iG
 obtain ⟨hz,a3⟩:=xG
 have HL:=yD hl;clear hl
 go_wp2
 go_loopw [17] (λi wr=>∃ k:Nat,k<=a.length/\i=.int .i64 k/\Hid (a.take k=b.take k)/\Qb w wr) (λi _=>a.length - (Ay i).toNat)
 case atStart=>exact ⟨0,Nat.zero_le _,rfl,yD rfl,bR⟩
 obtain ⟨k,hk,rfl,HN,o⟩:=hrel
 by_cases hlt:k < a.length
 · have X:k < b.length:=vQ;obtain ⟨pb,po,rfl,ba,b9,ch,dh,df,ep,pr,a7,bb,bg,az,au,bn⟩:=kD.kPk (G.below o) (i:=k) bD1 rfl;obtain ⟨qb,qo,rfl,ae,af,ah,cv,cw,br,qr,ap,ar,ay,bo,b2,a4⟩:=kD.kPk (al.below o) (i:=k) bD1 rfl;obtain ⟨hne,D⟩:=A9;generalize a[k]=x at *;generalize b[k]=y at *;have HD:=yD hne;have HX:=yD D;have HR:=yD pr;have N:=yD qr;clear hne D;obtain ⟨b7,Z,bc,an,a8,a6,bh,bz,I,V,bl,bt,bx⟩:=jV pr;simp only [Aa,and_true] at an;obtain ⟨rfl,rfl,rfl,rfl,rfl,rfl⟩:=an;obtain ⟨a2,be,rfl,cd⟩:=kD.sl bh;obtain ⟨b8,ck,rfl,a5⟩:=kD.sl bz;obtain ⟨db,di,rfl,bm⟩:=kD.sl V;obtain ⟨bd,b5,cq,ac,ag,ak,ao,ax,b3,bq,cm,bp,bi⟩:=jV qr;simp only [Aa,and_true] at ac;obtain ⟨rfl,rfl,rfl,rfl,rfl,rfl⟩:=ac;obtain ⟨ad,aw,rfl,bf⟩:=kD.sl ao;obtain ⟨ai,bj,rfl,cg⟩:=kD.sl ax;obtain ⟨aj,cl,rfl,c2⟩:=kD.sl bq;exact lJ
 exact iI
def jAy {w:Aq} {va L:Ab} {a b:Ar UInt8} (G:(kD.slice 5 kD.byte).raw w [va] a) (al:(kD.slice 5 kD.byte).raw w [L] b) :
    Au prog 133 #[va,L] w (bQ w (.bool (decide (a=b)))):=by
 obtain ⟨aa,am,rfl,la⟩:=kD.sl G
 obtain ⟨ab,aq,rfl,lb⟩:=kD.sl al
 go_enter func133,ntmps133
 by_cases hl:a.length=b.length
 case neg =>
  exact iG
 obtain ⟨hz,a3⟩:=xG
 have HL:=yD hl;clear hl
 go_wp2
 go_loopw [13] (λi wr=>∃ k:Nat,k<=a.length/\i=.int .i64 k/\Hid (a.take k=b.take k)/\Qb w wr) (λi _=>a.length - (Ay i).toNat)
 case atStart=>exact ⟨0,Nat.zero_le _,rfl,yD rfl,bR⟩
 exact uL
def kJl (x y:jL):Bool:=(((eqN x.1 y.1 && decide (x.2.1=y.2.1)) && eqN x.2.2.1 y.2.2.1) && (x.2.2.2.1==y.2.2.2.1)) && (x.2.2.2.2==y.2.2.2.2)
def vData_eq (x y:jL):kJl x y=decide (x=y):=by
 obtain ⟨x0,x1,x2,x3,x4⟩:=x;obtain ⟨y0,y1,y2,y3,y4⟩:=y;rw [Bool.eq_iff_iff];simp [kJl,eqN,and_assoc]
def kTh {w:Aq} {cx:Ar Ab} {x:jL} (hx:jF.raw w cx x) {cy:Ar Ab} {y:jL} (hy:jF.raw w cy y) :
    Au prog 69 #[.agg cx.toArray,.agg cy.toArray] w (bQ w (.bool (kJl x y))):=by
 have Hx:=yD hx
 obtain ⟨ax,bg,bb,rfl,I,o,ad,ah,am,aw,az⟩:=jM hx
 obtain ⟨ac,Y,rfl,av⟩:=kD.sl o
 obtain ⟨au,ap,rfl,bf⟩:=kD.sl ad
 obtain ⟨ar,ao,rfl,bd⟩:=kD.sl am
 have Hy:=yD hy
 obtain ⟨a3,bh,bm,rfl,aj,ai,an,aq,X,a2,ba⟩:=jM hy
 obtain ⟨al,ak,rfl,a9⟩:=kD.sl ai
 obtain ⟨a6,a7,rfl,bk⟩:=kD.sl an
 obtain ⟨a1,a5,rfl,bl⟩:=kD.sl X
 go_enter func69,ntmps69
 go_upto_region 1 with fail
 generalize J:World.alloc (World.alloc w _) _=N
 obtain ⟨R,L⟩:=xW
 obtain ⟨Z,af,V,ay,D,ae,ag,a8,a4⟩:=BP
 clear J
 have FX:=yD (λ(W:Aq) (hW:Qb N W)=>cLs10 hW L Z af V ay D ae ag a8 a4)
 refine ky (λW=>Qb N W) [Tt,Tt,Tt,Tt,Ff,Tt,Tt,Tt,Tt,Tt,Ff,Tt,Tt,Tt,Tt,Tt,Tt,Ff,Tt,Tt,Tt,Tt,Tt,Tt,Tt,Tt,Tt,Tt,Tt,Tt,Tt,Tt,Tt,Tt] bR ?_
 intro wS E
 iterate 4
  all_goals refine kX ?_
 all_goals first | refine wkB (yA (kD.raw.below I (tQ R E)) (kD.raw.below aj (tQ R E))) (λwS1 E=>?_) | refine kX ?_
 all_goals (refine jd λb H=>?_;cases b <;> try simp only [jc] at H)
 iterate 4
  all_goals refine kX ?_
 all_goals first | refine wkB (jAy (kD.raw.below ad (tQ R E)) (kD.raw.below an (tQ R E))) (λwS1 E=>?_) | refine kX ?_
 all_goals refine kX ?_
 all_goals (refine jd λb ab=>?_;cases b <;> try simp only [jc] at ab)
 iterate 4
  all_goals refine kX ?_
 all_goals first | refine wkB (yA (kD.raw.below ah (tQ R E)) (kD.raw.below aq (tQ R E))) (λwS1 E=>?_) | refine kX ?_
 all_goals refine kX ?_
 all_goals (refine jd λb aa=>?_;cases b <;> try simp only [jc] at aa)
 iterate 6
  all_goals refine kX ?_
 all_goals (refine jd λb G=>?_;cases b <;> try simp only [jc] at G)
 iterate 6
  all_goals refine kX ?_
 all_goals (refine jd λb O=>?_;cases b <;> try simp only [jc] at O)
 all_goals refine kR ?_
 all_goals have F:=(tQ R E)
 all_goals first
   | (have U:=yD (show (kJl x y)=false by simp only [kJl,Ag,Ac,Ah,Ai,Ad,Ae,Al,Am,Aj,Ak,Ap,H,ab,aa,G,O]);go_wp2;go_ret;exact ⟨kK U.out.symm,F⟩)
   | (have U:=yD (show (kJl x y)=true by simp only [kJl,Ag,Ac,Ah,Ai,Ad,Ae,Al,Am,Aj,Ak,Ap,H,ab,aa,G,O]);go_wp2;go_ret;exact ⟨kK U.out.symm,F⟩)
def kJx {w:Aq} {cx:Ar Ab} {x:jL} (hx:jF.raw w cx x) {cy:Ar Ab} {y:jL} (hy:jF.raw w cy y) :
    Au prog 69 #[.agg cx.toArray,.agg cy.toArray] w (bQ w (.bool (decide (x=y)))):=by
 have h:=kTh hx hy
 rw [vData_eq] at h
 exact h
def isD (n:kr) (x:jL):Bool:=eqN x.1 n
def fresh (t:Int) (x:jL):Bool:=decide (t<=x.2.2.2.1)
def kKx (n:kr) (t:Int) (x:kZ):Bool:=eqN x.1.1 n && fresh t x.1
def kKg:jL:=([],[],[],0,0)
def lkD (n:kr) (t:Int) (l:Ar kZ):jL:=if idxOf (kKx n t) l < 0 then kKg else (l.getD (idxOf (kKx n t) l).toNat (kKg,0)).1
def lkOk (n:kr) (t:Int) (l:Ar kZ):Bool:=!decide (idxOf (kKx n t) l < 0)
def lk_no {n:kr} {t:Int} {l:List kZ} (h:idxOf (kKx n t) l=-1):lkOk n t l=false/\lkD n t l=kKg:=by simp [lkOk,lkD,h]
def lk_yes {n:kr} {t:Int} {l:Ar kZ} {j:Nat} (I:j < l.length) (h:idxOf (kKx n t) l=j):lkOk n t l=true/\lkD n t l=l[j].1:=by
 unfold lkOk lkD;rw [h,Bd,jZ I,if_neg bD1,decide_eq_false bD1];exact ⟨rfl,rfl⟩
def kQa {α β:Type} {e:TypeId} {r:kD α} {q:kD β} {w:Aq} {ds:Ar Ab} {y:β} {S:Nat->Prop} (h:q.own w ds y S):(kD.pair (kD.slice e r) q).own w ([.slice none 0 0]++ds) ([],y) S :=
  kD.jY (A:=λ_=>False) (B:=S) kD.jr h (λ_ h=>h.elim) (λ_ h=>h) (λ_ h _=>h)
def kXr {w:Aq} {S:Nat->Prop}:jF.own w [.slice none 0 0,.slice none 0 0,.slice none 0 0,Qn 0,Qn 0] kKg S :=
  kQa (kQa (kQa (kD.jY (A:=λ_=>False) (B:=λ_=>False) (cs:=[.int .i64 0]) (ds:=[.int .i64 0]) (kD.flat.own (kD.jG (n:=0) bD1)) (kD.flat.own (kD.jG (n:=0) bD1)) (λ_ h=>h.elim) (λ_ h=>h.elim) (λ_ h _=>h))))
def kMm {w:Aq} {vl:Ab} {l:(Ar jL)} (hl:(kD.slice 38 jF).raw w [vl] l) {cn:Ar Ab} {n:kr} (hn:kW.raw w cn n) :
    Au prog 41 #[vl,.agg cn.toArray] w (bQ w (.int .i64 (idxOf (isD n) l))):=by
 obtain ⟨al,pl,rfl,ll⟩:=kD.sl hl
 have Y:=yD hn
 obtain ⟨L,rfl,H⟩:=ko hn
 obtain ⟨I,G,rfl,V⟩:=kD.sl H
 go_enter func41,ntmps41
 go_wp2
 generalize J:World.alloc w _=N
 obtain ⟨R,D⟩:=xZ
 clear J
 replace hl:=hl.below R
 go_loopw [5] (λi wr=>∃ k:Nat,k<=l.length/\i=.int .i64 k/\Hid (∀ j,(h:j < k)->(h2:j < l.length)->(isD n) l[j]=false)/\Qb N wr) (λi _=>l.length - (Ay i).toNat)
 case atStart=>exact ⟨0,Nat.zero_le _,rfl,yD (λ_ h=>by omega),bR⟩
 obtain ⟨k,hk,rfl,HN,o⟩:=hrel
 replace D:=cL o D
 by_cases hlt:k < l.length
 · obtain ⟨qb,qo,rfl,ae,af,ah,cv,cw,qr,ap,ar,ay,bo,b2⟩:=kD.get5 (hl.below o) (i:=k) bD1 rfl;obtain ⟨au,Z⟩:=DJ;generalize l[k]=x at *;have HD:=yD au;have HX:=yD Z;clear au Z;obtain ⟨x0,x1,x2,x3,x4⟩:=x;obtain ⟨bd,b5,cq,ac,ag,ak,ao,ax,b3,bq,cm⟩:=jM qr;simp only [Aa,and_true] at ac;obtain ⟨rfl,rfl,rfl,rfl,rfl⟩:=ac;obtain ⟨ad,aw,rfl,bf⟩:=kD.sl ak;obtain ⟨ai,bj,rfl,cg⟩:=kD.sl ao;obtain ⟨aj,cl,rfl,c2⟩:=kD.sl b3;go_upto_region 4 with fail;have FX:=yD (λ(W:Aq) (hW:Qb wr W)=>kGx hW D ap ar ay bo b2);refine kM (λW=>Qb wr W) [Tt,Tt,Tt,Tt,Tt,Tt,Ff] bC5 bC5 pY (bR.drew) ?_;intro wS E;iterate 6
    all_goals refine kX ?_
   all_goals first | refine wkB (zD (kD.raw.below ag E) (kD.raw.below Y.out ((tQ R (tQ o E))))) (λwS1 E=>?_) | refine kX ?_
   all_goals refine kR ?_
   all_goals cases c1:eqN x0 n
   all_goals have F:=(tQ o E)
   all_goals first
     | (have U:=yD (HD.out (show _=true by simp only [isD,Ag,Ac,Ah,Ai,Ad,Ae,Al,Am,Aj,Ak,Ap,c1]));clear HD HX;go_wp2;go_ret;exact ⟨jX U.out.symm,(tQ R F)⟩)
     | (have U:=yD (HX.out (show _=false by simp only [isD,Ag,Ac,Ah,Ai,Ad,Ae,Al,Am,Aj,Ak,Ap,c1]));clear HD HX;go_wp2;go_roundw;(case rel=>exact ⟨k + 1,by omega,by go_num,U,F⟩);(case measure=>simp [Ay];omega))
 exact iN
def kWc {w:Aq} {cx:Ar Ab} {x:jL} (hx:jF.raw w cx x) {n:kr} {cc:Ab} {X:Nat} (nr:kW.raw w [cc] n) (aj:Qc w X 0 cc) :
    Au prog 105 (#[.agg cx.toArray]++#[.pointer (some ⟨X,0,none⟩)]) w (bQ w (.bool (isD n x))):=by
 have Hx:=yD hx
 obtain ⟨ax,bg,bb,rfl,I,o,ad,ah,am,aw,az⟩:=jM hx
 obtain ⟨ac,Y,rfl,av⟩:=kD.sl o
 obtain ⟨au,ap,rfl,bf⟩:=kD.sl ad
 obtain ⟨ar,ao,rfl,bd⟩:=kD.sl am
 obtain ⟨G,a1,a9⟩:=ko nr
 simp only [Aa,and_true] at a1
 obtain rfl:=a1
 obtain ⟨el,aa,rfl,ab⟩:=kD.sl a9
 show Au prog 105 #[_,_] w _
 go_enter func105,ntmps105
 go_upto_region 1 with fail
 generalize J:World.alloc w _=N
 obtain ⟨R,L⟩:=xW
 have Z:Qd N w 1 (.slice au (x.2.1).length ap):=tT
 have af:Qd N w 2 (.slice ar (x.2.2.1).length ao):=tT
 have V:Qd N w 3 (.int .i64 x.2.2.2.1):=tT
 have ay:Qd N w 4 (.int .i64 x.2.2.2.2):=tT
 clear J
 replace aj:=cL R aj
 have FX:=yD (λ(W:Aq) (hW:Qb N W)=>kGx hW L Z af V ay aj)
 refine ky (λW=>Qb N W) [Tt,Tt,Tt,Ff,Tt] bR ?_
 intro wS E
 iterate 3
  all_goals refine kX ?_
 all_goals first | refine wkB (yA (kD.raw.below I (tQ R E)) (kD.raw.below nr (tQ R E))) (λwS1 E=>?_) | refine kX ?_
 all_goals (refine jd λb O=>?_;cases b <;> try simp only [jc] at O)
 all_goals refine kR ?_
 all_goals have F:=(tQ R E)
 all_goals first
   | (have U:=yD (show (isD n x)=false by simp only [isD,Ag,Ac,Ah,Ai,Ad,Ae,Al,Am,Aj,Ak,Ap,O]);go_wp2;go_ret;exact ⟨kK U.out.symm,F⟩)
   | (have U:=yD (show (isD n x)=true by simp only [isD,Ag,Ac,Ah,Ai,Ad,Ae,Al,Am,Aj,Ak,Ap,O]);go_wp2;go_ret;exact ⟨kK U.out.symm,F⟩)
def kIp:jH prog 105:=yR func105 bC5 bC5
def kMw {w:Aq} {vl:Ab} {l:(Ar jL)} (hl:(kD.slice 38 jF).raw w [vl] l) {cn:Ar Ab} {n:kr} (hn:kW.raw w cn n) :
    Au prog 39 #[vl,.agg cn.toArray] w (bQ w (.int .i64 (idxOf (isD n) l))):=by
 obtain ⟨al,pl,rfl,ll⟩:=kD.sl hl
 have Y:=yD hn
 obtain ⟨L,rfl,H⟩:=ko hn
 obtain ⟨I,G,rfl,V⟩:=kD.sl H
 go_enter func39,ntmps39
 go_upto_region 1 with fail
 generalize J:World.alloc w _=N
 obtain ⟨R,D⟩:=xZ
 clear J
 go_wp2_with fail
 refine (kQy (isD n) kIp (kD.raw.below hl R) ?_).mono ?_
 · intro wr hb i h cs hr;exact kWc hr (kD.raw.below Y.out (tQ R hb)) (cL hb D)
 exact iO
def kXj {w:Aq} {cx:Ar Ab} {x:jL} (hx:jF.raw w cx x) {t:Int} :
    Au prog 108 #[.agg cx.toArray,.int .i64 t] w (bQ w (.bool (fresh t x))):=by
 obtain ⟨v0,v1,v2,rfl,G,aq,ba,a3,au,a4,a6⟩:=jM hx
 have U:=yD (show fresh t x=decide (t<=x.2.2.2.1) from rfl)
 clear hx G aq ba a3 au a4 a6
 go_enter func108,ntmps108
 go_wp2
 go_ret
 exact ⟨kK U.out.symm,bG⟩
def kXo {w:Aq} {cx:Ar Ab} {x:jL} (hx:jF.raw w cx x) {t:Int} :
    Au prog 106 #[.agg cx.toArray,.int .i64 t] w (bQ w (.bool (fresh t x))):=by
 obtain ⟨v0,v1,v2,rfl,G,aq,ba,a3,au,a4,a6⟩:=jM hx
 have U:=yD (show fresh t x=decide (t<=x.2.2.2.1) from rfl)
 clear hx G aq ba a3 au a4 a6
 go_enter func106,ntmps106
 go_wp2
 go_ret
 exact ⟨kK U.out.symm,bG⟩
def kOp {w:Aq} {cs:Ar Ab} {x:kg} (hx:kP.rd w cs x) {cn:Ar Ab} {n:kr} (hn:kW.rd w cn n) {t:Int} :
    Au prog 42 #[.agg cs.toArray,.agg cn.toArray,.int .i64 t] w λe w'=>∃ ds,e=.returned (.tuple #[.agg ds.toArray,.bool (lkOk n t x.2)])/\jF.own w' ds (lkD n t x.2) (jU w.heap.size w'.heap.size)/\Qb w w':=by
 have HN:=yD hn
 obtain ⟨sv,rfl,a3,G⟩:=jI hx.1
 have O:=yD (show (kD.slice 122 jC).rd w [sv] x.2 from ⟨G,hx.2.2⟩)
 obtain ⟨c,l⟩:=x
 have HL:Hid ((kD.slice 122 jC).rd w [sv] l):=O
 clear O
 obtain ⟨nv,rfl,a9⟩:=ko hn.1
 obtain ⟨an,a7,rfl,ln⟩:=kD.sl a9
 obtain ⟨aa,am,rfl,la⟩:=kD.sl G
 clear hn hx a9 a3 G
 show Au prog 42 _ w λe w'=>∃ ds,e=.returned (.tuple #[.agg ds.toArray,.bool (lkOk n t l)])/\jF.own w' ds (lkD n t l) (jU w.heap.size w'.heap.size)/\Qb w w'
 go_enter func42,ntmps42
 go_wp2
 generalize J:World.alloc (World.alloc (World.alloc w _) _) _=N
 obtain ⟨R,az,K1,K2,XR⟩:=EB
 clear J
 replace HL:=yD (kD.rd.below HL.out R)
 go_loopw [8] (λi wr=>∃ k:Nat,k<=l.length/\i=.int .i64 k/\Hid (∀ j,(h:j < k)->(h2:j < l.length)->kKx n t l[j]=false)/\Qb N wr) (λi _=>l.length - (Ay i).toNat)
 case atStart=>exact ⟨0,Nat.zero_le _,rfl,yD (λ_ h=>by omega),bR⟩
 obtain ⟨k,hk,rfl,HW,o⟩:=hrel
 replace K1:=cL o K1
 replace K2:=cL o K2
 replace XR:=yD (kC XR.out o)
 by_cases hlt:k < l.length
 · have al:=(kD.yh HL.out hlt).1;have bk:=Az k;have co:=Bc.2 hlt;obtain ⟨qb,qo,rfl,ae,af,ah,cv,cw,br,qr,ap,ar,ay,bo,b2,a4⟩:=kD.kPk (HL.out.1.below o) (i:=k) bD1 rfl;have au:=λq=>lk_yes hlt (idxOf_hit (p:=kKx n t) hlt q HW.out);have Z:=λq=>kBd (p:=kKx n t) hlt q HW.out;generalize l[k]=x at *;have HD:=yD au;have HX:=yD Z;clear au Z;obtain ⟨bd,b5,cq,ac,ag,ak,ao,ax,b3,bq,cm,bp,bi⟩:=jV qr;simp only [Aa,and_true] at ac;obtain ⟨rfl,rfl,rfl,rfl,rfl,rfl⟩:=ac;obtain ⟨ad,aw,rfl,bf⟩:=kD.sl ao;obtain ⟨ai,bj,rfl,cg⟩:=kD.sl ax;obtain ⟨aj,cl,rfl,c2⟩:=kD.sl bq;have HR:=yD (show jF.rd wr _ x.1 from ⟨ag,al⟩);clear al;go_upto_region 4 with fail;have FX:=yD (λ(W:Aq) (hW:Qb wr W)=>cLs8 hW K1 K2 ap ar ay bo b2 a4);refine kM (λW=>Qb wr W) [Tt,Tt,Tt,Tt,Tt,Tt,Tt,Tt,Ff,Tt,Tt,Tt,Tt,Tt,Tt,Tt,Tt,Ff,Tt] bC5 bC5 pY (bR.drew) ?_;intro wS E;iterate 8
    all_goals refine kX ?_
   all_goals first | refine wkB (zD (kD.raw.below ak E) (HN.out.1.below ((tQ R (tQ o E))))) (λwS1 E=>?_) | refine kX ?_
   all_goals (refine jd λb c4=>?_;cases b <;> try simp only [jc] at c4)
   iterate 7
    all_goals refine kX ?_
   all_goals first | refine wkB (kXj (kD.raw.below ag E)) (λwS1 E=>?_) | refine kX ?_
   all_goals (refine jd λb D=>?_;cases b <;> try simp only [jc] at D)
   all_goals refine kR ?_
   all_goals have F:=(tQ R (tQ o E))
   all_goals have a6:w.heap.size + 3<=wr.heap.size:=vU
   all_goals cases hv:kKx n t x
   all_goals first
     | (exfalso;simp only [kKx,Ag,Ac,Ah,Ai,Ad,Ae,Al,Am,Aj,Ak,Ap,c4,D] at hv;exact Be hv)
     | have U:=yD (HD.out hv)
     | have U:=yD (HX.out hv)
   all_goals clear HD HX hv
   all_goals first
     | (go_wp2;go_roundw;(case rel=>exact ⟨k + 1,by omega,by go_num,U,(tQ o E)⟩);(case measure=>simp [Ay];omega);done)
     | skip
   replace ap:=cL E ap;replace ar:=cL E ar;replace ay:=cL E ay;replace bo:=cL E bo;replace b2:=cL E b2;replace a4:=cL E a4;replace K1:=cL E K1;have RX:=HR.out.below E;have a5:=Bb E;have Y:=yD (kC (kC XR.out E) bR);clear E XR HR;go_wp2_with fail;refine (kAu (RX.below bG)).mono ?_;rintro e V ⟨cd,rfl,O2,ab⟩;obtain ⟨v0,v1,v2,rfl,b4,be,av,c5,bl,c3,ca⟩:=jM O2.raw;obtain ⟨a0,p0,rfl,_⟩:=kD.sl be;obtain ⟨a1,p1,rfl,_⟩:=kD.sl av;obtain ⟨a2,p2,rfl,_⟩:=kD.sl bl;clear b4 be av c5 bl c3 ca;have EF:Qb w V:=F.trans (Below.mono (Aw bG ab) F.size);have L:=yD O2;have a8:=F.size;have X:=kC Y.out (Aw bG ab);clear O2 ab RX Y F;obtain ⟨R0,F0,R1,F1,R2,F2,R3,F3,R4,F4⟩:=xC;go_wp2;refine Ba (v:=.tuple #[.agg #[Qs a0 x.1.1 p0,Qs a1 x.1.2.1 p1,Qs a2 x.1.2.2.1 p2,Qn x.1.2.2.2.1,Qn x.1.2.2.2.2],.bool true]) fJ rfl ⟨[_,_,_,_,_],by rw [U.out.1],?_,?_⟩
   · rw [U.out.2];exact (kD.own.out L.out dX).wide fZ
   repeat (first|(with_reducible exact EF) | refine Av ?_ rE _)
 obtain ⟨U,F,X,b6,R0,F0,R1,F1,R2,F2,R3,F3,R4,F4⟩:=AY
 go_wp2
 refine Ba (v:=.tuple #[.agg #[.slice none 0 0,.slice none 0 0,.slice none 0 0,Qn 0,Qn 0],.bool false]) fJ rfl ⟨[_,_,_,_,_],by rw [U.out.1],?_,?_⟩
 · rw [U.out.2];exact kXr
 repeat (first|(with_reducible exact F) | refine Av ?_ rE _)
def kPj {w:Aq} {cs:Ar Ab} {x:kg} (hx:kP.rd w cs x) {cn:Ar Ab} {n:kr} (hn:kW.rd w cn n) {t:Int} :
    Au prog 40 #[.agg cs.toArray,.agg cn.toArray,.int .i64 t] w λe w'=>∃ ds,e=.returned (.tuple #[.agg ds.toArray,.bool (lkOk n t x.2)])/\jF.own w' ds (lkD n t x.2) (jU w.heap.size w'.heap.size)/\Qb w w':=by
 have HN:=yD hn
 obtain ⟨sv,rfl,a3,G⟩:=jI hx.1
 have O:=yD (show (kD.slice 122 jC).rd w [sv] x.2 from ⟨G,hx.2.2⟩)
 obtain ⟨c,l⟩:=x
 have HL:Hid ((kD.slice 122 jC).rd w [sv] l):=O
 clear O
 obtain ⟨nv,rfl,a9⟩:=ko hn.1
 obtain ⟨an,a7,rfl,ln⟩:=kD.sl a9
 obtain ⟨aa,am,rfl,la⟩:=kD.sl G
 clear hn hx a9 a3 G
 show Au prog 40 _ w λe w'=>∃ ds,e=.returned (.tuple #[.agg ds.toArray,.bool (lkOk n t l)])/\jF.own w' ds (lkD n t l) (jU w.heap.size w'.heap.size)/\Qb w w'
 go_enter func40,ntmps40
 go_wp2
 generalize J:World.alloc (World.alloc (World.alloc w _) _) _=N
 obtain ⟨R,az,K1,K2,XR⟩:=EB
 clear J
 replace HL:=yD (kD.rd.below HL.out R)
 go_loopw [13] (λi wr=>∃ k:Nat,k<=l.length/\i=.int .i64 k/\Hid (∀ j,(h:j < k)->(h2:j < l.length)->kKx n t l[j]=false)/\Qb N wr) (λi _=>l.length - (Ay i).toNat)
 case atStart=>exact ⟨0,Nat.zero_le _,rfl,yD (λ_ h=>by omega),bR⟩
 obtain ⟨k,hk,rfl,HW,o⟩:=hrel
 replace K1:=cL o K1
 replace K2:=cL o K2
 replace XR:=yD (kC XR.out o)
 by_cases hlt:k < l.length
 · have al:=(kD.yh HL.out hlt).1;have bk:=Az k;have co:=Bc.2 hlt;obtain ⟨qb,qo,rfl,ae,af,ah,cv,cw,br,qr,ap,ar,ay,bo,b2,a4⟩:=kD.kPk (HL.out.1.below o) (i:=k) bD1 rfl;have au:=λq=>lk_yes hlt (idxOf_hit (p:=kKx n t) hlt q HW.out);have Z:=λq=>kBd (p:=kKx n t) hlt q HW.out;generalize l[k]=x at *;have HD:=yD au;have HX:=yD Z;clear au Z;obtain ⟨bd,b5,cq,ac,ag,ak,ao,ax,b3,bq,cm,bp,bi⟩:=jV qr;simp only [Aa,and_true] at ac;obtain ⟨rfl,rfl,rfl,rfl,rfl,rfl⟩:=ac;obtain ⟨ad,aw,rfl,bf⟩:=kD.sl ao;obtain ⟨ai,bj,rfl,cg⟩:=kD.sl ax;obtain ⟨aj,cl,rfl,c2⟩:=kD.sl bq;have HR:=yD (show jF.rd wr _ x.1 from ⟨ag,al⟩);clear al;go_upto_region 4 with fail;generalize D:World.alloc wr _=wC;obtain ⟨EC,M0,M1,M2,M3,M4,M5⟩:=A8;replace K2:=cL EC K2;clear D;have FX:=yD (λ(W:Aq) (hW:Qb wC W)=>cLs7 hW K2 M0 M1 M2 M3 M4 M5);refine ky (λW=>Qb wC W) [Tt,Tt,Tt,Tt,Ff,Tt,Tt,Tt,Tt,Ff,Tt] bR ?_;intro wS E;iterate 4
    all_goals refine kX ?_
   all_goals first | refine wkB (yA (kD.raw.below ak (tQ EC E)) (HN.out.1.below ((tQ R ((tQ o (tQ EC E))))))) (λwS1 E=>?_) | refine kX ?_
   all_goals (refine jd λb H=>?_;cases b <;> try simp only [jc] at H)
   iterate 3
    all_goals refine kX ?_
   all_goals first | refine wkB (kXo (kD.raw.below ag (tQ EC E))) (λwS1 E=>?_) | refine kX ?_
   all_goals (refine jd λb aq=>?_;cases b <;> try simp only [jc] at aq)
   all_goals refine kR ?_
   all_goals have F:=(tQ R ((tQ o (tQ EC E))))
   all_goals have a6:w.heap.size + 3<=wr.heap.size:=vU
   all_goals cases hv:kKx n t x
   all_goals first
     | (exfalso;simp only [kKx,Ag,Ac,Ah,Ai,Ad,Ae,Al,Am,Aj,Ak,Ap,H,aq] at hv;exact Be hv)
     | have U:=yD (HD.out hv)
     | have U:=yD (HX.out hv)
   all_goals clear HD HX hv
   all_goals first
     | (go_wp2;go_roundw;(case rel=>exact ⟨k + 1,by omega,by go_num,U,((tQ o (tQ EC E)))⟩);(case measure=>simp [Ay];omega);done)
     | skip
   replace M0:=cL E M0;replace M1:=cL E M1;replace M2:=cL E M2;replace M3:=cL E M3;replace M4:=cL E M4;replace M5:=cL E M5;have RX:=HR.out.below (tQ EC E);have a5:=Bb (tQ EC E);have Y:=yD (kC (kC XR.out (tQ EC E)) bR);clear E XR HR;go_wp2_with fail;refine (kCs (RX.below bG)).mono ?_;rintro e V ⟨cd,rfl,O2,ab⟩;obtain ⟨v0,v1,v2,rfl,b4,be,av,c5,bl,c3,ca⟩:=jM O2.raw;obtain ⟨a0,p0,rfl,_⟩:=kD.sl be;obtain ⟨a1,p1,rfl,_⟩:=kD.sl av;obtain ⟨a2,p2,rfl,_⟩:=kD.sl bl;clear b4 be av c5 bl c3 ca;have EF:Qb w V:=F.trans (Below.mono (Aw bG ab) F.size);have L:=yD O2;have a8:=F.size;have X:=kC Y.out (Aw bG ab);clear O2 ab RX Y F;obtain ⟨R0,F0,R1,F1,R2,F2,R3,F3,R4,F4⟩:=xC;go_wp2;refine Ba (v:=.tuple #[.agg #[Qs a0 x.1.1 p0,Qs a1 x.1.2.1 p1,Qs a2 x.1.2.2.1 p2,Qn x.1.2.2.2.1,Qn x.1.2.2.2.2],.bool true]) fK rfl ⟨[_,_,_,_,_],by rw [U.out.1],?_,?_⟩
   · rw [U.out.2];exact (kD.own.out L.out dX).wide fZ
   repeat (first|(with_reducible exact EF) | refine Av ?_ rE _)
 obtain ⟨U,F,X,b6,R0,F0,R1,F1,R2,F2,R3,F3,R4,F4⟩:=AY
 go_wp2
 refine Ba (v:=.tuple #[.agg #[.slice none 0 0,.slice none 0 0,.slice none 0 0,Qn 0,Qn 0],.bool false]) fK rfl ⟨[_,_,_,_,_],by rw [U.out.1],?_,?_⟩
 · rw [U.out.2];exact kXr
 repeat (first|(with_reducible exact F) | refine Av ?_ rE _)
def isK (n:kr) (k:kOb):Bool:=eqN k.1 n
def kBp (l:Ar kOb) (n:kr):Int:=if idxOf (isK n) l < 0 then 0 else (l.getD (idxOf (isK n) l).toNat ([],0)).2
def kNo (l:Ar kOb) (n:kr):Ar UInt8:=if kBp l n=0 then [] else kEz (digest [kBp l n])
section
variable {l:Ar kOb} {n:kr} {k:Nat}
def sec_yes (hk:k < l.length) (h:idxOf (isK n) l=k):kBp l n=l[k].2:=by
 unfold kBp;rw [h,Bd,jZ hk,if_neg bD1]
def sec_rng {w:Aq} {vl:Ab} (hl:(kD.slice 199 kJh).raw w [vl] l):-9223372036854775808<=kBp l n/\kBp l n<=9223372036854775807:=by
 by_cases h:idxOf (isK n) l < 0
 · unfold kBp;rw [if_pos h];omega
 obtain ⟨j,I,F⟩:=idxOf_ge h;rw [sec_yes I F];obtain ⟨al,pl,rfl,ll⟩:=kD.sl hl;obtain ⟨qb,qo,E,ae,af,qr,_,_⟩:=kD.get2 hl I rfl;obtain ⟨v0,he,_,_,h3⟩:=kWx qr;exact h3
def keyDig_no (h:kBp l n=0):kNo l n=[]:=by unfold kNo;rw [if_pos h]
def keyDig_yes (h:¬ kBp l n=0):kNo l n=[]++kEz (digest [kBp l n]):=by unfold kNo;rw [if_neg h];rfl
def keyDig_len:(kNo l n).length<=6:=by
 unfold kNo;split
 · simp
 exact kHy _
end
def kZq {w:Aq} {vl:Ab} {l:(Ar kOb)} (hl:(kD.slice 199 kJh).raw w [vl] l) {cn:Ar Ab} {n:kr} (hn:kW.raw w cn n) :
    Au prog 232 #[vl,.agg cn.toArray] w (bQ w (.int .i64 (idxOf (isK n) l))):=by
 obtain ⟨al,pl,rfl,ll⟩:=kD.sl hl
 have Y:=yD hn
 obtain ⟨L,rfl,H⟩:=ko hn
 obtain ⟨I,G,rfl,V⟩:=kD.sl H
 go_enter func232,ntmps232
 go_wp2
 generalize J:World.alloc w _=N
 obtain ⟨R,D⟩:=xZ
 clear J
 replace hl:=hl.below R
 go_loopw [5] (λi wr=>∃ k:Nat,k<=l.length/\i=.int .i64 k/\Hid (∀ j,(h:j < k)->(h2:j < l.length)->(isK n) l[j]=false)/\Qb N wr) (λi _=>l.length - (Ay i).toNat)
 case atStart=>exact ⟨0,Nat.zero_le _,rfl,yD (λ_ h=>by omega),bR⟩
 obtain ⟨k,hk,rfl,HN,o⟩:=hrel
 replace D:=cL o D
 by_cases hlt:k < l.length
 · obtain ⟨qb,qo,rfl,ae,af,qr,ap,ar⟩:=kD.get2 (hl.below o) (i:=k) bD1 rfl;obtain ⟨au,Z⟩:=DJ;generalize l[k]=x at *;have HD:=yD au;have HX:=yD Z;clear au Z;obtain ⟨x0,x1⟩:=x;obtain ⟨bd,ac,ag,ak,ao⟩:=kWx qr;simp only [Aa,and_true] at ac;obtain ⟨rfl,rfl⟩:=ac;obtain ⟨ad,aw,rfl,bf⟩:=kD.sl ak;go_upto_region 4 with fail;have FX:=yD (λ(W:Aq) (hW:Qb wr W)=>kKb hW D ap ar);refine kM (λW=>Qb wr W) [Tt,Tt,Tt,Tt,Tt,Tt,Ff] bC5 bC5 pY (bR.drew) ?_;intro wS E;iterate 6
    all_goals refine kX ?_
   all_goals first | refine wkB (zD (kD.raw.below ag E) (kD.raw.below Y.out ((tQ R (tQ o E))))) (λwS1 E=>?_) | refine kX ?_
   all_goals refine kR ?_
   all_goals cases c1:eqN x0 n
   all_goals have F:=(tQ o E)
   all_goals first
     | (have U:=yD (HD.out (show _=true by simp only [isK,Ag,Ac,Ah,Ai,Ad,Ae,Al,Am,Aj,Ak,Ap,c1]));clear HD HX;go_wp2;go_ret;exact ⟨jX U.out.symm,(tQ R F)⟩)
     | (have U:=yD (HX.out (show _=false by simp only [isK,Ag,Ac,Ah,Ai,Ad,Ae,Al,Am,Aj,Ak,Ap,c1]));clear HD HX;go_wp2;go_roundw;(case rel=>exact ⟨k + 1,by omega,by go_num,U,F⟩);(case measure=>simp [Ay];omega))
 exact iN
def kDz {w:Aq} {vl:Ab} {l:Ar kOb} (hl:(kD.slice 199 kJh).raw w [vl] l) {cn:Ar Ab} {n:kr} (hn:kW.raw w cn n) :
    Au prog 223 #[vl,.agg cn.toArray] w (bQ w (.int .i64 (kBp l n))):=by
 obtain ⟨al,pl,rfl,ll⟩:=kD.sl hl
 have HL:=yD hl;have HN:=yD hn
 obtain ⟨nv,rfl,a9⟩:=ko hn
 obtain ⟨an,a7,rfl,ln⟩:=kD.sl a9
 clear hl hn a9
 go_enter func223,ntmps223
 go_upto_region 1 with fail
 generalize J:World.alloc w _=N
 have R:Qb w N:=by rw [<- J];exact bG
 have K0:Qd N w 0 (.slice an n.length a7):=tT
 clear J
 go_wp2_with fail
 refine (kZq (HL.out.below R) (HN.out.below R) (cn:=[.slice an n.length a7])).mono ?_
 rintro e w1 ⟨rfl,hb⟩
 have E1:=(tQ R hb)
 clear hb R K0
 by_cases hi:idxOf (isK n) l < 0
 · have U:Hid (kBp l n=0):=yD (by unfold kBp;rw [if_pos hi]);go_wp2;go_ret;exact ⟨jX U.out.symm,E1⟩
 obtain ⟨j,I,F⟩:=idxOf_ge hi
 have U:=yD (sec_yes I F)
 obtain ⟨qb,qo,E,ae,af,qr,ap,ar⟩:=kD.get2 (HL.out.below E1) I rfl
 obtain rfl:=E
 rw [F]
 clear hi F
 generalize l[j]=x at *
 obtain ⟨x0,x1⟩:=x
 obtain ⟨v0,ac,ag,ak,ao⟩:=kWx qr
 simp only [Aa,and_true] at ac
 obtain ⟨rfl,rfl⟩:=ac
 have dn:(j:Int) < l.length:=bD1
 have b0:¬ ((j:Int) < 0):=bD1
 have o:=Az j
 go_wp2
 go_ret
 exact ⟨jX U.out.symm,E1⟩
def kSn {w:Aq} {vl:Ab} {l:Ar kOb} (hl:(kD.slice 199 kJh).raw w [vl] l) {cn:Ar Ab} {n:kr} (hn:kW.raw w cn n) :
    Au prog 222 #[vl,.agg cn.toArray] w (kCl 5 kD.byte (kNo l n) w):=by
 obtain ⟨al,pl,rfl,ll⟩:=kD.sl hl
 have HL:=yD hl;have HN:=yD hn
 have HR:=yD (show I64q (kBp l n) from sec_rng hl)
 obtain ⟨nv,rfl,a9⟩:=ko hn
 obtain ⟨an,a7,rfl,ln⟩:=kD.sl a9
 clear hl hn a9
 go_enter func222,ntmps222
 go_upto_region 1 with fail
 generalize J:World.alloc w _=N
 have R:Qb w N:=by rw [<- J];exact bG
 have K0:Qd N w 0 (.slice an n.length a7):=tT
 clear J
 go_wp2_with fail
 refine (kDz (HL.out.below R) (HN.out.below R) (cn:=[.slice an n.length a7])).mono ?_
 rintro e w1 ⟨rfl,hb⟩
 have E1:=(tQ R hb)
 clear hb R K0
 by_cases h0:kBp l n=0
 · have U:=yD (keyDig_no h0);have D:(kBp l n==0)=true:=bA7;go_wp2;go_ret;exact ⟨_,rfl,(kD.kU.void:kD.kU 5 kD.byte _ _ [] _).cast U.out.symm,(by repeat (first|(with_reducible exact E1) | refine Below.alloc ?_ (by have:=Bb E1;simp;try omega) _ | refine Below.drew ?_ | refine Av ?_ (by have:=Bb E1;simp;try omega) _))⟩
 have U:=yD (keyDig_yes h0)
 have D:(kBp l n==0)=false:=bA7
 generalize kBp l n=s at *
 have o:=((litq (w:=(w1.alloc (.cells #[] 5))) (x:=s) (e:=3) HR.out).own sS).raw
 have RV:=((kD.kU.void (e:=5) (r:=kD.byte) (w:=World.alloc (w1.alloc (.cells #[] 5)) (.cells #[.int .i64 s] 3)) (a:=some ⟨w1.heap.size,0,none⟩) (S:=λ_=>False)).own (Nat.zero_le _)).rd
 clear h0
 go_wp2_with fail
 refine (kOo bC0).mono ?_
 rintro e V ⟨rfl,hw⟩
 obtain rfl:=hw.symm
 go_wp2_with fail
 refine (kDh RV).mono ?_
 rintro e w3 ⟨v3,rfl,O3,ap⟩
 obtain ⟨a3,n3,c3,av,be⟩:=O3.parts;obtain rfl:=av
 have E3:Qb w w3:=E1.trans (Aw (by repeat (first|(with_reducible exact bR) | refine Below.alloc ?_ (by have:=E1.size;simp;try omega) _)) (ap.mono (by have:=E1.size;simp;omega)))
 have ai:=yD (O3.wide (T:=jU w.heap.size w3.heap.size) (λj I=>⟨by have h1:=I.1;have h2:=E1.size;(try simp at h1);omega,I.2⟩))
 clear O3 ap o RV
 go_wp2
 go_ret
 exact ⟨_,rfl,ai.out.cast U.out.symm,E3⟩
def lenN (m:Nat) (x:jq):Prop :=
  (x.1.length<=m/\True)/\(True/\(x.2.1.2.length<=m/\True))/\(x.2.2.1.length<=m/\∀ y∈x.2.2.1,True/\(y.2.1.length<=m/\True))/\(x.2.2.2.1.length<=m/\True)/\(x.2.2.2.2.1.length<=m/\True)/\(x.2.2.2.2.2.1.length<=m/\True)/\True
def lenN.mono {m k:Nat} {x:jq} (h:lenN m x) (hk:m<=k):lenN k x:=by
 obtain ⟨⟨a,_⟩,⟨_,b,_⟩,⟨c,d⟩,⟨e,_⟩,⟨f,_⟩,⟨g,_⟩,_⟩:=h;exact ⟨⟨by omega,trivial⟩,⟨trivial,by omega,trivial⟩,⟨by omega,λy hy=>⟨trivial,by have:=(d y hy).2.1;omega,trivial⟩⟩,⟨by omega,trivial⟩,⟨by omega,trivial⟩,⟨by omega,trivial⟩,trivial⟩
def lenN_mk {m:Nat} {x:jq} (a:x.1.length<=m) (b:x.2.1.2.length<=m) (c:x.2.2.1.length<=m) (d:∀ y∈x.2.2.1,y.2.1.length<=m) (e:x.2.2.2.1.length<=m) (f:x.2.2.2.2.1.length<=m) (g:x.2.2.2.2.2.1.length<=m):lenN m x :=
  ⟨⟨a,trivial⟩,⟨trivial,b,trivial⟩,⟨c,λy hy=>⟨trivial,d y hy,trivial⟩⟩,⟨e,trivial⟩,⟨f,trivial⟩,⟨g,trivial⟩,trivial⟩
def lenT (t:kBu):Prop:=∀ k (h:k < t.2.2.2.length),t.2.2.2[k].2.1.length<=2000000
end Go.Proofs.YtjhfdpopkkmigaaGreat

/-
  Nodes: equal.
-/
import Derived.Test.YthocbplmdjkifaaGreatSoft5
set_option linter.unusedVariables false
set_option linter.defProp false
set_option linter.unusedSimpArgs false
set_option linter.unnecessarySimpa false
set_option maxRecDepth 100000
set_option maxHeartbeats 4000000
open Bool renaming true->Tt,false->Ff
open Bool renaming not_false->Aa,and_false->Ab,false_and->Ac,not_true->Ad,and_true->Ae,true_and->Ag,or_false->Ah,false_or->Ai,or_true->Aj,true_or->Ak,not_not->Al,eq_iff_iff->Am
open Go renaming World->Ap,Value->Aq,Calls->Av
open Int renaming ofNat_lt->Ar,natCast_nonneg->Aw
open _root_ renaming List->Au
open Go.Act renaming put->Ay
namespace Go.Proofs.YthocbplmdjkifaaGreat
open Go.RowKit _root_.Go.Proofs.Tryz
def vDatS (x y:jQ):Bool:=!(!decide (x.1=y.1) || (!decide (x.2.1=y.2.1) || (!decide (x.2.2.1=y.2.2.1) || (!decide (x.2.2.2.1=y.2.2.2.1) || !decide (x.2.2.2.2=y.2.2.2.2)))))
def vDatS_eq (x y:jQ):vDatS x y=decide (x=y):=by
 obtain ⟨x0,x1,x2,x3,x4⟩:=x;obtain ⟨y0,y1,y2,y3,y4⟩:=y;rw [Am];simp [vDatS]
def kUk (x y:jK):Bool:=!((x.2 != y.2) || !eqN x.1 y.1)
def jCv (x y:jK):kUk x y=decide (x=y):=by
 obtain ⟨x0,x1⟩:=x;obtain ⟨y0,y1⟩:=y;rw [Am];simp [kUk,eqN];constructor
 · rintro ⟨h1,h2⟩;exact ⟨h2,h1⟩
 rintro ⟨h1,h2⟩;exact ⟨h2,h1⟩
def kYt (x y:jK):Bool:=eqN x.1 y.1 && (x.2==y.2)
def vSeen_eq (x y:jK):kYt x y=decide (x=y):=by
 obtain ⟨x0,x1⟩:=x;obtain ⟨y0,y1⟩:=y;rw [Am];simp [kYt,eqN]
def vCeS (x y:kr):Bool:=!((x.2 != y.2) || !decide (x.1=y.1))
def vCeS_eq (x y:kr):vCeS x y=decide (x=y):=by
 obtain ⟨x0,x1⟩:=x;obtain ⟨y0,y1⟩:=y;rw [Am];simp [vCeS];constructor
 · rintro ⟨h1,h2⟩;exact ⟨h2,h1⟩
 rintro ⟨h1,h2⟩;exact ⟨h2,h1⟩
def vCe (x y:kr):Bool:=decide (x.1=y.1) && (x.2==y.2)
def vCe_eq (x y:kr):vCe x y=decide (x=y):=by
 obtain ⟨x0,x1⟩:=x;obtain ⟨y0,y1⟩:=y;rw [Am];simp [vCe]
def vSt (x y:kg):Bool:=(x.1==y.1) && decide (x.2=y.2)
def vSt_eq (x y:kg):vSt x y=decide (x=y):=by
 obtain ⟨x0,x1⟩:=x;obtain ⟨y0,y1⟩:=y;rw [Am];simp [vSt]
def kPv {w:Ap} {va O:Aq} {a b:(Au jQ)} (V:(kD.slice 60 jF).raw w [va] a) (ag:(kD.slice 60 jF).raw w [O] b) :
    Av prog 155 #[va,O] w (bQ w (.bool (decide (a=b)))):=by
 obtain ⟨aa,al,rfl,la,ab,ar,rfl,lb⟩:=kD.sx V (kD.sl ag)
 go_enter func155,ntmps155
 by_cases hl:a.length=b.length
 case neg =>
  exact iQ
 obtain ⟨hz,HL⟩:=uX
 clear hl
 go_wp2
 go_loopw [5] (λi wr=>∃ k:Nat,k<=a.length/\i=.int .i64 k/\Hid (a.take k=b.take k)/\Qb w wr) (λi _=>a.length - (intOf i).toNat)
 case atStart=>exact ⟨0,Nat.zero_le _,rfl,yD rfl,bR⟩
 obtain ⟨k,hk,rfl,Y,o⟩:=hrel
 by_cases hlt:k < a.length
 · have ai:k < b.length:=wZ;obtain ⟨pb,po,rfl,bg,bl,bm,c1,cm,pr,ax,a3,bc,be,bb⟩:=kD.kTr (V.below o) (i:=k) bF2 rfl;obtain ⟨qb,qo,rfl,ac,ae,af,bt,bu,qr,ap,aq,au,a7,ba⟩:=kD.kTr (ag.below o) (i:=k) bF2 rfl;obtain ⟨hne,H⟩:=vN;generalize a[k]=x at *;generalize b[k]=y at *;obtain ⟨HD,HX⟩:=uV;have I:=yD (vDatS_eq x y);clear hne H;obtain ⟨x0,x1,x2,x3,x4⟩:=x;obtain ⟨y0,y1,y2,y3,y4⟩:=y;obtain ⟨rfl,rfl,a2,az,a9,ay,bh,bn,b5⟩:=kAi pr;obtain ⟨a8,bf,rfl,bo,cl,cz,rfl,br,cf,c2,rfl,b6⟩:=kD.sx az (kD.sx a9 (kD.sl bh));obtain ⟨rfl,rfl,ah,aj,ak,aw,bj,bd,bp⟩:=kAi qr;obtain ⟨ad,a4,rfl,a6,am,bk,rfl,bq,ao,bx,rfl,bw⟩:=kD.sx aj (kD.sx ak (kD.sl bj));go_wp2_with fail;have FX:=yD (λ(W:Ap) (hW:Qb wr W)=>cLs10 hW ax a3 bc be bb ap aq au a7 ba);refine kK (λW=>Qb wr W) [Tt,Tt,Tt,Tt,Tt,Tt,Tt,Tt,Ff,Tt] bE5 bE5 qW (bR.drew) ?_;intro wS E;all_goals ((iterate 8 refine kS ?_);(first | refine zi (kNc (kD.raw.below pr E) (kD.raw.below qr E)) (λwS1 E=>?_) | refine kS ?_);refine jT λb a5=>?_;cases b <;> try simp only [jS] at a5)
   all_goals (refine kM ?_;have D:=(tQ o E))
   all_goals first
     | (have X:=I.out.symm.trans (show _=false by simp only [vDatS,Ad,Aa,Ae,Ag,Ab,Ac,Aj,Ak,Ah,Ai,Al,a5]);have L:=yD (HD.out X);clear X I HD HX;go_wp2;go_ret;exact ⟨kJ L.out.symm,D⟩)
     | (have X:=I.out.symm.trans (show _=true by simp only [vDatS,Ad,Aa,Ae,Ag,Ab,Ac,Aj,Ak,Ah,Ai,Al,a5]);have L:=yD (HX.out X);clear X I HD HX;refine Qg ?_;exact ⟨k + 1,by omega,by go_num,L,D⟩)
 exact iV
def kSw {w:Ap} {va O:Aq} {a b:(Au jK)} (V:(kD.slice 140 kz).raw w [va] a) (ag:(kD.slice 140 kz).raw w [O] b) :
    Av prog 158 #[va,O] w (bQ w (.bool (decide (a=b)))):=by
 obtain ⟨aa,al,rfl,la,ab,ar,rfl,lb⟩:=kD.sx V (kD.sl ag)
 go_enter func158,ntmps158
 by_cases hl:a.length=b.length
 case neg =>
  exact iQ
 obtain ⟨hz,HL⟩:=uX
 clear hl
 go_wp2
 go_loopw [5] (λi wr=>∃ k:Nat,k<=a.length/\i=.int .i64 k/\Hid (a.take k=b.take k)/\Qb w wr) (λi _=>a.length - (intOf i).toNat)
 case atStart=>exact ⟨0,Nat.zero_le _,rfl,yD rfl,bR⟩
 obtain ⟨k,hk,rfl,Y,o⟩:=hrel
 by_cases hlt:k < a.length
 · have ai:k < b.length:=wZ;obtain ⟨pb,po,rfl,bg,bl,pr,ax,a3⟩:=kD.get2 (V.below o) (i:=k) bF2 rfl;obtain ⟨qb,qo,rfl,ac,ae,qr,ap,aq⟩:=kD.get2 (ag.below o) (i:=k) bF2 rfl;obtain ⟨hne,H⟩:=vN;generalize a[k]=x at *;generalize b[k]=y at *;obtain ⟨HD,HX⟩:=uV;have I:=yD (jCv x y);clear hne H;obtain ⟨x0,x1⟩:=x;obtain ⟨y0,y1⟩:=y;obtain ⟨rfl,a2,az,a9⟩:=zh pr;obtain ⟨a8,bf,rfl,bo⟩:=kD.sl az;obtain ⟨rfl,ah,aj,ak⟩:=zh qr;obtain ⟨ad,a4,rfl,a6⟩:=kD.sl aj;go_wp2_with fail;have FX:=yD (λ(W:Ap) (hW:Qb wr W)=>kDk hW ax a3 ap aq);refine kK (λW=>Qb wr W) [Tt,Tt,Tt,Tt,Tt,Tt,Tt,Tt,Tt,Tt,Tt,Tt,Tt,Tt,Tt,Tt,Tt,Tt,Tt,Tt,Tt,Tt,Ff,Tt,Tt] bE5 bE5 qW (bR.drew) ?_;intro wS E;all_goals ((iterate 11 refine kS ?_);refine jT λb an=>?_;cases b <;> try simp only [jS] at an)
   all_goals ((iterate 10 refine kS ?_);(first | refine zi (jU (kD.raw.below a2 E) (kD.raw.below ah E)) (λwS1 E=>?_) | refine kS ?_);refine kS ?_;refine jT λb J=>?_;cases b <;> try simp only [jS] at J)
   all_goals (refine kM ?_;have D:=(tQ o E))
   all_goals first
     | (have X:=I.out.symm.trans (show _=false by simp only [kUk,Ad,Aa,Ae,Ag,Ab,Ac,Aj,Ak,Ah,Ai,Al,an,J]);have L:=yD (HD.out X);clear X I HD HX;go_wp2;go_ret;exact ⟨kJ L.out.symm,D⟩)
     | (have X:=I.out.symm.trans (show _=true by simp only [kUk,Ad,Aa,Ae,Ag,Ab,Ac,Aj,Ak,Ah,Ai,Al,an,J]);have L:=yD (HX.out X);clear X I HD HX;refine Qg ?_;exact ⟨k + 1,by omega,by go_num,L,D⟩)
 exact iV
def kSh:jL prog 78:=yM func78 bE5 bE5
def kTp {w:Ap} {cx:Au Aq} {x:jK} (hx:kz.raw w cx x) {cy:Au Aq} {y:jK} (hy:kz.raw w cy y) :
    Av prog 152 #[.agg cx.toArray,.agg cy.toArray] w (bQ w (.bool (kYt x y))):=by
 have Hx:=yD hx
 obtain ⟨a4,rfl,Y,N,ae⟩:=kFt hx
 obtain ⟨a5,a2,rfl,ay⟩:=kD.sl N
 have Hy:=yD hy
 obtain ⟨a8,rfl,aa,ad,ah⟩:=kFt hy
 obtain ⟨aq,ap,rfl,ba⟩:=kD.sl ad
 go_enter func152,ntmps152
 go_upto_region 1 with fail
 refine kAe ?_
 intro U Z F an _
 obtain ⟨X,o⟩:=yN F
 obtain ⟨I,ac⟩:=yN an
 clear F an
 have FX:=yD (λ(W:Ap) (hW:Qb U W)=>kDk hW X o I ac)
 refine kL (λW=>Qb U W) [Tt,Tt,Tt,Tt,Ff,Tt,Tt,Tt,Tt,Tt,Tt,Tt,Tt] bR ?_
 intro wS E
 all_goals ((iterate 4 refine kS ?_);(first | refine zi (jw (kD.raw.below Y (tQ Z E)) (kD.raw.below aa (tQ Z E))) (λwS1 E=>?_) | refine kS ?_);refine jT λb a3=>?_;cases b <;> try simp only [jS] at a3)
 all_goals ((iterate 6 refine kS ?_);refine jT λb ab=>?_;cases b <;> try simp only [jS] at ab)
 all_goals (refine kM ?_;have D:=(tQ Z E))
 all_goals first
   | (have L:=yD (show (kYt x y)=false by simp only [kYt,Ad,Aa,Ae,Ag,Ab,Ac,Aj,Ak,Ah,Ai,Al,a3,ab]);go_wp2;go_ret;exact ⟨kJ L.out.symm,D⟩)
   | (have L:=yD (show (kYt x y)=true by simp only [kYt,Ad,Aa,Ae,Ag,Ab,Ac,Aj,Ak,Ah,Ai,Al,a3,ab]);go_wp2;go_ret;exact ⟨kJ L.out.symm,D⟩)
def kIw:jL prog 152:=yM func152 bE5 bE5
def kJc {w:Ap} {cx:Au Aq} {x:kr} (hx:jB.raw w cx x) {cy:Au Aq} {y:kr} (hy:jB.raw w cy y) :
    Av prog 217 #[.agg cx.toArray,.agg cy.toArray] w (bQ w (.bool (vCe x y))):=by
 have Hx:=yD hx
 obtain ⟨a4,bl,bd,rfl,Y,N,ae,ag,aj,au,a6,a1,b0⟩:=kBq hx
 obtain ⟨a5,a2,rfl,ay,bg,bc,rfl,bk,bj,be,rfl,bi⟩:=kD.sx ae (kD.sx ag (kD.sl au))
 have Hy:=yD hy
 obtain ⟨a8,bf,bu,rfl,aa,ad,ah,ak,al,ao,aw,ax,bh⟩:=kBq hy
 obtain ⟨aq,ap,rfl,ba,bo,bp,rfl,bn,a7,a9,rfl,bt⟩:=kD.sx ah (kD.sx ak (kD.sl ao))
 go_enter func217,ntmps217
 go_upto_region 1 with fail
 refine kAe ?_
 intro U Z F an _
 obtain ⟨X,o,R,am,av,bb⟩:=kZv F
 obtain ⟨I,ac,af,ar,az,bm⟩:=kZv an
 clear F an
 have FX:=yD (λ(W:Ap) (hW:Qb U W)=>cLs12 hW X o R am av bb I ac af ar az bm)
 refine kL (λW=>Qb U W) [Tt,Tt,Tt,Tt,Ff,Tt,Tt,Tt,Tt,Tt,Tt,Tt,Tt] bR ?_
 intro wS E
 all_goals ((iterate 4 refine kS ?_);(first | refine zi (kHh (kD.raw.below Y (tQ Z E)) (kD.raw.below aa (tQ Z E))) (λwS1 E=>?_) | refine kS ?_);refine jT λb a3=>?_;cases b <;> try simp only [jS] at a3)
 all_goals ((iterate 6 refine kS ?_);refine jT λb ab=>?_;cases b <;> try simp only [jS] at ab)
 all_goals (refine kM ?_;have D:=(tQ Z E))
 all_goals first
   | (have L:=yD (show (vCe x y)=false by simp only [vCe,Ad,Aa,Ae,Ag,Ab,Ac,Aj,Ak,Ah,Ai,Al,a3,ab]);go_wp2;go_ret;exact ⟨kJ L.out.symm,D⟩)
   | (have L:=yD (show (vCe x y)=true by simp only [vCe,Ad,Aa,Ae,Ag,Ab,Ac,Aj,Ak,Ah,Ai,Al,a3,ab]);go_wp2;go_ret;exact ⟨kJ L.out.symm,D⟩)
def kEo:jL prog 217:=yM func217 bE5 bE5
def kKk {w:Ap} {cx:Au Aq} {x:kg} (hx:kP.raw w cx x) {cy:Au Aq} {y:kg} (hy:kP.raw w cy y) :
    Av prog 149 #[.agg cx.toArray,.agg cy.toArray] w (bQ w (.bool (vSt x y))):=by
 have Hx:=yD hx
 obtain ⟨bl,rfl,Y,N⟩:=jN hx
 obtain ⟨bg,bc,rfl,bk⟩:=kD.sl N
 have Hy:=yD hy
 obtain ⟨bf,rfl,aa,ad⟩:=jN hy
 obtain ⟨bo,bp,rfl,bn⟩:=kD.sl ad
 go_enter func149,ntmps149
 go_upto_region 1 with fail
 refine kAe ?_
 intro U Z F an _
 obtain ⟨X,o⟩:=yN F
 obtain ⟨I,ac⟩:=yN an
 clear F an
 have FX:=yD (λ(W:Ap) (hW:Qb U W)=>kDk hW X o I ac)
 refine kL (λW=>Qb U W) [Tt,Tt,Tt,Tt,Tt,Tt,Tt,Tt,Tt,Tt,Ff,Tt,Tt] bR ?_
 intro wS E
 all_goals ((iterate 5 refine kS ?_);refine jT λb a3=>?_;cases b <;> try simp only [jS] at a3)
 all_goals ((iterate 4 refine kS ?_);(first|(refine kI rfl E ?_)|(refine ku rfl (λK H=>?_);go_simp;refine (kMy kEo (kD.raw.below N (tQ Z E)) (kD.raw.below ad (tQ Z E)) (λwr hb cs ds x y hx hy=>by have h:=kJc hx hy;rw [vCe_eq] at h;exact h)).mono ?_;rintro e wS1 ⟨rfl,V⟩;replace E:=(tQ E V);refine H _ _ E ?_;clear H K V));refine jH ?_;refine kS ?_;refine jT λb ab=>?_;cases b <;> try simp only [jS] at ab)
 all_goals (refine kM ?_;have D:=(tQ Z E))
 all_goals first
   | (have L:=yD (show (vSt x y)=false by simp only [vSt,Ad,Aa,Ae,Ag,Ab,Ac,Aj,Ak,Ah,Ai,Al,a3,ab]);go_wp2;go_ret;exact ⟨kJ L.out.symm,D⟩)
   | (have L:=yD (show (vSt x y)=true by simp only [vSt,Ad,Aa,Ae,Ag,Ab,Ac,Aj,Ak,Ah,Ai,Al,a3,ab]);go_wp2;go_ret;exact ⟨kJ L.out.symm,D⟩)
def kKc {w:Ap} {ca cb:Au Aq} {a b:kg} (ha:kP.raw w ca a) (hb:kP.raw w cb b) :
    Av prog 156 #[.agg ca.toArray,.agg cb.toArray] w (bQ w (.bool (vSt a b))):=by
 obtain ⟨av,rfl,R,V⟩:=jN ha
 obtain ⟨bv,rfl,N,ag⟩:=jN hb
 obtain ⟨aa,al,rfl,la,ab,ar,rfl,lb⟩:=kD.sx V (kD.sl ag)
 obtain ⟨a0,a1⟩:=a
 obtain ⟨J,b1⟩:=b
 clear R N ha hb
 go_enter func156,ntmps156
 go_upto_region 1 with fail
 refine kAe ?_
 intro U Z F an _
 obtain ⟨K0,K1⟩:=yN F
 obtain ⟨L0,L1⟩:=yN an
 clear F an
 replace V:=V.below Z
 replace ag:=ag.below Z
 by_cases hc:a0=J
 case neg =>
  exact iW
 have a5:(a0 != J)=false:=bC1
 have HC:=yD hc
 clear hc
 by_cases hl:a1.length=b1.length
 case neg =>
  exact iX
 have hz:((a1.length:Int) != b1.length)=false:=bE6
 have b8:(a1.length != b1.length)=false:=bC0
 have HL:=yD hl
 clear hl
 go_wp2
 go_loopw [5] (λi wr=>∃ k:Nat,k<=a1.length/\i=.int .i64 k/\Hid (a1.take k=b1.take k)/\Qb U wr) (λi _=>a1.length - (intOf i).toNat)
 case atStart=>exact ⟨0,Nat.zero_le _,rfl,yD rfl,bR⟩
 obtain ⟨k,hk,rfl,Y,o⟩:=hrel
 replace K1:=cL o K1
 replace L1:=cL o L1
 by_cases hlt:k < a1.length
 · have ai:k < b1.length:=wZ;have ce:=Ar.2 hlt;have dt:=Ar.2 ai;have b9:=Aw k;obtain ⟨pb,po,rfl,bg,bl,bm,c1,cm,de,pr,ax,a3,bc,be,bb,b4⟩:=kD.kOr (V.below o) (i:=k) bF2 rfl;obtain ⟨qb,qo,rfl,ac,ae,af,bt,bu,b3,qr,ap,aq,au,a7,ba,bi⟩:=kD.kOr (ag.below o) (i:=k) bF2 rfl;obtain ⟨hne,H⟩:=vN;generalize a1[k]=x at *;generalize b1[k]=y at *;obtain ⟨HD,HX,I⟩:=EX;clear hne H;obtain ⟨x0,x1⟩:=x;obtain ⟨y0,y1⟩:=y;obtain ⟨rfl,rfl,rfl,a2,az,a9,ay,bh,bn,b5,b7,c3⟩:=jy pr;obtain ⟨a8,bf,rfl,bo,cl,cz,rfl,br,cf,c2,rfl,b6⟩:=kD.sx a9 (kD.sx ay (kD.sl bn));obtain ⟨rfl,rfl,rfl,ah,aj,ak,aw,bj,bd,bp,bz,b2⟩:=jy qr;obtain ⟨ad,a4,rfl,a6,am,bk,rfl,bq,ao,bx,rfl,bw⟩:=kD.sx ak (kD.sx aw (kD.sl bd));go_upto_region 6 with fail;have FX:=yD (λ(W:Ap) (hW:Qb wr W)=>cLs14 hW K1 L1 ax a3 bc be bb b4 ap aq au a7 ba bi);refine kK (λW=>Qb wr W) [Tt,Tt,Tt,Tt,Tt,Tt,Tt,Tt,Tt,Tt,Tt,Tt,Tt,Tt,Tt,Tt,Tt,Tt,Tt,Tt,Tt,Tt,Tt,Tt,Tt,Tt,Ff,Tt,Tt] bE5 bE5 qW (bR.drew) ?_;intro wS E;all_goals ((iterate 13 refine kS ?_);refine jT λb O=>?_;cases b <;> try simp only [jS] at O)
   all_goals ((iterate 12 refine kS ?_);(first | refine zi (kNc (kD.raw.below a2 E) (kD.raw.below ah E)) (λwS1 E=>?_) | refine kS ?_);refine kS ?_;refine jT λb cd=>?_;cases b <;> try simp only [jS] at cd)
   all_goals (refine kM ?_;have D:=(tQ o E))
   all_goals first
     | (have X:=I.out.symm.trans (show _=false by simp only [vCeS,Ad,Aa,Ae,Ag,Ab,Ac,Aj,Ak,Ah,Ai,Al,O,cd]);have L:=yD (HD.out X);clear X I HD HX;go_wp2;go_ret;exact ⟨kJ L.out.symm,(tQ Z D)⟩)
     | (have X:=I.out.symm.trans (show _=true by simp only [vCeS,Ad,Aa,Ae,Ag,Ab,Ac,Aj,Ak,Ah,Ai,Al,O,cd]);have L:=yD (HX.out X);clear X I HD HX;refine Qg ?_;exact ⟨k + 1,by omega,by go_num,L,D⟩)
 exact iY
def kKd {w:Ap} {cx:Au Aq} {x:kg} (hx:kP.raw w cx x) {cy:Au Aq} {y:kg} (hy:kP.raw w cy y) :
    Av prog 156 #[.agg cx.toArray,.agg cy.toArray] w (bQ w (.bool (decide (x=y)))):=by
 have h:=kKc hx hy
 rw [vSt_eq] at h
 exact h
def kKl {w:Ap} {cx:Au Aq} {x:kg} (hx:kP.raw w cx x) {cy:Au Aq} {y:kg} (hy:kP.raw w cy y) :
    Av prog 149 #[.agg cx.toArray,.agg cy.toArray] w (bQ w (.bool (decide (x=y)))):=by
 have h:=kKk hx hy
 rw [vSt_eq] at h
 exact h
def kPt (x y:kV):Bool:=(x.1==y.1) && ((x.2.1==y.2.1) && (x.2.2==y.2.2))
def kSs (x y:kV):kPt x y=decide (x=y):=by
 obtain ⟨x0,x1,x2⟩:=x;obtain ⟨y0,y1,y2⟩:=y;rw [Am];simp [kPt]
def kUe {w:Ap} {va O:Aq} {a b:(Au kV)} (V:(kD.slice 105 kQ).raw w [va] a) (ag:(kD.slice 105 kQ).raw w [O] b) :
    Av prog 220 #[va,O] w (bQ w (.bool (decide (a=b)))):=by
 obtain ⟨aa,al,rfl,la,ab,ar,rfl,lb⟩:=kD.sx V (kD.sl ag)
 go_enter func220,ntmps220
 by_cases hl:a.length=b.length
 case neg =>
  exact iQ
 obtain ⟨hz,HL⟩:=uX
 clear hl
 go_wp2
 go_loopw [13] (λi wr=>∃ k:Nat,k<=a.length/\i=.int .i64 k/\Hid (a.take k=b.take k)/\Qb w wr) (λi _=>a.length - (intOf i).toNat)
 case atStart=>exact ⟨0,Nat.zero_le _,rfl,yD rfl,bR⟩
 obtain ⟨k,hk,rfl,Y,o⟩:=hrel
 by_cases hlt:k < a.length
 · have ai:k < b.length:=wZ;obtain ⟨pb,po,rfl,bg,bl,bm,pr,ax,a3,bc⟩:=kD.zL (V.below o) (i:=k) bF2 rfl;obtain ⟨qb,qo,rfl,ac,ae,af,qr,ap,aq,au⟩:=kD.zL (ag.below o) (i:=k) bF2 rfl;obtain ⟨hne,H⟩:=vN;generalize a[k]=x at *;generalize b[k]=y at *;obtain ⟨HD,HX⟩:=uV;have I:=yD (kSs x y);clear hne H;obtain ⟨x0,x1,x2⟩:=x;obtain ⟨y0,y1,y2⟩:=y;obtain ⟨rfl,rfl,rfl,a2,az,a9⟩:=yf pr;obtain ⟨rfl,rfl,rfl,ah,aj,ak⟩:=yf qr;have a5:(x0=y0/\x1=y1/\x2=y2)\/(x0≠y0)\/(x0=y0/\x1≠y1)\/(x0=y0/\x1=y1/\x2≠y2):=bF2;rcases a5 with ⟨rfl,rfl,rfl⟩ | e|⟨rfl,e⟩|⟨rfl,rfl,e⟩;all_goals go_wp2_with fail
   all_goals refine kK (λW=>Qb wr W) [Tt,Tt,Tt,Tt,Tt,Tt,Tt,Tt,Tt] bE5 bE5 qW (bR.drew) ?_
   all_goals intro wS E
   iterate 3
    all_goals first|(refine kI rfl E ?_)|(refine jC (v:=?_) rfl (λW hW=>?_) ?_;rotate_left;(· go_simp;try with_reducible rfl))
    all_goals try simp only [Ay,zA,zB,zC]
   all_goals first|(refine kI rfl E ?_)|(refine jC (v:=?_) rfl (λW hW=>?_) ?_;rotate_left;(· have N:=cL hW ax;have F:=cL hW a3;have U:=cL hW bc;have R:=cL hW ap;have Z:=cL hW aq;have J:=cL hW au;clear hW;go_simp;try with_reducible rfl))
   iterate 3
    all_goals try simp only [Ay,zA,zB,zC]
    all_goals first|(refine kI rfl E ?_)|(refine jC (v:=?_) rfl (λW hW=>?_) ?_;rotate_left;(· go_simp;try with_reducible rfl))
   all_goals try simp only [Ay,zA,zB,zC]
   all_goals first|(refine kI rfl E ?_)|(refine jC (v:=?_) rfl (λW hW=>?_) ?_;rotate_left;(· have N:=cL hW ax;have F:=cL hW a3;have U:=cL hW bc;have R:=cL hW ap;have Z:=cL hW aq;have J:=cL hW au;clear hW;go_simp;try with_reducible rfl))
   all_goals try simp only [Ay,zA,zB,zC]
   all_goals first|(refine kI rfl E ?_;have b6:=True.intro)|(refine kGb (v:=?_) (b:=?_) rfl (λW hW=>?_) ?_ (λb b6=>?_);rotate_left;rotate_left;(· go_simp;try with_reducible rfl);(· with_reducible rfl);cases b;all_goals first|(exact Bool.noConfusion b6)|(simp only [zU,zV] at b6) | skip)
   all_goals try simp only [Ay,zA,zB,zC]
   all_goals (refine kM ?_;have D:=(tQ o E))
   all_goals first
     | (have X:=I.out.symm.trans (show _=false by first|(simp [kPt,e];done)|(simp [kPt];done));have L:=yD (HD.out X);clear X I HD HX;go_wp2;go_ret;exact ⟨kJ L.out.symm,D⟩)
     | (have X:=I.out.symm.trans (show _=true by first|(simp [kPt,e];done)|(simp [kPt];done));have L:=yD (HX.out X);clear X I HD HX;refine Qg ?_;exact ⟨k + 1,by omega,by go_num,L,D⟩)
 exact iV
def kDr (x y:kF):Bool:=!((x.2.2 != y.2.2) || (!eqN x.1 y.1 || ((x.2.1.length:Int) != y.2.1.length)))
def jCx {x y:kF} (h:kDr x y=false):x≠y:=by
 rintro rfl;simp [kDr,eqN] at h
def kLx {x y:kF} (h:kDr x y=true):x.2.1.length=y.2.1.length/\(x.2.1=y.2.1->x=y):=by
 obtain ⟨x0,x1,x2⟩:=x;obtain ⟨y0,y1,y2⟩:=y;simp [kDr,eqN] at h;obtain ⟨h0,h1,h2⟩:=h;subst h0 h1;exact ⟨by show x1.length=y1.length;omega,λq=>by simp at q;rw [q]⟩
def kYw (x y:kF):Bool:=(eqN x.1 y.1 && decide (x.2.1=y.2.1)) && (x.2.2==y.2.2)
def vPend_eq (x y:kF):kYw x y=decide (x=y):=by
 obtain ⟨x0,x1,x2⟩:=x;obtain ⟨y0,y1,y2⟩:=y;rw [Am];simp [kYw,eqN,and_assoc]
def kRn {w:Ap} {va O:Aq} {a b:Au kF} (V:(kD.slice 107 kH).raw w [va] a) (ag:(kD.slice 107 kH).raw w [O] b) :
    Av prog 157 #[va,O] w (bQ w (.bool (decide (a=b)))):=by
 obtain ⟨aa,al,rfl,la,ab,ar,rfl,lb⟩:=kD.sx V (kD.sl ag)
 go_enter func157,ntmps157
 by_cases hl:a.length=b.length
 case neg =>
  exact iQ
 obtain ⟨hz,HL⟩:=uX
 clear hl
 go_wp2
 go_loopw [5] (λi wr=>∃ k:Nat,k<=a.length/\i=.int .i64 k/\Hid (a.take k=b.take k)/\Qb w wr) (λi _=>a.length - (intOf i).toNat)
 case atStart=>exact ⟨0,Nat.zero_le _,rfl,yD rfl,bR⟩
 obtain ⟨k,hk,rfl,Y,o⟩:=hrel
 by_cases hlt:k < a.length
 · have ai:k < b.length:=wZ;obtain ⟨pb,po,rfl,bg,bl,bm,pr,ax,a3,bc⟩:=kD.zL (V.below o) (i:=k) bF2 rfl;obtain ⟨qb,qo,rfl,ac,ae,af,qr,ap,aq,au⟩:=kD.zL (ag.below o) (i:=k) bF2 rfl;obtain ⟨hne,H⟩:=vN;have be:=Ar.2 hlt;have b8:=Ar.2 ai;have b9:=Aw k;generalize a[k]=x at *;generalize b[k]=y at *;obtain ⟨HD,HE,HX⟩:=AR;clear hne H;obtain ⟨rfl,a2,az,a9,ay⟩:=jP pr;obtain ⟨a8,bf,rfl,bo,cl,cz,rfl,br⟩:=kD.sx az (kD.sl a9);obtain ⟨rfl,ah,aj,ak,aw⟩:=jP qr;obtain ⟨ad,a4,rfl,a6,am,bk,rfl,bq⟩:=kD.sx aj (kD.sl ak);go_upto_region 6 with fail;have FX:=yD (λ(W:Ap) (hW:Qb wr W)=>kJf hW ax a3 bc ap aq au);refine kK (λW=>Qb wr W) [Tt,Tt,Tt,Tt,Tt,Tt,Tt,Tt,Tt,Tt,Tt,Tt,Tt,Tt,Tt,Tt,Tt,Tt,Tt,Tt,Tt,Tt,Ff,Tt,Tt,Tt,Tt,Tt,Tt,Tt,Tt,Tt,Tt,Tt,Tt,Tt,Tt,Tt,Tt,Tt] bE5 bE5 qW (bR.drew) ?_;intro wS E;all_goals ((iterate 11 refine kS ?_);refine jT λb an=>?_;cases b <;> try simp only [jS] at an)
   all_goals ((iterate 10 refine kS ?_);(first | refine zi (jU (kD.raw.below a2 E) (kD.raw.below ah E)) (λwS1 E=>?_) | refine kS ?_);refine kS ?_;refine kS ?_;refine jT λb R=>?_;cases b <;> try simp only [jS] at R)
   all_goals ((iterate 13 refine kS ?_);refine jT λb F=>?_;cases b <;> try simp only [jS] at F)
   all_goals (refine kM ?_;have D:=(tQ o E))
   all_goals first
     | (have L:=yD (HD.out (show kDr x y=false by simp only [kDr,Ad,Aa,Ae,Ag,Ab,Ac,Aj,Ak,Ah,Ai,Al,an,R,F]));clear HD HE HX;go_wp2;go_ret;exact ⟨kJ L.out.symm,D⟩)
     | have L:=yD (HX.out (show kDr x y=true by simp only [kDr,Ad,Aa,Ae,Ag,Ab,Ac,Aj,Ak,Ah,Ai,Al,an,R,F]))
   all_goals try clear HD HX
   have b3:=a3;have b2:=aq;have pn:=a9;have qn:=ak;have N:=yD L.out.1;clear an R F;have b1:=yD L.out.2;clear L;generalize x.2.1=P at *;generalize y.2.1=Q at *;clear Y;go_wp2;go_loopw [6] (λi wq=>∃ j:Nat,j<=P.length/\i=.int .i64 j/\Hid (P.take j=Q.take j)/\Qb wr wq) (λi _=>P.length - (intOf i).toNat);case atStart=>exact ⟨0,Nat.zero_le _,rfl,yD rfl,E⟩
   obtain ⟨j,I,rfl,HM,hq⟩:=hrel;have B3:=cL hq b3;have D3:=cL hq b2;by_cases av:j < P.length
   · have bb:j < Q.length:=by have:=N.out;omega
     obtain ⟨nb,no,rfl,bn,cm,co,nr,J,bj,bw⟩:=kD.zL (pn.below hq) av rfl;obtain ⟨mb,mo,rfl,b6,b5,b4,mr,bt,bp,b0⟩:=kD.zL (qn.below hq) bb rfl;obtain ⟨bu,_⟩:=kAa nr;obtain ⟨bv,_⟩:=kAa mr;simp only [List.cons.injEq,and_true] at bu bv;obtain ⟨rfl,rfl,rfl⟩:=bu;obtain ⟨rfl,rfl,rfl⟩:=bv;clear nr mr;have c9:=Ar.2 av;have b7:=Ar.2 bb;have bi:=Aw j;have hne:=λq=>yS av bb q;have H:=λq=>jd HM.out av bb q;generalize P[j]=u at *;generalize Q[j]=v at *;have a7:Hid (kPt u v=false->decide (a=b)=false):=yD mU;have X:Hid (kPt u v=true->P.take (j + 1)=Q.take (j + 1)):=yD qR;clear hne H;obtain ⟨u0,u1,u2⟩:=u;obtain ⟨v0,v1,v2⟩:=v;have a5:(u0=v0/\u1=v1/\u2=v2)\/(u0≠v0)\/(u0=v0/\u1≠v1)\/(u0=v0/\u1=v1/\u2≠v2):=bF2;rcases a5 with ⟨rfl,rfl,rfl⟩ | e|⟨rfl,e⟩|⟨rfl,rfl,e⟩;all_goals go_upto_region 11 with fail
     all_goals refine kK (λW=>Qb wr W) [Tt,Tt,Tt,Tt,Tt,Tt,Tt,Tt,Tt,Tt,Tt,Tt,Tt,Tt,Tt,Tt,Tt] bE5 bE5 qW (bR.drew) ?_
     all_goals intro wS E
     all_goals ((iterate 4 refine kS ?_);(iterate 2 (first|(refine kI rfl E ?_)|(refine jC (v:=?_) rfl (λW hW=>?_) ?_;rotate_left;(· have bx:=cL hW B3;have bz:=cL hW D3;have Z:=cL hW J;have U:=cL hW bj;have bh:=cL hW bw;have a1:=cL hW bt;have ba:=cL hW bp;have bd:=cL hW b0;clear hW;go_simp;try with_reducible rfl)));refine jH ?_;refine kS ?_;refine kS ?_);(iterate 2 refine kS ?_;refine kS ?_;(first|(refine kI rfl E ?_)|(refine jC (v:=?_) rfl (λW hW=>?_) ?_;rotate_left;(· have bx:=cL hW B3;have bz:=cL hW D3;have Z:=cL hW J;have U:=cL hW bj;have bh:=cL hW bw;have a1:=cL hW bt;have ba:=cL hW bp;have bd:=cL hW b0;clear hW;go_simp;try with_reducible rfl)));refine jH ?_);refine jT λb ao=>?_;cases b <;> try simp only [jS] at ao)
     all_goals (refine kM ?_;have EQ:=(tQ hq E))
     all_goals first
       | (have L:=yD (a7.out pG);clear a7 X;have D:=(tQ o EQ);go_wp2;go_ret;exact ⟨kJ L.out.symm,D⟩)
       | (have L:=yD (X.out (by first|(simp [kPt];done)));clear a7 X;refine Qg ?_;exact ⟨j + 1,by omega,by go_num,L,EQ⟩)
   exact iU
 exact iV
def kQe {w:Ap} {cx:Au Aq} {x:kF} (hx:kH.raw w cx x) {cy:Au Aq} {y:kF} (hy:kH.raw w cy y) :
    Av prog 219 #[.agg cx.toArray,.agg cy.toArray] w (bQ w (.bool (kYw x y))):=by
 have Hx:=yD hx
 obtain ⟨a4,bl,rfl,Y,N,ae,ag⟩:=kAq hx
 obtain ⟨a5,a2,rfl,ay,bg,bc,rfl,bk⟩:=kD.sx N (kD.sl ae)
 have Hy:=yD hy
 obtain ⟨a8,bf,rfl,aa,ad,ah,ak⟩:=kAq hy
 obtain ⟨aq,ap,rfl,ba,bo,bp,rfl,bn⟩:=kD.sx ad (kD.sl ah)
 go_enter func219,ntmps219
 go_upto_region 1 with fail
 refine kAe ?_
 intro U Z F an _
 obtain ⟨X,o,R⟩:=kBd F
 obtain ⟨I,ac,af⟩:=kBd an
 clear F an
 have FX:=yD (λ(W:Ap) (hW:Qb U W)=>kJf hW X o R I ac af)
 refine kL (λW=>Qb U W) [Tt,Tt,Tt,Tt,Ff,Tt,Tt,Tt,Tt,Tt,Ff,Tt,Tt,Tt,Tt,Tt,Tt,Tt,Tt,Tt] bR ?_
 intro wS E
 all_goals ((iterate 4 refine kS ?_);(first | refine zi (jw (kD.raw.below Y (tQ Z E)) (kD.raw.below aa (tQ Z E))) (λwS1 E=>?_) | refine kS ?_);refine jT λb a3=>?_;cases b <;> try simp only [jS] at a3)
 all_goals ((iterate 4 refine kS ?_);(first | refine zi (kUe (kD.raw.below ae (tQ Z E)) (kD.raw.below ah (tQ Z E))) (λwS1 E=>?_) | refine kS ?_);refine kS ?_;refine jT λb ab=>?_;cases b <;> try simp only [jS] at ab)
 all_goals ((iterate 6 refine kS ?_);refine jT λb O=>?_;cases b <;> try simp only [jS] at O)
 all_goals (refine kM ?_;have D:=(tQ Z E))
 all_goals first
   | (have L:=yD (show (kYw x y)=false by simp only [kYw,Ad,Aa,Ae,Ag,Ab,Ac,Aj,Ak,Ah,Ai,Al,a3,ab,O]);go_wp2;go_ret;exact ⟨kJ L.out.symm,D⟩)
   | (have L:=yD (show (kYw x y)=true by simp only [kYw,Ad,Aa,Ae,Ag,Ab,Ac,Aj,Ak,Ah,Ai,Al,a3,ab,O]);go_wp2;go_ret;exact ⟨kJ L.out.symm,D⟩)
def kHi:jL prog 219:=yM func219 bE5 bE5
def kSb {w:Ap} {va O:Aq} {a b:Au kF} (V:(kD.slice 107 kH).raw w [va] a) (ag:(kD.slice 107 kH).raw w [O] b) :
    Av prog 150 #[va,O] w (bQ w (.bool (decide (a=b)))):=by
 go_enter func150,ntmps150
 go_wp2_with fail
 refine (kHx kHi V ag ?_).mono ?_
 · intro wr hb cs ds x y hx hy;have:=kQe hx hy;rw [vPend_eq] at this;exact this
 exact iT
def kGp (x y:jX):Bool:=(((((decide (x.1=y.1) && decide (x.2.1=y.2.1)) && decide (x.2.2.1=y.2.2.1)) && decide (x.2.2.2.1=y.2.2.2.1)) && decide (x.2.2.2.2.1=y.2.2.2.2.1)) && decide (x.2.2.2.2.2.1=y.2.2.2.2.2.1)) && (x.2.2.2.2.2.2==y.2.2.2.2.2.2)
def kYy (x y:jX):kGp x y=decide (x=y):=by
 obtain ⟨x0,x1,x2,x3,x4,x5,x6⟩:=x;obtain ⟨y0,y1,y2,y3,y4,o,y6⟩:=y;rw [Am];simp [kGp,and_assoc]
def kUr {w:Ap} {cx:Au Aq} {x:jX} (hx:jo.raw w cx x) {cy:Au Aq} {y:jX} (hy:jo.raw w cy y) :
    Av prog 70 #[.agg cx.toArray,.agg cy.toArray] w (bQ w (.bool (kGp x y))):=by
 have Hx:=yD hx
 obtain ⟨a4,bd,cz,c2,cl,cc,rfl,Y,N,ae,ag,aj,au,a6,a1,b0⟩:=yO hx
 obtain ⟨a5,a2,rfl,ay,bj,be,rfl,bi,cv,cf,rfl,ch,ck,cg,rfl,cw,co,cm,rfl,c1,b9,cd,rfl,ce⟩:=kD.sx Y (kD.sx ag (kD.sx aj (kD.sx au (kD.sx a6 (kD.sl a1)))))
 have Hy:=yD hy
 obtain ⟨a8,bu,b7,b4,b6,b2,rfl,aa,ad,ah,ak,al,ao,aw,ax,bh⟩:=yO hy
 obtain ⟨aq,ap,rfl,ba,a7,a9,rfl,bt,bp,bk,rfl,b3,bl,bn,rfl,b5,bo,bq,rfl,b8,bc,bf,rfl,b1⟩:=kD.sx aa (kD.sx ak (kD.sx al (kD.sx ao (kD.sx aw (kD.sl ax)))))
 go_enter func70,ntmps70
 go_upto_region 1 with fail
 refine kAe ?_
 intro U Z F an _
 obtain ⟨X,o,R,am,av,bb,bw,bv⟩:=yu F
 obtain ⟨I,ac,af,ar,az,bm,bz,bx⟩:=yu an
 clear F an
 have FX:=yD (λ(W:Ap) (hW:Qb U W)=>cLs16 hW X o R am av bb bw bv I ac af ar az bm bz bx)
 refine kL (λW=>Qb U W) [Tt,Tt,Tt,Tt,Ff,Tt,Tt,Tt,Tt,Tt,Ff,Tt,Tt,Tt,Tt,Tt,Tt,Ff,Tt,Tt,Tt,Tt,Tt,Tt,Ff,Tt,Tt,Tt,Tt,Tt,Tt,Ff,Tt,Tt,Tt,Tt,Tt,Tt,Ff,Tt,Tt,Tt,Tt,Tt,Tt,Tt,Tt,Tt] bR ?_
 intro wS E
 all_goals ((iterate 4 refine kS ?_);(first | refine zi (kPv (kD.raw.below Y (tQ Z E)) (kD.raw.below aa (tQ Z E))) (λwS1 E=>?_) | refine kS ?_);refine jT λb a3=>?_;cases b <;> try simp only [jS] at a3)
 all_goals ((iterate 4 refine kS ?_);(first | refine zi (kKd (kD.raw.below N (tQ Z E)) (kD.raw.below ad (tQ Z E))) (λwS1 E=>?_) | refine kS ?_);refine kS ?_;refine jT λb ab=>?_;cases b <;> try simp only [jS] at ab)
 all_goals ((iterate 4 refine kS ?_);(first | refine zi (kRn (kD.raw.below aj (tQ Z E)) (kD.raw.below al (tQ Z E))) (λwS1 E=>?_) | refine kS ?_);refine kS ?_;refine jT λb O=>?_;cases b <;> try simp only [jS] at O)
 all_goals ((iterate 4 refine kS ?_);(first | refine zi (kSw (kD.raw.below au (tQ Z E)) (kD.raw.below ao (tQ Z E))) (λwS1 E=>?_) | refine kS ?_);refine kS ?_;refine jT λb J=>?_;cases b <;> try simp only [jS] at J)
 all_goals ((iterate 4 refine kS ?_);(first | refine zi (kSy (kD.raw.below a6 (tQ Z E)) (kD.raw.below aw (tQ Z E))) (λwS1 E=>?_) | refine kS ?_);refine kS ?_;refine jT λb ai=>?_;cases b <;> try simp only [jS] at ai)
 all_goals ((iterate 4 refine kS ?_);(first | refine zi (kKw (kD.raw.below a1 (tQ Z E)) (kD.raw.below ax (tQ Z E))) (λwS1 E=>?_) | refine kS ?_);refine kS ?_;refine jT λb br=>?_;cases b <;> try simp only [jS] at br)
 all_goals ((iterate 6 refine kS ?_);refine jT λb bg=>?_;cases b <;> try simp only [jS] at bg)
 all_goals (refine kM ?_;have D:=(tQ Z E))
 all_goals first
   | (have L:=yD (show (kGp x y)=false by simp only [kGp,Ad,Aa,Ae,Ag,Ab,Ac,Aj,Ak,Ah,Ai,Al,a3,ab,O,J,ai,br,bg]);go_wp2;go_ret;exact ⟨kJ L.out.symm,D⟩)
   | (have L:=yD (show (kGp x y)=true by simp only [kGp,Ad,Aa,Ae,Ag,Ab,Ac,Aj,Ak,Ah,Ai,Al,a3,ab,O,J,ai,br,bg]);go_wp2;go_ret;exact ⟨kJ L.out.symm,D⟩)
def kVo {w:Ap} {cx:Au Aq} {x:jX} (hx:jo.raw w cx x) {cy:Au Aq} {y:jX} (hy:jo.raw w cy y) :
    Av prog 69 #[.agg cx.toArray,.agg cy.toArray] w (bQ w (.bool (kGp x y))):=by
 have Hx:=yD hx
 obtain ⟨a4,bd,cz,c2,cl,cc,rfl,Y,N,ae,ag,aj,au,a6,a1,b0⟩:=yO hx
 obtain ⟨a5,a2,rfl,ay,bj,be,rfl,bi,cv,cf,rfl,ch,ck,cg,rfl,cw,co,cm,rfl,c1,b9,cd,rfl,ce⟩:=kD.sx Y (kD.sx ag (kD.sx aj (kD.sx au (kD.sx a6 (kD.sl a1)))))
 have Hy:=yD hy
 obtain ⟨a8,bu,b7,b4,b6,b2,rfl,aa,ad,ah,ak,al,ao,aw,ax,bh⟩:=yO hy
 obtain ⟨aq,ap,rfl,ba,a7,a9,rfl,bt,bp,bk,rfl,b3,bl,bn,rfl,b5,bo,bq,rfl,b8,bc,bf,rfl,b1⟩:=kD.sx aa (kD.sx ak (kD.sx al (kD.sx ao (kD.sx aw (kD.sl ax)))))
 go_enter func69,ntmps69
 go_upto_region 1 with fail
 refine kAe ?_
 intro U Z F an _
 obtain ⟨X,o,R,am,av,bb,bw,bv⟩:=yu F
 obtain ⟨I,ac,af,ar,az,bm,bz,bx⟩:=yu an
 clear F an
 have FX:=yD (λ(W:Ap) (hW:Qb U W)=>cLs16 hW X o R am av bb bw bv I ac af ar az bm bz bx)
 refine kL (λW=>Qb U W) [Tt,Tt,Tt,Tt,Ff,Tt,Tt,Tt,Tt,Tt,Ff,Tt,Tt,Tt,Tt,Tt,Tt,Ff,Tt,Tt,Tt,Tt,Tt,Tt,Ff,Tt,Tt,Tt,Tt,Tt,Tt,Ff,Tt,Tt,Tt,Tt,Tt,Tt,Ff,Tt,Tt,Tt,Tt,Tt,Tt,Tt,Tt,Tt] bR ?_
 intro wS E
 all_goals ((iterate 4 refine kS ?_);(first|(refine kI rfl E ?_)|(refine ku rfl (λK H=>?_);go_simp;refine (kVv kSh (kD.raw.below Y (tQ Z E)) (kD.raw.below aa (tQ Z E)) (λwr hb cs ds x y hx hy=>by have h:=kHh hx hy;exact h)).mono ?_;rintro e wS1 ⟨rfl,V⟩;replace E:=(tQ E V);refine H _ _ E ?_;clear H K V));refine jH ?_;refine jT λb a3=>?_;cases b <;> try simp only [jS] at a3)
 all_goals ((iterate 4 refine kS ?_);(first | refine zi (kKl (kD.raw.below N (tQ Z E)) (kD.raw.below ad (tQ Z E))) (λwS1 E=>?_) | refine kS ?_);refine kS ?_;refine jT λb ab=>?_;cases b <;> try simp only [jS] at ab)
 all_goals ((iterate 4 refine kS ?_);(first | refine zi (kSb (kD.raw.below aj (tQ Z E)) (kD.raw.below al (tQ Z E))) (λwS1 E=>?_) | refine kS ?_);refine kS ?_;refine jT λb O=>?_;cases b <;> try simp only [jS] at O)
 all_goals ((iterate 4 refine kS ?_);(first|(refine kI rfl E ?_)|(refine ku rfl (λK H=>?_);go_simp;refine (kNt kIw (kD.raw.below au (tQ Z E)) (kD.raw.below ao (tQ Z E)) (λwr hb cs ds x y hx hy=>by have h:=kTp hx hy;rw [vSeen_eq] at h;exact h)).mono ?_;rintro e wS1 ⟨rfl,V⟩;replace E:=(tQ E V);refine H _ _ E ?_;clear H K V));refine jH ?_;refine kS ?_;refine jT λb J=>?_;cases b <;> try simp only [jS] at J)
 all_goals ((iterate 4 refine kS ?_);(first | refine zi (kTo (kD.raw.below a6 (tQ Z E)) (kD.raw.below aw (tQ Z E))) (λwS1 E=>?_) | refine kS ?_);refine kS ?_;refine jT λb ai=>?_;cases b <;> try simp only [jS] at ai)
 all_goals ((iterate 4 refine kS ?_);(first | refine zi (kLj (kD.raw.below a1 (tQ Z E)) (kD.raw.below ax (tQ Z E))) (λwS1 E=>?_) | refine kS ?_);refine kS ?_;refine jT λb br=>?_;cases b <;> try simp only [jS] at br)
 all_goals ((iterate 6 refine kS ?_);refine jT λb bg=>?_;cases b <;> try simp only [jS] at bg)
 all_goals (refine kM ?_;have D:=(tQ Z E))
 all_goals first
   | (have L:=yD (show (kGp x y)=false by simp only [kGp,Ad,Aa,Ae,Ag,Ab,Ac,Aj,Ak,Ah,Ai,Al,a3,ab,O,J,ai,br,bg]);go_wp2;go_ret;exact ⟨kJ L.out.symm,D⟩)
   | (have L:=yD (show (kGp x y)=true by simp only [kGp,Ad,Aa,Ae,Ag,Ab,Ac,Aj,Ak,Ah,Ai,Al,a3,ab,O,J,ai,br,bg]);go_wp2;go_ret;exact ⟨kJ L.out.symm,D⟩)
def kUq {w:Ap} {cx:Au Aq} {x:jX} (hx:jo.raw w cx x) {cy:Au Aq} {y:jX} (hy:jo.raw w cy y) :
    Av prog 70 #[.agg cx.toArray,.agg cy.toArray] w (bQ w (.bool (decide (x=y)))):=by
 have h:=kUr hx hy
 rw [kYy] at h
 exact h
def kVn {w:Ap} {cx:Au Aq} {x:jX} (hx:jo.raw w cx x) {cy:Au Aq} {y:jX} (hy:jo.raw w cy y) :
    Av prog 69 #[.agg cx.toArray,.agg cy.toArray] w (bQ w (.bool (decide (x=y)))):=by
 have h:=kVo hx hy
 rw [kYy] at h
 exact h
end Go.Proofs.YthocbplmdjkifaaGreat

/-
  Data as the reference draws them.
-/
import Derived.Test.YthocbplmdjkifaaGreatRule
set_option linter.unusedVariables false
set_option linter.unusedSimpArgs false
set_option linter.unnecessarySimpa false
set_option maxRecDepth 100000
set_option maxHeartbeats 8000000
open Bool renaming true->Tt,false->Ff
open Go.Act renaming put->Aa
open _root_ renaming ByteArray->Ab,Option->Ac,List->Aj,UInt8->Ak
open Go renaming bodyPost_ret->Ad,World->Ae,frozen_of_row->Ag,Addr->Ai
open Go.IntKind renaming i64->Ah
open Go.IntWalk renaming i64_in->Al
namespace Go.Proofs.YthocbplmdjkifaaGreat
open Go.RowKit _root_.Go.Proofs.Tryz
theorem kHr {w0 w:Ae} {p:Nat} (hc:ym w0 w p) :
    Calls prog 123 #[.pointer (some ⟨p,0,none⟩)] w λe w'=>DrawnD 4 w0 w p e w':=by
 go_enter func123,ntmps123
 obtain ⟨bh,br⟩:=hc.lt
 go_upto_region 1 with fail
 refine ja ?_
 intro w1 ar R bj
 obtain ⟨hc,O⟩:=uZ
 clear ar
 go_wp2_with fail
 refine (kMd hc).mono ?_
 rintro e w2 ⟨a,n,c,ps,rfl,hO,bi,a1,F,D⟩
 obtain ⟨bw,R,O⟩:=y8
 clear hc D
 have hc:=F
 clear F
 have J:=yD hO
 clear hO
 go_upto_region 2 with fail
 refine ja ?_
 intro w3 ah B bz
 replace R:=kC R ah
 obtain ⟨J,hc,O⟩:=xC
 clear ah
 have aq:Qd w3 w2 0 (.slice a n c):=kE B rfl
 obtain ⟨_,_,_,bp,bo⟩:=J.out.parts
 simp only [Value.slice.injEq] at bp
 have b3:=yD (bp.2.1.trans bo.out)
 clear bp bo
 go_upto_if 10 with fail
 go_cut [] from 7 to 13 (λwc=>∃ (na:Ac Ai) (nc:Nat) (qs:ko),Qr wc w #[.slice none 0 0,.slice none 0 0,.slice none 0 0,Qn 0,Qn 0] 60/\Qr wc w2 #[Qs na qs nc] 36/\Hid (kR.own wc [Qs na qs nc] qs (λk=>w.heap.size < k/\k < wc.heap.size/\k≠w2.heap.size/\k≠p))/\0 < qs.length/\qs.length<=64/\w3.heap.size<=wc.heap.size/\ym w0 wc p/\Touch (λk=>k=p) w wc)
 case first =>
  by_cases hz:n=0
  · subst hz;obtain rfl:ps=[]:=List.eq_nil_of_length_eq_zero b3.out.symm;clear aq;obtain ⟨aw,GB,HB⟩:=A9;go_wp2;clear GB HB;have ab:=yD (kD.kPm (e:=9) w3 (kD.kGz (s:={ data:=#[97] }) bF1));generalize o:World.alloc w3 _=w4 at ab ⊢;have ce:Qb w3 w4:=tF;have b5:w3.heap.size + 1<=w4.heap.size:=bD6;clear o J;replace R:=kC R ce;replace B:=kC B ce;replace hc:=hc.below ce;replace O:=O.trans (Touch.of_below ce);clear aw ce;have J:=yD (kD.kY.wide (T:=λj=>w1.heap.size<=j/\j < w4.heap.size/\j≠w2.heap.size) ab.out rO);clear ab;generalize o:World.setCell w4 _ _=w5;have cg:Touch (λk=>k=w2.heap.size) w4 w5:=wY;replace B:Qr w5 w2 #[.slice (some ⟨w3,0,none⟩) 1 1] 36:=wG;have b4:=cg.size;clear o;replace R:=cg.kC R bF2;replace J:=yD (J.out.touch cg (λk q=>q.2.2));replace hc:=hc.touch cg bF2 bB6;replace O:=O.jJ cg bF2;clear cg;go_meet;exact ⟨_,_,[({ data:=#[97] }:Ab)],R,B,yD ((J.out.own bF1).wide (λk q=>⟨by have:=q.1;omega,by have:=q.2.1;omega,q.2.2,by have:=q.1;omega⟩)),by decide,by decide,by omega,hc,O⟩
  have c3:¬ (n:Int)=0:=bF2;obtain rfl:=b3.out;go_wp2;go_meet;exact ⟨a,c,ps,R,B,yD ((J.out.own bB1).wide (λk q=>⟨by have:=q.1;omega,by have:=q.2;omega,by have:=q.2;omega,by have:=q.1;omega⟩)),by omega,by omega,Nat.le_refl _,hc,O⟩
 rename Ae=>X
 clear R J b3 hc O B aq
 obtain ⟨na,nc,qs,R,B,J,cl,c6,d6,hc,O⟩:=hcut
 have c5:=hc.lt.2
 go_upto_region 4 with fail
 go_cut [4] from 13 to 26 (λs4 wd=>∃ (b:Nat) (ba:Ac Ai) (bc:Nat) (bl:Aj Ak) (ka:Ac Ai) (kc:Nat) (Y:ko) (z:Int),s4=.pointer (some ⟨b,0,none⟩)/\Qr wd b #[Qs na qs nc,Qs ba bl bc,Qs ka Y kc,.int .i64 (40 + z),Qn 0] 60/\Hid ((kD.slice 5 kD.byte).jr wd [Qs ba bl bc] bl (λk=>X.heap.size<=k/\k≠b))/\bl.length<=4/\Hid (kR.jr wd [Qs ka Y kc] Y (λk=>X.heap.size<=k/\k≠b))/\(0<=z/\z < 60)/\X.heap.size<=b/\b < wd.heap.size/\ym w0 wd p/\Touch (λk=>k=p) X wd)
 case first =>
  have FX:=yD (λ(W:Ae) (hW:Touch (λk=>k=p) X W/\ym w0 W p)=>kE (hW.1.kC B bF2) (j:=0) (v:=Qs na qs nc) rfl);refine yg (λW=>Touch (λk=>k=p) X W/\ym w0 W p) bE5 (⟨Touch.of_below bR.drew,hc.below bR.drew⟩) ?_;intro t E;have dt:=E.1.size;refine kT 0 ?_;refine kT 1 ?_;refine kT 2 ?_;refine kT 5 ?_;refine kT 9 ?_;refine kIg ?_;intro T A hT hA;have ag:∀ (x:Int) (ba:Ac Ai) (bc:Nat) (bl:Aj Ak) (U:Nat) (y:Ab) (ka:Ac Ai) (kc:Nat) (Y:ko) (z:Int) (b:Nat) (W:Ae),Touch (λk=>k=p) X W/\ym w0 W p->(0<=x)->(x < 5)->(bl.length<=4)->(Hid ((kD.slice 5 kD.byte).jr W [Qs ba bl bc] bl (Ql X W b)))->(y∈([{ data:=#[47,107,101,121,47,97] },{ data:=#[47,107,101,121,47,98] },{ data:=#[47,97,47,107,101,121] }]:Aj Ab))->(Hid (kR.jr W [Qs ka Y kc] Y (Ql X W b)))->(0<=z)->(z < 60)->(Ah.wrap (40 + z)=40 + z)->(X.heap.size<=b/\b < W.heap.size)->(Qr W b #[Qs na qs nc,Qs ba bl bc,Qs ka Y kc,.int .i64 (40 + z),Qn 0] 60)->T 0 [Tt,Tt,Tt,Tt,Tt,Tt,Tt,Tt,Tt,Tt,Tt,Tt,Tt,Tt,Tt] (Aa (Aa (Aa (Aa (Aa (Aa (Aa (Aa (Aa A (some 16) (Qn x)) (some 17) (Qs ba bl bc)) (some 19) (.slice (some ⟨U,0,none⟩) 3 3)) (some 20) (.string y)) (some 21) (.agg #[Qs ka Y kc])) (some 23) (Qn z)) (some 24) (.int .i64 (40 + z))) (some 25) (.agg #[Qs na qs nc,Qs ba bl bc,Qs ka Y kc,.int .i64 (40 + z),Qn 0])) (some 4) (.pointer (some ⟨b,0,none⟩))) W:=by
   intro x ba bc bl U y ka kc Y z b W E ai L au HB bd HK a5 bn hw Z BB;subst hT;subst hA;simp only [Aa,zA,zB,zC];refine jv bE5 ?_;go_wp2;go_meet;exact ⟨b,ba,bc,bl,ka,kc,Y,z,rfl,BB,yD (HB.out.wide (λk q=>⟨q.1,q.2.2⟩)),au,yD (HK.out.wide (λk q=>⟨q.1,q.2.2⟩)),⟨a5,bn⟩,Z.1,Z.2,E.2,E.1⟩
  have aa:∀ (x:Int) (ba:Ac Ai) (bc:Nat) (bl:Aj Ak) (U:Nat) (y:Ab) (ka:Ac Ai) (kc:Nat) (Y:ko) (z:Int) (b:Nat) (W:Ae),Touch (λk=>k=p) X W/\ym w0 W p->(0<=x)->(x < 5)->(bl.length<=4)->(Hid ((kD.slice 5 kD.byte).jr W [Qs ba bl bc] bl (Ql X W b)))->(y∈([{ data:=#[47,107,101,121,47,97] },{ data:=#[47,107,101,121,47,98] },{ data:=#[47,97,47,107,101,121] }]:Aj Ab))->(Hid (kR.jr W [Qs ka Y kc] Y (Ql X W b)))->(0<=z)->(z < 60)->(Ah.wrap (40 + z)=40 + z)->(X.heap.size<=b/\b < W.heap.size)->(Qr W b #[.slice none 0 0,.slice none 0 0,.slice none 0 0,Qn 0,Qn 0] 60)->T 1 [Tt,Tt,Tt,Tt,Tt,Tt,Tt,Tt,Tt,Tt,Tt,Tt,Tt,Tt,Ff] (Aa (Aa (Aa (Aa (Aa (Aa (Aa (Aa (Aa A (some 16) (Qn x)) (some 17) (Qs ba bl bc)) (some 19) (.slice (some ⟨U,0,none⟩) 3 3)) (some 20) (.string y)) (some 21) (.agg #[Qs ka Y kc])) (some 23) (Qn z)) (some 24) (.int .i64 (40 + z))) (some 25) (.agg #[Qs na qs nc,Qs ba bl bc,Qs ka Y kc,.int .i64 (40 + z),Qn 0])) (some 4) (.pointer (some ⟨b,0,none⟩))) W:=by
   intro x ba bc bl U y ka kc Y z b W E ai L au HB bd HK a5 bn hw Z BB;subst hT;subst hA;simp only [Aa,zA,zB,zC];refine kU (k:=14) rfl bE5 rfl (λK H=>?_);obtain ⟨dx,dj,dv,dy,de⟩:=yZ BB;obtain ⟨cz,da,db,dg,dc⟩:=kCo BB;go_simp;generalize o:World.setCell (World.setCell (World.setCell (World.setCell (World.setCell W _ _) _ _) _ _) _ _) _ _=v;have hT:Touch (λk=>k=b) W v:=(by rw [<- o];exact sT5);replace BB:Qr v b #[Qs na qs nc,Qs ba bl bc,Qs ka Y kc,.int .i64 (40 + z),Qn 0] 60:=(by rw [<- o];exact kG (kG (kG (kG (kG (BB) 0) 1) 2) 3) 4);clear o dx dj dv dy de cz da db dg dc;have zv:=hT.size;replace HB:Hid ((kD.slice 5 kD.byte).jr v [Qs ba bl bc] bl (Ql X v b)):=yD ((HB.out.touch hT (λk q h=>q.2.2 h)).wide (λk q=>⟨q.1,Nat.lt_of_lt_of_le q.2.1 hT.size,q.2.2⟩));replace HK:Hid (kR.jr v [Qs ka Y kc] Y (Ql X v b)):=yD ((HK.out.touch hT (λk q h=>q.2.2 h)).wide (λk q=>⟨q.1,Nat.lt_of_lt_of_le q.2.1 hT.size,q.2.2⟩));replace Z:X.heap.size<=b/\b < v.heap.size:=⟨Z.1,Nat.lt_of_lt_of_le Z.2 hT.size⟩;replace E:=And.intro (E.1.jJ hT bF2) (E.2.touch hT bF2 rC);refine H _ _ E ?_;clear H K;refine jH ?_;have h_:=ag x ba bc bl U y ka kc Y z b v E ai L au HB bd HK a5 bn hw Z BB;exact dW
  have bq:∀ (x:Int) (ba:Ac Ai) (bc:Nat) (bl:Aj Ak) (U:Nat) (y:Ab) (ka:Ac Ai) (kc:Nat) (Y:ko) (z:Int) (W:Ae),Touch (λk=>k=p) X W/\ym w0 W p->(0<=x)->(x < 5)->(bl.length<=4)->(Hid ((kD.slice 5 kD.byte).jr W [Qs ba bl bc] bl (Ql X W p)))->(y∈([{ data:=#[47,107,101,121,47,97] },{ data:=#[47,107,101,121,47,98] },{ data:=#[47,97,47,107,101,121] }]:Aj Ab))->(Hid (kR.jr W [Qs ka Y kc] Y (Ql X W p)))->(0<=z)->(z < 60)->(Ah.wrap (40 + z)=40 + z)->T 2 [Tt,Tt,Tt,Tt,Tt,Tt,Tt,Tt,Tt,Tt,Tt,Tt,Tt,Ff,Ff] (Aa (Aa (Aa (Aa (Aa (Aa (Aa (Aa A (some 16) (Qn x)) (some 17) (Qs ba bl bc)) (some 19) (.slice (some ⟨U,0,none⟩) 3 3)) (some 20) (.string y)) (some 21) (.agg #[Qs ka Y kc])) (some 23) (Qn z)) (some 24) (.int .i64 (40 + z))) (some 25) (.agg #[Qs na qs nc,Qs ba bl bc,Qs ka Y kc,.int .i64 (40 + z),Qn 0])) W:=by
   intro x ba bc bl U y ka kc Y z W E ai L au HB bd HK a5 bn hw;have bk:=E.1.size;subst hT;subst hA;simp only [Aa,zA,zB,zC];refine kU (k:=13) rfl bE5 rfl (λK H=>?_);go_simp;refine ja ?_;intro v hb BB zv;obtain ⟨b,a6⟩:∃ b_,b_=W.heap.size:=⟨_,rfl⟩;rw [<- a6] at BB ⊢;obtain ⟨HB,HK⟩:=DK;obtain ⟨Z,E⟩:=xL;refine H _ _ E ?_;clear H K;refine jH ?_;exact iF
  have a2:∀ (x:Int) (ba:Ac Ai) (bc:Nat) (bl:Aj Ak) (U:Nat) (y:Ab) (ka:Ac Ai) (kc:Nat) (Y:ko) (b:Nat) (W:Ae),Touch (λk=>k=p) X W/\ym w0 W p->(0<=x)->(x < 5)->(bl.length<=4)->(Hid ((kD.slice 5 kD.byte).jr W [Qs ba bl bc] bl (Ql X W b)))->(y∈([{ data:=#[47,107,101,121,47,97] },{ data:=#[47,107,101,121,47,98] },{ data:=#[47,97,47,107,101,121] }]:Aj Ab))->(Hid (kR.jr W [Qs ka Y kc] Y (Ql X W b)))->(X.heap.size<=b/\b < W.heap.size)->(Qr W b #[.slice none 0 0,.slice none 0 0,.slice none 0 0,Qn 0,Qn 0] 60)->T 4 [Tt,Tt,Tt,Tt,Tt,Tt,Tt,Tt,Tt,Tt,Ff,Ff,Ff,Tt,Ff] (Aa (Aa (Aa (Aa (Aa (Aa A (some 16) (Qn x)) (some 17) (Qs ba bl bc)) (some 19) (.slice (some ⟨U,0,none⟩) 3 3)) (some 20) (.string y)) (some 21) (.agg #[Qs ka Y kc])) (some 4) (.pointer (some ⟨b,0,none⟩))) W:=by
   intro x ba bc bl U y ka kc Y b W E ai L au HB bd HK Z BB;subst hT;subst hA;simp only [Aa,zA,zB,zC];refine kU (k:=10) rfl bE5 rfl (λK H=>?_);go_simp;refine (kZ (n:=60) E.2 bF1).mono ?_;rintro e v ⟨z,a5,bn,ax,rfl,F,D⟩;replace HB:Hid ((kD.slice 5 kD.byte).jr v [Qs ba bl bc] bl (Ql X v b)):=yD ((HB.out.touch D tZ).wide (λk q=>⟨q.1,Nat.lt_of_lt_of_le q.2.1 D.size,q.2.2⟩));replace HK:Hid (kR.jr v [Qs ka Y kc] Y (Ql X v b)):=yD ((HK.out.touch D tZ).wide (λk q=>⟨q.1,Nat.lt_of_lt_of_le q.2.1 D.size,q.2.2⟩));obtain ⟨BB,Z⟩:=xP;replace bn:=bn bF1;clear ax;have hw:Ah.wrap (40 + z)=40 + z:=Al _ bF2;replace E:=And.intro (E.1.trans D) F;refine H _ _ E ?_;clear H K;refine jH ?_;refine kT 11 ?_;refine kT 12 ?_;exact iF
  have b2:∀ (x:Int) (ba:Ac Ai) (bc:Nat) (bl:Aj Ak) (U:Nat) (y:Ab) (ka:Ac Ai) (kc:Nat) (Y:ko) (W:Ae),Touch (λk=>k=p) X W/\ym w0 W p->(0<=x)->(x < 5)->(bl.length<=4)->(Hid ((kD.slice 5 kD.byte).jr W [Qs ba bl bc] bl (Ql X W p)))->(y∈([{ data:=#[47,107,101,121,47,97] },{ data:=#[47,107,101,121,47,98] },{ data:=#[47,97,47,107,101,121] }]:Aj Ab))->(Hid (kR.jr W [Qs ka Y kc] Y (Ql X W p)))->T 5 [Tt,Tt,Tt,Tt,Tt,Tt,Tt,Tt,Tt,Tt,Ff,Ff,Ff,Ff,Ff] (Aa (Aa (Aa (Aa (Aa A (some 16) (Qn x)) (some 17) (Qs ba bl bc)) (some 19) (.slice (some ⟨U,0,none⟩) 3 3)) (some 20) (.string y)) (some 21) (.agg #[Qs ka Y kc])) W:=by
   intro x ba bc bl U y ka kc Y W E ai L au HB bd HK;have bk:=E.1.size;subst hT;subst hA;simp only [Aa,zA,zB,zC];refine yH (i:=10) (j:=13) rfl rfl bE5 rfl rfl (λK H=>?_) (λK H=>?_)
   · go_simp;refine (kZ (n:=60) E.2 bF1).mono ?_;rintro e v ⟨z,a5,bn,ax,rfl,F,D⟩;replace HB:Hid ((kD.slice 5 kD.byte).jr v [Qs ba bl bc] bl (Ql X v p)):=yD ((HB.out.touch D tZ).wide (λk q=>⟨q.1,Nat.lt_of_lt_of_le q.2.1 D.size,q.2.2⟩));replace HK:Hid (kR.jr v [Qs ka Y kc] Y (Ql X v p)):=yD ((HK.out.touch D tZ).wide (λk q=>⟨q.1,Nat.lt_of_lt_of_le q.2.1 D.size,q.2.2⟩));replace bn:=bn bF1;clear ax;have hw:Ah.wrap (40 + z)=40 + z:=Al _ bF2;replace E:=And.intro (E.1.trans D) F;refine H _ _ E ?_;clear H K;refine jH ?_;refine kT 11 ?_;refine kT 12 ?_;have h_:=bq x ba bc bl U y ka kc Y z v E ai L au HB bd HK a5 bn hw;exact dW
   go_simp;refine ja ?_;intro v hb BB zv;obtain ⟨b,a6⟩:∃ b_,b_=W.heap.size:=⟨_,rfl⟩;rw [<- a6] at BB ⊢;obtain ⟨HB,HK⟩:=DK;have Z:X.heap.size<=b/\b < v.heap.size:=⟨by omega,by omega⟩;exact iG
  have a9:∀ (x:Int) (ba:Ac Ai) (bc:Nat) (bl:Aj Ak) (U:Nat) (y:Ab) (b:Nat) (W:Ae),Touch (λk=>k=p) X W/\ym w0 W p->(0<=x)->(x < 5)->(bl.length<=4)->(Hid ((kD.slice 5 kD.byte).jr W [Qs ba bl bc] bl (Ql X W b)))->(y∈([{ data:=#[47,107,101,121,47,97] },{ data:=#[47,107,101,121,47,98] },{ data:=#[47,97,47,107,101,121] }]:Aj Ab))->(X.heap.size<=b/\b < W.heap.size)->(Qr W b #[.slice none 0 0,.slice none 0 0,.slice none 0 0,Qn 0,Qn 0] 60)->T 5 [Tt,Tt,Tt,Tt,Tt,Tt,Tt,Tt,Ff,Tt,Ff,Ff,Ff,Tt,Ff] (Aa (Aa (Aa (Aa (Aa A (some 16) (Qn x)) (some 17) (Qs ba bl bc)) (some 19) (.slice (some ⟨U,0,none⟩) 3 3)) (some 20) (.string y)) (some 4) (.pointer (some ⟨b,0,none⟩))) W:=by
   intro x ba bc bl U y b W E ai L au HB bd Z BB;subst hT;subst hA;simp only [Aa,zA,zB,zC];refine kU (k:=8) rfl bE5 rfl (λK H=>?_);go_simp;refine (yz (kD.kDd bF1 bd)).mono ?_;rintro e v ⟨ka,kc,Y,rfl,hO,hkl,c1,hb⟩;have b9:=Z.2;replace HB:Hid ((kD.slice 5 kD.byte).jr v [Qs ba bl bc] bl (Ql X v b)):=yD ((HB.out.below hb).wide (λk q=>⟨q.1,Nat.lt_of_lt_of_le q.2.1 hb.size,q.2.2⟩));obtain ⟨BB,Z⟩:=AV;have HK:Hid (kR.jr v [Qs ka Y kc] Y (Ql X v b)):=yD (hO.jr.wide mM);exact iG
  have b7:∀ (x:Int) (ba:Ac Ai) (bc:Nat) (bl:Aj Ak) (U:Nat) (y:Ab) (W:Ae),Touch (λk=>k=p) X W/\ym w0 W p->(0<=x)->(x < 5)->(bl.length<=4)->(Hid ((kD.slice 5 kD.byte).jr W [Qs ba bl bc] bl (Ql X W p)))->(y∈([{ data:=#[47,107,101,121,47,97] },{ data:=#[47,107,101,121,47,98] },{ data:=#[47,97,47,107,101,121] }]:Aj Ab))->T 6 [Tt,Tt,Tt,Tt,Tt,Tt,Tt,Tt,Ff,Tt,Ff,Ff,Ff,Ff,Ff] (Aa (Aa (Aa (Aa A (some 16) (Qn x)) (some 17) (Qs ba bl bc)) (some 19) (.slice (some ⟨U,0,none⟩) 3 3)) (some 20) (.string y)) W:=by
   intro x ba bc bl U y W E ai L au HB bd;have bk:=E.1.size;subst hT;subst hA;simp only [Aa,zA,zB,zC];refine yH (i:=8) (j:=13) rfl rfl bE5 rfl rfl (λK H=>?_) (λK H=>?_)
   · go_simp;refine (yz (kD.kDd bF1 bd)).mono ?_;rintro e v ⟨ka,kc,Y,rfl,hO,hkl,c1,hb⟩;replace HB:Hid ((kD.slice 5 kD.byte).jr v [Qs ba bl bc] bl (Ql X v p)):=yD ((HB.out.below hb).wide (λk q=>⟨q.1,Nat.lt_of_lt_of_le q.2.1 hb.size,q.2.2⟩));have HK:Hid (kR.jr v [Qs ka Y kc] Y (Ql X v p)):=yD (hO.jr.wide mM);replace E:=And.intro (E.1.trans (Touch.of_below hb)) (E.2.below hb);refine H _ _ E ?_;clear H K;refine jH ?_;have h_:=b2 x ba bc bl U y ka kc Y v E ai L au HB bd HK;exact dW
   go_simp;refine ja ?_;intro v hb BB zv;obtain ⟨b,a6⟩:∃ b_,b_=W.heap.size:=⟨_,rfl⟩;rw [<- a6] at BB ⊢;replace HB:Hid ((kD.slice 5 kD.byte).jr v [Qs ba bl bc] bl (Ql X v b)):=yD ((HB.out.below hb).wide dM);obtain ⟨Z,E⟩:=xL;exact iH
  have a3:∀ (x:Int) (ba:Ac Ai) (bc:Nat) (bl:Aj Ak) (U:Nat) (b:Nat) (W:Ae),Touch (λk=>k=p) X W/\ym w0 W p->(0<=x)->(x < 5)->(bl.length<=4)->(Hid ((kD.slice 5 kD.byte).jr W [Qs ba bl bc] bl (Ql X W b)))->(X.heap.size<=U/\U < W.heap.size)->(Hid ((kD.slice 9 kD.str).own W [.slice (some ⟨U,0,none⟩) 3 3] [{ data:=#[47,107,101,121,47,97] },{ data:=#[47,107,101,121,47,98] },{ data:=#[47,97,47,107,101,121] }] (λk=>k=U)))->(X.heap.size<=b/\b < W.heap.size)->(Qr W b #[.slice none 0 0,.slice none 0 0,.slice none 0 0,Qn 0,Qn 0] 60)->T 6 [Tt,Tt,Tt,Tt,Tt,Tt,Tt,Ff,Ff,Tt,Ff,Ff,Ff,Tt,Ff] (Aa (Aa (Aa (Aa A (some 16) (Qn x)) (some 17) (Qs ba bl bc)) (some 19) (.slice (some ⟨U,0,none⟩) 3 3)) (some 4) (.pointer (some ⟨b,0,none⟩))) W:=by
   intro x ba bc bl U b W E ai L au HB h6 HL Z BB;subst hT;subst hA;simp only [Aa,zA,zB,zC];refine kU (k:=7) rfl bE5 rfl (λK H=>?_);go_simp;refine (kAn E.2 HL.out bF2 bF1 bF1).mono ?_;rintro e v ⟨y,bd,bv,rfl,F,D⟩;replace HB:Hid ((kD.slice 5 kD.byte).jr v [Qs ba bl bc] bl (Ql X v b)):=yD ((HB.out.touch D tZ).wide (λk q=>⟨q.1,Nat.lt_of_lt_of_le q.2.1 D.size,q.2.2⟩));obtain ⟨BB,Z⟩:=xP;replace E:=And.intro (E.1.trans D) F;exact iH
  have b6:∀ (x:Int) (ba:Ac Ai) (bc:Nat) (bl:Aj Ak) (U:Nat) (W:Ae),Touch (λk=>k=p) X W/\ym w0 W p->(0<=x)->(x < 5)->(bl.length<=4)->(Hid ((kD.slice 5 kD.byte).jr W [Qs ba bl bc] bl (Ql X W p)))->(X.heap.size<=U/\U < W.heap.size)->(Hid ((kD.slice 9 kD.str).own W [.slice (some ⟨U,0,none⟩) 3 3] [{ data:=#[47,107,101,121,47,97] },{ data:=#[47,107,101,121,47,98] },{ data:=#[47,97,47,107,101,121] }] (λk=>k=U)))->T 7 [Tt,Tt,Tt,Tt,Tt,Tt,Tt,Ff,Ff,Tt,Ff,Ff,Ff,Ff,Ff] (Aa (Aa (Aa A (some 16) (Qn x)) (some 17) (Qs ba bl bc)) (some 19) (.slice (some ⟨U,0,none⟩) 3 3)) W:=by
   intro x ba bc bl U W E ai L au HB h6 HL;have bk:=E.1.size;subst hT;subst hA;simp only [Aa,zA,zB,zC];refine yH (i:=7) (j:=13) rfl rfl bE5 rfl rfl (λK H=>?_) (λK H=>?_)
   · go_simp;refine (kAn E.2 HL.out bF2 bF1 bF1).mono ?_;rintro e v ⟨y,bd,bv,rfl,F,D⟩;replace HB:Hid ((kD.slice 5 kD.byte).jr v [Qs ba bl bc] bl (Ql X v p)):=yD ((HB.out.touch D tZ).wide (λk q=>⟨q.1,Nat.lt_of_lt_of_le q.2.1 D.size,q.2.2⟩));replace E:=And.intro (E.1.trans D) F;refine H _ _ E ?_;clear H K;refine jH ?_;have h_:=b7 x ba bc bl U y v E ai L au HB bd;exact dW
   go_simp;refine ja ?_;intro v hb BB zv;obtain ⟨b,a6⟩:∃ b_,b_=W.heap.size:=⟨_,rfl⟩;rw [<- a6] at BB ⊢;replace HB:Hid ((kD.slice 5 kD.byte).jr v [Qs ba bl bc] bl (Ql X v b)):=yD ((HB.out.below hb).wide dM);obtain ⟨HL,h6,Z⟩:=wH;exact iI
  have b1:∀ (x:Int) (ba:Ac Ai) (bc:Nat) (bl:Aj Ak) (b:Nat) (W:Ae),Touch (λk=>k=p) X W/\ym w0 W p->(0<=x)->(x < 5)->(bl.length<=4)->(Hid ((kD.slice 5 kD.byte).jr W [Qs ba bl bc] bl (Ql X W b)))->(X.heap.size<=b/\b < W.heap.size)->(Qr W b #[.slice none 0 0,.slice none 0 0,.slice none 0 0,Qn 0,Qn 0] 60)->T 7 [Tt,Tt,Tt,Tt,Tt,Tt,Ff,Ff,Ff,Tt,Ff,Ff,Ff,Tt,Ff] (Aa (Aa (Aa A (some 16) (Qn x)) (some 17) (Qs ba bl bc)) (some 4) (.pointer (some ⟨b,0,none⟩))) W:=by
   intro x ba bc bl b W E ai L au HB Z BB;have bk:=E.1.size;subst hT;subst hA;simp only [Aa,zA,zB,zC];refine kU (k:=6) rfl bE5 rfl (λK H=>?_);go_simp;have HL:Hid ((kD.slice 9 kD.str).own (World.alloc W (.cells #[.string { data:=#[47,107,101,121,47,97] },.string { data:=#[47,107,101,121,47,98] },.string { data:=#[47,97,47,107,101,121] }] 9)) [.slice (some ⟨W,0,none⟩) 3 3] [{ data:=#[47,107,101,121,47,97] },{ data:=#[47,107,101,121,47,98] },{ data:=#[47,97,47,107,101,121] }] (λk=>k=W.heap.size)):=yD (kD.kBs W [{ data:=#[47,107,101,121,47,97] },{ data:=#[47,107,101,121,47,98] },{ data:=#[47,97,47,107,101,121] }] bF1 bF1);generalize o:World.alloc W _=v at HL ⊢;obtain ⟨hb,zv⟩:=xY;clear o;replace HB:Hid ((kD.slice 5 kD.byte).jr v [Qs ba bl bc] bl (Ql X v b)):=yD ((HB.out.below hb).wide (λk q=>⟨q.1,Nat.lt_of_lt_of_le q.2.1 hb.size,q.2.2⟩));obtain ⟨BB,Z⟩:=AV;obtain ⟨U,a4⟩:∃ b_,b_=W.heap.size:=⟨_,rfl⟩;rw [<- a4] at HL ⊢;have h6:X.heap.size<=U/\U < v.heap.size:=⟨by omega,by omega⟩;exact iI
  have bb:∀ (x:Int) (U:Nat) (b:Nat) (W:Ae),Touch (λk=>k=p) X W/\ym w0 W p->(0<=x)->(x < 5)->(X.heap.size<=U/\U < W.heap.size)->(Hid ((kD.slice 9 kD.str).own W [.slice (some ⟨U,0,none⟩) 3 3] [{ data:=#[47,107,101,121,47,97] },{ data:=#[47,107,101,121,47,98] },{ data:=#[47,97,47,107,101,121] }] (λk=>k=U)))->(X.heap.size<=b/\b < W.heap.size)->(Qr W b #[.slice none 0 0,.slice none 0 0,.slice none 0 0,Qn 0,Qn 0] 60)->T 7 [Tt,Tt,Tt,Tt,Ff,Tt,Tt,Ff,Ff,Tt,Ff,Ff,Ff,Tt,Ff] (Aa (Aa (Aa A (some 16) (Qn x)) (some 19) (.slice (some ⟨U,0,none⟩) 3 3)) (some 4) (.pointer (some ⟨b,0,none⟩))) W:=by
   intro x U b W E ai L h6 HL Z BB;have bk:=E.1.size;subst hT;subst hA;simp only [Aa,zA,zB,zC];refine kU (k:=4) rfl bE5 rfl (λK H=>?_);go_simp;refine (kCs E.2 ai bF2).mono ?_;rintro e v ⟨ba,bc,bl,rfl,cf,hO,F,D⟩;have b9:=Z.2;obtain ⟨HL,h6⟩:=uY;obtain ⟨BB,Z⟩:=xP;obtain ⟨au,HB,E⟩:=FL;refine H _ _ E ?_;clear H K;refine jH ?_;have h_:=a3 x ba bc bl U b v E ai L au HB h6 HL Z BB;simp only [Aa,zA,zB,zC] at h_;exact h_
  have c7:∀ (x:Int) (ba:Ac Ai) (bc:Nat) (bl:Aj Ak) (W:Ae),Touch (λk=>k=p) X W/\ym w0 W p->(0<=x)->(x < 5)->(bl.length<=4)->(Hid ((kD.slice 5 kD.byte).jr W [Qs ba bl bc] bl (Ql X W p)))->T 8 [Tt,Tt,Tt,Tt,Tt,Tt,Ff,Ff,Ff,Tt,Ff,Ff,Ff,Ff,Ff] (Aa (Aa A (some 16) (Qn x)) (some 17) (Qs ba bl bc)) W:=by
   intro x ba bc bl W E ai L au HB;have bk:=E.1.size;subst hT;subst hA;simp only [Aa,zA,zB,zC];refine yH (i:=6) (j:=13) rfl rfl bE5 rfl rfl (λK H=>?_) (λK H=>?_)
   · go_simp;have HL:Hid ((kD.slice 9 kD.str).own (World.alloc W (.cells #[.string { data:=#[47,107,101,121,47,97] },.string { data:=#[47,107,101,121,47,98] },.string { data:=#[47,97,47,107,101,121] }] 9)) [.slice (some ⟨W,0,none⟩) 3 3] [{ data:=#[47,107,101,121,47,97] },{ data:=#[47,107,101,121,47,98] },{ data:=#[47,97,47,107,101,121] }] (λk=>k=W.heap.size)):=yD (kD.kBs W [{ data:=#[47,107,101,121,47,97] },{ data:=#[47,107,101,121,47,98] },{ data:=#[47,97,47,107,101,121] }] bF1 bF1);generalize o:World.alloc W _=v at HL ⊢;obtain ⟨hb,zv⟩:=xY;clear o;replace HB:Hid ((kD.slice 5 kD.byte).jr v [Qs ba bl bc] bl (Ql X v p)):=yD ((HB.out.below hb).wide (λk q=>⟨q.1,Nat.lt_of_lt_of_le q.2.1 hb.size,q.2.2⟩));obtain ⟨U,a4⟩:∃ b_,b_=W.heap.size:=⟨_,rfl⟩;rw [<- a4] at HL ⊢;obtain ⟨h6,E⟩:=BJ;exact iJ
   go_simp;refine ja ?_;intro v hb BB zv;obtain ⟨b,a6⟩:∃ b_,b_=W.heap.size:=⟨_,rfl⟩;rw [<- a6] at BB ⊢;replace HB:Hid ((kD.slice 5 kD.byte).jr v [Qs ba bl bc] bl (Ql X v b)):=yD ((HB.out.below hb).wide dM);obtain ⟨Z,E⟩:=xL;exact iK
  have cm:∀ (x:Int) (U:Nat) (W:Ae),Touch (λk=>k=p) X W/\ym w0 W p->(0<=x)->(x < 5)->(X.heap.size<=U/\U < W.heap.size)->(Hid ((kD.slice 9 kD.str).own W [.slice (some ⟨U,0,none⟩) 3 3] [{ data:=#[47,107,101,121,47,97] },{ data:=#[47,107,101,121,47,98] },{ data:=#[47,97,47,107,101,121] }] (λk=>k=U)))->T 8 [Tt,Tt,Tt,Tt,Ff,Tt,Tt,Ff,Ff,Tt,Ff,Ff,Ff,Ff,Ff] (Aa (Aa A (some 16) (Qn x)) (some 19) (.slice (some ⟨U,0,none⟩) 3 3)) W:=by
   intro x U W E ai L h6 HL;have bk:=E.1.size;subst hT;subst hA;simp only [Aa,zA,zB,zC];refine yH (i:=4) (j:=13) rfl rfl bE5 rfl rfl (λK H=>?_) (λK H=>?_)
   · go_simp;refine (kCs E.2 ai bF2).mono ?_;rintro e v ⟨ba,bc,bl,rfl,cf,hO,F,D⟩;obtain ⟨HL,h6⟩:=uY;obtain ⟨au,HB,E⟩:=FM;exact iJ
   go_simp;refine ja ?_;intro v hb BB zv;obtain ⟨b,a6⟩:∃ b_,b_=W.heap.size:=⟨_,rfl⟩;rw [<- a6] at BB ⊢;obtain ⟨HL,h6,Z⟩:=wH;exact iL
  have b8:∀ (x:Int) (b:Nat) (W:Ae),Touch (λk=>k=p) X W/\ym w0 W p->(0<=x)->(x < 5)->(X.heap.size<=b/\b < W.heap.size)->(Qr W b #[.slice none 0 0,.slice none 0 0,.slice none 0 0,Qn 0,Qn 0] 60)->T 8 [Tt,Tt,Tt,Tt,Ff,Tt,Ff,Ff,Ff,Tt,Ff,Ff,Ff,Tt,Ff] (Aa (Aa A (some 16) (Qn x)) (some 4) (.pointer (some ⟨b,0,none⟩))) W:=by
   intro x b W E ai L Z BB;have bk:=E.1.size;subst hT;subst hA;simp only [Aa,zA,zB,zC];refine yH (i:=4) (j:=6) rfl rfl bE5 rfl rfl (λK H=>?_) (λK H=>?_)
   · go_simp;refine (kCs E.2 ai bF2).mono ?_;rintro e v ⟨ba,bc,bl,rfl,cf,hO,F,D⟩;have b9:=Z.2;obtain ⟨BB,Z⟩:=xP;obtain ⟨au,HB,E⟩:=FL;exact iK
   go_simp;have HL:Hid ((kD.slice 9 kD.str).own (World.alloc W (.cells #[.string { data:=#[47,107,101,121,47,97] },.string { data:=#[47,107,101,121,47,98] },.string { data:=#[47,97,47,107,101,121] }] 9)) [.slice (some ⟨W,0,none⟩) 3 3] [{ data:=#[47,107,101,121,47,97] },{ data:=#[47,107,101,121,47,98] },{ data:=#[47,97,47,107,101,121] }] (λk=>k=W.heap.size)):=yD (kD.kBs W [{ data:=#[47,107,101,121,47,97] },{ data:=#[47,107,101,121,47,98] },{ data:=#[47,97,47,107,101,121] }] bF1 bF1);generalize o:World.alloc W _=v at HL ⊢;obtain ⟨hb,zv⟩:=xY;clear o;obtain ⟨BB,Z⟩:=AV;obtain ⟨U,a4⟩:∃ b_,b_=W.heap.size:=⟨_,rfl⟩;rw [<- a4] at HL ⊢;have h6:X.heap.size<=U/\U < v.heap.size:=⟨by omega,by omega⟩;exact iL
  have cc:∀ (U:Nat) (b:Nat) (W:Ae),Touch (λk=>k=p) X W/\ym w0 W p->(X.heap.size<=U/\U < W.heap.size)->(Hid ((kD.slice 9 kD.str).own W [.slice (some ⟨U,0,none⟩) 3 3] [{ data:=#[47,107,101,121,47,97] },{ data:=#[47,107,101,121,47,98] },{ data:=#[47,97,47,107,101,121] }] (λk=>k=U)))->(X.heap.size<=b/\b < W.heap.size)->(Qr W b #[.slice none 0 0,.slice none 0 0,.slice none 0 0,Qn 0,Qn 0] 60)->T 8 [Tt,Tt,Tt,Ff,Ff,Tt,Tt,Ff,Ff,Tt,Ff,Ff,Ff,Tt,Ff] (Aa (Aa A (some 19) (.slice (some ⟨U,0,none⟩) 3 3)) (some 4) (.pointer (some ⟨b,0,none⟩))) W:=by
   intro U b W E h6 HL Z BB;subst hT;subst hA;simp only [Aa,zA,zB,zC];refine kU (k:=3) rfl bE5 rfl (λK H=>?_);go_simp;refine (kZ (n:=5) E.2 bF1).mono ?_;rintro e v ⟨x,ai,L,bf,rfl,F,D⟩;obtain ⟨HL,h6⟩:=uY;obtain ⟨BB,Z⟩:=xP;replace L:=L bF1;clear bf;replace E:=And.intro (E.1.trans D) F;refine H _ _ E ?_;clear H K;refine jH ?_;have h_:=bb x U b v E ai L h6 HL Z BB;simp only [Aa,zA,zB,zC] at h_;exact h_
  have T3:∀ (x:Int) (W:Ae),Touch (λk=>k=p) X W/\ym w0 W p->(0<=x)->(x < 5)->T 9 [Tt,Tt,Tt,Tt,Ff,Tt,Ff,Ff,Ff,Tt,Ff,Ff,Ff,Ff,Ff] (Aa A (some 16) (Qn x)) W:=by
   intro x W E ai L;have bk:=E.1.size;subst hT;subst hA;simp only [Aa,zA,zB,zC];refine kZe (i:=4) (j:=6) (m:=13) rfl rfl rfl bE5 rfl rfl rfl (λK H=>?_) (λK H=>?_) (λK H=>?_)
   · go_simp;refine (kCs E.2 ai bF2).mono ?_;rintro e v ⟨ba,bc,bl,rfl,cf,hO,F,D⟩;obtain ⟨au,HB,E⟩:=FM;refine H _ _ E ?_;clear H K;refine jH ?_;have h_:=c7 x ba bc bl v E ai L au HB;exact dW
   · go_simp;have HL:Hid ((kD.slice 9 kD.str).own (World.alloc W (.cells #[.string { data:=#[47,107,101,121,47,97] },.string { data:=#[47,107,101,121,47,98] },.string { data:=#[47,97,47,107,101,121] }] 9)) [.slice (some ⟨W,0,none⟩) 3 3] [{ data:=#[47,107,101,121,47,97] },{ data:=#[47,107,101,121,47,98] },{ data:=#[47,97,47,107,101,121] }] (λk=>k=W.heap.size)):=yD (kD.kBs W [{ data:=#[47,107,101,121,47,97] },{ data:=#[47,107,101,121,47,98] },{ data:=#[47,97,47,107,101,121] }] bF1 bF1);generalize o:World.alloc W _=v at HL ⊢;obtain ⟨hb,zv⟩:=xY;clear o;obtain ⟨U,a4⟩:∃ b_,b_=W.heap.size:=⟨_,rfl⟩;rw [<- a4] at HL ⊢;obtain ⟨h6,E⟩:=BJ;exact iM
   go_simp;refine ja ?_;intro v hb BB zv;obtain ⟨b,a6⟩:∃ b_,b_=W.heap.size:=⟨_,rfl⟩;rw [<- a6] at BB ⊢;obtain ⟨Z,E⟩:=xL;exact iN
  have T6:∀ (U:Nat) (W:Ae),Touch (λk=>k=p) X W/\ym w0 W p->(X.heap.size<=U/\U < W.heap.size)->(Hid ((kD.slice 9 kD.str).own W [.slice (some ⟨U,0,none⟩) 3 3] [{ data:=#[47,107,101,121,47,97] },{ data:=#[47,107,101,121,47,98] },{ data:=#[47,97,47,107,101,121] }] (λk=>k=U)))->T 9 [Tt,Tt,Tt,Ff,Ff,Tt,Tt,Ff,Ff,Tt,Ff,Ff,Ff,Ff,Ff] (Aa A (some 19) (.slice (some ⟨U,0,none⟩) 3 3)) W:=by
   intro U W E h6 HL;have bk:=E.1.size;subst hT;subst hA;simp only [Aa,zA,zB,zC];refine yH (i:=3) (j:=13) rfl rfl bE5 rfl rfl (λK H=>?_) (λK H=>?_)
   · go_simp;refine (kZ (n:=5) E.2 bF1).mono ?_;rintro e v ⟨x,ai,L,bf,rfl,F,D⟩;obtain ⟨HL,h6⟩:=uY;replace L:=L bF1;clear bf;replace E:=And.intro (E.1.trans D) F;exact iM
   go_simp;refine ja ?_;intro v hb BB zv;obtain ⟨b,a6⟩:∃ b_,b_=W.heap.size:=⟨_,rfl⟩;rw [<- a6] at BB ⊢;obtain ⟨HL,h6,Z⟩:=wH;exact iO
  have c2:∀ (b:Nat) (W:Ae),Touch (λk=>k=p) X W/\ym w0 W p->(X.heap.size<=b/\b < W.heap.size)->(Qr W b #[.slice none 0 0,.slice none 0 0,.slice none 0 0,Qn 0,Qn 0] 60)->T 9 [Tt,Tt,Tt,Ff,Ff,Tt,Ff,Ff,Ff,Tt,Ff,Ff,Ff,Tt,Ff] (Aa A (some 4) (.pointer (some ⟨b,0,none⟩))) W:=by
   intro b W E Z BB;have bk:=E.1.size;subst hT;subst hA;simp only [Aa,zA,zB,zC];refine yH (i:=3) (j:=6) rfl rfl bE5 rfl rfl (λK H=>?_) (λK H=>?_)
   · go_simp;refine (kZ (n:=5) E.2 bF1).mono ?_;rintro e v ⟨x,ai,L,bf,rfl,F,D⟩;obtain ⟨BB,Z⟩:=xP;replace L:=L bF1;clear bf;replace E:=And.intro (E.1.trans D) F;exact iN
   go_simp;have HL:Hid ((kD.slice 9 kD.str).own (World.alloc W (.cells #[.string { data:=#[47,107,101,121,47,97] },.string { data:=#[47,107,101,121,47,98] },.string { data:=#[47,97,47,107,101,121] }] 9)) [.slice (some ⟨W,0,none⟩) 3 3] [{ data:=#[47,107,101,121,47,97] },{ data:=#[47,107,101,121,47,98] },{ data:=#[47,97,47,107,101,121] }] (λk=>k=W.heap.size)):=yD (kD.kBs W [{ data:=#[47,107,101,121,47,97] },{ data:=#[47,107,101,121,47,98] },{ data:=#[47,97,47,107,101,121] }] bF1 bF1);generalize o:World.alloc W _=v at HL ⊢;obtain ⟨hb,zv⟩:=xY;clear o;obtain ⟨BB,Z⟩:=AV;obtain ⟨U,a4⟩:∃ b_,b_=W.heap.size:=⟨_,rfl⟩;rw [<- a4] at HL ⊢;have h6:X.heap.size<=U/\U < v.heap.size:=⟨by omega,by omega⟩;exact iO
  subst hT;subst hA;refine kZe (i:=3) (j:=6) (m:=13) rfl rfl rfl bE5 rfl rfl rfl (λK H=>?_) (λK H=>?_) (λK H=>?_)
  · go_simp;refine (kZ (n:=5) E.2 bF1).mono ?_;rintro e v ⟨x,ai,L,bf,rfl,F,D⟩;replace L:=L bF1;clear bf;replace E:=And.intro (E.1.trans D) F;refine H _ _ E ?_;clear H K;refine jH ?_;have h_:=T3 x v E ai L;exact dW
  · go_simp;have HL:Hid ((kD.slice 9 kD.str).own (World.alloc t (.cells #[.string { data:=#[47,107,101,121,47,97] },.string { data:=#[47,107,101,121,47,98] },.string { data:=#[47,97,47,107,101,121] }] 9)) [.slice (some ⟨t,0,none⟩) 3 3] [{ data:=#[47,107,101,121,47,97] },{ data:=#[47,107,101,121,47,98] },{ data:=#[47,97,47,107,101,121] }] (λk=>k=t.heap.size)):=yD (kD.kBs t [{ data:=#[47,107,101,121,47,97] },{ data:=#[47,107,101,121,47,98] },{ data:=#[47,97,47,107,101,121] }] bF1 bF1);generalize o:World.alloc t _=v at HL ⊢;have hb:Qb t v:=(by rw [<- o];exact bR.alloc nL _);have zv:t.heap.size + 1<=v.heap.size:=(by rw [<- o];simp);clear o;obtain ⟨U,a4⟩:∃ b_,b_=t.heap.size:=⟨_,rfl⟩;rw [<- a4] at HL ⊢;obtain ⟨h6,E⟩:=BJ;refine H _ _ E ?_;clear H K;refine jH ?_;have h_:=T6 U v E h6 HL;exact dW
  go_simp;refine ja ?_;intro v hb BB zv;obtain ⟨b,a6⟩:∃ b_,b_=t.heap.size:=⟨_,rfl⟩;rw [<- a6] at BB ⊢;obtain ⟨Z,E⟩:=xL;refine H _ _ E ?_;clear H K;refine jH ?_;have h_:=c2 b v E Z BB;exact dW
 rename Ae=>wd
 obtain ⟨b,ba,bc,bl,ka,kc,Y,z,rfl,BX,HB,co,HK,hz,cd,N,ch,bg⟩:=hcut
 replace R:=bg.kC R bF2
 have b0:=O.trans bg
 clear hc O
 have hc:=ch
 clear ch
 have O:=b0
 clear b0
 have HX:=yD (jBm (S:=λk=>k≠p) ((J.out.jr.touch bg bB2).wide bB8) (HB.out.wide vL) (HK.out.wide vL) (f:=40 + z) (s:=0) bF2 bF2)
 clear J HB HK bg B
 go_upto_region 5 with fail
 refine kAc (λW=>Touch (λk=>k=p) wd W/\ym w0 W p) (λ_=>True) [] [(0,true),(2,true),(1,false),(3,false)] [(4,false)] bE5 bE5 qW (⟨Touch.of_below bR.drew,hc.below bR.drew⟩) ?_
 intro wS E
 simp only [jG,kAu,List.getElem?_cons_succ,List.getElem?_cons_zero,List.map_cons,List.map_nil]
 refine pre_nil ?_
 refine yA (v:=?_) rfl (λW hW=>?_) ?_;rotate_left;(· go_simp;try with_reducible rfl)
 refine jH ?_
 refine yA (v:=?_) rfl (λW hW=>?_) ?_;rotate_left;(· have cv:=kE (hW.1.kC BX bF2) (j:=0) (v:=Qs na qs nc) rfl;have dk:=kE (hW.1.kC BX bF2) (j:=1) (v:=Qs ba bl bc) rfl;have dz:=kE (hW.1.kC BX bF2) (j:=2) (v:=Qs ka Y kc) rfl;have d5:=kE (hW.1.kC BX bF2) (j:=3) (v:=.int .i64 (40 + z)) rfl;have d4:=kE (hW.1.kC BX bF2) (j:=4) (v:=.int .i64 0) rfl;clear hW;go_simp;try with_reducible rfl)
 refine jH ?_
 refine zY rfl (λK H=>?_);go_simp;refine (kZh E.2).mono ?_;rintro e wS1 ⟨s,rfl,bu,ck,av,ap⟩;replace E:=And.intro (E.1.trans ap) av;clear av ap;refine H _ _ E ?_;clear H K
 refine jH ?_
 refine zY rfl (λK H=>?_);go_simp;refine (kIh (cx:=[.slice na qs.length nc,.slice ba bl.length bc,.slice ka Y.length kc,.int .i64 (40 + z),.int .i64 0]) (x:=(qs,bl,Y,40 + z,0)) bF2 (HX.out.touch E.1 (λk q h=>q h)).rd (by show bl.length<=_;omega)).mono ?_;rintro e be ⟨sg,ds,rfl,hO,cw,V⟩;have d1:=E.1.size;have bx:=V.size;replace E:=And.intro (E.1.trans (Touch.of_below V)) (E.2.below V);have HQ:=yD hO;obtain ⟨ad,ac,am,ae,ao,af,rfl⟩:=zo HQ.out.raw;refine H _ _ E ?_;clear H K V hO
 refine jH ?_
 have RS:=E.1.kC R bF2
 have c4:=O.trans E.1
 have aj:Qd be w 0 (.slice none 0 0):=kE RS rfl
 have ak:be.frozen? ⟨w,0,none⟩=false:=Ag be (w.heap.size) 0 _ _ RS
 have an:Qd be w 1 (.slice none 0 0):=kE RS rfl
 have al:be.frozen? ⟨w,1,none⟩=false:=Ag be (w.heap.size) 1 _ _ RS
 have az:Qd be w 2 (.slice none 0 0):=kE RS rfl
 have ay:be.frozen? ⟨w,2,none⟩=false:=Ag be (w.heap.size) 2 _ _ RS
 have a8:Qd be w 3 (Qn 0):=kE RS rfl
 have a7:be.frozen? ⟨w,3,none⟩=false:=Ag be (w.heap.size) 3 _ _ RS
 have bt:Qd be w 4 (Qn 0):=kE RS rfl
 have bm:be.frozen? ⟨w,4,none⟩=false:=Ag be (w.heap.size) 4 _ _ RS
 refine kAk trivial ?_
 refine ku rfl (λK H=>?_);go_simp;refine H _ _ trivial ?_;clear H K
 refine jH ?_
 refine kM ?_
 go_wp2
 refine Ad (v:=.agg #[Qs ad qs ac,Qs am bl ae,Qs ao Y af,.int .i64 (40 + z),Qn sg]) (by simp [results,results123,go_sem,aj,ak,an,al,az,ay,a8,a7,bt,bm]) rfl ⟨_,(qs,bl,Y,40 + z,sg),rfl,?_,co,E.2.touch sT5 bF2 bB6,c4.jJ sT5 bF2⟩
 exact (HQ.out.touch sT5 vB).wide fT
theorem kWl {w0 w:Ae} {p:Nat} (hc:ym w0 w p) :
    Calls prog 90 #[.pointer (some ⟨p,0,none⟩)] w λe w'=>DrawnD 64 w0 w p e w':=by
 go_enter func90,ntmps90
 obtain ⟨bh,br⟩:=hc.lt
 go_upto_region 1 with fail
 refine ja ?_
 intro w1 ar R bj
 obtain ⟨hc,O⟩:=uZ
 clear ar
 go_wp2_with fail
 refine (kHr hc).mono ?_
 rintro e w2 ⟨ds,x,rfl,hO,b3,F,D⟩
 obtain ⟨bw,R,O⟩:=y8
 clear hc D
 have hc:=F
 clear F
 obtain ⟨a0,c0,a1,c1,a2,c2,rfl⟩:=zo hO.raw
 have c3:=data_rng hO.raw
 obtain ⟨n,b,k,f,s⟩:=x
 simp only at b3 c3
 have J:=yD (hO.wide (T:=λj=>w1.heap.size<=j/\j < w2.heap.size) (λ_ h=>h))
 clear hO
 go_upto_region 2 with fail
 refine ja ?_
 intro w3 ah B bz
 replace R:=kC R ah
 obtain ⟨J,hc,O⟩:=xC
 clear ah
 go_wp2_with fail
 refine (kZ (n:=12) hc bF1).mono ?_
 rintro e w4 ⟨m,bc,bk,bq,rfl,F,D⟩
 have b5:=D.size
 obtain ⟨R,B⟩:=xK
 obtain ⟨J,O⟩:=uS
 clear hc D
 have hc:=F
 clear F
 replace bk:=bk bF1
 clear bq
 obtain ⟨m,rfl⟩:=Int.eq_ofNat_of_zero_le bc
 by_cases bp:m=0
 · subst bp;go_wp2_with fail;refine (kGr hc).mono ?_;rintro e w5 ⟨qa,qc,qs,rfl,hQ,b8,ae,F,D⟩;have b4:=D.size;obtain ⟨R,B⟩:=xK;obtain ⟨J,O⟩:=uS;clear hc D;have hc:=F;clear F;have HQ:=yD (hQ);clear hQ;obtain ⟨aq,av,ag,N,E⟩:=yZ B;obtain ⟨aw,ax,a9,ba,H⟩:=kCo B;go_upto_region 13 with fail;generalize o:World.setCell w5 _ _=w6;have V:Touch (λk=>k=w2.heap.size) w5 w6:=wY;replace B:Qr w6 w2 (Qj qa qs qc a1 b c1 a2 k c2 f s) 60:=wG;have df:=V.size;clear o;replace R:=V.kC R bF2;replace J:=yD (J.out.touch V qV);obtain ⟨HQ,hc,O⟩:=FJ;clear aq av ag N E aw ax a9 ba H V;replace J:=yD ((jGg J.out HQ.out qD).wide (T:=λj=>w1.heap.size<=j/\j < w6.heap.size) cB);clear HQ;go_upto_region 13 with fail;obtain ⟨aj,an,az,a8,bt⟩:=yZ R;obtain ⟨aq,av,ag,N,E⟩:=yZ B;obtain ⟨ak,al,ay,a7,bm⟩:=kCo R;go_wp2;refine Ad (v:=.agg (Qj qa qs qc a1 b c1 a2 k c2 f s)) fV rfl ⟨[Qs qa qs qc,Qs a1 b c1,Qs a2 k c2,Qn f,Qn s],(qs,b,k,f,s),rfl,?_,?_,hc.touch sT5 bF2 bB6,O.jJ sT5 bF2⟩
   · exact (J.out.touch sT5 vK).wide fT
   simp only;omega
 have bc:¬ (m:Int)=0:=bF2
 by_cases bo:m=1
 · subst bo;go_wp2_with fail;refine (kGr hc).mono ?_;rintro e w5 ⟨qa,qc,qs,rfl,hQ,b8,ae,F,D⟩;have b4:=D.size;obtain ⟨R,B⟩:=xK;obtain ⟨J,O⟩:=uS;clear hc D;have hc:=F;clear F;have HQ:=yD (hQ);clear hQ;obtain ⟨aq,av,ag,N,E⟩:=yZ B;obtain ⟨aw,ax,a9,ba,H⟩:=kCo B;go_upto_region 13 with fail;generalize o:World.setCell w5 _ _=w6;have V:Touch (λk=>k=w2.heap.size) w5 w6:=wY;replace B:Qr w6 w2 (Qj a0 n c0 a1 b c1 qa qs qc f s) 60:=by rw [<- o];exact kG B 2
   have df:=V.size;clear o;replace R:=V.kC R bF2;replace J:=yD (J.out.touch V qV);obtain ⟨HQ,hc,O⟩:=FJ;clear aq av ag N E aw ax a9 ba H V;replace J:=yD ((data_setKey J.out HQ.out qD).wide (T:=λj=>w1.heap.size<=j/\j < w6.heap.size) cB);clear HQ;go_upto_region 13 with fail;obtain ⟨aj,an,az,a8,bt⟩:=yZ R;obtain ⟨aq,av,ag,N,E⟩:=yZ B;obtain ⟨ak,al,ay,a7,bm⟩:=kCo R;go_wp2;refine Ad (v:=.agg (Qj a0 n c0 a1 b c1 qa qs qc f s)) fV rfl ⟨[Qs a0 n c0,Qs a1 b c1,Qs qa qs qc,Qn f,Qn s],(n,b,qs,f,s),rfl,?_,?_,hc.touch sT5 bF2 bB6,O.jJ sT5 bF2⟩
   · exact (J.out.touch sT5 vK).wide fT
   simp only;omega
 have bk:¬ (m:Int)=1:=bF2
 by_cases bn:m=2
 · subst bn;go_wp2_with fail;refine (kAd (hc.below (bR.alloc nL _)) (kD.kEh _ [-1,100000,100001] bF1 bF1) bF2 bF1 bF1).mono ?_;rintro e w5 ⟨y,bd,bv,rfl,F,D⟩;obtain ⟨D,b4⟩:=xO;obtain ⟨R,B⟩:=xK;obtain ⟨J,O⟩:=uS;clear hc D;have hc:=F;clear F;have ab:=kD.kJo (lo:=-1) (hi:=100001) bF1 bd;clear bd bv;obtain ⟨aq,av,ag,N,E⟩:=yZ B;obtain ⟨aw,ax,a9,ba,H⟩:=kCo B;go_upto_region 13 with fail;generalize o:World.setCell w5 _ _=w6;have V:Touch (λk=>k=w2.heap.size) w5 w6:=wY;replace B:Qr w6 w2 (Qj a0 n c0 a1 b c1 a2 k c2 y s) 60:=by rw [<- o];exact kG B 3
   have df:=V.size;clear o;obtain ⟨R,J,hc,O⟩:=A7;clear aq av ag N E aw ax a9 ba H V;replace J:=yD (jGf J.out (v:=y) bF2);go_upto_region 13 with fail;obtain ⟨aj,an,az,a8,bt⟩:=yZ R;obtain ⟨aq,av,ag,N,E⟩:=yZ B;obtain ⟨ak,al,ay,a7,bm⟩:=kCo R;go_wp2;refine Ad (v:=.agg (Qj a0 n c0 a1 b c1 a2 k c2 y s)) fV rfl ⟨[Qs a0 n c0,Qs a1 b c1,Qs a2 k c2,Qn y,Qn s],(n,b,k,y,s),rfl,?_,?_,hc.touch sT5 bF2 bB6,O.jJ sT5 bF2⟩
   · exact (J.out.touch sT5 vK).wide fT
   simp only;omega
 have bq:¬ (m:Int)=2:=bF2
 by_cases am:m=3
 · subst am;go_wp2_with fail;refine (jFf hc).mono ?_;rintro e w5 ⟨y,rfl,ao,a4,F,D⟩;have b4:=D.size;obtain ⟨R,B⟩:=xK;obtain ⟨J,O⟩:=uS;clear hc D;have hc:=F;clear F;obtain ⟨aq,av,ag,N,E⟩:=yZ B;obtain ⟨aw,ax,a9,ba,H⟩:=kCo B;go_upto_region 13 with fail;generalize o:World.setCell w5 _ _=w6;have V:Touch (λk=>k=w2.heap.size) w5 w6:=wY;replace B:Qr w6 w2 (Qj a0 n c0 a1 b c1 a2 k c2 f y) 60:=by rw [<- o];exact kG B 4
   have df:=V.size;clear o;obtain ⟨R,J,hc,O⟩:=A7;clear aq av ag N E aw ax a9 ba H V;replace J:=yD (kWy J.out (v:=y) bF2);go_upto_region 13 with fail;obtain ⟨aj,an,az,a8,bt⟩:=yZ R;obtain ⟨aq,av,ag,N,E⟩:=yZ B;obtain ⟨ak,al,ay,a7,bm⟩:=kCo R;go_wp2;refine Ad (v:=.agg (Qj a0 n c0 a1 b c1 a2 k c2 f y)) fV rfl ⟨[Qs a0 n c0,Qs a1 b c1,Qs a2 k c2,Qn f,Qn y],(n,b,k,f,y),rfl,?_,?_,hc.touch sT5 bF2 bB6,O.jJ sT5 bF2⟩
   · exact (J.out.touch sT5 vK).wide fT
   simp only;omega
 have bb:¬ (m:Int)=3:=bF2
 by_cases bu:m=4
 · subst bu;go_wp2_with fail;refine (kZ (n:=3) hc bF1).mono ?_;rintro e w5 ⟨y,ao,a4,b7,rfl,F,D⟩;have b4:=D.size;obtain ⟨R,B⟩:=xK;obtain ⟨J,O⟩:=uS;clear hc D;have hc:=F;clear F;replace a4:=a4 bF1;clear b7;obtain ⟨z,hz⟩:∃ z:Nat,(59:Int) + y=z:=⟨(59 + y).toNat,by omega⟩;have hw:Ah.wrap (59 + y)=(z:Int):=(Al _ bF2).trans hz;have U:=run_make_row' (P:=prog) 22 5 (.int .u8 0) 1 underlying22 kFo rfl .i64 .i64 z bF2 bF2;obtain ⟨aw,ax,a9,ba,H⟩:=kCo B;have GB:(World.alloc w5 (.cells (madeCells #[.int .u8 0] z) 5)).frozen? ⟨w2,1,none⟩=false:=(frozen?_alloc_cells _ _ _ _).trans ax;have W:(World.alloc w5 (.cells (madeCells #[.int .u8 0] z) 5)).cell? ⟨w2,1,none⟩=some (.slice a1 b.length c1):=kE (kC B (bR.alloc nL _)) rfl;go_upto_region 13 with fail;have HM:=yD ((kD.own0_make (r:=kD.byte) (e:=5) (w:=w5) (zs:=#[.int .u8 0]) (n:=z) (S:=λk=>k=w5.heap.size) rfl rfl bF1 wR rfl).own (by simp [Big];omega));simp only [show z * kD.byte.n=z from Nat.mul_one z] at HM;clear GB W U;generalize o:World.alloc w5 (.cells (madeCells #[.int .u8 0] z) 5)=w6 at HM ⊢;have au:Qb w5 w6:=tF;have df:w5.heap.size + 1<=w6.heap.size:=bD6;clear o;replace R:=kC R au;replace B:=kC B au;replace J:=yD (J.out.below au);obtain ⟨hc,O⟩:=BP;clear aw ax a9 ba H au;replace HM:=yD (HM.out.wide (T:=λk=>w5.heap.size<=k/\k < w6.heap.size) bB8);generalize o:World.setCell w6 _ _=w7;have L:Touch (λk=>k=w2.heap.size) w6 w7:=wY;replace B:Qr w7 w2 #[Qs a0 n c0,.slice (some ⟨w5,0,none⟩) z z,Qs a2 k c2,Qn f,Qn s] 60:=wF;have eo:=L.size;clear o;replace R:=L.kC R bF2;replace J:=yD (J.out.touch L qV);replace HM:=yD (HM.out.touch L qV);replace hc:=hc.touch L bF2 bB6;replace O:=O.jJ L bF2;clear L;replace J:=yD ((kYa J.out HM.out qD).wide (T:=λj=>w1.heap.size<=j/\j < w7.heap.size) cB);clear HM;go_upto_region 13 with fail;obtain ⟨aj,an,az,a8,bt⟩:=yZ R;obtain ⟨aq,av,ag,N,E⟩:=yZ B;obtain ⟨ak,al,ay,a7,bm⟩:=kCo R;go_wp2;refine Ad (v:=.agg #[Qs a0 n c0,.slice (some ⟨w5,0,none⟩) z z,Qs a2 k c2,Qn f,Qn s]) fV rfl ⟨[Qs a0 n c0,.slice (some ⟨w5,0,none⟩) z z,Qs a2 k c2,Qn f,Qn s],(n,List.replicate z 0,k,f,s),rfl,?_,?_,hc.touch sT5 bF2 bB6,O.jJ sT5 bF2⟩
   · exact (J.out.touch sT5 vK).wide fT
   simp;omega
 have X:¬ (m:Int)=4:=bF2
 go_upto_region 13 with fail
 obtain ⟨aj,an,az,a8,bt⟩:=yZ R
 obtain ⟨aq,av,ag,N,E⟩:=yZ B
 obtain ⟨ak,al,ay,a7,bm⟩:=kCo R
 go_wp2
 refine Ad (v:=.agg (Qj a0 n c0 a1 b c1 a2 k c2 f s)) fV rfl ⟨[Qs a0 n c0,Qs a1 b c1,Qs a2 k c2,Qn f,Qn s],(n,b,k,f,s),rfl,?_,?_,hc.touch sT5 bF2 bB6,O.jJ sT5 bF2⟩
 · exact (J.out.touch sT5 vK).wide fT
 simp only;omega
end Go.Proofs.YthocbplmdjkifaaGreat

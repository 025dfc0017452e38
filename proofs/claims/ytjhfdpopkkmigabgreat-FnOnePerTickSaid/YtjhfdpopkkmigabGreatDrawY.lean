/-
  Data as the reference draws them.
-/
import Derived.Test.YtjhfdpopkkmigabGreatEqData
set_option linter.unusedVariables false
set_option linter.unusedSimpArgs false
set_option linter.unnecessarySimpa false
set_option maxRecDepth 100000
set_option maxHeartbeats 8000000
open Bool renaming true->Tt,false->Ff
open Go.Act renaming put->Aa
open _root_ renaming ByteArray->Ab,Option->Ac,List->Aj,UInt8->Ak
open Go renaming bodyPost_ret->Ad,World->Ae,frozen_of_row->Ag,Addr->Ai
open Go.IntKind renaming i64->Ah
open Go.IntWalk renaming i64_in->Al
namespace Go.Proofs.YtjhfdpopkkmigabGreat
open Go.RowKit _root_.Go.Proofs.Tryz
theorem kKb {w0 w:Ae} {p:Nat} (hc:yS w0 w p) :
    Calls prog 142 #[.pointer (some ⟨p,0,none⟩)] w λe w'=>DrawnD 4 w0 w p e w':=by
 go_enter func142,ntmps142
 obtain ⟨bd,bw⟩:=hc.lt
 go_upto_region 1 with fail
 generalize G:World.alloc w _=w1
 obtain ⟨U,R,bo⟩:=IL
 clear G
 obtain ⟨hc,J⟩:=xQ
 clear U
 go_wp2_with fail
 refine (kKd hc).mono ?_
 rintro e V ⟨a,n,c,ps,rfl,hO,bq,a3,F,D⟩
 obtain ⟨bv,R,J⟩:=BP
 clear hc D
 have hc:=F
 clear F
 have I:=yD hO
 clear hO
 go_upto_region 2 with fail
 generalize G:World.alloc V _=w3
 obtain ⟨ad,B,bt⟩:=FW
 clear G
 obtain ⟨R,I,hc,J⟩:=A9
 clear ad
 have ag:Qd w3 V 0 (.slice a n c):=kE B rfl
 obtain ⟨_,_,_,bl,bj⟩:=I.out.parts
 simp only [Value.slice.injEq] at bl
 have bz:=yD (bl.2.1.trans bj.out)
 clear bl bj
 go_upto_if 10 with fail
 go_cut [] from 7 to 13 (λwc=>∃ (na:Ac Ai) (nc:Nat) (qs:kg),Qr wc w.heap.size #[.slice none 0 0,.slice none 0 0,.slice none 0 0,Qn 0,Qn 0] 70/\Qr wc V.heap.size #[Qs na qs nc] 36/\Hid (kN.own wc [Qs na qs nc] qs (λk=>w.heap.size < k/\k < wc.heap.size/\k≠V.heap.size/\k≠p))/\0 < qs.length/\qs.length<=64/\w3.heap.size<=wc.heap.size/\yS w0 wc p/\Touch (λk=>k=p) w wc)
 case first =>
  by_cases hz:n=0
  · subst hz;obtain rfl:ps=[]:=List.eq_nil_of_length_eq_zero bz.out.symm;clear ag;obtain ⟨ag,aq,GB,HB⟩:=AY;go_wp2;clear GB HB;have af:=yD (kD.kNl (e:=9) w3 (kD.kGk (s:={ data:=#[97] }) bH2));generalize G:World.alloc w3 _=w4 at af ⊢;have cc:Qb w3 w4:=tK;have b5:w3.heap.size + 1<=w4.heap.size:=bF4;clear G I;replace R:=kC R cc;replace B:=kC B cc;replace hc:=hc.below cc;replace J:=J.trans (Touch.of_below cc);clear ag aq;clear cc;have I:=yD (kD.kQ.wide (T:=λj=>w1.heap.size<=j/\j < w4.heap.size/\j≠V.heap.size) af.out rP);clear af;generalize G:World.setCell w4 _ _=w5;obtain ⟨cm,B,b3⟩:=JA;clear G;replace R:=cm.kC R bH3;replace I:=yD (I.out.touch cm (λk q=>q.2.2));replace hc:=hc.touch cm bH3 bD5;replace J:=J.jJ cm bH3;clear cm;go_meet;exact ⟨_,_,[({ data:=#[97] }:Ab)],R,B,yD ((I.out.own bH2).wide (λk q=>⟨by have:=q.1;omega,by have:=q.2.1;omega,q.2.2,by have:=q.1;omega⟩)),by decide,by decide,by omega,hc,J⟩
  have cw:¬ (n:Int)=0:=bH3;obtain rfl:=bz.out;go_wp2;go_meet;exact ⟨a,c,ps,R,B,yD ((I.out.own bD0).wide (λk q=>⟨by have:=q.1;omega,by have:=q.2;omega,by have:=q.2;omega,by have:=q.1;omega⟩)),by omega,by omega,Nat.le_refl _,hc,J⟩
 rename Ae=>wb
 clear R I bz hc J B ag
 obtain ⟨na,nc,qs,R,B,I,b1,c3,d2,hc,J⟩:=hcut
 have c1:=hc.lt.2
 go_upto_region 4 with fail
 go_cut [4] from 13 to 26 (λs4 wd=>∃ (b:Nat) (ba:Ac Ai) (bc:Nat) (L:Aj Ak) (ka:Ac Ai) (kc:Nat) (ks:kg) (z:Int),s4=.pointer (some ⟨b,0,none⟩)/\Qr wd b #[Qs na qs nc,Qs ba L bc,Qs ka ks kc,.int .i64 (40 + z),Qn 0] 70/\Hid ((kD.slice 5 kD.byte).jo wd [Qs ba L bc] L (λk=>wb.heap.size<=k/\k≠b))/\L.length<=4/\Hid (kN.jo wd [Qs ka ks kc] ks (λk=>wb.heap.size<=k/\k≠b))/\(0<=z/\z < 60)/\wb.heap.size<=b/\b < wd.heap.size/\yS w0 wd p/\Touch (λk=>k=p) wb wd)
 case first =>
  have FX:=yD (λ(W:Ae) (hW:Touch (λk=>k=p) wb W/\yS w0 W p)=>kE (hW.1.kC B bH3) (j:=0) (v:=.slice na qs.length nc) rfl);refine yP (λW=>Touch (λk=>k=p) wb W/\yS w0 W p) bG6 (⟨Touch.of_below bR.drew,hc.below bR.drew⟩) ?_;intro t E;have dx:=E.1.size;refine kL 0 ?_;refine kL 1 ?_;refine kL 2 ?_;refine kL 5 ?_;refine kL 9 ?_;refine kHe ?_;intro T A hT hA;have ab:∀ (x:Int) (ba:Ac Ai) (bc:Nat) (L:Aj Ak) (X:Nat) (y:Ab) (ka:Ac Ai) (kc:Nat) (ks:kg) (z:Int) (b:Nat) (W:Ae),Touch (λk=>k=p) wb W/\yS w0 W p->(0<=x)->(x < 5)->(L.length<=4)->(Hid ((kD.slice 5 kD.byte).jo W [Qs ba L bc] L (Ql wb W b)))->(y∈([{ data:=#[47,107,101,121,47,97] },{ data:=#[47,107,101,121,47,98] },{ data:=#[47,97,47,107,101,121] }]:Aj Ab))->(Hid (kN.jo W [Qs ka ks kc] ks (Ql wb W b)))->(0<=z)->(z < 60)->(Ah.wrap (40 + z)=40 + z)->(wb.heap.size<=b/\b < W.heap.size)->(Qr W b #[Qs na qs nc,Qs ba L bc,Qs ka ks kc,.int .i64 (40 + z),Qn 0] 70)->T 0 [Tt,Tt,Tt,Tt,Tt,Tt,Tt,Tt,Tt,Tt,Tt,Tt,Tt,Tt,Tt] (Aa (Aa (Aa (Aa (Aa (Aa (Aa (Aa (Aa A (some 16) (.int .i64 x)) (some 17) (.slice ba L.length bc)) (some 19) (.slice (some ⟨X,0,none⟩) 3 3)) (some 20) (.string y)) (some 21) (.agg #[Qs ka ks kc])) (some 23) (.int .i64 z)) (some 24) (.int .i64 (40 + z))) (some 25) (.agg #[Qs na qs nc,Qs ba L bc,Qs ka ks kc,.int .i64 (40 + z),Qn 0])) (some 4) (.pointer (some ⟨b,0,none⟩))) W:=by
   intro x ba bc L X y ka kc ks z b W E au o a8 HB aw HK bi bf hw N BB;have bh:=E.1.size;subst hT;subst hA;simp only [Aa,zA,zB,zC];refine jg bG6 ?_;go_wp2;go_meet;exact ⟨b,ba,bc,L,ka,kc,ks,z,rfl,BB,yD (HB.out.wide (λk q=>⟨q.1,q.2.2⟩)),a8,yD (HK.out.wide (λk q=>⟨q.1,q.2.2⟩)),⟨bi,bf⟩,N.1,N.2,E.2,E.1⟩
  have aa:∀ (x:Int) (ba:Ac Ai) (bc:Nat) (L:Aj Ak) (X:Nat) (y:Ab) (ka:Ac Ai) (kc:Nat) (ks:kg) (z:Int) (b:Nat) (W:Ae),Touch (λk=>k=p) wb W/\yS w0 W p->(0<=x)->(x < 5)->(L.length<=4)->(Hid ((kD.slice 5 kD.byte).jo W [Qs ba L bc] L (Ql wb W b)))->(y∈([{ data:=#[47,107,101,121,47,97] },{ data:=#[47,107,101,121,47,98] },{ data:=#[47,97,47,107,101,121] }]:Aj Ab))->(Hid (kN.jo W [Qs ka ks kc] ks (Ql wb W b)))->(0<=z)->(z < 60)->(Ah.wrap (40 + z)=40 + z)->(wb.heap.size<=b/\b < W.heap.size)->(Qr W b #[.slice none 0 0,.slice none 0 0,.slice none 0 0,Qn 0,Qn 0] 70)->T 1 [Tt,Tt,Tt,Tt,Tt,Tt,Tt,Tt,Tt,Tt,Tt,Tt,Tt,Tt,Ff] (Aa (Aa (Aa (Aa (Aa (Aa (Aa (Aa (Aa A (some 16) (.int .i64 x)) (some 17) (.slice ba L.length bc)) (some 19) (.slice (some ⟨X,0,none⟩) 3 3)) (some 20) (.string y)) (some 21) (.agg #[Qs ka ks kc])) (some 23) (.int .i64 z)) (some 24) (.int .i64 (40 + z))) (some 25) (.agg #[Qs na qs nc,Qs ba L bc,Qs ka ks kc,.int .i64 (40 + z),Qn 0])) (some 4) (.pointer (some ⟨b,0,none⟩))) W:=by
   intro x ba bc L X y ka kc ks z b W E au o a8 HB aw HK bi bf hw N BB;have bh:=E.1.size;subst hT;subst hA;simp only [Aa,zA,zB,zC];refine kP (k:=14) rfl bG6 rfl (λK H=>?_);obtain ⟨de,dc,dd,dk,db⟩:=zD BB;obtain ⟨cv,c7,c8,df,c5⟩:=kBv BB;go_simp;generalize G:World.setCell (World.setCell (World.setCell (World.setCell (World.setCell W _ _) _ _) _ _) _ _) _ _=v;have hT:Touch (λk=>k=b) W v:=(by rw [<- G];exact sT5);replace BB:Qr v b #[Qs na qs nc,Qs ba L bc,Qs ka ks kc,.int .i64 (40 + z),Qn 0] 70:=(by rw [<- G];exact kI (kI (kI (kI (kI (BB) 0) 1) 2) 3) 4);clear G de dc dd dk db cv c7 c8 df c5;have zv:=hT.size;replace HB:Hid ((kD.slice 5 kD.byte).jo v [Qs ba L bc] L (Ql wb v b)):=yD ((HB.out.touch hT (λk q h=>q.2.2 h)).wide (λk q=>⟨q.1,Nat.lt_of_lt_of_le q.2.1 hT.size,q.2.2⟩));replace HK:Hid (kN.jo v [Qs ka ks kc] ks (Ql wb v b)):=yD ((HK.out.touch hT (λk q h=>q.2.2 h)).wide (λk q=>⟨q.1,Nat.lt_of_lt_of_le q.2.1 hT.size,q.2.2⟩));replace N:wb.heap.size<=b/\b < v.heap.size:=⟨N.1,Nat.lt_of_lt_of_le N.2 hT.size⟩;replace E:=And.intro (E.1.jJ hT bH3) (E.2.touch hT bH3 rE);refine H _ _ E ?_;clear H K;refine jG ?_;have h_:=ab x ba bc L X y ka kc ks z b v E au o a8 HB aw HK bi bf hw N BB;exact dR
  have a5:∀ (x:Int) (ba:Ac Ai) (bc:Nat) (L:Aj Ak) (X:Nat) (y:Ab) (ka:Ac Ai) (kc:Nat) (ks:kg) (z:Int) (W:Ae),Touch (λk=>k=p) wb W/\yS w0 W p->(0<=x)->(x < 5)->(L.length<=4)->(Hid ((kD.slice 5 kD.byte).jo W [Qs ba L bc] L (Ql wb W p)))->(y∈([{ data:=#[47,107,101,121,47,97] },{ data:=#[47,107,101,121,47,98] },{ data:=#[47,97,47,107,101,121] }]:Aj Ab))->(Hid (kN.jo W [Qs ka ks kc] ks (Ql wb W p)))->(0<=z)->(z < 60)->(Ah.wrap (40 + z)=40 + z)->T 2 [Tt,Tt,Tt,Tt,Tt,Tt,Tt,Tt,Tt,Tt,Tt,Tt,Tt,Ff,Ff] (Aa (Aa (Aa (Aa (Aa (Aa (Aa (Aa A (some 16) (.int .i64 x)) (some 17) (.slice ba L.length bc)) (some 19) (.slice (some ⟨X,0,none⟩) 3 3)) (some 20) (.string y)) (some 21) (.agg #[Qs ka ks kc])) (some 23) (.int .i64 z)) (some 24) (.int .i64 (40 + z))) (some 25) (.agg #[Qs na qs nc,Qs ba L bc,Qs ka ks kc,.int .i64 (40 + z),Qn 0])) W:=by
   intro x ba bc L X y ka kc ks z W E au o a8 HB aw HK bi bf hw;have bh:=E.1.size;subst hT;subst hA;simp only [Aa,zA,zB,zC];refine kP (k:=13) rfl bG6 rfl (λK H=>?_);go_simp;generalize G:World.alloc W _=v;obtain ⟨hb,BB,zv⟩:=xE;clear G;obtain ⟨b,ax⟩:∃ b_,b_=W.heap.size:=⟨_,rfl⟩;rw [<- ax] at BB ⊢;obtain ⟨HB,HK⟩:=G5;obtain ⟨N,E⟩:=A7;refine H _ _ E ?_;clear H K;refine jG ?_;exact iD
  have ar:∀ (x:Int) (ba:Ac Ai) (bc:Nat) (L:Aj Ak) (X:Nat) (y:Ab) (ka:Ac Ai) (kc:Nat) (ks:kg) (b:Nat) (W:Ae),Touch (λk=>k=p) wb W/\yS w0 W p->(0<=x)->(x < 5)->(L.length<=4)->(Hid ((kD.slice 5 kD.byte).jo W [Qs ba L bc] L (Ql wb W b)))->(y∈([{ data:=#[47,107,101,121,47,97] },{ data:=#[47,107,101,121,47,98] },{ data:=#[47,97,47,107,101,121] }]:Aj Ab))->(Hid (kN.jo W [Qs ka ks kc] ks (Ql wb W b)))->(wb.heap.size<=b/\b < W.heap.size)->(Qr W b #[.slice none 0 0,.slice none 0 0,.slice none 0 0,Qn 0,Qn 0] 70)->T 4 [Tt,Tt,Tt,Tt,Tt,Tt,Tt,Tt,Tt,Tt,Ff,Ff,Ff,Tt,Ff] (Aa (Aa (Aa (Aa (Aa (Aa A (some 16) (.int .i64 x)) (some 17) (.slice ba L.length bc)) (some 19) (.slice (some ⟨X,0,none⟩) 3 3)) (some 20) (.string y)) (some 21) (.agg #[Qs ka ks kc])) (some 4) (.pointer (some ⟨b,0,none⟩))) W:=by
   intro x ba bc L X y ka kc ks b W E au o a8 HB aw HK N BB;have bh:=E.1.size;subst hT;subst hA;simp only [Aa,zA,zB,zC];refine kP (k:=10) rfl bG6 rfl (λK H=>?_);go_simp;refine (ko (n:=60) E.2 bH2).mono ?_;rintro e v ⟨z,bi,bf,a9,rfl,F,D⟩;obtain ⟨zv,b4,HB⟩:=GL;replace HK:Hid (kN.jo v [Qs ka ks kc] ks (Ql wb v b)):=yD ((HK.out.touch D vD).wide (λk q=>⟨q.1,Nat.lt_of_lt_of_le q.2.1 D.size,q.2.2⟩));obtain ⟨BB,N⟩:=A8;replace bf:=bf bH2;clear a9;have hw:Ah.wrap (40 + z)=40 + z:=Al _ bH3;replace E:=And.intro (E.1.trans D) F;refine H _ _ E ?_;clear H K;refine jG ?_;refine kL 11 ?_;refine kL 12 ?_;exact iD
  have bx:∀ (x:Int) (ba:Ac Ai) (bc:Nat) (L:Aj Ak) (X:Nat) (y:Ab) (ka:Ac Ai) (kc:Nat) (ks:kg) (W:Ae),Touch (λk=>k=p) wb W/\yS w0 W p->(0<=x)->(x < 5)->(L.length<=4)->(Hid ((kD.slice 5 kD.byte).jo W [Qs ba L bc] L (Ql wb W p)))->(y∈([{ data:=#[47,107,101,121,47,97] },{ data:=#[47,107,101,121,47,98] },{ data:=#[47,97,47,107,101,121] }]:Aj Ab))->(Hid (kN.jo W [Qs ka ks kc] ks (Ql wb W p)))->T 5 [Tt,Tt,Tt,Tt,Tt,Tt,Tt,Tt,Tt,Tt,Ff,Ff,Ff,Ff,Ff] (Aa (Aa (Aa (Aa (Aa A (some 16) (.int .i64 x)) (some 17) (.slice ba L.length bc)) (some 19) (.slice (some ⟨X,0,none⟩) 3 3)) (some 20) (.string y)) (some 21) (.agg #[Qs ka ks kc])) W:=by
   intro x ba bc L X y ka kc ks W E au o a8 HB aw HK;have bh:=E.1.size;subst hT;subst hA;simp only [Aa,zA,zB,zC];refine jr (i:=10) (j:=13) rfl rfl bG6 rfl rfl (λK H=>?_) (λK H=>?_)
   · go_simp;refine (ko (n:=60) E.2 bH2).mono ?_;rintro e v ⟨z,bi,bf,a9,rfl,F,D⟩;obtain ⟨zv,HB⟩:=GK;replace HK:Hid (kN.jo v [Qs ka ks kc] ks (Ql wb v p)):=yD ((HK.out.touch D vD).wide (λk q=>⟨q.1,Nat.lt_of_lt_of_le q.2.1 D.size,q.2.2⟩));replace bf:=bf bH2;clear a9;have hw:Ah.wrap (40 + z)=40 + z:=Al _ bH3;replace E:=And.intro (E.1.trans D) F;refine H _ _ E ?_;clear H K;refine jG ?_;refine kL 11 ?_;refine kL 12 ?_;have h_:=a5 x ba bc L X y ka kc ks z v E au o a8 HB aw HK bi bf hw;exact dR
   go_simp;generalize G:World.alloc W _=v;obtain ⟨hb,BB,zv⟩:=xE;clear G;obtain ⟨b,ax⟩:∃ b_,b_=W.heap.size:=⟨_,rfl⟩;rw [<- ax] at BB ⊢;obtain ⟨HB,HK⟩:=G5;have N:wb.heap.size<=b/\b < v.heap.size:=⟨by omega,by omega⟩;exact iE
  have a2:∀ (x:Int) (ba:Ac Ai) (bc:Nat) (L:Aj Ak) (X:Nat) (y:Ab) (b:Nat) (W:Ae),Touch (λk=>k=p) wb W/\yS w0 W p->(0<=x)->(x < 5)->(L.length<=4)->(Hid ((kD.slice 5 kD.byte).jo W [Qs ba L bc] L (Ql wb W b)))->(y∈([{ data:=#[47,107,101,121,47,97] },{ data:=#[47,107,101,121,47,98] },{ data:=#[47,97,47,107,101,121] }]:Aj Ab))->(wb.heap.size<=b/\b < W.heap.size)->(Qr W b #[.slice none 0 0,.slice none 0 0,.slice none 0 0,Qn 0,Qn 0] 70)->T 5 [Tt,Tt,Tt,Tt,Tt,Tt,Tt,Tt,Ff,Tt,Ff,Ff,Ff,Tt,Ff] (Aa (Aa (Aa (Aa (Aa A (some 16) (.int .i64 x)) (some 17) (.slice ba L.length bc)) (some 19) (.slice (some ⟨X,0,none⟩) 3 3)) (some 20) (.string y)) (some 4) (.pointer (some ⟨b,0,none⟩))) W:=by
   intro x ba bc L X y b W E au o a8 HB aw N BB;have bh:=E.1.size;subst hT;subst hA;simp only [Aa,zA,zB,zC];refine kP (k:=8) rfl bG6 rfl (λK H=>?_);go_simp;refine (yZ (kD.kCr bH2 aw)).mono ?_;rintro e v ⟨ka,kc,ks,rfl,hO,hkl,cl,hb⟩;have zv:=hb.size;have b4:=N.2;replace HB:Hid ((kD.slice 5 kD.byte).jo v [Qs ba L bc] L (Ql wb v b)):=yD ((HB.out.below hb).wide (λk q=>⟨q.1,Nat.lt_of_lt_of_le q.2.1 hb.size,q.2.2⟩));obtain ⟨BB,N⟩:=CV;have HK:Hid (kN.jo v [Qs ka ks kc] ks (Ql wb v b)):=yD (hO.jo.wide mM);exact iE
  have b2:∀ (x:Int) (ba:Ac Ai) (bc:Nat) (L:Aj Ak) (X:Nat) (y:Ab) (W:Ae),Touch (λk=>k=p) wb W/\yS w0 W p->(0<=x)->(x < 5)->(L.length<=4)->(Hid ((kD.slice 5 kD.byte).jo W [Qs ba L bc] L (Ql wb W p)))->(y∈([{ data:=#[47,107,101,121,47,97] },{ data:=#[47,107,101,121,47,98] },{ data:=#[47,97,47,107,101,121] }]:Aj Ab))->T 6 [Tt,Tt,Tt,Tt,Tt,Tt,Tt,Tt,Ff,Tt,Ff,Ff,Ff,Ff,Ff] (Aa (Aa (Aa (Aa A (some 16) (.int .i64 x)) (some 17) (.slice ba L.length bc)) (some 19) (.slice (some ⟨X,0,none⟩) 3 3)) (some 20) (.string y)) W:=by
   intro x ba bc L X y W E au o a8 HB aw;have bh:=E.1.size;subst hT;subst hA;simp only [Aa,zA,zB,zC];refine jr (i:=8) (j:=13) rfl rfl bG6 rfl rfl (λK H=>?_) (λK H=>?_)
   · go_simp;refine (yZ (kD.kCr bH2 aw)).mono ?_;rintro e v ⟨ka,kc,ks,rfl,hO,hkl,cl,hb⟩;have zv:=hb.size;replace HB:Hid ((kD.slice 5 kD.byte).jo v [Qs ba L bc] L (Ql wb v p)):=yD ((HB.out.below hb).wide (λk q=>⟨q.1,Nat.lt_of_lt_of_le q.2.1 hb.size,q.2.2⟩));have HK:Hid (kN.jo v [Qs ka ks kc] ks (Ql wb v p)):=yD (hO.jo.wide mM);replace E:=And.intro (E.1.trans (Touch.of_below hb)) (E.2.below hb);refine H _ _ E ?_;clear H K;refine jG ?_;have h_:=bx x ba bc L X y ka kc ks v E au o a8 HB aw HK;exact dR
   go_simp;generalize G:World.alloc W _=v;obtain ⟨hb,BB,zv⟩:=xE;clear G;obtain ⟨b,ax⟩:∃ b_,b_=W.heap.size:=⟨_,rfl⟩;rw [<- ax] at BB ⊢;replace HB:Hid ((kD.slice 5 kD.byte).jo v [Qs ba L bc] L (Ql wb v b)):=yD ((HB.out.below hb).wide dK);obtain ⟨N,E⟩:=A7;exact iF
  have a1:∀ (x:Int) (ba:Ac Ai) (bc:Nat) (L:Aj Ak) (X:Nat) (b:Nat) (W:Ae),Touch (λk=>k=p) wb W/\yS w0 W p->(0<=x)->(x < 5)->(L.length<=4)->(Hid ((kD.slice 5 kD.byte).jo W [Qs ba L bc] L (Ql wb W b)))->(wb.heap.size<=X/\X < W.heap.size)->(Hid ((kD.slice 9 kD.str).own W [.slice (some ⟨X,0,none⟩) 3 3] [{ data:=#[47,107,101,121,47,97] },{ data:=#[47,107,101,121,47,98] },{ data:=#[47,97,47,107,101,121] }] (λk=>k=X)))->(wb.heap.size<=b/\b < W.heap.size)->(Qr W b #[.slice none 0 0,.slice none 0 0,.slice none 0 0,Qn 0,Qn 0] 70)->T 6 [Tt,Tt,Tt,Tt,Tt,Tt,Tt,Ff,Ff,Tt,Ff,Ff,Ff,Tt,Ff] (Aa (Aa (Aa (Aa A (some 16) (.int .i64 x)) (some 17) (.slice ba L.length bc)) (some 19) (.slice (some ⟨X,0,none⟩) 3 3)) (some 4) (.pointer (some ⟨b,0,none⟩))) W:=by
   intro x ba bc L X b W E au o a8 HB h6 HL N BB;have bh:=E.1.size;subst hT;subst hA;simp only [Aa,zA,zB,zC];refine kP (k:=7) rfl bG6 rfl (λK H=>?_);go_simp;refine (kAd E.2 HL.out bH3 bH2 bH2).mono ?_;rintro e v ⟨y,aw,b6,rfl,F,D⟩;obtain ⟨zv,b4,HB⟩:=GL;obtain ⟨BB,N⟩:=A8;replace E:=And.intro (E.1.trans D) F;exact iF
  have b0:∀ (x:Int) (ba:Ac Ai) (bc:Nat) (L:Aj Ak) (X:Nat) (W:Ae),Touch (λk=>k=p) wb W/\yS w0 W p->(0<=x)->(x < 5)->(L.length<=4)->(Hid ((kD.slice 5 kD.byte).jo W [Qs ba L bc] L (Ql wb W p)))->(wb.heap.size<=X/\X < W.heap.size)->(Hid ((kD.slice 9 kD.str).own W [.slice (some ⟨X,0,none⟩) 3 3] [{ data:=#[47,107,101,121,47,97] },{ data:=#[47,107,101,121,47,98] },{ data:=#[47,97,47,107,101,121] }] (λk=>k=X)))->T 7 [Tt,Tt,Tt,Tt,Tt,Tt,Tt,Ff,Ff,Tt,Ff,Ff,Ff,Ff,Ff] (Aa (Aa (Aa A (some 16) (.int .i64 x)) (some 17) (.slice ba L.length bc)) (some 19) (.slice (some ⟨X,0,none⟩) 3 3)) W:=by
   intro x ba bc L X W E au o a8 HB h6 HL;have bh:=E.1.size;subst hT;subst hA;simp only [Aa,zA,zB,zC];refine jr (i:=7) (j:=13) rfl rfl bG6 rfl rfl (λK H=>?_) (λK H=>?_)
   · go_simp;refine (kAd E.2 HL.out bH3 bH2 bH2).mono ?_;rintro e v ⟨y,aw,b6,rfl,F,D⟩;obtain ⟨zv,HB⟩:=GK;replace E:=And.intro (E.1.trans D) F;refine H _ _ E ?_;clear H K;refine jG ?_;have h_:=b2 x ba bc L X y v E au o a8 HB aw;exact dR
   go_simp;generalize G:World.alloc W _=v;obtain ⟨hb,BB,zv⟩:=xE;clear G;obtain ⟨b,ax⟩:∃ b_,b_=W.heap.size:=⟨_,rfl⟩;rw [<- ax] at BB ⊢;replace HB:Hid ((kD.slice 5 kD.byte).jo v [Qs ba L bc] L (Ql wb v b)):=yD ((HB.out.below hb).wide dK);obtain ⟨HL,h6,N⟩:=xR;exact iG
  have bb:∀ (x:Int) (ba:Ac Ai) (bc:Nat) (L:Aj Ak) (b:Nat) (W:Ae),Touch (λk=>k=p) wb W/\yS w0 W p->(0<=x)->(x < 5)->(L.length<=4)->(Hid ((kD.slice 5 kD.byte).jo W [Qs ba L bc] L (Ql wb W b)))->(wb.heap.size<=b/\b < W.heap.size)->(Qr W b #[.slice none 0 0,.slice none 0 0,.slice none 0 0,Qn 0,Qn 0] 70)->T 7 [Tt,Tt,Tt,Tt,Tt,Tt,Ff,Ff,Ff,Tt,Ff,Ff,Ff,Tt,Ff] (Aa (Aa (Aa A (some 16) (.int .i64 x)) (some 17) (.slice ba L.length bc)) (some 4) (.pointer (some ⟨b,0,none⟩))) W:=by
   intro x ba bc L b W E au o a8 HB N BB;have bh:=E.1.size;subst hT;subst hA;simp only [Aa,zA,zB,zC];refine kP (k:=6) rfl bG6 rfl (λK H=>?_);go_simp;have HL:Hid ((kD.slice 9 kD.str).own (World.alloc W (.cells #[.string { data:=#[47,107,101,121,47,97] },.string { data:=#[47,107,101,121,47,98] },.string { data:=#[47,97,47,107,101,121] }] 9)) [.slice (some ⟨W.heap.size,0,none⟩) 3 3] [{ data:=#[47,107,101,121,47,97] },{ data:=#[47,107,101,121,47,98] },{ data:=#[47,97,47,107,101,121] }] (λk=>k=W.heap.size)):=yD (kD.kBg W [{ data:=#[47,107,101,121,47,97] },{ data:=#[47,107,101,121,47,98] },{ data:=#[47,97,47,107,101,121] }] bH2 bH2);generalize G:World.alloc W _=v at HL ⊢;obtain ⟨hb,zv⟩:=BG;clear G;replace HB:Hid ((kD.slice 5 kD.byte).jo v [Qs ba L bc] L (Ql wb v b)):=yD ((HB.out.below hb).wide (λk q=>⟨q.1,Nat.lt_of_lt_of_le q.2.1 hb.size,q.2.2⟩));obtain ⟨BB,N⟩:=CV;obtain ⟨X,av⟩:∃ b_,b_=W.heap.size:=⟨_,rfl⟩;rw [<- av] at HL ⊢;have h6:wb.heap.size<=X/\X < v.heap.size:=⟨by omega,by omega⟩;exact iG
  have a4:∀ (x:Int) (X:Nat) (b:Nat) (W:Ae),Touch (λk=>k=p) wb W/\yS w0 W p->(0<=x)->(x < 5)->(wb.heap.size<=X/\X < W.heap.size)->(Hid ((kD.slice 9 kD.str).own W [.slice (some ⟨X,0,none⟩) 3 3] [{ data:=#[47,107,101,121,47,97] },{ data:=#[47,107,101,121,47,98] },{ data:=#[47,97,47,107,101,121] }] (λk=>k=X)))->(wb.heap.size<=b/\b < W.heap.size)->(Qr W b #[.slice none 0 0,.slice none 0 0,.slice none 0 0,Qn 0,Qn 0] 70)->T 7 [Tt,Tt,Tt,Tt,Ff,Tt,Tt,Ff,Ff,Tt,Ff,Ff,Ff,Tt,Ff] (Aa (Aa (Aa A (some 16) (.int .i64 x)) (some 19) (.slice (some ⟨X,0,none⟩) 3 3)) (some 4) (.pointer (some ⟨b,0,none⟩))) W:=by
   intro x X b W E au o h6 HL N BB;have bh:=E.1.size;subst hT;subst hA;simp only [Aa,zA,zB,zC];refine kP (k:=4) rfl bG6 rfl (λK H=>?_);go_simp;refine (kCh E.2 au bH3).mono ?_;rintro e v ⟨ba,bc,L,rfl,c2,hO,F,D⟩;have zv:=D.size;have b4:=N.2;obtain ⟨HL,h6⟩:=xP;obtain ⟨BB,N⟩:=A8;obtain ⟨a8,HB,E⟩:=IZ;refine H _ _ E ?_;clear H K;refine jG ?_;have h_:=a1 x ba bc L X b v E au o a8 HB h6 HL N BB;simp only [Aa,zA,zB,zC] at h_;exact h_
  have dj:∀ (x:Int) (ba:Ac Ai) (bc:Nat) (L:Aj Ak) (W:Ae),Touch (λk=>k=p) wb W/\yS w0 W p->(0<=x)->(x < 5)->(L.length<=4)->(Hid ((kD.slice 5 kD.byte).jo W [Qs ba L bc] L (Ql wb W p)))->T 8 [Tt,Tt,Tt,Tt,Tt,Tt,Ff,Ff,Ff,Tt,Ff,Ff,Ff,Ff,Ff] (Aa (Aa A (some 16) (.int .i64 x)) (some 17) (.slice ba L.length bc)) W:=by
   intro x ba bc L W E au o a8 HB;have bh:=E.1.size;subst hT;subst hA;simp only [Aa,zA,zB,zC];refine jr (i:=6) (j:=13) rfl rfl bG6 rfl rfl (λK H=>?_) (λK H=>?_)
   · go_simp;have HL:Hid ((kD.slice 9 kD.str).own (World.alloc W (.cells #[.string { data:=#[47,107,101,121,47,97] },.string { data:=#[47,107,101,121,47,98] },.string { data:=#[47,97,47,107,101,121] }] 9)) [.slice (some ⟨W.heap.size,0,none⟩) 3 3] [{ data:=#[47,107,101,121,47,97] },{ data:=#[47,107,101,121,47,98] },{ data:=#[47,97,47,107,101,121] }] (λk=>k=W.heap.size)):=yD (kD.kBg W [{ data:=#[47,107,101,121,47,97] },{ data:=#[47,107,101,121,47,98] },{ data:=#[47,97,47,107,101,121] }] bH2 bH2);generalize G:World.alloc W _=v at HL ⊢;obtain ⟨hb,zv⟩:=BG;clear G;replace HB:Hid ((kD.slice 5 kD.byte).jo v [Qs ba L bc] L (Ql wb v p)):=yD ((HB.out.below hb).wide (λk q=>⟨q.1,Nat.lt_of_lt_of_le q.2.1 hb.size,q.2.2⟩));obtain ⟨X,av⟩:∃ b_,b_=W.heap.size:=⟨_,rfl⟩;rw [<- av] at HL ⊢;obtain ⟨h6,E⟩:=DK;exact iH
   go_simp;generalize G:World.alloc W _=v;obtain ⟨hb,BB,zv⟩:=xE;clear G;obtain ⟨b,ax⟩:∃ b_,b_=W.heap.size:=⟨_,rfl⟩;rw [<- ax] at BB ⊢;replace HB:Hid ((kD.slice 5 kD.byte).jo v [Qs ba L bc] L (Ql wb v b)):=yD ((HB.out.below hb).wide dK);obtain ⟨N,E⟩:=A7;exact iI
  have cf:∀ (x:Int) (X:Nat) (W:Ae),Touch (λk=>k=p) wb W/\yS w0 W p->(0<=x)->(x < 5)->(wb.heap.size<=X/\X < W.heap.size)->(Hid ((kD.slice 9 kD.str).own W [.slice (some ⟨X,0,none⟩) 3 3] [{ data:=#[47,107,101,121,47,97] },{ data:=#[47,107,101,121,47,98] },{ data:=#[47,97,47,107,101,121] }] (λk=>k=X)))->T 8 [Tt,Tt,Tt,Tt,Ff,Tt,Tt,Ff,Ff,Tt,Ff,Ff,Ff,Ff,Ff] (Aa (Aa A (some 16) (.int .i64 x)) (some 19) (.slice (some ⟨X,0,none⟩) 3 3)) W:=by
   intro x X W E au o h6 HL;have bh:=E.1.size;subst hT;subst hA;simp only [Aa,zA,zB,zC];refine jr (i:=4) (j:=13) rfl rfl bG6 rfl rfl (λK H=>?_) (λK H=>?_)
   · go_simp;refine (kCh E.2 au bH3).mono ?_;rintro e v ⟨ba,bc,L,rfl,c2,hO,F,D⟩;have zv:=D.size;obtain ⟨HL,h6⟩:=xP;obtain ⟨a8,HB,E⟩:=J2;exact iH
   go_simp;generalize G:World.alloc W _=v;obtain ⟨hb,BB,zv⟩:=xE;clear G;obtain ⟨b,ax⟩:∃ b_,b_=W.heap.size:=⟨_,rfl⟩;rw [<- ax] at BB ⊢;obtain ⟨HL,h6,N⟩:=xR;exact iJ
  have b9:∀ (x:Int) (b:Nat) (W:Ae),Touch (λk=>k=p) wb W/\yS w0 W p->(0<=x)->(x < 5)->(wb.heap.size<=b/\b < W.heap.size)->(Qr W b #[.slice none 0 0,.slice none 0 0,.slice none 0 0,Qn 0,Qn 0] 70)->T 8 [Tt,Tt,Tt,Tt,Ff,Tt,Ff,Ff,Ff,Tt,Ff,Ff,Ff,Tt,Ff] (Aa (Aa A (some 16) (.int .i64 x)) (some 4) (.pointer (some ⟨b,0,none⟩))) W:=by
   intro x b W E au o N BB;have bh:=E.1.size;subst hT;subst hA;simp only [Aa,zA,zB,zC];refine jr (i:=4) (j:=6) rfl rfl bG6 rfl rfl (λK H=>?_) (λK H=>?_)
   · go_simp;refine (kCh E.2 au bH3).mono ?_;rintro e v ⟨ba,bc,L,rfl,c2,hO,F,D⟩;have zv:=D.size;have b4:=N.2;obtain ⟨BB,N⟩:=A8;obtain ⟨a8,HB,E⟩:=IZ;exact iI
   go_simp;have HL:Hid ((kD.slice 9 kD.str).own (World.alloc W (.cells #[.string { data:=#[47,107,101,121,47,97] },.string { data:=#[47,107,101,121,47,98] },.string { data:=#[47,97,47,107,101,121] }] 9)) [.slice (some ⟨W.heap.size,0,none⟩) 3 3] [{ data:=#[47,107,101,121,47,97] },{ data:=#[47,107,101,121,47,98] },{ data:=#[47,97,47,107,101,121] }] (λk=>k=W.heap.size)):=yD (kD.kBg W [{ data:=#[47,107,101,121,47,97] },{ data:=#[47,107,101,121,47,98] },{ data:=#[47,97,47,107,101,121] }] bH2 bH2);generalize G:World.alloc W _=v at HL ⊢;obtain ⟨hb,zv⟩:=BG;clear G;obtain ⟨BB,N⟩:=CV;obtain ⟨X,av⟩:∃ b_,b_=W.heap.size:=⟨_,rfl⟩;rw [<- av] at HL ⊢;have h6:wb.heap.size<=X/\X < v.heap.size:=⟨by omega,by omega⟩;exact iJ
  have ce:∀ (X:Nat) (b:Nat) (W:Ae),Touch (λk=>k=p) wb W/\yS w0 W p->(wb.heap.size<=X/\X < W.heap.size)->(Hid ((kD.slice 9 kD.str).own W [.slice (some ⟨X,0,none⟩) 3 3] [{ data:=#[47,107,101,121,47,97] },{ data:=#[47,107,101,121,47,98] },{ data:=#[47,97,47,107,101,121] }] (λk=>k=X)))->(wb.heap.size<=b/\b < W.heap.size)->(Qr W b #[.slice none 0 0,.slice none 0 0,.slice none 0 0,Qn 0,Qn 0] 70)->T 8 [Tt,Tt,Tt,Ff,Ff,Tt,Tt,Ff,Ff,Tt,Ff,Ff,Ff,Tt,Ff] (Aa (Aa A (some 19) (.slice (some ⟨X,0,none⟩) 3 3)) (some 4) (.pointer (some ⟨b,0,none⟩))) W:=by
   intro X b W E h6 HL N BB;have bh:=E.1.size;subst hT;subst hA;simp only [Aa,zA,zB,zC];refine kP (k:=3) rfl bG6 rfl (λK H=>?_);go_simp;refine (ko (n:=5) E.2 bH2).mono ?_;rintro e v ⟨x,au,o,be,rfl,F,D⟩;have zv:=D.size;have b4:=N.2;obtain ⟨HL,h6⟩:=xP;obtain ⟨BB,N⟩:=A8;replace o:=o bH2;clear be;replace E:=And.intro (E.1.trans D) F;refine H _ _ E ?_;clear H K;refine jG ?_;have h_:=a4 x X b v E au o h6 HL N BB;simp only [Aa,zA,zB,zC] at h_;exact h_
  have T3:∀ (x:Int) (W:Ae),Touch (λk=>k=p) wb W/\yS w0 W p->(0<=x)->(x < 5)->T 9 [Tt,Tt,Tt,Tt,Ff,Tt,Ff,Ff,Ff,Tt,Ff,Ff,Ff,Ff,Ff] (Aa A (some 16) (.int .i64 x)) W:=by
   intro x W E au o;have bh:=E.1.size;subst hT;subst hA;simp only [Aa,zA,zB,zC];refine kVq (i:=4) (j:=6) (m:=13) rfl rfl rfl bG6 rfl rfl rfl (λK H=>?_) (λK H=>?_) (λK H=>?_)
   · go_simp;refine (kCh E.2 au bH3).mono ?_;rintro e v ⟨ba,bc,L,rfl,c2,hO,F,D⟩;have zv:=D.size;obtain ⟨a8,HB,E⟩:=J2;refine H _ _ E ?_;clear H K;refine jG ?_;have h_:=dj x ba bc L v E au o a8 HB;exact dR
   · go_simp;have HL:Hid ((kD.slice 9 kD.str).own (World.alloc W (.cells #[.string { data:=#[47,107,101,121,47,97] },.string { data:=#[47,107,101,121,47,98] },.string { data:=#[47,97,47,107,101,121] }] 9)) [.slice (some ⟨W.heap.size,0,none⟩) 3 3] [{ data:=#[47,107,101,121,47,97] },{ data:=#[47,107,101,121,47,98] },{ data:=#[47,97,47,107,101,121] }] (λk=>k=W.heap.size)):=yD (kD.kBg W [{ data:=#[47,107,101,121,47,97] },{ data:=#[47,107,101,121,47,98] },{ data:=#[47,97,47,107,101,121] }] bH2 bH2);generalize G:World.alloc W _=v at HL ⊢;obtain ⟨hb,zv⟩:=BG;clear G;obtain ⟨X,av⟩:∃ b_,b_=W.heap.size:=⟨_,rfl⟩;rw [<- av] at HL ⊢;obtain ⟨h6,E⟩:=DK;exact iK
   go_simp;generalize G:World.alloc W _=v;obtain ⟨hb,BB,zv⟩:=xE;clear G;obtain ⟨b,ax⟩:∃ b_,b_=W.heap.size:=⟨_,rfl⟩;rw [<- ax] at BB ⊢;obtain ⟨N,E⟩:=A7;exact iL
  have T6:∀ (X:Nat) (W:Ae),Touch (λk=>k=p) wb W/\yS w0 W p->(wb.heap.size<=X/\X < W.heap.size)->(Hid ((kD.slice 9 kD.str).own W [.slice (some ⟨X,0,none⟩) 3 3] [{ data:=#[47,107,101,121,47,97] },{ data:=#[47,107,101,121,47,98] },{ data:=#[47,97,47,107,101,121] }] (λk=>k=X)))->T 9 [Tt,Tt,Tt,Ff,Ff,Tt,Tt,Ff,Ff,Tt,Ff,Ff,Ff,Ff,Ff] (Aa A (some 19) (.slice (some ⟨X,0,none⟩) 3 3)) W:=by
   intro X W E h6 HL;have bh:=E.1.size;subst hT;subst hA;simp only [Aa,zA,zB,zC];refine jr (i:=3) (j:=13) rfl rfl bG6 rfl rfl (λK H=>?_) (λK H=>?_)
   · go_simp;refine (ko (n:=5) E.2 bH2).mono ?_;rintro e v ⟨x,au,o,be,rfl,F,D⟩;have zv:=D.size;obtain ⟨HL,h6⟩:=xP;replace o:=o bH2;clear be;replace E:=And.intro (E.1.trans D) F;exact iK
   go_simp;generalize G:World.alloc W _=v;obtain ⟨hb,BB,zv⟩:=xE;clear G;obtain ⟨b,ax⟩:∃ b_,b_=W.heap.size:=⟨_,rfl⟩;rw [<- ax] at BB ⊢;obtain ⟨HL,h6,N⟩:=xR;exact iM
  have co:∀ (b:Nat) (W:Ae),Touch (λk=>k=p) wb W/\yS w0 W p->(wb.heap.size<=b/\b < W.heap.size)->(Qr W b #[.slice none 0 0,.slice none 0 0,.slice none 0 0,Qn 0,Qn 0] 70)->T 9 [Tt,Tt,Tt,Ff,Ff,Tt,Ff,Ff,Ff,Tt,Ff,Ff,Ff,Tt,Ff] (Aa A (some 4) (.pointer (some ⟨b,0,none⟩))) W:=by
   intro b W E N BB;have bh:=E.1.size;subst hT;subst hA;simp only [Aa,zA,zB,zC];refine jr (i:=3) (j:=6) rfl rfl bG6 rfl rfl (λK H=>?_) (λK H=>?_)
   · go_simp;refine (ko (n:=5) E.2 bH2).mono ?_;rintro e v ⟨x,au,o,be,rfl,F,D⟩;have zv:=D.size;have b4:=N.2;obtain ⟨BB,N⟩:=A8;replace o:=o bH2;clear be;replace E:=And.intro (E.1.trans D) F;exact iL
   go_simp;have HL:Hid ((kD.slice 9 kD.str).own (World.alloc W (.cells #[.string { data:=#[47,107,101,121,47,97] },.string { data:=#[47,107,101,121,47,98] },.string { data:=#[47,97,47,107,101,121] }] 9)) [.slice (some ⟨W.heap.size,0,none⟩) 3 3] [{ data:=#[47,107,101,121,47,97] },{ data:=#[47,107,101,121,47,98] },{ data:=#[47,97,47,107,101,121] }] (λk=>k=W.heap.size)):=yD (kD.kBg W [{ data:=#[47,107,101,121,47,97] },{ data:=#[47,107,101,121,47,98] },{ data:=#[47,97,47,107,101,121] }] bH2 bH2);generalize G:World.alloc W _=v at HL ⊢;obtain ⟨hb,zv⟩:=BG;clear G;obtain ⟨BB,N⟩:=CV;obtain ⟨X,av⟩:∃ b_,b_=W.heap.size:=⟨_,rfl⟩;rw [<- av] at HL ⊢;have h6:wb.heap.size<=X/\X < v.heap.size:=⟨by omega,by omega⟩;exact iM
  subst hT;subst hA;refine kVq (i:=3) (j:=6) (m:=13) rfl rfl rfl bG6 rfl rfl rfl (λK H=>?_) (λK H=>?_) (λK H=>?_)
  · go_simp;refine (ko (n:=5) E.2 bH2).mono ?_;rintro e v ⟨x,au,o,be,rfl,F,D⟩;have zv:=D.size;replace o:=o bH2;clear be;replace E:=And.intro (E.1.trans D) F;refine H _ _ E ?_;clear H K;refine jG ?_;have h_:=T3 x v E au o;exact dR
  · go_simp;have HL:Hid ((kD.slice 9 kD.str).own (World.alloc t (.cells #[.string { data:=#[47,107,101,121,47,97] },.string { data:=#[47,107,101,121,47,98] },.string { data:=#[47,97,47,107,101,121] }] 9)) [.slice (some ⟨t.heap.size,0,none⟩) 3 3] [{ data:=#[47,107,101,121,47,97] },{ data:=#[47,107,101,121,47,98] },{ data:=#[47,97,47,107,101,121] }] (λk=>k=t.heap.size)):=yD (kD.kBg t [{ data:=#[47,107,101,121,47,97] },{ data:=#[47,107,101,121,47,98] },{ data:=#[47,97,47,107,101,121] }] bH2 bH2);generalize G:World.alloc t _=v at HL ⊢;have hb:Qb t v:=(by rw [<- G];exact bR.alloc nL _);have zv:t.heap.size + 1<=v.heap.size:=(by rw [<- G];simp);clear G;obtain ⟨X,av⟩:∃ b_,b_=t.heap.size:=⟨_,rfl⟩;rw [<- av] at HL ⊢;obtain ⟨h6,E⟩:=DK;refine H _ _ E ?_;clear H K;refine jG ?_;have h_:=T6 X v E h6 HL;exact dR
  go_simp;generalize G:World.alloc t _=v;obtain ⟨hb,BB,zv⟩:=AQ;clear G;obtain ⟨b,ax⟩:∃ b_,b_=t.heap.size:=⟨_,rfl⟩;rw [<- ax] at BB ⊢;obtain ⟨N,E⟩:=A7;refine H _ _ E ?_;clear H K;refine jG ?_;have h_:=co b v E N BB;exact dR
 rename Ae=>wd
 obtain ⟨b,ba,bc,L,ka,kc,ks,z,rfl,BX,HB,cg,HK,hz,b7,O,cd,br⟩:=hcut
 replace R:=br.kC R bH3
 have bg:=J.trans br
 have zd:=br.size
 clear hc J
 have hc:=cd;clear cd
 have J:=bg;clear bg
 have HX:=yD (kXp (S:=λk=>k≠p) ((I.out.jo.touch br bD1).wide bD7) (HB.out.wide vR) (HK.out.wide vR) (f:=40 + z) (s:=0) bH3 bH3)
 clear I HB HK br B
 go_upto_region 5 with fail
 refine zl (λW=>Touch (λk=>k=p) wd W/\yS w0 W p) (λ_=>True) [] [(0,true),(2,true),(1,false),(3,false)] [(4,false)] bG6 bG6 qY (⟨Touch.of_below bR.drew,hc.below bR.drew⟩) ?_
 intro wS E
 simp only [jB,zO,List.getElem?_cons_succ,List.getElem?_cons_zero,List.map_cons,List.map_nil]
 refine pre_nil ?_
 refine jf (v:=?_) rfl (λW hW=>?_) ?_;rotate_left;(· go_simp;try with_reducible rfl)
 refine jG ?_
 refine jf (v:=?_) rfl (λW hW=>?_) ?_;rotate_left;(· have dg:=kE (hW.1.kC BX bH3) (j:=0) (v:=.slice na qs.length nc) rfl;have dw:=kE (hW.1.kC BX bH3) (j:=1) (v:=.slice ba L.length bc) rfl;have d0:=kE (hW.1.kC BX bH3) (j:=2) (v:=.slice ka ks.length kc) rfl;have eh:=kE (hW.1.kC BX bH3) (j:=3) (v:=.int .i64 (40 + z)) rfl;have eg:=kE (hW.1.kC BX bH3) (j:=4) (v:=.int .i64 0) rfl;clear hW;go_simp;try with_reducible rfl)
 refine jG ?_
 refine zK rfl (λK H=>?_);go_simp;refine (kVu E.2).mono ?_;rintro e wS1 ⟨s,rfl,b8,ch,ap,am⟩;replace E:=And.intro (E.1.trans am) ap;clear ap am;refine H _ _ E ?_;clear H K
 refine jG ?_
 refine zK rfl (λK H=>?_);go_simp;refine (kHg (cx:=[.slice na qs.length nc,.slice ba L.length bc,.slice ka ks.length kc,.int .i64 (40 + z),.int .i64 0]) (x:=(qs,L,ks,40 + z,0)) bH3 (HX.out.touch E.1 (λk q h=>q h)).rd (by show L.length<=_;omega)).mono ?_;rintro e bm ⟨sg,ds,rfl,hO,ck,Z⟩;have dv:=E.1.size;have bk:=Z.size;replace E:=And.intro (E.1.trans (Touch.of_below Z)) (E.2.below Z);have HQ:=yD hO;obtain ⟨ac,Y,ai,ae,aj,ah,rfl⟩:=zk HQ.out.raw;refine H _ _ E ?_;clear H K Z hO
 refine jG ?_
 have bu:=E.1.size
 have RS:=E.1.kC R bH3
 have cz:=J.trans E.1
 have ak:Qd bm w 0 (.slice none 0 0):=kE RS rfl
 have al:bm.frozen? ⟨w.heap.size,0,none⟩=false:=Ag bm (w.heap.size) 0 _ _ RS
 have ao:Qd bm w 1 (.slice none 0 0):=kE RS rfl
 have an:bm.frozen? ⟨w.heap.size,1,none⟩=false:=Ag bm (w.heap.size) 1 _ _ RS
 have az:Qd bm w 2 (.slice none 0 0):=kE RS rfl
 have ay:bm.frozen? ⟨w.heap.size,2,none⟩=false:=Ag bm (w.heap.size) 2 _ _ RS
 have a7:Qd bm w 3 (.int .i64 0):=kE RS rfl
 have a6:bm.frozen? ⟨w.heap.size,3,none⟩=false:=Ag bm (w.heap.size) 3 _ _ RS
 have bp:Qd bm w 4 (.int .i64 0):=kE RS rfl
 have bn:bm.frozen? ⟨w.heap.size,4,none⟩=false:=Ag bm (w.heap.size) 4 _ _ RS
 refine kAa trivial ?_
 refine kw rfl (λK H=>?_);go_simp;refine H _ _ trivial ?_;clear H K
 refine jG ?_
 refine kS ?_
 go_wp2
 refine Ad (v:=.agg #[Qs ac qs Y,Qs ai L ae,Qs aj ks ah,.int .i64 (40 + z),Qn sg]) (by simp [results,results142,go_sem,ak,al,ao,an,az,ay,a7,a6,bp,bn]) rfl ⟨_,(qs,L,ks,40 + z,sg),rfl,?_,cg,E.2.touch sT5 bH3 bD5,cz.jJ sT5 bH3⟩
 exact (HQ.out.touch sT5 vE).wide fE
theorem kTf {w0 w:Ae} {p:Nat} (hc:yS w0 w p) :
    Calls prog 64 #[.pointer (some ⟨p,0,none⟩)] w λe w'=>DrawnD 64 w0 w p e w':=by
 go_enter func64,ntmps64
 obtain ⟨bd,bw⟩:=hc.lt
 go_upto_region 1 with fail
 generalize G:World.alloc w _=w1
 obtain ⟨U,R,bo⟩:=IL
 clear G
 obtain ⟨hc,J⟩:=xQ
 clear U
 go_wp2_with fail
 refine (kKb hc).mono ?_
 rintro e V ⟨ds,x,rfl,hO,bj,F,D⟩
 obtain ⟨bv,R,J⟩:=BP
 clear hc D
 have hc:=F
 clear F
 obtain ⟨a0,c0,a1,c1,a2,c2,rfl⟩:=zk hO.raw
 have b8:=data_rng hO.raw
 obtain ⟨n,b,k,f,s⟩:=x
 simp only at bj b8
 have I:=yD (hO.wide (T:=λj=>w1.heap.size<=j/\j < V.heap.size) (λ_ h=>h))
 clear hO
 go_upto_region 2 with fail
 generalize G:World.alloc V _=w3
 have ad:Qb V w3:=tK
 have B:Qr w3 V.heap.size #[Qs a0 n c0,Qs a1 b c1,Qs a2 k c2,Qn f,Qn s] 70:=wW
 have bt:V.heap.size + 1<=w3.heap.size:=bF4
 clear G
 obtain ⟨R,I,hc,J⟩:=A9
 clear ad
 go_wp2_with fail
 refine (ko (n:=12) hc bH2).mono ?_
 rintro e w4 ⟨m,bc,ax,b7,rfl,F,D⟩
 have b5:=D.size
 obtain ⟨R,B⟩:=AV
 obtain ⟨I,J⟩:=xK
 clear hc D
 have hc:=F
 clear F
 replace ax:=ax bH2
 clear b7
 obtain ⟨m,rfl⟩:=Int.eq_ofNat_of_zero_le bc
 by_cases bx:m=0
 · subst bx;go_wp2_with fail;refine (kGb hc).mono ?_;rintro e w5 ⟨qa,qc,qs,rfl,hQ,bk,a8,F,D⟩;have b3:=D.size;obtain ⟨R,B⟩:=AV;obtain ⟨I,J⟩:=xK;clear hc D;have hc:=F;clear F;have HQ:=yD (hQ);clear hQ;obtain ⟨ag,af,Z,O,o⟩:=zD B;obtain ⟨aq,ap,ar,a9,E⟩:=kBv B;go_upto_region 13 with fail;generalize G:World.setCell w5 _ _=w6;have L:Touch (λk=>k=V.heap.size) w5 w6:=bB2;replace B:Qr w6 V.heap.size #[Qs qa qs qc,Qs a1 b c1,Qs a2 k c2,Qn f,Qn s] 70:=wZ;have dh:=L.size;clear G;replace R:=L.kC R bH3;replace I:=yD (I.out.touch L qW);obtain ⟨HQ,hc,J⟩:=IQ;clear ag af Z O o aq ap ar a9 E;clear L;replace I:=yD ((jBx I.out HQ.out qF).wide (T:=λj=>w1.heap.size<=j/\j < w6.heap.size) bZ);clear HQ;go_upto_region 13 with fail;obtain ⟨ak,ao,az,a7,bp⟩:=zD R;obtain ⟨ag,af,Z,O,o⟩:=zD B;obtain ⟨al,an,ay,a6,bn⟩:=kBv R;go_wp2;refine Ad (v:=.agg #[Qs qa qs qc,Qs a1 b c1,Qs a2 k c2,Qn f,Qn s]) fQ rfl ⟨[Qs qa qs qc,Qs a1 b c1,Qs a2 k c2,Qn f,Qn s],(qs,b,k,f,s),rfl,?_,?_,hc.touch sT5 bH3 bD5,J.jJ sT5 bH3⟩
   · exact (I.out.touch sT5 vQ).wide fE
   simp only;omega
 have bc:¬ (m:Int)=0:=bH3
 by_cases bm:m=1
 · subst bm;go_wp2_with fail;refine (kGb hc).mono ?_;rintro e w5 ⟨qa,qc,qs,rfl,hQ,bk,a8,F,D⟩;have b3:=D.size;obtain ⟨R,B⟩:=AV;obtain ⟨I,J⟩:=xK;clear hc D;have hc:=F;clear F;have HQ:=yD (hQ);clear hQ;obtain ⟨ag,af,Z,O,o⟩:=zD B;obtain ⟨aq,ap,ar,a9,E⟩:=kBv B;go_upto_region 13 with fail;generalize G:World.setCell w5 _ _=w6;have L:Touch (λk=>k=V.heap.size) w5 w6:=bB2;replace B:Qr w6 V.heap.size #[Qs a0 n c0,Qs a1 b c1,Qs qa qs qc,Qn f,Qn s] 70:=by rw [<- G];exact kI B 2
   have dh:=L.size;clear G;replace R:=L.kC R bH3;replace I:=yD (I.out.touch L qW);obtain ⟨HQ,hc,J⟩:=IQ;clear ag af Z O o aq ap ar a9 E;clear L;replace I:=yD ((data_setKey I.out HQ.out qF).wide (T:=λj=>w1.heap.size<=j/\j < w6.heap.size) bZ);clear HQ;go_upto_region 13 with fail;obtain ⟨ak,ao,az,a7,bp⟩:=zD R;obtain ⟨ag,af,Z,O,o⟩:=zD B;obtain ⟨al,an,ay,a6,bn⟩:=kBv R;go_wp2;refine Ad (v:=.agg #[Qs a0 n c0,Qs a1 b c1,Qs qa qs qc,Qn f,Qn s]) fQ rfl ⟨[Qs a0 n c0,Qs a1 b c1,Qs qa qs qc,Qn f,Qn s],(n,b,qs,f,s),rfl,?_,?_,hc.touch sT5 bH3 bD5,J.jJ sT5 bH3⟩
   · exact (I.out.touch sT5 vQ).wide fE
   simp only;omega
 have ax:¬ (m:Int)=1:=bH3
 by_cases ba:m=2
 · subst ba;go_wp2_with fail;refine (zn (hc.below (bR.alloc nL _)) (kD.kDz _ [-1,100000,100001] bH2 bH2) bH3 bH2 bH2).mono ?_;rintro e w5 ⟨y,aw,b6,rfl,F,D⟩;obtain ⟨D,b3⟩:=AA;obtain ⟨R,B⟩:=AV;obtain ⟨I,J⟩:=xK;clear hc D;have hc:=F;clear F;have cf:=kD.kId (lo:=-1) (hi:=100001) bH2 aw;clear aw b6;obtain ⟨ag,af,Z,O,o⟩:=zD B;obtain ⟨aq,ap,ar,a9,E⟩:=kBv B;go_upto_region 13 with fail;generalize G:World.setCell w5 _ _=w6;have L:Touch (λk=>k=V.heap.size) w5 w6:=bB2;replace B:Qr w6 V.heap.size #[Qs a0 n c0,Qs a1 b c1,Qs a2 k c2,Qn y,Qn s] 70:=by rw [<- G];exact kI B 3
   have dh:=L.size;clear G;obtain ⟨R,I,hc,J⟩:=C9;clear ag af Z O o aq ap ar a9 E;clear L;replace I:=yD (jBw I.out (v:=y) bH3);go_upto_region 13 with fail;obtain ⟨ak,ao,az,a7,bp⟩:=zD R;obtain ⟨ag,af,Z,O,o⟩:=zD B;obtain ⟨al,an,ay,a6,bn⟩:=kBv R;go_wp2;refine Ad (v:=.agg #[Qs a0 n c0,Qs a1 b c1,Qs a2 k c2,Qn y,Qn s]) fQ rfl ⟨[Qs a0 n c0,Qs a1 b c1,Qs a2 k c2,Qn y,Qn s],(n,b,k,y,s),rfl,?_,?_,hc.touch sT5 bH3 bD5,J.jJ sT5 bH3⟩
   · exact (I.out.touch sT5 vQ).wide fE
   simp only;omega
 have b7:¬ (m:Int)=2:=bH3
 by_cases ac:m=3
 · subst ac;go_wp2_with fail;refine (jAz hc).mono ?_;rintro e w5 ⟨y,rfl,ch,aa,F,D⟩;have b3:=D.size;obtain ⟨R,B⟩:=AV;obtain ⟨I,J⟩:=xK;clear hc D;have hc:=F;clear F;obtain ⟨ag,af,Z,O,o⟩:=zD B;obtain ⟨aq,ap,ar,a9,E⟩:=kBv B;go_upto_region 13 with fail;generalize G:World.setCell w5 _ _=w6;have L:Touch (λk=>k=V.heap.size) w5 w6:=bB2;replace B:Qr w6 V.heap.size #[Qs a0 n c0,Qs a1 b c1,Qs a2 k c2,Qn f,Qn y] 70:=by rw [<- G];exact kI B 4
   have dh:=L.size;clear G;obtain ⟨R,I,hc,J⟩:=C9;clear ag af Z O o aq ap ar a9 E;clear L;replace I:=yD (kTp I.out (v:=y) bH3);go_upto_region 13 with fail;obtain ⟨ak,ao,az,a7,bp⟩:=zD R;obtain ⟨ag,af,Z,O,o⟩:=zD B;obtain ⟨al,an,ay,a6,bn⟩:=kBv R;go_wp2;refine Ad (v:=.agg #[Qs a0 n c0,Qs a1 b c1,Qs a2 k c2,Qn f,Qn y]) fQ rfl ⟨[Qs a0 n c0,Qs a1 b c1,Qs a2 k c2,Qn f,Qn y],(n,b,k,f,y),rfl,?_,?_,hc.touch sT5 bH3 bD5,J.jJ sT5 bH3⟩
   · exact (I.out.touch sT5 vQ).wide fE
   simp only;omega
 have bb:¬ (m:Int)=3:=bH3
 by_cases b0:m=4
 · subst b0;go_wp2_with fail;refine (ko (n:=3) hc bH2).mono ?_;rintro e w5 ⟨y,ch,aa,a4,rfl,F,D⟩;have b3:=D.size;obtain ⟨R,B⟩:=AV;obtain ⟨I,J⟩:=xK;clear hc D;have hc:=F;clear F;replace aa:=aa bH2;clear a4;obtain ⟨z,hz⟩:∃ z:Nat,(59:Int) + y=z:=⟨(59 + y).toNat,by omega⟩;have hw:Ah.wrap (59 + y)=(z:Int):=(Al _ bH3).trans hz;have N:=run_make_row' (P:=prog) 22 5 (.int .u8 0) 1 underlying22 kFb rfl .i64 .i64 z bH3 bH3;obtain ⟨ag,af,Z,O,o⟩:=zD B;obtain ⟨aq,ap,ar,a9,E⟩:=kBv B;have GB:(World.alloc w5 (.cells (madeCells #[.int .u8 0] z) 5)).frozen? ⟨V.heap.size,1,none⟩=false:=(frozen?_alloc_cells _ _ _ _).trans ap;have W:(World.alloc w5 (.cells (madeCells #[.int .u8 0] z) 5)).cell? ⟨V.heap.size,1,none⟩=some (.slice a1 b.length c1):=kE (kC B (bR.alloc nL _)) rfl;go_upto_region 13 with fail;have HM:=yD ((kD.own0_make (r:=kD.byte) (e:=5) (w:=w5) (zs:=#[.int .u8 0]) (n:=z) (S:=λk=>k=w5.heap.size) rfl rfl bH2 bA9 rfl).own (by simp [Big];omega));simp only [show z * kD.byte.n=z from Nat.mul_one z] at HM;clear GB W N;generalize G:World.alloc w5 (.cells (madeCells #[.int .u8 0] z) 5)=w6 at HM ⊢;have av:Qb w5 w6:=tK;have dh:w5.heap.size + 1<=w6.heap.size:=bF4;clear G;replace R:=kC R av;replace B:=kC B av;replace I:=yD (I.out.below av);obtain ⟨hc,J⟩:=FV;clear ag af Z O o aq ap ar a9 E;clear av;replace HM:=yD (HM.out.wide (T:=λk=>w5.heap.size<=k/\k < w6.heap.size) bD7);generalize G:World.setCell w6 _ _=w7;have H:Touch (λk=>k=V.heap.size) w6 w7:=bB2;replace B:Qr w7 V.heap.size #[Qs a0 n c0,.slice (some ⟨w5.heap.size,0,none⟩) z z,Qs a2 k c2,Qn f,Qn s] 70:=wY;have et:=H.size;clear G;replace R:=H.kC R bH3;replace I:=yD (I.out.touch H qW);replace HM:=yD (HM.out.touch H qW);replace hc:=hc.touch H bH3 bD5;replace J:=J.jJ H bH3;clear H;replace I:=yD ((kUv I.out HM.out qF).wide (T:=λj=>w1.heap.size<=j/\j < w7.heap.size) bZ);clear HM;go_upto_region 13 with fail;obtain ⟨ak,ao,az,a7,bp⟩:=zD R;obtain ⟨ag,af,Z,O,o⟩:=zD B;obtain ⟨al,an,ay,a6,bn⟩:=kBv R;go_wp2;refine Ad (v:=.agg #[Qs a0 n c0,.slice (some ⟨w5.heap.size,0,none⟩) z z,Qs a2 k c2,Qn f,Qn s]) fQ rfl ⟨[Qs a0 n c0,.slice (some ⟨w5.heap.size,0,none⟩) z z,Qs a2 k c2,Qn f,Qn s],(n,List.replicate z 0,k,f,s),rfl,?_,?_,hc.touch sT5 bH3 bD5,J.jJ sT5 bH3⟩
   · exact (I.out.touch sT5 vQ).wide fE
   simp;omega
 have X:¬ (m:Int)=4:=bH3
 go_upto_region 13 with fail
 obtain ⟨ak,ao,az,a7,bp⟩:=zD R
 obtain ⟨ag,af,Z,O,o⟩:=zD B
 obtain ⟨al,an,ay,a6,bn⟩:=kBv R
 go_wp2
 refine Ad (v:=.agg #[Qs a0 n c0,Qs a1 b c1,Qs a2 k c2,Qn f,Qn s]) fQ rfl ⟨[Qs a0 n c0,Qs a1 b c1,Qs a2 k c2,Qn f,Qn s],(n,b,k,f,s),rfl,?_,?_,hc.touch sT5 bH3 bD5,J.jJ sT5 bH3⟩
 · exact (I.out.touch sT5 vQ).wide fE
 simp only;omega
end Go.Proofs.YtjhfdpopkkmigabGreat

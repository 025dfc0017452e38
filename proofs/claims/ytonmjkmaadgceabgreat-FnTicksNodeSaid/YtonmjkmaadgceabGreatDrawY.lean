/-
  Data as the reference draws them.
-/
import Derived.Test.YtonmjkmaadgceabGreatDrawX
set_option linter.unusedVariables false
set_option linter.unusedSimpArgs false
set_option linter.unnecessarySimpa false
set_option maxRecDepth 100000
set_option maxHeartbeats 8000000
open Bool renaming true->Tt,false->Ff
open Go.Act renaming put->Aa
open _root_ renaming ByteArray->Ab,Option->Ac,List->Aj,UInt8->Ak
open Go renaming bodyPost_ret->Ad,World->Ae,frozen_of_row->Ag,Addr->Ai
open Go.IntKind renaming i64->Ah
open Go.IntWalk renaming i64_in->Al
namespace Go.Proofs.YtonmjkmaadgceabGreat
open Go.RowKit _root_.Go.Proofs.Tryz
theorem kIt {w0 w:Ae} {p:Nat} (hc:yU w0 w p) :
    Calls prog 147 #[.pointer (some ⟨p,0,none⟩)] w λe w'=>DrawnD 4 w0 w p e w':=by
 go_enter func147,ntmps147
 obtain ⟨bf,b4⟩:=hc.lt
 go_upto_region 1 with fail
 generalize F:World.alloc w _=Y
 obtain ⟨X,R,bd⟩:=GV
 clear F
 obtain ⟨hc,N⟩:=xQ
 clear X
 go_wp2_with fail
 refine (kIu hc).mono ?_
 rintro e V ⟨a,n,c,ps,rfl,hO,b0,be,G,D⟩
 obtain ⟨bk,R,N⟩:=BG
 clear hc D
 have hc:=G
 clear G
 have J:=yD hO
 clear hO
 go_upto_region 2 with fail
 generalize F:World.alloc V _=w3
 obtain ⟨ak,B,bl⟩:=EW
 clear F
 obtain ⟨R,J,hc,N⟩:=z8
 clear ak
 have ax:Qd w3 V 0 (.slice a n c):=kE B rfl
 obtain ⟨_,_,_,a4,ay⟩:=J.out.parts
 simp only [Value.slice.injEq] at a4
 have b5:=yD (a4.2.1.trans ay.out)
 clear a4 ay
 go_upto_if 10 with fail
 go_cut [] from 7 to 13 (λwc=>∃ (na:Ac Ai) (nc:Nat) (qs:ko),Qr wc w.heap.size #[.slice none 0 0,.slice none 0 0,.slice none 0 0,Qn 0,Qn 0] 68/\Qr wc V.heap.size #[Qs na qs nc] 40/\Hid (kU.own wc [Qs na qs nc] qs (λk=>w.heap.size < k/\k < wc.heap.size/\k≠V.heap.size/\k≠p))/\0 < qs.length/\qs.length<=64/\w3.heap.size<=wc.heap.size/\yU w0 wc p/\Touch (λk=>k=p) w wc)
 case first =>
  by_cases hz:n=0
  · subst hz;obtain rfl:ps=[]:=List.eq_nil_of_length_eq_zero b5.out.symm;clear ax;obtain ⟨ax,az,GB,HB⟩:=AO;go_wp2;clear GB HB;have a7:=yD (kD.kLp (e:=9) w3 (kD.kFj (s:={ data:=#[97] }) bC8));generalize F:World.alloc w3 _=w4 at a7 ⊢;have a2:Qb w3 w4:=rM;have bw:w3.heap.size + 1<=w4.heap.size:=bB1;clear F J;replace R:=kC R a2;replace B:=kC B a2;replace hc:=hc.below a2;replace N:=N.trans (Touch.of_below a2);clear ax az;clear a2;have J:=yD (kD.kR.wide (T:=λj=>Y.heap.size<=j/\j < w4.heap.size/\j≠V.heap.size) a7.out qA);clear a7;generalize F:World.setCell w4 _ _=w5;obtain ⟨bt,B,bv⟩:=I9;clear F;replace R:=bt.kC R bC9;replace J:=yD (J.out.touch bt (λk q=>q.2.2));replace hc:=hc.touch bt bC9 wM;replace N:=N.jO bt bC9;clear bt;go_meet;exact ⟨_,_,[({ data:=#[97] }:Ab)],R,B,yD ((J.out.own bC8).wide (λk q=>⟨by have:=q.1;omega,by have:=q.2.1;omega,q.2.2,by have:=q.1;omega⟩)),by decide,by decide,by omega,hc,N⟩
  have cz:¬ (n:Int)=0:=bC9;obtain rfl:=b5.out;go_wp2;go_meet;exact ⟨a,c,ps,R,B,yD ((J.out.own wH).wide (λk q=>⟨by have:=q.1;omega,by have:=q.2;omega,by have:=q.2;omega,by have:=q.1;omega⟩)),by omega,by omega,Nat.le_refl _,hc,N⟩
 rename Ae=>U
 clear R J b5 hc N B ax
 obtain ⟨na,nc,qs,R,B,J,b8,c2,d6,hc,N⟩:=hcut
 have c1:=hc.lt.2
 go_upto_region 4 with fail
 go_cut [4] from 13 to 26 (λs4 wd=>∃ (b:Nat) (ba:Ac Ai) (bc:Nat) (Z:Aj Ak) (ka:Ac Ai) (kc:Nat) (ks:ko) (z:Int),s4=.pointer (some ⟨b,0,none⟩)/\Qr wd b #[Qs na qs nc,Qs ba Z bc,Qs ka ks kc,.int .i64 (40 + z),Qn 0] 68/\Hid ((kD.slice 5 kD.byte).ji wd [Qs ba Z bc] Z (λk=>U.heap.size<=k/\k≠b))/\Z.length<=4/\Hid (kU.ji wd [Qs ka ks kc] ks (λk=>U.heap.size<=k/\k≠b))/\(0<=z/\z < 60)/\U.heap.size<=b/\b < wd.heap.size/\yU w0 wd p/\Touch (λk=>k=p) U wd)
 case first =>
  have FX:=yD (λ(W:Ae) (hW:Touch (λk=>k=p) U W/\yU w0 W p)=>kE (hW.1.kC B bC9) (j:=0) (v:=.slice na qs.length nc) rfl);refine yR (λW=>Touch (λk=>k=p) U W/\yU w0 W p) bC3 (⟨Touch.of_below bR.drew,hc.below bR.drew⟩) ?_;intro t E;have d9:=E.1.size;refine kQ 0 ?_;refine kQ 1 ?_;refine kQ 2 ?_;refine kQ 5 ?_;refine kQ 9 ?_;refine kIq ?_;intro T A hT hA;have a3:∀ (x:Int) (ba:Ac Ai) (bc:Nat) (Z:Aj Ak) (b6:Nat) (y:Ab) (ka:Ac Ai) (kc:Nat) (ks:ko) (z:Int) (b:Nat) (W:Ae),Touch (λk=>k=p) U W/\yU w0 W p->(0<=x)->(x < 5)->(Z.length<=4)->(Hid ((kD.slice 5 kD.byte).ji W [Qs ba Z bc] Z (Ql U W b)))->(y∈([{ data:=#[47,107,101,121,47,97] },{ data:=#[47,107,101,121,47,98] },{ data:=#[47,97,47,107,101,121] }]:Aj Ab))->(Hid (kU.ji W [Qs ka ks kc] ks (Ql U W b)))->(0<=z)->(z < 60)->(Ah.wrap (40 + z)=40 + z)->(U.heap.size<=b/\b < W.heap.size)->(Qr W b #[Qs na qs nc,Qs ba Z bc,Qs ka ks kc,.int .i64 (40 + z),Qn 0] 68)->T 0 [Tt,Tt,Tt,Tt,Tt,Tt,Tt,Tt,Tt,Tt,Tt,Tt,Tt,Tt,Tt] (Aa (Aa (Aa (Aa (Aa (Aa (Aa (Aa (Aa A (some 16) (.int .i64 x)) (some 17) (.slice ba Z.length bc)) (some 19) (.slice (some ⟨b6,0,none⟩) 3 3)) (some 20) (.string y)) (some 21) (.agg #[Qs ka ks kc])) (some 23) (.int .i64 z)) (some 24) (.int .i64 (40 + z))) (some 25) (.agg #[Qs na qs nc,Qs ba Z bc,Qs ka ks kc,.int .i64 (40 + z),Qn 0])) (some 4) (.pointer (some ⟨b,0,none⟩))) W:=by
   intro x ba bc Z b6 y ka kc ks z b W E ao L aw HB au HK bx bq hw o BB;have bo:=E.1.size;subst hT;subst hA;simp only [Aa,zA,zB,zC];refine jf bC3 ?_;go_wp2;go_meet;exact ⟨b,ba,bc,Z,ka,kc,ks,z,rfl,BB,yD (HB.out.wide (λk q=>⟨q.1,q.2.2⟩)),aw,yD (HK.out.wide (λk q=>⟨q.1,q.2.2⟩)),⟨bx,bq⟩,o.1,o.2,E.2,E.1⟩
  have aq:∀ (x:Int) (ba:Ac Ai) (bc:Nat) (Z:Aj Ak) (b6:Nat) (y:Ab) (ka:Ac Ai) (kc:Nat) (ks:ko) (z:Int) (b:Nat) (W:Ae),Touch (λk=>k=p) U W/\yU w0 W p->(0<=x)->(x < 5)->(Z.length<=4)->(Hid ((kD.slice 5 kD.byte).ji W [Qs ba Z bc] Z (Ql U W b)))->(y∈([{ data:=#[47,107,101,121,47,97] },{ data:=#[47,107,101,121,47,98] },{ data:=#[47,97,47,107,101,121] }]:Aj Ab))->(Hid (kU.ji W [Qs ka ks kc] ks (Ql U W b)))->(0<=z)->(z < 60)->(Ah.wrap (40 + z)=40 + z)->(U.heap.size<=b/\b < W.heap.size)->(Qr W b #[.slice none 0 0,.slice none 0 0,.slice none 0 0,Qn 0,Qn 0] 68)->T 1 [Tt,Tt,Tt,Tt,Tt,Tt,Tt,Tt,Tt,Tt,Tt,Tt,Tt,Tt,Ff] (Aa (Aa (Aa (Aa (Aa (Aa (Aa (Aa (Aa A (some 16) (.int .i64 x)) (some 17) (.slice ba Z.length bc)) (some 19) (.slice (some ⟨b6,0,none⟩) 3 3)) (some 20) (.string y)) (some 21) (.agg #[Qs ka ks kc])) (some 23) (.int .i64 z)) (some 24) (.int .i64 (40 + z))) (some 25) (.agg #[Qs na qs nc,Qs ba Z bc,Qs ka ks kc,.int .i64 (40 + z),Qn 0])) (some 4) (.pointer (some ⟨b,0,none⟩))) W:=by
   intro x ba bc Z b6 y ka kc ks z b W E ao L aw HB au HK bx bq hw o BB;have bo:=E.1.size;subst hT;subst hA;simp only [Aa,zA,zB,zC];refine kP (k:=14) rfl bC3 rfl (λK H=>?_);obtain ⟨dg,c8,dd,db,dk⟩:=yt BB;obtain ⟨c5,dh,dr,dm,df⟩:=kBr BB;go_simp;generalize F:World.setCell (World.setCell (World.setCell (World.setCell (World.setCell W _ _) _ _) _ _) _ _) _ _=v;have hT:Touch (λk=>k=b) W v:=(by rw [<- F];exact sT5);replace BB:Qr v b #[Qs na qs nc,Qs ba Z bc,Qs ka ks kc,.int .i64 (40 + z),Qn 0] 68:=(by rw [<- F];exact kK (kK (kK (kK (kK (BB) 0) 1) 2) 3) 4);clear F dg c8 dd db dk c5 dh dr dm df;have zv:=hT.size;replace HB:Hid ((kD.slice 5 kD.byte).ji v [Qs ba Z bc] Z (Ql U v b)):=yD ((HB.out.touch hT (λk q h=>q.2.2 h)).wide (λk q=>⟨q.1,Nat.lt_of_lt_of_le q.2.1 hT.size,q.2.2⟩));replace HK:Hid (kU.ji v [Qs ka ks kc] ks (Ql U v b)):=yD ((HK.out.touch hT (λk q h=>q.2.2 h)).wide (λk q=>⟨q.1,Nat.lt_of_lt_of_le q.2.1 hT.size,q.2.2⟩));replace o:U.heap.size<=b/\b < v.heap.size:=⟨o.1,Nat.lt_of_lt_of_le o.2 hT.size⟩;replace E:=And.intro (E.1.jO hT bC9) (E.2.touch hT bC9 (λk hk=>by have:=E.2.size.size;omega));refine H _ _ E ?_;clear H K;refine jF ?_;have h_:=a3 x ba bc Z b6 y ka kc ks z b v E ao L aw HB au HK bx bq hw o BB;exact aY
  have bz:∀ (x:Int) (ba:Ac Ai) (bc:Nat) (Z:Aj Ak) (b6:Nat) (y:Ab) (ka:Ac Ai) (kc:Nat) (ks:ko) (z:Int) (W:Ae),Touch (λk=>k=p) U W/\yU w0 W p->(0<=x)->(x < 5)->(Z.length<=4)->(Hid ((kD.slice 5 kD.byte).ji W [Qs ba Z bc] Z (Ql U W p)))->(y∈([{ data:=#[47,107,101,121,47,97] },{ data:=#[47,107,101,121,47,98] },{ data:=#[47,97,47,107,101,121] }]:Aj Ab))->(Hid (kU.ji W [Qs ka ks kc] ks (Ql U W p)))->(0<=z)->(z < 60)->(Ah.wrap (40 + z)=40 + z)->T 2 [Tt,Tt,Tt,Tt,Tt,Tt,Tt,Tt,Tt,Tt,Tt,Tt,Tt,Ff,Ff] (Aa (Aa (Aa (Aa (Aa (Aa (Aa (Aa A (some 16) (.int .i64 x)) (some 17) (.slice ba Z.length bc)) (some 19) (.slice (some ⟨b6,0,none⟩) 3 3)) (some 20) (.string y)) (some 21) (.agg #[Qs ka ks kc])) (some 23) (.int .i64 z)) (some 24) (.int .i64 (40 + z))) (some 25) (.agg #[Qs na qs nc,Qs ba Z bc,Qs ka ks kc,.int .i64 (40 + z),Qn 0])) W:=by
   intro x ba bc Z b6 y ka kc ks z W E ao L aw HB au HK bx bq hw;have bo:=E.1.size;subst hT;subst hA;simp only [Aa,zA,zB,zC];refine kP (k:=13) rfl bC3 rfl (λK H=>?_);go_simp;generalize F:World.alloc W _=v;obtain ⟨hb,BB,zv⟩:=xD;clear F;obtain ⟨b,ag⟩:∃ b_,b_=W.heap.size:=⟨_,rfl⟩;rw [<- ag] at BB ⊢;obtain ⟨HB,HK⟩:=EZ;obtain ⟨o,E⟩:=y9;refine H _ _ E ?_;clear H K;refine jF ?_;exact eX
  have a8:∀ (x:Int) (ba:Ac Ai) (bc:Nat) (Z:Aj Ak) (b6:Nat) (y:Ab) (ka:Ac Ai) (kc:Nat) (ks:ko) (b:Nat) (W:Ae),Touch (λk=>k=p) U W/\yU w0 W p->(0<=x)->(x < 5)->(Z.length<=4)->(Hid ((kD.slice 5 kD.byte).ji W [Qs ba Z bc] Z (Ql U W b)))->(y∈([{ data:=#[47,107,101,121,47,97] },{ data:=#[47,107,101,121,47,98] },{ data:=#[47,97,47,107,101,121] }]:Aj Ab))->(Hid (kU.ji W [Qs ka ks kc] ks (Ql U W b)))->(U.heap.size<=b/\b < W.heap.size)->(Qr W b #[.slice none 0 0,.slice none 0 0,.slice none 0 0,Qn 0,Qn 0] 68)->T 4 [Tt,Tt,Tt,Tt,Tt,Tt,Tt,Tt,Tt,Tt,Ff,Ff,Ff,Tt,Ff] (Aa (Aa (Aa (Aa (Aa (Aa A (some 16) (.int .i64 x)) (some 17) (.slice ba Z.length bc)) (some 19) (.slice (some ⟨b6,0,none⟩) 3 3)) (some 20) (.string y)) (some 21) (.agg #[Qs ka ks kc])) (some 4) (.pointer (some ⟨b,0,none⟩))) W:=by
   intro x ba bc Z b6 y ka kc ks b W E ao L aw HB au HK o BB;have bo:=E.1.size;subst hT;subst hA;simp only [Aa,zA,zB,zC];refine kP (k:=10) rfl bC3 rfl (λK H=>?_);go_simp;refine (kr (n:=60) E.2 bC8).mono ?_;rintro e v ⟨z,bx,bq,a6,rfl,G,D⟩;obtain ⟨zv,ck,HB⟩:=FK;replace HK:Hid (kU.ji v [Qs ka ks kc] ks (Ql U v b)):=yD ((HK.out.touch D rZ).wide (λk q=>⟨q.1,Nat.lt_of_lt_of_le q.2.1 D.size,q.2.2⟩));obtain ⟨BB,o⟩:=A7;replace bq:=bq bC8;clear a6;have hw:Ah.wrap (40 + z)=40 + z:=Al _ bC9;replace E:=And.intro (E.1.trans D) G;refine H _ _ E ?_;clear H K;refine jF ?_;refine kQ 11 ?_;refine kQ 12 ?_;exact eX
  have b2:∀ (x:Int) (ba:Ac Ai) (bc:Nat) (Z:Aj Ak) (b6:Nat) (y:Ab) (ka:Ac Ai) (kc:Nat) (ks:ko) (W:Ae),Touch (λk=>k=p) U W/\yU w0 W p->(0<=x)->(x < 5)->(Z.length<=4)->(Hid ((kD.slice 5 kD.byte).ji W [Qs ba Z bc] Z (Ql U W p)))->(y∈([{ data:=#[47,107,101,121,47,97] },{ data:=#[47,107,101,121,47,98] },{ data:=#[47,97,47,107,101,121] }]:Aj Ab))->(Hid (kU.ji W [Qs ka ks kc] ks (Ql U W p)))->T 5 [Tt,Tt,Tt,Tt,Tt,Tt,Tt,Tt,Tt,Tt,Ff,Ff,Ff,Ff,Ff] (Aa (Aa (Aa (Aa (Aa A (some 16) (.int .i64 x)) (some 17) (.slice ba Z.length bc)) (some 19) (.slice (some ⟨b6,0,none⟩) 3 3)) (some 20) (.string y)) (some 21) (.agg #[Qs ka ks kc])) W:=by
   intro x ba bc Z b6 y ka kc ks W E ao L aw HB au HK;have bo:=E.1.size;subst hT;subst hA;simp only [Aa,zA,zB,zC];refine je (i:=10) (j:=13) rfl rfl bC3 rfl rfl (λK H=>?_) (λK H=>?_)
   · go_simp;refine (kr (n:=60) E.2 bC8).mono ?_;rintro e v ⟨z,bx,bq,a6,rfl,G,D⟩;obtain ⟨zv,HB⟩:=FJ;replace HK:Hid (kU.ji v [Qs ka ks kc] ks (Ql U v p)):=yD ((HK.out.touch D rZ).wide (λk q=>⟨q.1,Nat.lt_of_lt_of_le q.2.1 D.size,q.2.2⟩));replace bq:=bq bC8;clear a6;have hw:Ah.wrap (40 + z)=40 + z:=Al _ bC9;replace E:=And.intro (E.1.trans D) G;refine H _ _ E ?_;clear H K;refine jF ?_;refine kQ 11 ?_;refine kQ 12 ?_;have h_:=bz x ba bc Z b6 y ka kc ks z v E ao L aw HB au HK bx bq hw;exact aY
   go_simp;generalize F:World.alloc W _=v;obtain ⟨hb,BB,zv⟩:=xD;clear F;obtain ⟨b,ag⟩:∃ b_,b_=W.heap.size:=⟨_,rfl⟩;rw [<- ag] at BB ⊢;obtain ⟨HB,HK⟩:=EZ;have o:U.heap.size<=b/\b < v.heap.size:=⟨by omega,by omega⟩;exact eY
  have bp:∀ (x:Int) (ba:Ac Ai) (bc:Nat) (Z:Aj Ak) (b6:Nat) (y:Ab) (b:Nat) (W:Ae),Touch (λk=>k=p) U W/\yU w0 W p->(0<=x)->(x < 5)->(Z.length<=4)->(Hid ((kD.slice 5 kD.byte).ji W [Qs ba Z bc] Z (Ql U W b)))->(y∈([{ data:=#[47,107,101,121,47,97] },{ data:=#[47,107,101,121,47,98] },{ data:=#[47,97,47,107,101,121] }]:Aj Ab))->(U.heap.size<=b/\b < W.heap.size)->(Qr W b #[.slice none 0 0,.slice none 0 0,.slice none 0 0,Qn 0,Qn 0] 68)->T 5 [Tt,Tt,Tt,Tt,Tt,Tt,Tt,Tt,Ff,Tt,Ff,Ff,Ff,Tt,Ff] (Aa (Aa (Aa (Aa (Aa A (some 16) (.int .i64 x)) (some 17) (.slice ba Z.length bc)) (some 19) (.slice (some ⟨b6,0,none⟩) 3 3)) (some 20) (.string y)) (some 4) (.pointer (some ⟨b,0,none⟩))) W:=by
   intro x ba bc Z b6 y b W E ao L aw HB au o BB;have bo:=E.1.size;subst hT;subst hA;simp only [Aa,zA,zB,zC];refine kP (k:=8) rfl bC3 rfl (λK H=>?_);go_simp;refine (yV (kD.kCn bC8 au)).mono ?_;rintro e v ⟨ka,kc,ks,rfl,hO,aa,cv,hb⟩;have zv:=hb.size;have ck:=o.2;replace HB:Hid ((kD.slice 5 kD.byte).ji v [Qs ba Z bc] Z (Ql U v b)):=yD ((HB.out.below hb).wide (λk q=>⟨q.1,Nat.lt_of_lt_of_le q.2.1 hb.size,q.2.2⟩));obtain ⟨BB,o⟩:=CB;have HK:Hid (kU.ji v [Qs ka ks kc] ks (Ql U v b)):=yD (hO.ji.wide gK);exact eY
  have cd:∀ (x:Int) (ba:Ac Ai) (bc:Nat) (Z:Aj Ak) (b6:Nat) (y:Ab) (W:Ae),Touch (λk=>k=p) U W/\yU w0 W p->(0<=x)->(x < 5)->(Z.length<=4)->(Hid ((kD.slice 5 kD.byte).ji W [Qs ba Z bc] Z (Ql U W p)))->(y∈([{ data:=#[47,107,101,121,47,97] },{ data:=#[47,107,101,121,47,98] },{ data:=#[47,97,47,107,101,121] }]:Aj Ab))->T 6 [Tt,Tt,Tt,Tt,Tt,Tt,Tt,Tt,Ff,Tt,Ff,Ff,Ff,Ff,Ff] (Aa (Aa (Aa (Aa A (some 16) (.int .i64 x)) (some 17) (.slice ba Z.length bc)) (some 19) (.slice (some ⟨b6,0,none⟩) 3 3)) (some 20) (.string y)) W:=by
   intro x ba bc Z b6 y W E ao L aw HB au;have bo:=E.1.size;subst hT;subst hA;simp only [Aa,zA,zB,zC];refine je (i:=8) (j:=13) rfl rfl bC3 rfl rfl (λK H=>?_) (λK H=>?_)
   · go_simp;refine (yV (kD.kCn bC8 au)).mono ?_;rintro e v ⟨ka,kc,ks,rfl,hO,aa,cv,hb⟩;have zv:=hb.size;replace HB:Hid ((kD.slice 5 kD.byte).ji v [Qs ba Z bc] Z (Ql U v p)):=yD ((HB.out.below hb).wide (λk q=>⟨q.1,Nat.lt_of_lt_of_le q.2.1 hb.size,q.2.2⟩));have HK:Hid (kU.ji v [Qs ka ks kc] ks (Ql U v p)):=yD (hO.ji.wide gK);replace E:=And.intro (E.1.trans (Touch.of_below hb)) (E.2.below hb);refine H _ _ E ?_;clear H K;refine jF ?_;have h_:=b2 x ba bc Z b6 y ka kc ks v E ao L aw HB au HK;exact aY
   go_simp;generalize F:World.alloc W _=v;obtain ⟨hb,BB,zv⟩:=xD;clear F;obtain ⟨b,ag⟩:∃ b_,b_=W.heap.size:=⟨_,rfl⟩;rw [<- ag] at BB ⊢;replace HB:Hid ((kD.slice 5 kD.byte).ji v [Qs ba Z bc] Z (Ql U v b)):=yD ((HB.out.below hb).wide dD);obtain ⟨o,E⟩:=y9;exact eZ
  have bj:∀ (x:Int) (ba:Ac Ai) (bc:Nat) (Z:Aj Ak) (b6:Nat) (b:Nat) (W:Ae),Touch (λk=>k=p) U W/\yU w0 W p->(0<=x)->(x < 5)->(Z.length<=4)->(Hid ((kD.slice 5 kD.byte).ji W [Qs ba Z bc] Z (Ql U W b)))->(U.heap.size<=b6/\b6 < W.heap.size)->(Hid ((kD.slice 9 kD.str).own W [.slice (some ⟨b6,0,none⟩) 3 3] [{ data:=#[47,107,101,121,47,97] },{ data:=#[47,107,101,121,47,98] },{ data:=#[47,97,47,107,101,121] }] (λk=>k=b6)))->(U.heap.size<=b/\b < W.heap.size)->(Qr W b #[.slice none 0 0,.slice none 0 0,.slice none 0 0,Qn 0,Qn 0] 68)->T 6 [Tt,Tt,Tt,Tt,Tt,Tt,Tt,Ff,Ff,Tt,Ff,Ff,Ff,Tt,Ff] (Aa (Aa (Aa (Aa A (some 16) (.int .i64 x)) (some 17) (.slice ba Z.length bc)) (some 19) (.slice (some ⟨b6,0,none⟩) 3 3)) (some 4) (.pointer (some ⟨b,0,none⟩))) W:=by
   intro x ba bc Z b6 b W E ao L aw HB h6 HL o BB;have bo:=E.1.size;subst hT;subst hA;simp only [Aa,zA,zB,zC];refine kP (k:=7) rfl bC3 rfl (λK H=>?_);go_simp;refine (zx E.2 HL.out bC9 bC8 bC8).mono ?_;rintro e v ⟨y,au,a5,rfl,G,D⟩;obtain ⟨zv,ck,HB⟩:=FK;obtain ⟨BB,o⟩:=A7;replace E:=And.intro (E.1.trans D) G;exact eZ
  have b7:∀ (x:Int) (ba:Ac Ai) (bc:Nat) (Z:Aj Ak) (b6:Nat) (W:Ae),Touch (λk=>k=p) U W/\yU w0 W p->(0<=x)->(x < 5)->(Z.length<=4)->(Hid ((kD.slice 5 kD.byte).ji W [Qs ba Z bc] Z (Ql U W p)))->(U.heap.size<=b6/\b6 < W.heap.size)->(Hid ((kD.slice 9 kD.str).own W [.slice (some ⟨b6,0,none⟩) 3 3] [{ data:=#[47,107,101,121,47,97] },{ data:=#[47,107,101,121,47,98] },{ data:=#[47,97,47,107,101,121] }] (λk=>k=b6)))->T 7 [Tt,Tt,Tt,Tt,Tt,Tt,Tt,Ff,Ff,Tt,Ff,Ff,Ff,Ff,Ff] (Aa (Aa (Aa A (some 16) (.int .i64 x)) (some 17) (.slice ba Z.length bc)) (some 19) (.slice (some ⟨b6,0,none⟩) 3 3)) W:=by
   intro x ba bc Z b6 W E ao L aw HB h6 HL;have bo:=E.1.size;subst hT;subst hA;simp only [Aa,zA,zB,zC];refine je (i:=7) (j:=13) rfl rfl bC3 rfl rfl (λK H=>?_) (λK H=>?_)
   · go_simp;refine (zx E.2 HL.out bC9 bC8 bC8).mono ?_;rintro e v ⟨y,au,a5,rfl,G,D⟩;obtain ⟨zv,HB⟩:=FJ;replace E:=And.intro (E.1.trans D) G;refine H _ _ E ?_;clear H K;refine jF ?_;have h_:=cd x ba bc Z b6 y v E ao L aw HB au;exact aY
   go_simp;generalize F:World.alloc W _=v;obtain ⟨hb,BB,zv⟩:=xD;clear F;obtain ⟨b,ag⟩:∃ b_,b_=W.heap.size:=⟨_,rfl⟩;rw [<- ag] at BB ⊢;replace HB:Hid ((kD.slice 5 kD.byte).ji v [Qs ba Z bc] Z (Ql U v b)):=yD ((HB.out.below hb).wide dD);obtain ⟨HL,h6,o⟩:=xO;exact fZ
  have b1:∀ (x:Int) (ba:Ac Ai) (bc:Nat) (Z:Aj Ak) (b:Nat) (W:Ae),Touch (λk=>k=p) U W/\yU w0 W p->(0<=x)->(x < 5)->(Z.length<=4)->(Hid ((kD.slice 5 kD.byte).ji W [Qs ba Z bc] Z (Ql U W b)))->(U.heap.size<=b/\b < W.heap.size)->(Qr W b #[.slice none 0 0,.slice none 0 0,.slice none 0 0,Qn 0,Qn 0] 68)->T 7 [Tt,Tt,Tt,Tt,Tt,Tt,Ff,Ff,Ff,Tt,Ff,Ff,Ff,Tt,Ff] (Aa (Aa (Aa A (some 16) (.int .i64 x)) (some 17) (.slice ba Z.length bc)) (some 4) (.pointer (some ⟨b,0,none⟩))) W:=by
   intro x ba bc Z b W E ao L aw HB o BB;have bo:=E.1.size;subst hT;subst hA;simp only [Aa,zA,zB,zC];refine kP (k:=6) rfl bC3 rfl (λK H=>?_);go_simp;have HL:Hid ((kD.slice 9 kD.str).own (World.alloc W (.cells #[.string { data:=#[47,107,101,121,47,97] },.string { data:=#[47,107,101,121,47,98] },.string { data:=#[47,97,47,107,101,121] }] 9)) [.slice (some ⟨W.heap.size,0,none⟩) 3 3] [{ data:=#[47,107,101,121,47,97] },{ data:=#[47,107,101,121,47,98] },{ data:=#[47,97,47,107,101,121] }] (λk=>k=W.heap.size)):=yD (kD.kAx W [{ data:=#[47,107,101,121,47,97] },{ data:=#[47,107,101,121,47,98] },{ data:=#[47,97,47,107,101,121] }] bC8 bC8);generalize F:World.alloc W _=v at HL ⊢;obtain ⟨hb,zv⟩:=AQ;clear F;replace HB:Hid ((kD.slice 5 kD.byte).ji v [Qs ba Z bc] Z (Ql U v b)):=yD ((HB.out.below hb).wide (λk q=>⟨q.1,Nat.lt_of_lt_of_le q.2.1 hb.size,q.2.2⟩));obtain ⟨BB,o⟩:=CB;obtain ⟨b6,bn⟩:∃ b_,b_=W.heap.size:=⟨_,rfl⟩;rw [<- bn] at HL ⊢;have h6:U.heap.size<=b6/\b6 < v.heap.size:=⟨by omega,by omega⟩;exact fZ
  have br:∀ (x:Int) (b6:Nat) (b:Nat) (W:Ae),Touch (λk=>k=p) U W/\yU w0 W p->(0<=x)->(x < 5)->(U.heap.size<=b6/\b6 < W.heap.size)->(Hid ((kD.slice 9 kD.str).own W [.slice (some ⟨b6,0,none⟩) 3 3] [{ data:=#[47,107,101,121,47,97] },{ data:=#[47,107,101,121,47,98] },{ data:=#[47,97,47,107,101,121] }] (λk=>k=b6)))->(U.heap.size<=b/\b < W.heap.size)->(Qr W b #[.slice none 0 0,.slice none 0 0,.slice none 0 0,Qn 0,Qn 0] 68)->T 7 [Tt,Tt,Tt,Tt,Ff,Tt,Tt,Ff,Ff,Tt,Ff,Ff,Ff,Tt,Ff] (Aa (Aa (Aa A (some 16) (.int .i64 x)) (some 19) (.slice (some ⟨b6,0,none⟩) 3 3)) (some 4) (.pointer (some ⟨b,0,none⟩))) W:=by
   intro x b6 b W E ao L h6 HL o BB;have bo:=E.1.size;subst hT;subst hA;simp only [Aa,zA,zB,zC];refine kP (k:=4) rfl bC3 rfl (λK H=>?_);go_simp;refine (kCe E.2 ao bC9).mono ?_;rintro e v ⟨ba,bc,Z,rfl,ca,hO,G,D⟩;have zv:=D.size;have ck:=o.2;obtain ⟨HL,h6⟩:=xK;obtain ⟨BB,o⟩:=A7;obtain ⟨aw,HB,E⟩:=H8;refine H _ _ E ?_;clear H K;refine jF ?_;have h_:=bj x ba bc Z b6 b v E ao L aw HB h6 HL o BB;simp only [Aa,zA,zB,zC] at h_;exact h_
  have dv:∀ (x:Int) (ba:Ac Ai) (bc:Nat) (Z:Aj Ak) (W:Ae),Touch (λk=>k=p) U W/\yU w0 W p->(0<=x)->(x < 5)->(Z.length<=4)->(Hid ((kD.slice 5 kD.byte).ji W [Qs ba Z bc] Z (Ql U W p)))->T 8 [Tt,Tt,Tt,Tt,Tt,Tt,Ff,Ff,Ff,Tt,Ff,Ff,Ff,Ff,Ff] (Aa (Aa A (some 16) (.int .i64 x)) (some 17) (.slice ba Z.length bc)) W:=by
   intro x ba bc Z W E ao L aw HB;have bo:=E.1.size;subst hT;subst hA;simp only [Aa,zA,zB,zC];refine je (i:=6) (j:=13) rfl rfl bC3 rfl rfl (λK H=>?_) (λK H=>?_)
   · go_simp;have HL:Hid ((kD.slice 9 kD.str).own (World.alloc W (.cells #[.string { data:=#[47,107,101,121,47,97] },.string { data:=#[47,107,101,121,47,98] },.string { data:=#[47,97,47,107,101,121] }] 9)) [.slice (some ⟨W.heap.size,0,none⟩) 3 3] [{ data:=#[47,107,101,121,47,97] },{ data:=#[47,107,101,121,47,98] },{ data:=#[47,97,47,107,101,121] }] (λk=>k=W.heap.size)):=yD (kD.kAx W [{ data:=#[47,107,101,121,47,97] },{ data:=#[47,107,101,121,47,98] },{ data:=#[47,97,47,107,101,121] }] bC8 bC8);generalize F:World.alloc W _=v at HL ⊢;obtain ⟨hb,zv⟩:=AQ;clear F;replace HB:Hid ((kD.slice 5 kD.byte).ji v [Qs ba Z bc] Z (Ql U v p)):=yD ((HB.out.below hb).wide (λk q=>⟨q.1,Nat.lt_of_lt_of_le q.2.1 hb.size,q.2.2⟩));obtain ⟨b6,bn⟩:∃ b_,b_=W.heap.size:=⟨_,rfl⟩;rw [<- bn] at HL ⊢;obtain ⟨h6,E⟩:=CU;exact gU
   go_simp;generalize F:World.alloc W _=v;obtain ⟨hb,BB,zv⟩:=xD;clear F;obtain ⟨b,ag⟩:∃ b_,b_=W.heap.size:=⟨_,rfl⟩;rw [<- ag] at BB ⊢;replace HB:Hid ((kD.slice 5 kD.byte).ji v [Qs ba Z bc] Z (Ql U v b)):=yD ((HB.out.below hb).wide dD);obtain ⟨o,E⟩:=y9;exact gY
  have ch:∀ (x:Int) (b6:Nat) (W:Ae),Touch (λk=>k=p) U W/\yU w0 W p->(0<=x)->(x < 5)->(U.heap.size<=b6/\b6 < W.heap.size)->(Hid ((kD.slice 9 kD.str).own W [.slice (some ⟨b6,0,none⟩) 3 3] [{ data:=#[47,107,101,121,47,97] },{ data:=#[47,107,101,121,47,98] },{ data:=#[47,97,47,107,101,121] }] (λk=>k=b6)))->T 8 [Tt,Tt,Tt,Tt,Ff,Tt,Tt,Ff,Ff,Tt,Ff,Ff,Ff,Ff,Ff] (Aa (Aa A (some 16) (.int .i64 x)) (some 19) (.slice (some ⟨b6,0,none⟩) 3 3)) W:=by
   intro x b6 W E ao L h6 HL;have bo:=E.1.size;subst hT;subst hA;simp only [Aa,zA,zB,zC];refine je (i:=4) (j:=13) rfl rfl bC3 rfl rfl (λK H=>?_) (λK H=>?_)
   · go_simp;refine (kCe E.2 ao bC9).mono ?_;rintro e v ⟨ba,bc,Z,rfl,ca,hO,G,D⟩;have zv:=D.size;obtain ⟨HL,h6⟩:=xK;obtain ⟨aw,HB,E⟩:=H9;exact gU
   go_simp;generalize F:World.alloc W _=v;obtain ⟨hb,BB,zv⟩:=xD;clear F;obtain ⟨b,ag⟩:∃ b_,b_=W.heap.size:=⟨_,rfl⟩;rw [<- ag] at BB ⊢;obtain ⟨HL,h6,o⟩:=xO;exact iA
  have ce:∀ (x:Int) (b:Nat) (W:Ae),Touch (λk=>k=p) U W/\yU w0 W p->(0<=x)->(x < 5)->(U.heap.size<=b/\b < W.heap.size)->(Qr W b #[.slice none 0 0,.slice none 0 0,.slice none 0 0,Qn 0,Qn 0] 68)->T 8 [Tt,Tt,Tt,Tt,Ff,Tt,Ff,Ff,Ff,Tt,Ff,Ff,Ff,Tt,Ff] (Aa (Aa A (some 16) (.int .i64 x)) (some 4) (.pointer (some ⟨b,0,none⟩))) W:=by
   intro x b W E ao L o BB;have bo:=E.1.size;subst hT;subst hA;simp only [Aa,zA,zB,zC];refine je (i:=4) (j:=6) rfl rfl bC3 rfl rfl (λK H=>?_) (λK H=>?_)
   · go_simp;refine (kCe E.2 ao bC9).mono ?_;rintro e v ⟨ba,bc,Z,rfl,ca,hO,G,D⟩;have zv:=D.size;have ck:=o.2;obtain ⟨BB,o⟩:=A7;obtain ⟨aw,HB,E⟩:=H8;exact gY
   go_simp;have HL:Hid ((kD.slice 9 kD.str).own (World.alloc W (.cells #[.string { data:=#[47,107,101,121,47,97] },.string { data:=#[47,107,101,121,47,98] },.string { data:=#[47,97,47,107,101,121] }] 9)) [.slice (some ⟨W.heap.size,0,none⟩) 3 3] [{ data:=#[47,107,101,121,47,97] },{ data:=#[47,107,101,121,47,98] },{ data:=#[47,97,47,107,101,121] }] (λk=>k=W.heap.size)):=yD (kD.kAx W [{ data:=#[47,107,101,121,47,97] },{ data:=#[47,107,101,121,47,98] },{ data:=#[47,97,47,107,101,121] }] bC8 bC8);generalize F:World.alloc W _=v at HL ⊢;obtain ⟨hb,zv⟩:=AQ;clear F;obtain ⟨BB,o⟩:=CB;obtain ⟨b6,bn⟩:∃ b_,b_=W.heap.size:=⟨_,rfl⟩;rw [<- bn] at HL ⊢;have h6:U.heap.size<=b6/\b6 < v.heap.size:=⟨by omega,by omega⟩;exact iA
  have cf:∀ (b6:Nat) (b:Nat) (W:Ae),Touch (λk=>k=p) U W/\yU w0 W p->(U.heap.size<=b6/\b6 < W.heap.size)->(Hid ((kD.slice 9 kD.str).own W [.slice (some ⟨b6,0,none⟩) 3 3] [{ data:=#[47,107,101,121,47,97] },{ data:=#[47,107,101,121,47,98] },{ data:=#[47,97,47,107,101,121] }] (λk=>k=b6)))->(U.heap.size<=b/\b < W.heap.size)->(Qr W b #[.slice none 0 0,.slice none 0 0,.slice none 0 0,Qn 0,Qn 0] 68)->T 8 [Tt,Tt,Tt,Ff,Ff,Tt,Tt,Ff,Ff,Tt,Ff,Ff,Ff,Tt,Ff] (Aa (Aa A (some 19) (.slice (some ⟨b6,0,none⟩) 3 3)) (some 4) (.pointer (some ⟨b,0,none⟩))) W:=by
   intro b6 b W E h6 HL o BB;have bo:=E.1.size;subst hT;subst hA;simp only [Aa,zA,zB,zC];refine kP (k:=3) rfl bC3 rfl (λK H=>?_);go_simp;refine (kr (n:=5) E.2 bC8).mono ?_;rintro e v ⟨x,ao,L,a1,rfl,G,D⟩;have zv:=D.size;have ck:=o.2;obtain ⟨HL,h6⟩:=xK;obtain ⟨BB,o⟩:=A7;replace L:=L bC8;clear a1;replace E:=And.intro (E.1.trans D) G;refine H _ _ E ?_;clear H K;refine jF ?_;have h_:=br x b6 b v E ao L h6 HL o BB;simp only [Aa,zA,zB,zC] at h_;exact h_
  have T3:∀ (x:Int) (W:Ae),Touch (λk=>k=p) U W/\yU w0 W p->(0<=x)->(x < 5)->T 9 [Tt,Tt,Tt,Tt,Ff,Tt,Ff,Ff,Ff,Tt,Ff,Ff,Ff,Ff,Ff] (Aa A (some 16) (.int .i64 x)) W:=by
   intro x W E ao L;have bo:=E.1.size;subst hT;subst hA;simp only [Aa,zA,zB,zC];refine kTw (i:=4) (j:=6) (m:=13) rfl rfl rfl bC3 rfl rfl rfl (λK H=>?_) (λK H=>?_) (λK H=>?_)
   · go_simp;refine (kCe E.2 ao bC9).mono ?_;rintro e v ⟨ba,bc,Z,rfl,ca,hO,G,D⟩;have zv:=D.size;obtain ⟨aw,HB,E⟩:=H9;refine H _ _ E ?_;clear H K;refine jF ?_;have h_:=dv x ba bc Z v E ao L aw HB;exact aY
   · go_simp;have HL:Hid ((kD.slice 9 kD.str).own (World.alloc W (.cells #[.string { data:=#[47,107,101,121,47,97] },.string { data:=#[47,107,101,121,47,98] },.string { data:=#[47,97,47,107,101,121] }] 9)) [.slice (some ⟨W.heap.size,0,none⟩) 3 3] [{ data:=#[47,107,101,121,47,97] },{ data:=#[47,107,101,121,47,98] },{ data:=#[47,97,47,107,101,121] }] (λk=>k=W.heap.size)):=yD (kD.kAx W [{ data:=#[47,107,101,121,47,97] },{ data:=#[47,107,101,121,47,98] },{ data:=#[47,97,47,107,101,121] }] bC8 bC8);generalize F:World.alloc W _=v at HL ⊢;obtain ⟨hb,zv⟩:=AQ;clear F;obtain ⟨b6,bn⟩:∃ b_,b_=W.heap.size:=⟨_,rfl⟩;rw [<- bn] at HL ⊢;obtain ⟨h6,E⟩:=CU;exact iB
   go_simp;generalize F:World.alloc W _=v;obtain ⟨hb,BB,zv⟩:=xD;clear F;obtain ⟨b,ag⟩:∃ b_,b_=W.heap.size:=⟨_,rfl⟩;rw [<- ag] at BB ⊢;obtain ⟨o,E⟩:=y9;exact iC
  have T6:∀ (b6:Nat) (W:Ae),Touch (λk=>k=p) U W/\yU w0 W p->(U.heap.size<=b6/\b6 < W.heap.size)->(Hid ((kD.slice 9 kD.str).own W [.slice (some ⟨b6,0,none⟩) 3 3] [{ data:=#[47,107,101,121,47,97] },{ data:=#[47,107,101,121,47,98] },{ data:=#[47,97,47,107,101,121] }] (λk=>k=b6)))->T 9 [Tt,Tt,Tt,Ff,Ff,Tt,Tt,Ff,Ff,Tt,Ff,Ff,Ff,Ff,Ff] (Aa A (some 19) (.slice (some ⟨b6,0,none⟩) 3 3)) W:=by
   intro b6 W E h6 HL;have bo:=E.1.size;subst hT;subst hA;simp only [Aa,zA,zB,zC];refine je (i:=3) (j:=13) rfl rfl bC3 rfl rfl (λK H=>?_) (λK H=>?_)
   · go_simp;refine (kr (n:=5) E.2 bC8).mono ?_;rintro e v ⟨x,ao,L,a1,rfl,G,D⟩;have zv:=D.size;obtain ⟨HL,h6⟩:=xK;replace L:=L bC8;clear a1;replace E:=And.intro (E.1.trans D) G;exact iB
   go_simp;generalize F:World.alloc W _=v;obtain ⟨hb,BB,zv⟩:=xD;clear F;obtain ⟨b,ag⟩:∃ b_,b_=W.heap.size:=⟨_,rfl⟩;rw [<- ag] at BB ⊢;obtain ⟨HL,h6,o⟩:=xO;exact iD
  have cw:∀ (b:Nat) (W:Ae),Touch (λk=>k=p) U W/\yU w0 W p->(U.heap.size<=b/\b < W.heap.size)->(Qr W b #[.slice none 0 0,.slice none 0 0,.slice none 0 0,Qn 0,Qn 0] 68)->T 9 [Tt,Tt,Tt,Ff,Ff,Tt,Ff,Ff,Ff,Tt,Ff,Ff,Ff,Tt,Ff] (Aa A (some 4) (.pointer (some ⟨b,0,none⟩))) W:=by
   intro b W E o BB;have bo:=E.1.size;subst hT;subst hA;simp only [Aa,zA,zB,zC];refine je (i:=3) (j:=6) rfl rfl bC3 rfl rfl (λK H=>?_) (λK H=>?_)
   · go_simp;refine (kr (n:=5) E.2 bC8).mono ?_;rintro e v ⟨x,ao,L,a1,rfl,G,D⟩;have zv:=D.size;have ck:=o.2;obtain ⟨BB,o⟩:=A7;replace L:=L bC8;clear a1;replace E:=And.intro (E.1.trans D) G;exact iC
   go_simp;have HL:Hid ((kD.slice 9 kD.str).own (World.alloc W (.cells #[.string { data:=#[47,107,101,121,47,97] },.string { data:=#[47,107,101,121,47,98] },.string { data:=#[47,97,47,107,101,121] }] 9)) [.slice (some ⟨W.heap.size,0,none⟩) 3 3] [{ data:=#[47,107,101,121,47,97] },{ data:=#[47,107,101,121,47,98] },{ data:=#[47,97,47,107,101,121] }] (λk=>k=W.heap.size)):=yD (kD.kAx W [{ data:=#[47,107,101,121,47,97] },{ data:=#[47,107,101,121,47,98] },{ data:=#[47,97,47,107,101,121] }] bC8 bC8);generalize F:World.alloc W _=v at HL ⊢;obtain ⟨hb,zv⟩:=AQ;clear F;obtain ⟨BB,o⟩:=CB;obtain ⟨b6,bn⟩:∃ b_,b_=W.heap.size:=⟨_,rfl⟩;rw [<- bn] at HL ⊢;have h6:U.heap.size<=b6/\b6 < v.heap.size:=⟨by omega,by omega⟩;exact iD
  subst hT;subst hA;refine kTw (i:=3) (j:=6) (m:=13) rfl rfl rfl bC3 rfl rfl rfl (λK H=>?_) (λK H=>?_) (λK H=>?_)
  · go_simp;refine (kr (n:=5) E.2 bC8).mono ?_;rintro e v ⟨x,ao,L,a1,rfl,G,D⟩;have zv:=D.size;replace L:=L bC8;clear a1;replace E:=And.intro (E.1.trans D) G;refine H _ _ E ?_;clear H K;refine jF ?_;have h_:=T3 x v E ao L;exact aY
  · go_simp;have HL:Hid ((kD.slice 9 kD.str).own (World.alloc t (.cells #[.string { data:=#[47,107,101,121,47,97] },.string { data:=#[47,107,101,121,47,98] },.string { data:=#[47,97,47,107,101,121] }] 9)) [.slice (some ⟨t.heap.size,0,none⟩) 3 3] [{ data:=#[47,107,101,121,47,97] },{ data:=#[47,107,101,121,47,98] },{ data:=#[47,97,47,107,101,121] }] (λk=>k=t.heap.size)):=yD (kD.kAx t [{ data:=#[47,107,101,121,47,97] },{ data:=#[47,107,101,121,47,98] },{ data:=#[47,97,47,107,101,121] }] bC8 bC8);generalize F:World.alloc t _=v at HL ⊢;have hb:Qb t v:=(by rw [<- F];exact bR.alloc nL _);have zv:t.heap.size + 1<=v.heap.size:=(by rw [<- F];simp);clear F;obtain ⟨b6,bn⟩:∃ b_,b_=t.heap.size:=⟨_,rfl⟩;rw [<- bn] at HL ⊢;obtain ⟨h6,E⟩:=CU;refine H _ _ E ?_;clear H K;refine jF ?_;have h_:=T6 b6 v E h6 HL;exact aY
  go_simp;generalize F:World.alloc t _=v;obtain ⟨hb,BB,zv⟩:=AJ;clear F;obtain ⟨b,ag⟩:∃ b_,b_=t.heap.size:=⟨_,rfl⟩;rw [<- ag] at BB ⊢;obtain ⟨o,E⟩:=y9;refine H _ _ E ?_;clear H K;refine jF ?_;have h_:=cw b v E o BB;exact aY
 rename Ae=>wd
 obtain ⟨b,ba,bc,Z,ka,kc,ks,z,rfl,BX,HB,cl,HK,hz,cq,O,cm,cc⟩:=hcut
 replace R:=cc.kC R bC9
 have b3:=N.trans cc
 have zd:=cc.size
 clear hc N
 have hc:=cm;clear cm
 have N:=b3;clear b3
 have HX:=yD (kVx (S:=λk=>k≠p) ((J.out.ji.touch cc wI).wide wP) (HB.out.wide sU) (HK.out.wide sU) (f:=40 + z) (s:=0) bC9 bC9)
 clear J HB HK cc B
 go_upto_region 5 with fail
 refine zb (λW=>Touch (λk=>k=p) wd W/\yU w0 W p) (λ_=>True) [] [(0,true),(2,true),(1,false),(3,false)] [(4,false)] bC3 bC3 pK (⟨Touch.of_below bR.drew,hc.below bR.drew⟩) ?_
 intro wS E
 simp only [kz,zF,List.getElem?_cons_succ,List.getElem?_cons_zero,List.map_cons,List.map_nil]
 refine pre_nil ?_
 refine jW (v:=?_) rfl (λW hW=>?_) ?_;rotate_left;(· go_simp;try with_reducible rfl)
 refine jF ?_
 refine jW (v:=?_) rfl (λW hW=>?_) ?_;rotate_left;(· have c6:=kE (hW.1.kC BX bC9) (j:=0) (v:=.slice na qs.length nc) rfl;have dj:=kE (hW.1.kC BX bC9) (j:=1) (v:=.slice ba Z.length bc) rfl;have du:=kE (hW.1.kC BX bC9) (j:=2) (v:=.slice ka ks.length kc) rfl;have dq:=kE (hW.1.kC BX bC9) (j:=3) (v:=.int .i64 (40 + z)) rfl;have dn:=kE (hW.1.kC BX bC9) (j:=4) (v:=.int .i64 0) rfl;clear hW;go_simp;try with_reducible rfl)
 refine jF ?_
 refine yx rfl (λK H=>?_);go_simp;refine (kTz E.2).mono ?_;rintro e wS1 ⟨s,rfl,da,b9,ar,ap⟩;replace E:=And.intro (E.1.trans ap) ar;clear ar ap;refine H _ _ E ?_;clear H K
 refine jF ?_
 refine yx rfl (λK H=>?_);go_simp;refine (kGb (cx:=[.slice na qs.length nc,.slice ba Z.length bc,.slice ka ks.length kc,.int .i64 (40 + z),.int .i64 0]) (x:=(qs,Z,ks,40 + z,0)) bC9 (HX.out.touch E.1 (λk q h=>q h)).rd (by show Z.length<=_;omega)).mono ?_;rintro e a9 ⟨sg,ds,rfl,hO,co,ab⟩;have di:=E.1.size;have bu:=ab.size;replace E:=And.intro (E.1.trans (Touch.of_below ab)) (E.2.below ab);have HQ:=yD hO;obtain ⟨ac,ae,ai,af,am,ah,rfl⟩:=zZ HQ.out.raw;refine H _ _ E ?_;clear H K ab hO
 refine jF ?_
 have cg:=E.1.size
 have RS:=E.1.kC R bC9
 have c0:=N.trans E.1
 have ad:Qd a9 w 0 (.slice none 0 0):=kE RS rfl
 have aj:a9.frozen? ⟨w.heap.size,0,none⟩=false:=Ag a9 (w.heap.size) 0 _ _ RS
 have an:Qd a9 w 1 (.slice none 0 0):=kE RS rfl
 have al:a9.frozen? ⟨w.heap.size,1,none⟩=false:=Ag a9 (w.heap.size) 1 _ _ RS
 have bb:Qd a9 w 2 (.slice none 0 0):=kE RS rfl
 have av:a9.frozen? ⟨w.heap.size,2,none⟩=false:=Ag a9 (w.heap.size) 2 _ _ RS
 have bh:Qd a9 w 3 (.int .i64 0):=kE RS rfl
 have bg:a9.frozen? ⟨w.heap.size,3,none⟩=false:=Ag a9 (w.heap.size) 3 _ _ RS
 have bm:Qd a9 w 4 (.int .i64 0):=kE RS rfl
 have bi:a9.frozen? ⟨w.heap.size,4,none⟩=false:=Ag a9 (w.heap.size) 4 _ _ RS
 refine zk trivial ?_
 refine kw rfl (λK H=>?_);go_simp;refine H _ _ trivial ?_;clear H K
 refine jF ?_
 refine kS ?_
 go_wp2
 refine Ad (v:=.agg #[Qs ac qs ae,Qs ai Z af,Qs am ks ah,.int .i64 (40 + z),Qn sg]) (by simp [results,results147,go_sem,ad,aj,an,al,bb,av,bh,bg,bm,bi]) rfl ⟨_,(qs,Z,ks,40 + z,sg),rfl,?_,cl,E.2.touch sT5 bC9 wM,c0.jO sT5 bC9⟩
 exact (HQ.out.touch sT5 sD).wide fB
theorem kRf {w0 w:Ae} {p:Nat} (hc:yU w0 w p) :
    Calls prog 97 #[.pointer (some ⟨p,0,none⟩)] w λe w'=>DrawnD 64 w0 w p e w':=by
 go_enter func97,ntmps97
 obtain ⟨bf,b4⟩:=hc.lt
 go_upto_region 1 with fail
 generalize F:World.alloc w _=Y
 obtain ⟨X,R,bd⟩:=GV
 clear F
 obtain ⟨hc,N⟩:=xQ
 clear X
 go_wp2_with fail
 refine (kIt hc).mono ?_
 rintro e V ⟨ds,x,rfl,hO,cq,G,D⟩
 obtain ⟨bk,R,N⟩:=BG
 clear hc D
 have hc:=G
 clear G
 obtain ⟨a0,c0,a1,c1,a2,c2,rfl⟩:=zZ hO.raw
 have c4:=data_rng hO.raw
 obtain ⟨n,b,k,f,s⟩:=x
 simp only at cq c4
 have J:=yD (hO.wide (T:=λj=>Y.heap.size<=j/\j < V.heap.size) (λ_ h=>h))
 clear hO
 go_upto_region 2 with fail
 generalize F:World.alloc V _=w3
 have ak:Qb V w3:=rM
 have B:Qr w3 V.heap.size #[Qs a0 n c0,Qs a1 b c1,Qs a2 k c2,Qn f,Qn s] 68:=vB
 have bl:V.heap.size + 1<=w3.heap.size:=bB1
 clear F
 obtain ⟨R,J,hc,N⟩:=z8
 clear ak
 go_wp2_with fail
 refine (kr (n:=12) hc bC8).mono ?_
 rintro e w4 ⟨m,bt,ah,b1,rfl,G,D⟩
 have bw:=D.size
 obtain ⟨R,B⟩:=EP
 obtain ⟨J,N⟩:=xM
 clear hc D
 have hc:=G
 clear G
 replace ah:=ah bC8
 clear b1
 obtain ⟨m,rfl⟩:=Int.eq_ofNat_of_zero_le bt
 by_cases ay:m=0
 · subst ay;go_wp2_with fail;refine (kFc hc).mono ?_;rintro e w5 ⟨qa,qc,qs,rfl,hQ,b9,ai,G,D⟩;have bv:=D.size;obtain ⟨R,B⟩:=EP;obtain ⟨J,N⟩:=xM;clear hc D;have hc:=G;clear G;have HQ:=yD (hQ);clear hQ;obtain ⟨ax,O,H,o,L⟩:=yt B;obtain ⟨az,U,W,aa,Z⟩:=kBr B;go_upto_region 13 with fail;generalize F:World.setCell w5 _ _=w6;have E:Touch (λk=>k=V.heap.size) w5 w6:=vO;replace B:Qr w6 V.heap.size #[Qs qa qs qc,Qs a1 b c1,Qs a2 k c2,Qn f,Qn s] 68:=vG;have cf:=E.size;clear F;replace R:=E.kC R bC9;replace J:=yD (J.out.touch E pJ);replace HQ:=yD (HQ.out.touch E pJ);replace hc:=hc.touch E bC9 wM;replace N:=N.jO E bC9;clear ax O H o L az U W aa Z;clear E;replace J:=yD ((jAb J.out HQ.out nT).wide (T:=λj=>Y.heap.size<=j/\j < w6.heap.size) bW);clear HQ;go_upto_region 13 with fail;obtain ⟨ad,an,bb,bh,bm⟩:=yt R;obtain ⟨ax,O,H,o,L⟩:=yt B;obtain ⟨aj,al,av,bg,bi⟩:=kBr R;go_wp2;refine Ad (v:=.agg #[Qs qa qs qc,Qs a1 b c1,Qs a2 k c2,Qn f,Qn s]) fD rfl ⟨[Qs qa qs qc,Qs a1 b c1,Qs a2 k c2,Qn f,Qn s],(qs,b,k,f,s),rfl,?_,?_,hc.touch sT5 bC9 wM,N.jO sT5 bC9⟩
   · exact (J.out.touch sT5 sV).wide fB
   simp only;omega
 have bt:¬ (m:Int)=0:=bC9
 by_cases a9:m=1
 · subst a9;go_wp2_with fail;refine (kFc hc).mono ?_;rintro e w5 ⟨qa,qc,qs,rfl,hQ,b9,ai,G,D⟩;have bv:=D.size;obtain ⟨R,B⟩:=EP;obtain ⟨J,N⟩:=xM;clear hc D;have hc:=G;clear G;have HQ:=yD (hQ);clear hQ;obtain ⟨ax,O,H,o,L⟩:=yt B;obtain ⟨az,U,W,aa,Z⟩:=kBr B;go_upto_region 13 with fail;generalize F:World.setCell w5 _ _=w6;have E:Touch (λk=>k=V.heap.size) w5 w6:=vO;replace B:Qr w6 V.heap.size #[Qs a0 n c0,Qs a1 b c1,Qs qa qs qc,Qn f,Qn s] 68:=by rw [<- F];exact kK B 2
   have cf:=E.size;clear F;replace R:=E.kC R bC9;replace J:=yD (J.out.touch E pJ);replace HQ:=yD (HQ.out.touch E pJ);replace hc:=hc.touch E bC9 wM;replace N:=N.jO E bC9;clear ax O H o L az U W aa Z;clear E;replace J:=yD ((data_setKey J.out HQ.out nT).wide (T:=λj=>Y.heap.size<=j/\j < w6.heap.size) bW);clear HQ;go_upto_region 13 with fail;obtain ⟨ad,an,bb,bh,bm⟩:=yt R;obtain ⟨ax,O,H,o,L⟩:=yt B;obtain ⟨aj,al,av,bg,bi⟩:=kBr R;go_wp2;refine Ad (v:=.agg #[Qs a0 n c0,Qs a1 b c1,Qs qa qs qc,Qn f,Qn s]) fD rfl ⟨[Qs a0 n c0,Qs a1 b c1,Qs qa qs qc,Qn f,Qn s],(n,b,qs,f,s),rfl,?_,?_,hc.touch sT5 bC9 wM,N.jO sT5 bC9⟩
   · exact (J.out.touch sT5 sV).wide fB
   simp only;omega
 have ah:¬ (m:Int)=1:=bC9
 by_cases a8:m=2
 · subst a8;go_wp2_with fail;refine (kBp (hc.below (bR.alloc nL _)) (kD.kGy _ [-1,100000,100001] bC8 bC8) bC9 bC8 bC8).mono ?_;rintro e w5 ⟨y,au,a5,rfl,G,D⟩;obtain ⟨D,bv⟩:=CJ;obtain ⟨R,B⟩:=EP;obtain ⟨J,N⟩:=xM;clear hc D;have hc:=G;clear G;have b6:=kD.kGx (lo:=-1) (hi:=100001) bC8 au;clear au a5;obtain ⟨ax,O,H,o,L⟩:=yt B;obtain ⟨az,U,W,aa,Z⟩:=kBr B;go_upto_region 13 with fail;generalize F:World.setCell w5 _ _=w6;have E:Touch (λk=>k=V.heap.size) w5 w6:=vO;replace B:Qr w6 V.heap.size #[Qs a0 n c0,Qs a1 b c1,Qs a2 k c2,Qn y,Qn s] 68:=by rw [<- F];exact kK B 3
   have cf:=E.size;clear F;replace R:=E.kC R bC9;replace J:=yD (J.out.touch E pJ);replace hc:=hc.touch E bC9 wM;replace N:=N.jO E bC9;clear ax O H o L az U W aa Z;clear E;replace J:=yD (jAa J.out (v:=y) bC9);go_upto_region 13 with fail;obtain ⟨ad,an,bb,bh,bm⟩:=yt R;obtain ⟨ax,O,H,o,L⟩:=yt B;obtain ⟨aj,al,av,bg,bi⟩:=kBr R;go_wp2;refine Ad (v:=.agg #[Qs a0 n c0,Qs a1 b c1,Qs a2 k c2,Qn y,Qn s]) fD rfl ⟨[Qs a0 n c0,Qs a1 b c1,Qs a2 k c2,Qn y,Qn s],(n,b,k,y,s),rfl,?_,?_,hc.touch sT5 bC9 wM,N.jO sT5 bC9⟩
   · exact (J.out.touch sT5 sV).wide fB
   simp only;omega
 have b1:¬ (m:Int)=2:=bC9
 by_cases bu:m=3
 · subst bu;go_wp2_with fail;refine (kZf hc).mono ?_;rintro e w5 ⟨y,rfl,b7,bn,G,D⟩;have bv:=D.size;obtain ⟨R,B⟩:=EP;obtain ⟨J,N⟩:=xM;clear hc D;have hc:=G;clear G;obtain ⟨ax,O,H,o,L⟩:=yt B;obtain ⟨az,U,W,aa,Z⟩:=kBr B;go_upto_region 13 with fail;generalize F:World.setCell w5 _ _=w6;have E:Touch (λk=>k=V.heap.size) w5 w6:=vO;replace B:Qr w6 V.heap.size #[Qs a0 n c0,Qs a1 b c1,Qs a2 k c2,Qn f,Qn y] 68:=by rw [<- F];exact kK B 4
   have cf:=E.size;clear F;replace R:=E.kC R bC9;replace J:=yD (J.out.touch E pJ);replace hc:=hc.touch E bC9 wM;replace N:=N.jO E bC9;clear ax O H o L az U W aa Z;clear E;replace J:=yD (kRu J.out (v:=y) bC9);go_upto_region 13 with fail;obtain ⟨ad,an,bb,bh,bm⟩:=yt R;obtain ⟨ax,O,H,o,L⟩:=yt B;obtain ⟨aj,al,av,bg,bi⟩:=kBr R;go_wp2;refine Ad (v:=.agg #[Qs a0 n c0,Qs a1 b c1,Qs a2 k c2,Qn f,Qn y]) fD rfl ⟨[Qs a0 n c0,Qs a1 b c1,Qs a2 k c2,Qn f,Qn y],(n,b,k,f,y),rfl,?_,?_,hc.touch sT5 bC9 wM,N.jO sT5 bC9⟩
   · exact (J.out.touch sT5 sV).wide fB
   simp only;omega
 have a3:¬ (m:Int)=3:=bC9
 by_cases bq:m=4
 · subst bq;go_wp2_with fail;refine (kr (n:=3) hc bC8).mono ?_;rintro e w5 ⟨y,b7,bn,bz,rfl,G,D⟩;have bv:=D.size;obtain ⟨R,B⟩:=EP;obtain ⟨J,N⟩:=xM;clear hc D;have hc:=G;clear G;replace bn:=bn bC8;clear bz;obtain ⟨z,hz⟩:∃ z:Nat,(59:Int) + y=z:=⟨(59 + y).toNat,by omega⟩;have hw:Ah.wrap (59 + y)=(z:Int):=(Al _ bC9).trans hz;have ab:=run_make_row' (P:=prog) 22 5 (.int .u8 0) 1 underlying22 kEj rfl .i64 .i64 z bC9 bC9;obtain ⟨ax,O,H,o,L⟩:=yt B;obtain ⟨az,U,W,aa,Z⟩:=kBr B;have GB:(World.alloc w5 (.cells (madeCells #[.int .u8 0] z) 5)).frozen? ⟨V.heap.size,1,none⟩=false:=(frozen?_alloc_cells _ _ _ _).trans U;have ac:(World.alloc w5 (.cells (madeCells #[.int .u8 0] z) 5)).cell? ⟨V.heap.size,1,none⟩=some (.slice a1 b.length c1):=kE (kC B (bR.alloc nL _)) rfl;go_upto_region 13 with fail;have HM:=yD ((kD.own0_make (r:=kD.byte) (e:=5) (w:=w5) (zs:=#[.int .u8 0]) (n:=z) (S:=λk=>k=w5.heap.size) rfl rfl bC8 vK rfl).own (by simp [Big];omega));simp only [show z * kD.byte.n=z from Nat.mul_one z] at HM;clear GB ac ab;generalize F:World.alloc w5 (.cells (madeCells #[.int .u8 0] z) 5)=w6 at HM ⊢;have aq:Qb w5 w6:=rM;have cf:w5.heap.size + 1<=w6.heap.size:=bB1;clear F;replace R:=kC R aq;replace B:=kC B aq;obtain ⟨J,hc,N⟩:=G8;clear ax O H o L az U W aa Z;clear aq;replace HM:=yD (HM.out.wide (T:=λk=>w5.heap.size<=k/\k < w6.heap.size) wP);generalize F:World.setCell w6 _ _=w7;have b2:Touch (λk=>k=V.heap.size) w6 w7:=vO;replace B:Qr w7 V.heap.size #[Qs a0 n c0,.slice (some ⟨w5.heap.size,0,none⟩) z z,Qs a2 k c2,Qn f,Qn s] 68:=by rw [<- F];exact kK B 1
   have dp:=b2.size;clear F;replace R:=b2.kC R bC9;replace J:=yD (J.out.touch b2 pJ);replace HM:=yD (HM.out.touch b2 pJ);replace hc:=hc.touch b2 bC9 wM;replace N:=N.jO b2 bC9;clear b2;replace J:=yD ((kSw J.out HM.out nT).wide (T:=λj=>Y.heap.size<=j/\j < w7.heap.size) bW);clear HM;go_upto_region 13 with fail;obtain ⟨ad,an,bb,bh,bm⟩:=yt R;obtain ⟨ax,O,H,o,L⟩:=yt B;obtain ⟨aj,al,av,bg,bi⟩:=kBr R;go_wp2;refine Ad (v:=.agg #[Qs a0 n c0,.slice (some ⟨w5.heap.size,0,none⟩) z z,Qs a2 k c2,Qn f,Qn s]) fD rfl ⟨[Qs a0 n c0,.slice (some ⟨w5.heap.size,0,none⟩) z z,Qs a2 k c2,Qn f,Qn s],(n,List.replicate z 0,k,f,s),rfl,?_,?_,hc.touch sT5 bC9 wM,N.jO sT5 bC9⟩
   · exact (J.out.touch sT5 sV).wide fB
   simp;omega
 have ae:¬ (m:Int)=4:=bC9
 go_upto_region 13 with fail
 obtain ⟨ad,an,bb,bh,bm⟩:=yt R
 obtain ⟨ax,O,H,o,L⟩:=yt B
 obtain ⟨aj,al,av,bg,bi⟩:=kBr R
 go_wp2
 refine Ad (v:=.agg #[Qs a0 n c0,Qs a1 b c1,Qs a2 k c2,Qn f,Qn s]) fD rfl ⟨[Qs a0 n c0,Qs a1 b c1,Qs a2 k c2,Qn f,Qn s],(n,b,k,f,s),rfl,?_,?_,hc.touch sT5 bC9 wM,N.jO sT5 bC9⟩
 · exact (J.out.touch sT5 sV).wide fB
 simp only;omega
end Go.Proofs.YtonmjkmaadgceabGreat

/-
  Data as the reference draws them.
-/
import Derived.Test.YtjhfdpopkkmigaaGreatRule
set_option linter.unusedVariables false
set_option linter.unusedSimpArgs false
set_option linter.unnecessarySimpa false
set_option maxRecDepth 100000
set_option maxHeartbeats 8000000
open Bool renaming true->Tt,false->Ff
open Go.Act renaming put->Aa
open _root_ renaming ByteArray->Ab,Option->Ac,List->Aj,UInt8->Ak
open Go renaming bodyPost_ret->Ad,World->Ae,frozen_of_row->Ag,Addr->Ai
open Go.IntKind renaming i64->Ah
open Go.IntWalk renaming i64_in->Al
namespace Go.Proofs.YtjhfdpopkkmigaaGreat
open Go.RowKit _root_.Go.Proofs.Tryz
theorem kIy {w0 w:Ae} {p:Nat} (hc:yT w0 w p) :
    Calls prog 87 #[.pointer (some ⟨p,0,none⟩)] w λe w'=>DrawnD 4 w0 w p e w':=by
 go_enter func87,ntmps87
 obtain ⟨ay,bt⟩:=hc.lt
 go_upto_region 1 with fail
 generalize F:World.alloc w _=w1
 obtain ⟨ag,R,bf⟩:=IY
 clear F
 obtain ⟨hc,J⟩:=xO
 clear ag
 go_wp2_with fail
 refine (kIz hc).mono ?_
 rintro e V ⟨a,n,c,Y,rfl,hO,bw,a6,G,D⟩
 have bg:=D.size
 obtain ⟨R,J⟩:=DX
 clear hc D
 have hc:=G
 clear G
 have L:=yD hO
 clear hO
 go_upto_region 2 with fail
 generalize F:World.alloc V _=w3
 obtain ⟨aa,B,bi⟩:=FW
 clear F
 replace R:=kC R aa
 obtain ⟨L,hc,J⟩:=xR
 clear aa
 have av:Qd w3 V 0 (.slice a n c):=kE B rfl
 obtain ⟨_,_,_,a4,a2⟩:=L.out.parts
 simp only [Value.slice.injEq] at a4
 have b7:=yD (a4.2.1.trans a2.out)
 clear a4 a2
 go_upto_if 10 with fail
 go_cut [] from 7 to 13 (λwc=>∃ (na:Ac Ai) (nc:Nat) (qs:kr),Qr wc w.heap.size #[.slice none 0 0,.slice none 0 0,.slice none 0 0,Qn 0,Qn 0] 38/\Qr wc V.heap.size #[Qs na qs nc] 36/\Hid (kW.own wc [Qs na qs nc] qs (λk=>w.heap.size < k/\k < wc.heap.size/\k≠V.heap.size/\k≠p))/\0 < qs.length/\qs.length<=64/\w3.heap.size<=wc.heap.size/\yT w0 wc p/\Touch (λk=>k=p) w wc)
 case first =>
  by_cases hz:n=0
  · subst hz;obtain rfl:Y=[]:=List.eq_nil_of_length_eq_zero b7.out.symm;clear av;obtain ⟨av,a3,GB,HB⟩:=C8;go_wp2;clear GB HB;have a9:=yD (kD.kLp (e:=9) w3 (kD.kFi (s:={ data:=#[97] }) bD0));generalize F:World.alloc w3 _=w4 at a9 ⊢;have ab:Qb w3 w4:=rT;have bu:w3.heap.size + 1<=w4.heap.size:=bB3;clear F L;replace R:=kC R ab;replace B:=kC B ab;replace hc:=hc.below ab;replace J:=J.trans (Touch.of_below ab);clear av a3;clear ab;have L:=yD (kD.kU.wide (T:=λj=>w1.heap.size<=j/\j < w4.heap.size/\j≠V.heap.size) a9.out qJ);clear a9;generalize F:World.setCell w4 _ _=w5;obtain ⟨a8,B,br⟩:=JE;clear F;replace R:=a8.kC R bD1;replace L:=yD (L.out.touch a8 (λk q=>q.2.2));replace hc:=hc.touch a8 bD1 wW;replace J:=J.jP a8 bD1;clear a8;go_meet;exact ⟨_,_,[({ data:=#[97] }:Ab)],R,B,yD ((L.out.own bD0).wide (λk q=>⟨by have:=q.1;omega,by have:=q.2.1;omega,q.2.2,by have:=q.1;omega⟩)),by decide,by decide,by omega,hc,J⟩
  have cz:¬ (n:Int)=0:=bD1;obtain rfl:=b7.out;go_wp2;go_meet;exact ⟨a,c,Y,R,B,yD ((L.out.own wM).wide (λk q=>⟨by have:=q.1;omega,by have:=q.2;omega,by have:=q.2;omega,by have:=q.1;omega⟩)),by omega,by omega,Nat.le_refl _,hc,J⟩
 rename Ae=>wb
 clear R L b7 hc J B av
 obtain ⟨na,nc,qs,R,B,L,cd,c2,dy,hc,J⟩:=hcut
 have c1:=hc.lt.2
 go_upto_region 4 with fail
 go_cut [4] from 13 to 26 (λs4 wd=>∃ (b:Nat) (ba:Ac Ai) (bc:Nat) (Z:Aj Ak) (ka:Ac Ai) (kc:Nat) (ks:kr) (z:Int),s4=.pointer (some ⟨b,0,none⟩)/\Qr wd b #[Qs na qs nc,Qs ba Z bc,Qs ka ks kc,.int .i64 (40 + z),Qn 0] 38/\Hid ((kD.slice 5 kD.byte).ji wd [Qs ba Z bc] Z (λk=>wb.heap.size<=k/\k≠b))/\Z.length<=4/\Hid (kW.ji wd [Qs ka ks kc] ks (λk=>wb.heap.size<=k/\k≠b))/\(0<=z/\z < 60)/\wb.heap.size<=b/\b < wd.heap.size/\yT w0 wd p/\Touch (λk=>k=p) wb wd)
 case first =>
  have FX:=yD (λ(W:Ae) (hW:Touch (λk=>k=p) wb W/\yT w0 W p)=>kE (hW.1.kC B bD1) (j:=0) (v:=.slice na qs.length nc) rfl);refine yM (λW=>Touch (λk=>k=p) wb W/\yT w0 W p) bC5 (⟨Touch.of_below bR.drew,hc.below bR.drew⟩) ?_;intro t E;have d6:=E.1.size;refine kQ 0 ?_;refine kQ 1 ?_;refine kQ 2 ?_;refine kQ 5 ?_;refine kQ 9 ?_;refine kIv ?_;intro T A N hA;have bb:∀ (x:Int) (ba:Ac Ai) (bc:Nat) (Z:Aj Ak) (b6:Nat) (y:Ab) (ka:Ac Ai) (kc:Nat) (ks:kr) (z:Int) (b:Nat) (W:Ae),Touch (λk=>k=p) wb W/\yT w0 W p->(0<=x)->(x < 5)->(Z.length<=4)->(Hid ((kD.slice 5 kD.byte).ji W [Qs ba Z bc] Z (Ql wb W b)))->(y∈([{ data:=#[47,107,101,121,47,97] },{ data:=#[47,107,101,121,47,98] },{ data:=#[47,97,47,107,101,121] }]:Aj Ab))->(Hid (kW.ji W [Qs ka ks kc] ks (Ql wb W b)))->(0<=z)->(z < 60)->(Ah.wrap (40 + z)=40 + z)->(wb.heap.size<=b/\b < W.heap.size)->(Qr W b #[Qs na qs nc,Qs ba Z bc,Qs ka ks kc,.int .i64 (40 + z),Qn 0] 38)->T 0 [Tt,Tt,Tt,Tt,Tt,Tt,Tt,Tt,Tt,Tt,Tt,Tt,Tt,Tt,Tt] (Aa (Aa (Aa (Aa (Aa (Aa (Aa (Aa (Aa A (some 16) (.int .i64 x)) (some 17) (.slice ba Z.length bc)) (some 19) (.slice (some ⟨b6,0,none⟩) 3 3)) (some 20) (.string y)) (some 21) (.agg #[Qs ka ks kc])) (some 23) (.int .i64 z)) (some 24) (.int .i64 (40 + z))) (some 25) (.agg #[Qs na qs nc,Qs ba Z bc,Qs ka ks kc,.int .i64 (40 + z),Qn 0])) (some 4) (.pointer (some ⟨b,0,none⟩))) W:=by
   intro x ba bc Z b6 y ka kc ks z b W E ao U aw HB ar HK b1 bj hw o BB;have a5:=E.1.size;subst N;subst hA;simp only [Aa,zA,zB,zC];refine jW bC5 ?_;go_wp2;go_meet;exact ⟨b,ba,bc,Z,ka,kc,ks,z,rfl,BB,yD (HB.out.wide (λk q=>⟨q.1,q.2.2⟩)),aw,yD (HK.out.wide (λk q=>⟨q.1,q.2.2⟩)),⟨b1,bj⟩,o.1,o.2,E.2,E.1⟩
  have az:∀ (x:Int) (ba:Ac Ai) (bc:Nat) (Z:Aj Ak) (b6:Nat) (y:Ab) (ka:Ac Ai) (kc:Nat) (ks:kr) (z:Int) (b:Nat) (W:Ae),Touch (λk=>k=p) wb W/\yT w0 W p->(0<=x)->(x < 5)->(Z.length<=4)->(Hid ((kD.slice 5 kD.byte).ji W [Qs ba Z bc] Z (Ql wb W b)))->(y∈([{ data:=#[47,107,101,121,47,97] },{ data:=#[47,107,101,121,47,98] },{ data:=#[47,97,47,107,101,121] }]:Aj Ab))->(Hid (kW.ji W [Qs ka ks kc] ks (Ql wb W b)))->(0<=z)->(z < 60)->(Ah.wrap (40 + z)=40 + z)->(wb.heap.size<=b/\b < W.heap.size)->(Qr W b #[.slice none 0 0,.slice none 0 0,.slice none 0 0,Qn 0,Qn 0] 38)->T 1 [Tt,Tt,Tt,Tt,Tt,Tt,Tt,Tt,Tt,Tt,Tt,Tt,Tt,Tt,Ff] (Aa (Aa (Aa (Aa (Aa (Aa (Aa (Aa (Aa A (some 16) (.int .i64 x)) (some 17) (.slice ba Z.length bc)) (some 19) (.slice (some ⟨b6,0,none⟩) 3 3)) (some 20) (.string y)) (some 21) (.agg #[Qs ka ks kc])) (some 23) (.int .i64 z)) (some 24) (.int .i64 (40 + z))) (some 25) (.agg #[Qs na qs nc,Qs ba Z bc,Qs ka ks kc,.int .i64 (40 + z),Qn 0])) (some 4) (.pointer (some ⟨b,0,none⟩))) W:=by
   intro x ba bc Z b6 y ka kc ks z b W E ao U aw HB ar HK b1 bj hw o BB;have a5:=E.1.size;subst N;subst hA;simp only [Aa,zA,zB,zC];refine kN (k:=14) rfl bC5 rfl (λK H=>?_);obtain ⟨d3,du,dz,dv,c8⟩:=yI BB;obtain ⟨c5,c7,dc,db,c6⟩:=kBh BB;go_simp;generalize F:World.setCell (World.setCell (World.setCell (World.setCell (World.setCell W _ _) _ _) _ _) _ _) _ _=v;have N:Touch (λk=>k=b) W v:=(by rw [<- F];exact sT5);replace BB:Qr v b #[Qs na qs nc,Qs ba Z bc,Qs ka ks kc,.int .i64 (40 + z),Qn 0] 38:=(by rw [<- F];exact kF (kF (kF (kF (kF (BB) 0) 1) 2) 3) 4);clear F d3 du dz dv c8 c5 c7 dc db c6;have zv:=N.size;replace HB:Hid ((kD.slice 5 kD.byte).ji v [Qs ba Z bc] Z (Ql wb v b)):=yD ((HB.out.touch N (λk q h=>q.2.2 h)).wide (λk q=>⟨q.1,Nat.lt_of_lt_of_le q.2.1 N.size,q.2.2⟩));replace HK:Hid (kW.ji v [Qs ka ks kc] ks (Ql wb v b)):=yD ((HK.out.touch N (λk q h=>q.2.2 h)).wide (λk q=>⟨q.1,Nat.lt_of_lt_of_le q.2.1 N.size,q.2.2⟩));replace o:wb.heap.size<=b/\b < v.heap.size:=⟨o.1,Nat.lt_of_lt_of_le o.2 N.size⟩;replace E:=And.intro (E.1.jP N bD1) (E.2.touch N bD1 (λk hk=>by have:=E.2.size.size;omega));refine H _ _ E ?_;clear H K;refine jD ?_;have h_:=bb x ba bc Z b6 y ka kc ks z b v E ao U aw HB ar HK b1 bj hw o BB;exact aZ
  have b2:∀ (x:Int) (ba:Ac Ai) (bc:Nat) (Z:Aj Ak) (b6:Nat) (y:Ab) (ka:Ac Ai) (kc:Nat) (ks:kr) (z:Int) (W:Ae),Touch (λk=>k=p) wb W/\yT w0 W p->(0<=x)->(x < 5)->(Z.length<=4)->(Hid ((kD.slice 5 kD.byte).ji W [Qs ba Z bc] Z (Ql wb W p)))->(y∈([{ data:=#[47,107,101,121,47,97] },{ data:=#[47,107,101,121,47,98] },{ data:=#[47,97,47,107,101,121] }]:Aj Ab))->(Hid (kW.ji W [Qs ka ks kc] ks (Ql wb W p)))->(0<=z)->(z < 60)->(Ah.wrap (40 + z)=40 + z)->T 2 [Tt,Tt,Tt,Tt,Tt,Tt,Tt,Tt,Tt,Tt,Tt,Tt,Tt,Ff,Ff] (Aa (Aa (Aa (Aa (Aa (Aa (Aa (Aa A (some 16) (.int .i64 x)) (some 17) (.slice ba Z.length bc)) (some 19) (.slice (some ⟨b6,0,none⟩) 3 3)) (some 20) (.string y)) (some 21) (.agg #[Qs ka ks kc])) (some 23) (.int .i64 z)) (some 24) (.int .i64 (40 + z))) (some 25) (.agg #[Qs na qs nc,Qs ba Z bc,Qs ka ks kc,.int .i64 (40 + z),Qn 0])) W:=by
   intro x ba bc Z b6 y ka kc ks z W E ao U aw HB ar HK b1 bj hw;have a5:=E.1.size;subst N;subst hA;simp only [Aa,zA,zB,zC];refine kN (k:=13) rfl bC5 rfl (λK H=>?_);go_simp;generalize F:World.alloc W _=v;obtain ⟨hb,BB,zv⟩:=xB;clear F;obtain ⟨b,ap⟩:∃ b_,b_=W.heap.size:=⟨_,rfl⟩;rw [<- ap] at BB ⊢;obtain ⟨HB,HK⟩:=G6;obtain ⟨o,E⟩:=AL;refine H _ _ E ?_;clear H K;refine jD ?_;exact eU
  have bk:∀ (x:Int) (ba:Ac Ai) (bc:Nat) (Z:Aj Ak) (b6:Nat) (y:Ab) (ka:Ac Ai) (kc:Nat) (ks:kr) (b:Nat) (W:Ae),Touch (λk=>k=p) wb W/\yT w0 W p->(0<=x)->(x < 5)->(Z.length<=4)->(Hid ((kD.slice 5 kD.byte).ji W [Qs ba Z bc] Z (Ql wb W b)))->(y∈([{ data:=#[47,107,101,121,47,97] },{ data:=#[47,107,101,121,47,98] },{ data:=#[47,97,47,107,101,121] }]:Aj Ab))->(Hid (kW.ji W [Qs ka ks kc] ks (Ql wb W b)))->(wb.heap.size<=b/\b < W.heap.size)->(Qr W b #[.slice none 0 0,.slice none 0 0,.slice none 0 0,Qn 0,Qn 0] 38)->T 4 [Tt,Tt,Tt,Tt,Tt,Tt,Tt,Tt,Tt,Tt,Ff,Ff,Ff,Tt,Ff] (Aa (Aa (Aa (Aa (Aa (Aa A (some 16) (.int .i64 x)) (some 17) (.slice ba Z.length bc)) (some 19) (.slice (some ⟨b6,0,none⟩) 3 3)) (some 20) (.string y)) (some 21) (.agg #[Qs ka ks kc])) (some 4) (.pointer (some ⟨b,0,none⟩))) W:=by
   intro x ba bc Z b6 y ka kc ks b W E ao U aw HB ar HK o BB;have a5:=E.1.size;subst N;subst hA;simp only [Aa,zA,zB,zC];refine kN (k:=10) rfl bC5 rfl (λK H=>?_);go_simp;refine (ku (n:=60) E.2 bD0).mono ?_;rintro e v ⟨z,b1,bj,a7,rfl,G,D⟩;obtain ⟨zv,b9,HB⟩:=GK;replace HK:Hid (kW.ji v [Qs ka ks kc] ks (Ql wb v b)):=yD ((HK.out.touch D sK).wide (λk q=>⟨q.1,Nat.lt_of_lt_of_le q.2.1 D.size,q.2.2⟩));obtain ⟨BB,o⟩:=AQ;replace bj:=bj bD0;clear a7;have hw:Ah.wrap (40 + z)=40 + z:=Al _ bD1;replace E:=And.intro (E.1.trans D) G;refine H _ _ E ?_;clear H K;refine jD ?_;refine kQ 11 ?_;refine kQ 12 ?_;exact eU
  have b5:∀ (x:Int) (ba:Ac Ai) (bc:Nat) (Z:Aj Ak) (b6:Nat) (y:Ab) (ka:Ac Ai) (kc:Nat) (ks:kr) (W:Ae),Touch (λk=>k=p) wb W/\yT w0 W p->(0<=x)->(x < 5)->(Z.length<=4)->(Hid ((kD.slice 5 kD.byte).ji W [Qs ba Z bc] Z (Ql wb W p)))->(y∈([{ data:=#[47,107,101,121,47,97] },{ data:=#[47,107,101,121,47,98] },{ data:=#[47,97,47,107,101,121] }]:Aj Ab))->(Hid (kW.ji W [Qs ka ks kc] ks (Ql wb W p)))->T 5 [Tt,Tt,Tt,Tt,Tt,Tt,Tt,Tt,Tt,Tt,Ff,Ff,Ff,Ff,Ff] (Aa (Aa (Aa (Aa (Aa A (some 16) (.int .i64 x)) (some 17) (.slice ba Z.length bc)) (some 19) (.slice (some ⟨b6,0,none⟩) 3 3)) (some 20) (.string y)) (some 21) (.agg #[Qs ka ks kc])) W:=by
   intro x ba bc Z b6 y ka kc ks W E ao U aw HB ar HK;have a5:=E.1.size;subst N;subst hA;simp only [Aa,zA,zB,zC];refine jl (i:=10) (j:=13) rfl rfl bC5 rfl rfl (λK H=>?_) (λK H=>?_)
   · go_simp;refine (ku (n:=60) E.2 bD0).mono ?_;rintro e v ⟨z,b1,bj,a7,rfl,G,D⟩;obtain ⟨zv,HB⟩:=GJ;replace HK:Hid (kW.ji v [Qs ka ks kc] ks (Ql wb v p)):=yD ((HK.out.touch D sK).wide (λk q=>⟨q.1,Nat.lt_of_lt_of_le q.2.1 D.size,q.2.2⟩));replace bj:=bj bD0;clear a7;have hw:Ah.wrap (40 + z)=40 + z:=Al _ bD1;replace E:=And.intro (E.1.trans D) G;refine H _ _ E ?_;clear H K;refine jD ?_;refine kQ 11 ?_;refine kQ 12 ?_;have h_:=b2 x ba bc Z b6 y ka kc ks z v E ao U aw HB ar HK b1 bj hw;exact aZ
   go_simp;generalize F:World.alloc W _=v;obtain ⟨hb,BB,zv⟩:=xB;clear F;obtain ⟨b,ap⟩:∃ b_,b_=W.heap.size:=⟨_,rfl⟩;rw [<- ap] at BB ⊢;obtain ⟨HB,HK⟩:=G6;have o:wb.heap.size<=b/\b < v.heap.size:=⟨by omega,by omega⟩;exact eX
  have bv:∀ (x:Int) (ba:Ac Ai) (bc:Nat) (Z:Aj Ak) (b6:Nat) (y:Ab) (b:Nat) (W:Ae),Touch (λk=>k=p) wb W/\yT w0 W p->(0<=x)->(x < 5)->(Z.length<=4)->(Hid ((kD.slice 5 kD.byte).ji W [Qs ba Z bc] Z (Ql wb W b)))->(y∈([{ data:=#[47,107,101,121,47,97] },{ data:=#[47,107,101,121,47,98] },{ data:=#[47,97,47,107,101,121] }]:Aj Ab))->(wb.heap.size<=b/\b < W.heap.size)->(Qr W b #[.slice none 0 0,.slice none 0 0,.slice none 0 0,Qn 0,Qn 0] 38)->T 5 [Tt,Tt,Tt,Tt,Tt,Tt,Tt,Tt,Ff,Tt,Ff,Ff,Ff,Tt,Ff] (Aa (Aa (Aa (Aa (Aa A (some 16) (.int .i64 x)) (some 17) (.slice ba Z.length bc)) (some 19) (.slice (some ⟨b6,0,none⟩) 3 3)) (some 20) (.string y)) (some 4) (.pointer (some ⟨b,0,none⟩))) W:=by
   intro x ba bc Z b6 y b W E ao U aw HB ar o BB;have a5:=E.1.size;subst N;subst hA;simp only [Aa,zA,zB,zC];refine kN (k:=8) rfl bC5 rfl (λK H=>?_);go_simp;refine (yV (kD.kCk bD0 ar)).mono ?_;rintro e v ⟨ka,kc,ks,rfl,hO,am,hy,hb⟩;have zv:=hb.size;have b9:=o.2;replace HB:Hid ((kD.slice 5 kD.byte).ji v [Qs ba Z bc] Z (Ql wb v b)):=yD ((HB.out.below hb).wide (λk q=>⟨q.1,Nat.lt_of_lt_of_le q.2.1 hb.size,q.2.2⟩));obtain ⟨BB,o⟩:=D8;have HK:Hid (kW.ji v [Qs ka ks kc] ks (Ql wb v b)):=yD (hO.ji.wide gW);exact eX
  have ca:∀ (x:Int) (ba:Ac Ai) (bc:Nat) (Z:Aj Ak) (b6:Nat) (y:Ab) (W:Ae),Touch (λk=>k=p) wb W/\yT w0 W p->(0<=x)->(x < 5)->(Z.length<=4)->(Hid ((kD.slice 5 kD.byte).ji W [Qs ba Z bc] Z (Ql wb W p)))->(y∈([{ data:=#[47,107,101,121,47,97] },{ data:=#[47,107,101,121,47,98] },{ data:=#[47,97,47,107,101,121] }]:Aj Ab))->T 6 [Tt,Tt,Tt,Tt,Tt,Tt,Tt,Tt,Ff,Tt,Ff,Ff,Ff,Ff,Ff] (Aa (Aa (Aa (Aa A (some 16) (.int .i64 x)) (some 17) (.slice ba Z.length bc)) (some 19) (.slice (some ⟨b6,0,none⟩) 3 3)) (some 20) (.string y)) W:=by
   intro x ba bc Z b6 y W E ao U aw HB ar;have a5:=E.1.size;subst N;subst hA;simp only [Aa,zA,zB,zC];refine jl (i:=8) (j:=13) rfl rfl bC5 rfl rfl (λK H=>?_) (λK H=>?_)
   · go_simp;refine (yV (kD.kCk bD0 ar)).mono ?_;rintro e v ⟨ka,kc,ks,rfl,hO,am,hy,hb⟩;have zv:=hb.size;replace HB:Hid ((kD.slice 5 kD.byte).ji v [Qs ba Z bc] Z (Ql wb v p)):=yD ((HB.out.below hb).wide (λk q=>⟨q.1,Nat.lt_of_lt_of_le q.2.1 hb.size,q.2.2⟩));have HK:Hid (kW.ji v [Qs ka ks kc] ks (Ql wb v p)):=yD (hO.ji.wide gW);replace E:=And.intro (E.1.trans (Touch.of_below hb)) (E.2.below hb);refine H _ _ E ?_;clear H K;refine jD ?_;have h_:=b5 x ba bc Z b6 y ka kc ks v E ao U aw HB ar HK;exact aZ
   go_simp;generalize F:World.alloc W _=v;obtain ⟨hb,BB,zv⟩:=xB;clear F;obtain ⟨b,ap⟩:∃ b_,b_=W.heap.size:=⟨_,rfl⟩;rw [<- ap] at BB ⊢;replace HB:Hid ((kD.slice 5 kD.byte).ji v [Qs ba Z bc] Z (Ql wb v b)):=yD ((HB.out.below hb).wide dG);obtain ⟨o,E⟩:=AL;exact eY
  have bm:∀ (x:Int) (ba:Ac Ai) (bc:Nat) (Z:Aj Ak) (b6:Nat) (b:Nat) (W:Ae),Touch (λk=>k=p) wb W/\yT w0 W p->(0<=x)->(x < 5)->(Z.length<=4)->(Hid ((kD.slice 5 kD.byte).ji W [Qs ba Z bc] Z (Ql wb W b)))->(wb.heap.size<=b6/\b6 < W.heap.size)->(Hid ((kD.slice 9 kD.str).own W [.slice (some ⟨b6,0,none⟩) 3 3] [{ data:=#[47,107,101,121,47,97] },{ data:=#[47,107,101,121,47,98] },{ data:=#[47,97,47,107,101,121] }] (λk=>k=b6)))->(wb.heap.size<=b/\b < W.heap.size)->(Qr W b #[.slice none 0 0,.slice none 0 0,.slice none 0 0,Qn 0,Qn 0] 38)->T 6 [Tt,Tt,Tt,Tt,Tt,Tt,Tt,Ff,Ff,Tt,Ff,Ff,Ff,Tt,Ff] (Aa (Aa (Aa (Aa A (some 16) (.int .i64 x)) (some 17) (.slice ba Z.length bc)) (some 19) (.slice (some ⟨b6,0,none⟩) 3 3)) (some 4) (.pointer (some ⟨b,0,none⟩))) W:=by
   intro x ba bc Z b6 b W E ao U aw HB h6 HL o BB;have a5:=E.1.size;subst N;subst hA;simp only [Aa,zA,zB,zC];refine kN (k:=7) rfl bC5 rfl (λK H=>?_);go_simp;refine (zx E.2 HL.out bD1 bD0 bD0).mono ?_;rintro e v ⟨y,ar,bz,rfl,G,D⟩;obtain ⟨zv,b9,HB⟩:=GK;obtain ⟨BB,o⟩:=AQ;replace E:=And.intro (E.1.trans D) G;exact eY
  have b8:∀ (x:Int) (ba:Ac Ai) (bc:Nat) (Z:Aj Ak) (b6:Nat) (W:Ae),Touch (λk=>k=p) wb W/\yT w0 W p->(0<=x)->(x < 5)->(Z.length<=4)->(Hid ((kD.slice 5 kD.byte).ji W [Qs ba Z bc] Z (Ql wb W p)))->(wb.heap.size<=b6/\b6 < W.heap.size)->(Hid ((kD.slice 9 kD.str).own W [.slice (some ⟨b6,0,none⟩) 3 3] [{ data:=#[47,107,101,121,47,97] },{ data:=#[47,107,101,121,47,98] },{ data:=#[47,97,47,107,101,121] }] (λk=>k=b6)))->T 7 [Tt,Tt,Tt,Tt,Tt,Tt,Tt,Ff,Ff,Tt,Ff,Ff,Ff,Ff,Ff] (Aa (Aa (Aa A (some 16) (.int .i64 x)) (some 17) (.slice ba Z.length bc)) (some 19) (.slice (some ⟨b6,0,none⟩) 3 3)) W:=by
   intro x ba bc Z b6 W E ao U aw HB h6 HL;have a5:=E.1.size;subst N;subst hA;simp only [Aa,zA,zB,zC];refine jl (i:=7) (j:=13) rfl rfl bC5 rfl rfl (λK H=>?_) (λK H=>?_)
   · go_simp;refine (zx E.2 HL.out bD1 bD0 bD0).mono ?_;rintro e v ⟨y,ar,bz,rfl,G,D⟩;obtain ⟨zv,HB⟩:=GJ;replace E:=And.intro (E.1.trans D) G;refine H _ _ E ?_;clear H K;refine jD ?_;have h_:=ca x ba bc Z b6 y v E ao U aw HB ar;exact aZ
   go_simp;generalize F:World.alloc W _=v;obtain ⟨hb,BB,zv⟩:=xB;clear F;obtain ⟨b,ap⟩:∃ b_,b_=W.heap.size:=⟨_,rfl⟩;rw [<- ap] at BB ⊢;replace HB:Hid ((kD.slice 5 kD.byte).ji v [Qs ba Z bc] Z (Ql wb v b)):=yD ((HB.out.below hb).wide dG);obtain ⟨HL,h6,o⟩:=xN;exact eZ
  have b4:∀ (x:Int) (ba:Ac Ai) (bc:Nat) (Z:Aj Ak) (b:Nat) (W:Ae),Touch (λk=>k=p) wb W/\yT w0 W p->(0<=x)->(x < 5)->(Z.length<=4)->(Hid ((kD.slice 5 kD.byte).ji W [Qs ba Z bc] Z (Ql wb W b)))->(wb.heap.size<=b/\b < W.heap.size)->(Qr W b #[.slice none 0 0,.slice none 0 0,.slice none 0 0,Qn 0,Qn 0] 38)->T 7 [Tt,Tt,Tt,Tt,Tt,Tt,Ff,Ff,Ff,Tt,Ff,Ff,Ff,Tt,Ff] (Aa (Aa (Aa A (some 16) (.int .i64 x)) (some 17) (.slice ba Z.length bc)) (some 4) (.pointer (some ⟨b,0,none⟩))) W:=by
   intro x ba bc Z b W E ao U aw HB o BB;have a5:=E.1.size;subst N;subst hA;simp only [Aa,zA,zB,zC];refine kN (k:=6) rfl bC5 rfl (λK H=>?_);go_simp;have HL:Hid ((kD.slice 9 kD.str).own (World.alloc W (.cells #[.string { data:=#[47,107,101,121,47,97] },.string { data:=#[47,107,101,121,47,98] },.string { data:=#[47,97,47,107,101,121] }] 9)) [.slice (some ⟨W.heap.size,0,none⟩) 3 3] [{ data:=#[47,107,101,121,47,97] },{ data:=#[47,107,101,121,47,98] },{ data:=#[47,97,47,107,101,121] }] (λk=>k=W.heap.size)):=yD (kD.kAw W [{ data:=#[47,107,101,121,47,97] },{ data:=#[47,107,101,121,47,98] },{ data:=#[47,97,47,107,101,121] }] bD0 bD0);generalize F:World.alloc W _=v at HL ⊢;obtain ⟨hb,zv⟩:=C9;clear F;replace HB:Hid ((kD.slice 5 kD.byte).ji v [Qs ba Z bc] Z (Ql wb v b)):=yD ((HB.out.below hb).wide (λk q=>⟨q.1,Nat.lt_of_lt_of_le q.2.1 hb.size,q.2.2⟩));obtain ⟨BB,o⟩:=D8;obtain ⟨b6,bn⟩:∃ b_,b_=W.heap.size:=⟨_,rfl⟩;rw [<- bn] at HL ⊢;have h6:wb.heap.size<=b6/\b6 < v.heap.size:=⟨by omega,by omega⟩;exact eZ
  have b0:∀ (x:Int) (b6:Nat) (b:Nat) (W:Ae),Touch (λk=>k=p) wb W/\yT w0 W p->(0<=x)->(x < 5)->(wb.heap.size<=b6/\b6 < W.heap.size)->(Hid ((kD.slice 9 kD.str).own W [.slice (some ⟨b6,0,none⟩) 3 3] [{ data:=#[47,107,101,121,47,97] },{ data:=#[47,107,101,121,47,98] },{ data:=#[47,97,47,107,101,121] }] (λk=>k=b6)))->(wb.heap.size<=b/\b < W.heap.size)->(Qr W b #[.slice none 0 0,.slice none 0 0,.slice none 0 0,Qn 0,Qn 0] 38)->T 7 [Tt,Tt,Tt,Tt,Ff,Tt,Tt,Ff,Ff,Tt,Ff,Ff,Ff,Tt,Ff] (Aa (Aa (Aa A (some 16) (.int .i64 x)) (some 19) (.slice (some ⟨b6,0,none⟩) 3 3)) (some 4) (.pointer (some ⟨b,0,none⟩))) W:=by
   intro x b6 b W E ao U h6 HL o BB;have a5:=E.1.size;subst N;subst hA;simp only [Aa,zA,zB,zC];refine kN (k:=4) rfl bC5 rfl (λK H=>?_);go_simp;refine (kCb E.2 ao bD1).mono ?_;rintro e v ⟨ba,bc,Z,rfl,cg,hO,G,D⟩;have zv:=D.size;have b9:=o.2;obtain ⟨HL,h6⟩:=xL;obtain ⟨BB,o⟩:=AQ;obtain ⟨aw,HB,E⟩:=J5;refine H _ _ E ?_;clear H K;refine jD ?_;have h_:=bm x ba bc Z b6 b v E ao U aw HB h6 HL o BB;simp only [Aa,zA,zB,zC] at h_;exact h_
  have df:∀ (x:Int) (ba:Ac Ai) (bc:Nat) (Z:Aj Ak) (W:Ae),Touch (λk=>k=p) wb W/\yT w0 W p->(0<=x)->(x < 5)->(Z.length<=4)->(Hid ((kD.slice 5 kD.byte).ji W [Qs ba Z bc] Z (Ql wb W p)))->T 8 [Tt,Tt,Tt,Tt,Tt,Tt,Ff,Ff,Ff,Tt,Ff,Ff,Ff,Ff,Ff] (Aa (Aa A (some 16) (.int .i64 x)) (some 17) (.slice ba Z.length bc)) W:=by
   intro x ba bc Z W E ao U aw HB;have a5:=E.1.size;subst N;subst hA;simp only [Aa,zA,zB,zC];refine jl (i:=6) (j:=13) rfl rfl bC5 rfl rfl (λK H=>?_) (λK H=>?_)
   · go_simp;have HL:Hid ((kD.slice 9 kD.str).own (World.alloc W (.cells #[.string { data:=#[47,107,101,121,47,97] },.string { data:=#[47,107,101,121,47,98] },.string { data:=#[47,97,47,107,101,121] }] 9)) [.slice (some ⟨W.heap.size,0,none⟩) 3 3] [{ data:=#[47,107,101,121,47,97] },{ data:=#[47,107,101,121,47,98] },{ data:=#[47,97,47,107,101,121] }] (λk=>k=W.heap.size)):=yD (kD.kAw W [{ data:=#[47,107,101,121,47,97] },{ data:=#[47,107,101,121,47,98] },{ data:=#[47,97,47,107,101,121] }] bD0 bD0);generalize F:World.alloc W _=v at HL ⊢;obtain ⟨hb,zv⟩:=C9;clear F;replace HB:Hid ((kD.slice 5 kD.byte).ji v [Qs ba Z bc] Z (Ql wb v p)):=yD ((HB.out.below hb).wide (λk q=>⟨q.1,Nat.lt_of_lt_of_le q.2.1 hb.size,q.2.2⟩));obtain ⟨b6,bn⟩:∃ b_,b_=W.heap.size:=⟨_,rfl⟩;rw [<- bn] at HL ⊢;obtain ⟨h6,E⟩:=DW;exact gN
   go_simp;generalize F:World.alloc W _=v;obtain ⟨hb,BB,zv⟩:=xB;clear F;obtain ⟨b,ap⟩:∃ b_,b_=W.heap.size:=⟨_,rfl⟩;rw [<- ap] at BB ⊢;replace HB:Hid ((kD.slice 5 kD.byte).ji v [Qs ba Z bc] Z (Ql wb v b)):=yD ((HB.out.below hb).wide dG);obtain ⟨o,E⟩:=AL;exact iA
  have ck:∀ (x:Int) (b6:Nat) (W:Ae),Touch (λk=>k=p) wb W/\yT w0 W p->(0<=x)->(x < 5)->(wb.heap.size<=b6/\b6 < W.heap.size)->(Hid ((kD.slice 9 kD.str).own W [.slice (some ⟨b6,0,none⟩) 3 3] [{ data:=#[47,107,101,121,47,97] },{ data:=#[47,107,101,121,47,98] },{ data:=#[47,97,47,107,101,121] }] (λk=>k=b6)))->T 8 [Tt,Tt,Tt,Tt,Ff,Tt,Tt,Ff,Ff,Tt,Ff,Ff,Ff,Ff,Ff] (Aa (Aa A (some 16) (.int .i64 x)) (some 19) (.slice (some ⟨b6,0,none⟩) 3 3)) W:=by
   intro x b6 W E ao U h6 HL;have a5:=E.1.size;subst N;subst hA;simp only [Aa,zA,zB,zC];refine jl (i:=4) (j:=13) rfl rfl bC5 rfl rfl (λK H=>?_) (λK H=>?_)
   · go_simp;refine (kCb E.2 ao bD1).mono ?_;rintro e v ⟨ba,bc,Z,rfl,cg,hO,G,D⟩;have zv:=D.size;obtain ⟨HL,h6⟩:=xL;obtain ⟨aw,HB,E⟩:=J6;exact gN
   go_simp;generalize F:World.alloc W _=v;obtain ⟨hb,BB,zv⟩:=xB;clear F;obtain ⟨b,ap⟩:∃ b_,b_=W.heap.size:=⟨_,rfl⟩;rw [<- ap] at BB ⊢;obtain ⟨HL,h6,o⟩:=xN;exact iB
  have ce:∀ (x:Int) (b:Nat) (W:Ae),Touch (λk=>k=p) wb W/\yT w0 W p->(0<=x)->(x < 5)->(wb.heap.size<=b/\b < W.heap.size)->(Qr W b #[.slice none 0 0,.slice none 0 0,.slice none 0 0,Qn 0,Qn 0] 38)->T 8 [Tt,Tt,Tt,Tt,Ff,Tt,Ff,Ff,Ff,Tt,Ff,Ff,Ff,Tt,Ff] (Aa (Aa A (some 16) (.int .i64 x)) (some 4) (.pointer (some ⟨b,0,none⟩))) W:=by
   intro x b W E ao U o BB;have a5:=E.1.size;subst N;subst hA;simp only [Aa,zA,zB,zC];refine jl (i:=4) (j:=6) rfl rfl bC5 rfl rfl (λK H=>?_) (λK H=>?_)
   · go_simp;refine (kCb E.2 ao bD1).mono ?_;rintro e v ⟨ba,bc,Z,rfl,cg,hO,G,D⟩;have zv:=D.size;have b9:=o.2;obtain ⟨BB,o⟩:=AQ;obtain ⟨aw,HB,E⟩:=J5;exact iA
   go_simp;have HL:Hid ((kD.slice 9 kD.str).own (World.alloc W (.cells #[.string { data:=#[47,107,101,121,47,97] },.string { data:=#[47,107,101,121,47,98] },.string { data:=#[47,97,47,107,101,121] }] 9)) [.slice (some ⟨W.heap.size,0,none⟩) 3 3] [{ data:=#[47,107,101,121,47,97] },{ data:=#[47,107,101,121,47,98] },{ data:=#[47,97,47,107,101,121] }] (λk=>k=W.heap.size)):=yD (kD.kAw W [{ data:=#[47,107,101,121,47,97] },{ data:=#[47,107,101,121,47,98] },{ data:=#[47,97,47,107,101,121] }] bD0 bD0);generalize F:World.alloc W _=v at HL ⊢;obtain ⟨hb,zv⟩:=C9;clear F;obtain ⟨BB,o⟩:=D8;obtain ⟨b6,bn⟩:∃ b_,b_=W.heap.size:=⟨_,rfl⟩;rw [<- bn] at HL ⊢;have h6:wb.heap.size<=b6/\b6 < v.heap.size:=⟨by omega,by omega⟩;exact iB
  have ch:∀ (b6:Nat) (b:Nat) (W:Ae),Touch (λk=>k=p) wb W/\yT w0 W p->(wb.heap.size<=b6/\b6 < W.heap.size)->(Hid ((kD.slice 9 kD.str).own W [.slice (some ⟨b6,0,none⟩) 3 3] [{ data:=#[47,107,101,121,47,97] },{ data:=#[47,107,101,121,47,98] },{ data:=#[47,97,47,107,101,121] }] (λk=>k=b6)))->(wb.heap.size<=b/\b < W.heap.size)->(Qr W b #[.slice none 0 0,.slice none 0 0,.slice none 0 0,Qn 0,Qn 0] 38)->T 8 [Tt,Tt,Tt,Ff,Ff,Tt,Tt,Ff,Ff,Tt,Ff,Ff,Ff,Tt,Ff] (Aa (Aa A (some 19) (.slice (some ⟨b6,0,none⟩) 3 3)) (some 4) (.pointer (some ⟨b,0,none⟩))) W:=by
   intro b6 b W E h6 HL o BB;have a5:=E.1.size;subst N;subst hA;simp only [Aa,zA,zB,zC];refine kN (k:=3) rfl bC5 rfl (λK H=>?_);go_simp;refine (ku (n:=5) E.2 bD0).mono ?_;rintro e v ⟨x,ao,U,a1,rfl,G,D⟩;have zv:=D.size;have b9:=o.2;obtain ⟨HL,h6⟩:=xL;obtain ⟨BB,o⟩:=AQ;replace U:=U bD0;clear a1;replace E:=And.intro (E.1.trans D) G;refine H _ _ E ?_;clear H K;refine jD ?_;have h_:=b0 x b6 b v E ao U h6 HL o BB;simp only [Aa,zA,zB,zC] at h_;exact h_
  have T3:∀ (x:Int) (W:Ae),Touch (λk=>k=p) wb W/\yT w0 W p->(0<=x)->(x < 5)->T 9 [Tt,Tt,Tt,Tt,Ff,Tt,Ff,Ff,Ff,Tt,Ff,Ff,Ff,Ff,Ff] (Aa A (some 16) (.int .i64 x)) W:=by
   intro x W E ao U;have a5:=E.1.size;subst N;subst hA;simp only [Aa,zA,zB,zC];refine kUm (i:=4) (j:=6) (m:=13) rfl rfl rfl bC5 rfl rfl rfl (λK H=>?_) (λK H=>?_) (λK H=>?_)
   · go_simp;refine (kCb E.2 ao bD1).mono ?_;rintro e v ⟨ba,bc,Z,rfl,cg,hO,G,D⟩;have zv:=D.size;obtain ⟨aw,HB,E⟩:=J6;refine H _ _ E ?_;clear H K;refine jD ?_;have h_:=df x ba bc Z v E ao U aw HB;exact aZ
   · go_simp;have HL:Hid ((kD.slice 9 kD.str).own (World.alloc W (.cells #[.string { data:=#[47,107,101,121,47,97] },.string { data:=#[47,107,101,121,47,98] },.string { data:=#[47,97,47,107,101,121] }] 9)) [.slice (some ⟨W.heap.size,0,none⟩) 3 3] [{ data:=#[47,107,101,121,47,97] },{ data:=#[47,107,101,121,47,98] },{ data:=#[47,97,47,107,101,121] }] (λk=>k=W.heap.size)):=yD (kD.kAw W [{ data:=#[47,107,101,121,47,97] },{ data:=#[47,107,101,121,47,98] },{ data:=#[47,97,47,107,101,121] }] bD0 bD0);generalize F:World.alloc W _=v at HL ⊢;obtain ⟨hb,zv⟩:=C9;clear F;obtain ⟨b6,bn⟩:∃ b_,b_=W.heap.size:=⟨_,rfl⟩;rw [<- bn] at HL ⊢;obtain ⟨h6,E⟩:=DW;exact iC
   go_simp;generalize F:World.alloc W _=v;obtain ⟨hb,BB,zv⟩:=xB;clear F;obtain ⟨b,ap⟩:∃ b_,b_=W.heap.size:=⟨_,rfl⟩;rw [<- ap] at BB ⊢;obtain ⟨o,E⟩:=AL;exact iD
  have T6:∀ (b6:Nat) (W:Ae),Touch (λk=>k=p) wb W/\yT w0 W p->(wb.heap.size<=b6/\b6 < W.heap.size)->(Hid ((kD.slice 9 kD.str).own W [.slice (some ⟨b6,0,none⟩) 3 3] [{ data:=#[47,107,101,121,47,97] },{ data:=#[47,107,101,121,47,98] },{ data:=#[47,97,47,107,101,121] }] (λk=>k=b6)))->T 9 [Tt,Tt,Tt,Ff,Ff,Tt,Tt,Ff,Ff,Tt,Ff,Ff,Ff,Ff,Ff] (Aa A (some 19) (.slice (some ⟨b6,0,none⟩) 3 3)) W:=by
   intro b6 W E h6 HL;have a5:=E.1.size;subst N;subst hA;simp only [Aa,zA,zB,zC];refine jl (i:=3) (j:=13) rfl rfl bC5 rfl rfl (λK H=>?_) (λK H=>?_)
   · go_simp;refine (ku (n:=5) E.2 bD0).mono ?_;rintro e v ⟨x,ao,U,a1,rfl,G,D⟩;have zv:=D.size;obtain ⟨HL,h6⟩:=xL;replace U:=U bD0;clear a1;replace E:=And.intro (E.1.trans D) G;exact iC
   go_simp;generalize F:World.alloc W _=v;obtain ⟨hb,BB,zv⟩:=xB;clear F;obtain ⟨b,ap⟩:∃ b_,b_=W.heap.size:=⟨_,rfl⟩;rw [<- ap] at BB ⊢;obtain ⟨HL,h6,o⟩:=xN;exact iE
  have cv:∀ (b:Nat) (W:Ae),Touch (λk=>k=p) wb W/\yT w0 W p->(wb.heap.size<=b/\b < W.heap.size)->(Qr W b #[.slice none 0 0,.slice none 0 0,.slice none 0 0,Qn 0,Qn 0] 38)->T 9 [Tt,Tt,Tt,Ff,Ff,Tt,Ff,Ff,Ff,Tt,Ff,Ff,Ff,Tt,Ff] (Aa A (some 4) (.pointer (some ⟨b,0,none⟩))) W:=by
   intro b W E o BB;have a5:=E.1.size;subst N;subst hA;simp only [Aa,zA,zB,zC];refine jl (i:=3) (j:=6) rfl rfl bC5 rfl rfl (λK H=>?_) (λK H=>?_)
   · go_simp;refine (ku (n:=5) E.2 bD0).mono ?_;rintro e v ⟨x,ao,U,a1,rfl,G,D⟩;have zv:=D.size;have b9:=o.2;obtain ⟨BB,o⟩:=AQ;replace U:=U bD0;clear a1;replace E:=And.intro (E.1.trans D) G;exact iD
   go_simp;have HL:Hid ((kD.slice 9 kD.str).own (World.alloc W (.cells #[.string { data:=#[47,107,101,121,47,97] },.string { data:=#[47,107,101,121,47,98] },.string { data:=#[47,97,47,107,101,121] }] 9)) [.slice (some ⟨W.heap.size,0,none⟩) 3 3] [{ data:=#[47,107,101,121,47,97] },{ data:=#[47,107,101,121,47,98] },{ data:=#[47,97,47,107,101,121] }] (λk=>k=W.heap.size)):=yD (kD.kAw W [{ data:=#[47,107,101,121,47,97] },{ data:=#[47,107,101,121,47,98] },{ data:=#[47,97,47,107,101,121] }] bD0 bD0);generalize F:World.alloc W _=v at HL ⊢;obtain ⟨hb,zv⟩:=C9;clear F;obtain ⟨BB,o⟩:=D8;obtain ⟨b6,bn⟩:∃ b_,b_=W.heap.size:=⟨_,rfl⟩;rw [<- bn] at HL ⊢;have h6:wb.heap.size<=b6/\b6 < v.heap.size:=⟨by omega,by omega⟩;exact iE
  subst N;subst hA;refine kUm (i:=3) (j:=6) (m:=13) rfl rfl rfl bC5 rfl rfl rfl (λK H=>?_) (λK H=>?_) (λK H=>?_)
  · go_simp;refine (ku (n:=5) E.2 bD0).mono ?_;rintro e v ⟨x,ao,U,a1,rfl,G,D⟩;have zv:=D.size;replace U:=U bD0;clear a1;replace E:=And.intro (E.1.trans D) G;refine H _ _ E ?_;clear H K;refine jD ?_;have h_:=T3 x v E ao U;exact aZ
  · go_simp;have HL:Hid ((kD.slice 9 kD.str).own (World.alloc t (.cells #[.string { data:=#[47,107,101,121,47,97] },.string { data:=#[47,107,101,121,47,98] },.string { data:=#[47,97,47,107,101,121] }] 9)) [.slice (some ⟨t.heap.size,0,none⟩) 3 3] [{ data:=#[47,107,101,121,47,97] },{ data:=#[47,107,101,121,47,98] },{ data:=#[47,97,47,107,101,121] }] (λk=>k=t.heap.size)):=yD (kD.kAw t [{ data:=#[47,107,101,121,47,97] },{ data:=#[47,107,101,121,47,98] },{ data:=#[47,97,47,107,101,121] }] bD0 bD0);generalize F:World.alloc t _=v at HL ⊢;have hb:Qb t v:=(by rw [<- F];exact bR.alloc nL _);have zv:t.heap.size + 1<=v.heap.size:=(by rw [<- F];simp);clear F;obtain ⟨b6,bn⟩:∃ b_,b_=t.heap.size:=⟨_,rfl⟩;rw [<- bn] at HL ⊢;obtain ⟨h6,E⟩:=DW;refine H _ _ E ?_;clear H K;refine jD ?_;have h_:=T6 b6 v E h6 HL;exact aZ
  go_simp;generalize F:World.alloc t _=v;obtain ⟨hb,BB,zv⟩:=BJ;clear F;obtain ⟨b,ap⟩:∃ b_,b_=t.heap.size:=⟨_,rfl⟩;rw [<- ap] at BB ⊢;obtain ⟨o,E⟩:=AL;refine H _ _ E ?_;clear H K;refine jD ?_;have h_:=cv b v E o BB;exact aZ
 rename Ae=>wd
 obtain ⟨b,ba,bc,Z,ka,kc,ks,z,rfl,BX,HB,cl,HK,hz,cf,O,cc,bl⟩:=hcut
 replace R:=bl.kC R bD1
 have b3:=J.trans bl
 have zd:=bl.size
 clear hc J
 have hc:=cc;clear cc
 have J:=b3;clear b3
 have HX:=yD (kWo (S:=λk=>k≠p) ((L.out.ji.touch bl wO).wide wZ) (HB.out.wide tC) (HK.out.wide tC) (f:=40 + z) (s:=0) bD1 bD1)
 clear L HB HK bl B
 go_upto_region 5 with fail
 refine zZ (λW=>Touch (λk=>k=p) wd W/\yT w0 W p) (λ_=>True) [] [(0,true),(2,true),(1,false),(3,false)] [(4,false)] bC5 bC5 pY (⟨Touch.of_below bR.drew,hc.below bR.drew⟩) ?_
 intro wS E
 simp only [jB,zK,List.getElem?_cons_succ,List.getElem?_cons_zero,List.map_cons,List.map_nil]
 refine pre_nil ?_
 refine jf (v:=?_) rfl (λW hW=>?_) ?_;rotate_left;(· go_simp;try with_reducible rfl)
 refine jD ?_
 refine jf (v:=?_) rfl (λW hW=>?_) ?_;rotate_left;(· have dt:=kE (hW.1.kC BX bD1) (j:=0) (v:=.slice na qs.length nc) rfl;have d8:=kE (hW.1.kC BX bD1) (j:=1) (v:=.slice ba Z.length bc) rfl;have eh:=kE (hW.1.kC BX bD1) (j:=2) (v:=.slice ka ks.length kc) rfl;have ef:=kE (hW.1.kC BX bD1) (j:=3) (v:=.int .i64 (40 + z)) rfl;have ec:=kE (hW.1.kC BX bD1) (j:=4) (v:=.int .i64 0) rfl;clear hW;go_simp;try with_reducible rfl)
 refine jD ?_
 refine zH rfl (λK H=>?_);go_simp;refine (kUp E.2).mono ?_;rintro e wS1 ⟨s,rfl,cq,cm,au,aq⟩;replace E:=And.intro (E.1.trans aq) au;clear au aq;refine H _ _ E ?_;clear H K
 refine jD ?_
 refine zH rfl (λK H=>?_);go_simp;refine (kGg (cx:=[.slice na qs.length nc,.slice ba Z.length bc,.slice ka ks.length kc,.int .i64 (40 + z),.int .i64 0]) (x:=(qs,Z,ks,40 + z,0)) bD1 (HX.out.touch E.1 (λk q h=>q h)).rd (by show Z.length<=_;omega)).mono ?_;rintro e bx ⟨sg,ds,rfl,hO,co,X⟩;have d7:=E.1.size;have bq:=X.size;replace E:=And.intro (E.1.trans (Touch.of_below X)) (E.2.below X);have HQ:=yD hO;obtain ⟨ad,ae,ai,af,aj,ah,rfl⟩:=yS HQ.out.raw;refine H _ _ E ?_;clear H K X hO
 refine jD ?_
 have cw:=E.1.size
 have RS:=E.1.kC R bD1
 have c0:=J.trans E.1
 have ac:Qd bx w 0 (.slice none 0 0):=kE RS rfl
 have ak:bx.frozen? ⟨w.heap.size,0,none⟩=false:=Ag bx (w.heap.size) 0 _ _ RS
 have an:Qd bx w 1 (.slice none 0 0):=kE RS rfl
 have al:bx.frozen? ⟨w.heap.size,1,none⟩=false:=Ag bx (w.heap.size) 1 _ _ RS
 have bd:Qd bx w 2 (.slice none 0 0):=kE RS rfl
 have ax:bx.frozen? ⟨w.heap.size,2,none⟩=false:=Ag bx (w.heap.size) 2 _ _ RS
 have bh:Qd bx w 3 (.int .i64 0):=kE RS rfl
 have be:bx.frozen? ⟨w.heap.size,3,none⟩=false:=Ag bx (w.heap.size) 3 _ _ RS
 have bp:Qd bx w 4 (.int .i64 0):=kE RS rfl
 have bo:bx.frozen? ⟨w.heap.size,4,none⟩=false:=Ag bx (w.heap.size) 4 _ _ RS
 refine zl trivial ?_
 refine kY rfl (λK H=>?_);go_simp;refine H _ _ trivial ?_;clear H K
 refine jD ?_
 refine kR ?_
 go_wp2
 refine Ad (v:=.agg #[Qs ad qs ae,Qs ai Z af,Qs aj ks ah,.int .i64 (40 + z),Qn sg]) (by simp [results,results87,go_sem,ac,ak,an,al,bd,ax,bh,be,bp,bo]) rfl ⟨_,(qs,Z,ks,40 + z,sg),rfl,?_,cl,E.2.touch sT5 bD1 wW,c0.jP sT5 bD1⟩
 exact (HQ.out.touch sT5 sM).wide fF
theorem kKk {w0 w:Ae} {p:Nat} (hc:yT w0 w p) :
    Calls prog 32 #[.pointer (some ⟨p,0,none⟩)] w λe w'=>DrawnD 64 w0 w p e w':=by
 go_enter func32,ntmps32
 obtain ⟨ay,bt⟩:=hc.lt
 go_upto_region 1 with fail
 generalize F:World.alloc w _=w1
 obtain ⟨ag,R,bf⟩:=IY
 clear F
 obtain ⟨hc,J⟩:=xO
 clear ag
 go_wp2_with fail
 refine (kIy hc).mono ?_
 rintro e V ⟨ds,x,rfl,hO,b2,G,D⟩
 have bg:=D.size
 obtain ⟨R,J⟩:=DX
 clear hc D
 have hc:=G
 clear G
 obtain ⟨a0,c0,a1,c1,a2,c2,rfl⟩:=yS hO.raw
 have cl:=data_rng hO.raw
 obtain ⟨n,b,k,f,s⟩:=x
 simp only at b2 cl
 have L:=yD (hO.wide (T:=λj=>w1.heap.size<=j/\j < V.heap.size) (λ_ h=>h))
 clear hO
 go_upto_region 2 with fail
 generalize F:World.alloc V _=w3
 have aa:Qb V w3:=rT
 have B:Qr w3 V.heap.size #[Qs a0 n c0,Qs a1 b c1,Qs a2 k c2,Qn f,Qn s] 38:=vD
 have bi:V.heap.size + 1<=w3.heap.size:=bB3
 clear F
 replace R:=kC R aa
 obtain ⟨L,hc,J⟩:=xR
 clear aa
 go_wp2_with fail
 refine (ku (n:=12) hc bD0).mono ?_
 rintro e w4 ⟨m,bc,ad,c8,rfl,G,D⟩
 have bu:=D.size
 obtain ⟨R,B⟩:=FV
 obtain ⟨L,J⟩:=xK
 clear hc D
 have hc:=G
 clear G
 replace ad:=ad bD0
 clear c8
 obtain ⟨m,rfl⟩:=Int.eq_ofNat_of_zero_le bc
 by_cases bj:m=0
 · subst bj;go_wp2_with fail;refine (kFa hc).mono ?_;rintro e w5 ⟨qa,qc,qs,rfl,hQ,b8,ab,G,D⟩;have br:=D.size;obtain ⟨R,B⟩:=FV;obtain ⟨L,J⟩:=xK;clear hc D;have hc:=G;clear G;have HQ:=yD (hQ);clear hQ;obtain ⟨av,O,H,o,N⟩:=yI B;obtain ⟨a3,U,W,Y,X⟩:=kBh B;go_upto_region 13 with fail;generalize F:World.setCell w5 _ _=w6;have E:Touch (λk=>k=V.heap.size) w5 w6:=vR;replace B:Qr w6 V.heap.size #[Qs qa qs qc,Qs a1 b c1,Qs a2 k c2,Qn f,Qn s] 38:=vK;have da:=E.size;clear F;replace R:=E.kC R bD1;replace L:=yD (L.out.touch E pX);replace HQ:=yD (HQ.out.touch E pX);replace hc:=hc.touch E bD1 wW;replace J:=J.jP E bD1;clear av O H o N a3 U W Y X;clear E;replace L:=yD ((jAq L.out HQ.out pG).wide (T:=λj=>w1.heap.size<=j/\j < w6.heap.size) bW);clear HQ;go_upto_region 13 with fail;obtain ⟨ac,an,bd,bh,bp⟩:=yI R;obtain ⟨av,O,H,o,N⟩:=yI B;obtain ⟨ak,al,ax,be,bo⟩:=kBh R;go_wp2;refine Ad (v:=.agg #[Qs qa qs qc,Qs a1 b c1,Qs a2 k c2,Qn f,Qn s]) fH rfl ⟨[Qs qa qs qc,Qs a1 b c1,Qs a2 k c2,Qn f,Qn s],(qs,b,k,f,s),rfl,?_,?_,hc.touch sT5 bD1 wW,J.jP sT5 bD1⟩
   · exact (L.out.touch sT5 tF).wide fF
   simp only;omega
 have bc:¬ (m:Int)=0:=bD1
 by_cases bx:m=1
 · subst bx;go_wp2_with fail;refine (kFa hc).mono ?_;rintro e w5 ⟨qa,qc,qs,rfl,hQ,b8,ab,G,D⟩;have br:=D.size;obtain ⟨R,B⟩:=FV;obtain ⟨L,J⟩:=xK;clear hc D;have hc:=G;clear G;have HQ:=yD (hQ);clear hQ;obtain ⟨av,O,H,o,N⟩:=yI B;obtain ⟨a3,U,W,Y,X⟩:=kBh B;go_upto_region 13 with fail;generalize F:World.setCell w5 _ _=w6;have E:Touch (λk=>k=V.heap.size) w5 w6:=vR;replace B:Qr w6 V.heap.size #[Qs a0 n c0,Qs a1 b c1,Qs qa qs qc,Qn f,Qn s] 38:=by rw [<- F];exact kF B 2
   have da:=E.size;clear F;replace R:=E.kC R bD1;replace L:=yD (L.out.touch E pX);replace HQ:=yD (HQ.out.touch E pX);replace hc:=hc.touch E bD1 wW;replace J:=J.jP E bD1;clear av O H o N a3 U W Y X;clear E;replace L:=yD ((data_setKey L.out HQ.out pG).wide (T:=λj=>w1.heap.size<=j/\j < w6.heap.size) bW);clear HQ;go_upto_region 13 with fail;obtain ⟨ac,an,bd,bh,bp⟩:=yI R;obtain ⟨av,O,H,o,N⟩:=yI B;obtain ⟨ak,al,ax,be,bo⟩:=kBh R;go_wp2;refine Ad (v:=.agg #[Qs a0 n c0,Qs a1 b c1,Qs qa qs qc,Qn f,Qn s]) fH rfl ⟨[Qs a0 n c0,Qs a1 b c1,Qs qa qs qc,Qn f,Qn s],(n,b,qs,f,s),rfl,?_,?_,hc.touch sT5 bD1 wW,J.jP sT5 bD1⟩
   · exact (L.out.touch sT5 tF).wide fF
   simp only;omega
 have ad:¬ (m:Int)=1:=bD1
 by_cases bq:m=2
 · subst bq;go_wp2_with fail;refine (zy (hc.below (bR.alloc nL _)) (kD.kEf _ [-1,100000,100001] bD0 bD0) bD1 bD0 bD0).mono ?_;rintro e w5 ⟨y,ar,bz,rfl,G,D⟩;obtain ⟨D,br⟩:=DF;obtain ⟨R,B⟩:=FV;obtain ⟨L,J⟩:=xK;clear hc D;have hc:=G;clear G;have a6:=kD.kHd (lo:=-1) (hi:=100001) bD0 ar;clear ar bz;obtain ⟨av,O,H,o,N⟩:=yI B;obtain ⟨a3,U,W,Y,X⟩:=kBh B;go_upto_region 13 with fail;generalize F:World.setCell w5 _ _=w6;have E:Touch (λk=>k=V.heap.size) w5 w6:=vR;replace B:Qr w6 V.heap.size #[Qs a0 n c0,Qs a1 b c1,Qs a2 k c2,Qn y,Qn s] 38:=by rw [<- F];exact kF B 3
   have da:=E.size;clear F;replace R:=E.kC R bD1;replace L:=yD (L.out.touch E pX);replace hc:=hc.touch E bD1 wW;replace J:=J.jP E bD1;clear av O H o N a3 U W Y X;clear E;replace L:=yD (jAp L.out (v:=y) bD1);go_upto_region 13 with fail;obtain ⟨ac,an,bd,bh,bp⟩:=yI R;obtain ⟨av,O,H,o,N⟩:=yI B;obtain ⟨ak,al,ax,be,bo⟩:=kBh R;go_wp2;refine Ad (v:=.agg #[Qs a0 n c0,Qs a1 b c1,Qs a2 k c2,Qn y,Qn s]) fH rfl ⟨[Qs a0 n c0,Qs a1 b c1,Qs a2 k c2,Qn y,Qn s],(n,b,k,y,s),rfl,?_,?_,hc.touch sT5 bD1 wW,J.jP sT5 bD1⟩
   · exact (L.out.touch sT5 tF).wide fF
   simp only;omega
 have c8:¬ (m:Int)=2:=bD1
 by_cases b6:m=3
 · subst b6;go_wp2_with fail;refine (kZs hc).mono ?_;rintro e w5 ⟨y,rfl,db,bk,G,D⟩;have br:=D.size;obtain ⟨R,B⟩:=FV;obtain ⟨L,J⟩:=xK;clear hc D;have hc:=G;clear G;obtain ⟨av,O,H,o,N⟩:=yI B;obtain ⟨a3,U,W,Y,X⟩:=kBh B;go_upto_region 13 with fail;generalize F:World.setCell w5 _ _=w6;have E:Touch (λk=>k=V.heap.size) w5 w6:=vR;replace B:Qr w6 V.heap.size #[Qs a0 n c0,Qs a1 b c1,Qs a2 k c2,Qn f,Qn y] 38:=by rw [<- F];exact kF B 4
   have da:=E.size;clear F;replace R:=E.kC R bD1;replace L:=yD (L.out.touch E pX);replace hc:=hc.touch E bD1 wW;replace J:=J.jP E bD1;clear av O H o N a3 U W Y X;clear E;replace L:=yD (kSd L.out (v:=y) bD1);go_upto_region 13 with fail;obtain ⟨ac,an,bd,bh,bp⟩:=yI R;obtain ⟨av,O,H,o,N⟩:=yI B;obtain ⟨ak,al,ax,be,bo⟩:=kBh R;go_wp2;refine Ad (v:=.agg #[Qs a0 n c0,Qs a1 b c1,Qs a2 k c2,Qn f,Qn y]) fH rfl ⟨[Qs a0 n c0,Qs a1 b c1,Qs a2 k c2,Qn f,Qn y],(n,b,k,f,y),rfl,?_,?_,hc.touch sT5 bD1 wW,J.jP sT5 bD1⟩
   · exact (L.out.touch sT5 tF).wide fF
   simp only;omega
 have ai:¬ (m:Int)=3:=bD1
 by_cases b4:m=4
 · subst b4;go_wp2_with fail;refine (ku (n:=3) hc bD0).mono ?_;rintro e w5 ⟨y,db,bk,bm,rfl,G,D⟩;have br:=D.size;obtain ⟨R,B⟩:=FV;obtain ⟨L,J⟩:=xK;clear hc D;have hc:=G;clear G;replace bk:=bk bD0;clear bm;obtain ⟨z,hz⟩:∃ z:Nat,(59:Int) + y=z:=⟨(59 + y).toNat,by omega⟩;have hw:Ah.wrap (59 + y)=(z:Int):=(Al _ bD1).trans hz;have af:=run_make_row' (P:=prog) 22 5 (.int .u8 0) 1 underlying22 kEh rfl .i64 .i64 z bD1 bD1;obtain ⟨av,O,H,o,N⟩:=yI B;obtain ⟨a3,U,W,Y,X⟩:=kBh B;have GB:(World.alloc w5 (.cells (madeCells #[.int .u8 0] z) 5)).frozen? ⟨V.heap.size,1,none⟩=false:=(frozen?_alloc_cells _ _ _ _).trans U;have ae:(World.alloc w5 (.cells (madeCells #[.int .u8 0] z) 5)).cell? ⟨V.heap.size,1,none⟩=some (.slice a1 b.length c1):=kE (kC B (bR.alloc nL _)) rfl;go_upto_region 13 with fail;have HM:=yD ((kD.own0_make (r:=kD.byte) (e:=5) (w:=w5) (zs:=#[.int .u8 0]) (n:=z) (S:=λk=>k=w5.heap.size) rfl rfl bD0 vN rfl).own (by simp [Big];omega));simp only [show z * kD.byte.n=z from Nat.mul_one z] at HM;clear GB ae af;generalize F:World.alloc w5 (.cells (madeCells #[.int .u8 0] z) 5)=w6 at HM ⊢;have aw:Qb w5 w6:=rT;have da:w5.heap.size + 1<=w6.heap.size:=bB3;clear F;replace R:=kC R aw;replace B:=kC B aw;obtain ⟨L,hc,J⟩:=I7;clear av O H o N a3 U W Y X;clear aw;replace HM:=yD (HM.out.wide (T:=λk=>w5.heap.size<=k/\k < w6.heap.size) wZ);generalize F:World.setCell w6 _ _=w7;have Z:Touch (λk=>k=V.heap.size) w6 w7:=vR;replace B:Qr w7 V.heap.size #[Qs a0 n c0,.slice (some ⟨w5.heap.size,0,none⟩) z z,Qs a2 k c2,Qn f,Qn s] 38:=by rw [<- F];exact kF B 1
   have ea:=Z.size;clear F;replace R:=Z.kC R bD1;replace L:=yD (L.out.touch Z pX);replace HM:=yD (HM.out.touch Z pX);replace hc:=hc.touch Z bD1 wW;replace J:=J.jP Z bD1;clear Z;replace L:=yD ((kTj L.out HM.out pG).wide (T:=λj=>w1.heap.size<=j/\j < w7.heap.size) bW);clear HM;go_upto_region 13 with fail;obtain ⟨ac,an,bd,bh,bp⟩:=yI R;obtain ⟨av,O,H,o,N⟩:=yI B;obtain ⟨ak,al,ax,be,bo⟩:=kBh R;go_wp2;refine Ad (v:=.agg #[Qs a0 n c0,.slice (some ⟨w5.heap.size,0,none⟩) z z,Qs a2 k c2,Qn f,Qn s]) fH rfl ⟨[Qs a0 n c0,.slice (some ⟨w5.heap.size,0,none⟩) z z,Qs a2 k c2,Qn f,Qn s],(n,List.replicate z 0,k,f,s),rfl,?_,?_,hc.touch sT5 bD1 wW,J.jP sT5 bD1⟩
   · exact (L.out.touch sT5 tF).wide fF
   simp;omega
 have ah:¬ (m:Int)=4:=bD1
 go_upto_region 13 with fail
 obtain ⟨ac,an,bd,bh,bp⟩:=yI R
 obtain ⟨av,O,H,o,N⟩:=yI B
 obtain ⟨ak,al,ax,be,bo⟩:=kBh R
 go_wp2
 refine Ad (v:=.agg #[Qs a0 n c0,Qs a1 b c1,Qs a2 k c2,Qn f,Qn s]) fH rfl ⟨[Qs a0 n c0,Qs a1 b c1,Qs a2 k c2,Qn f,Qn s],(n,b,k,f,s),rfl,?_,?_,hc.touch sT5 bD1 wW,J.jP sT5 bD1⟩
 · exact (L.out.touch sT5 tF).wide fF
 simp only;omega
end Go.Proofs.YtjhfdpopkkmigaaGreat

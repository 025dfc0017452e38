/-
  slices.Insert over an owned slice of flat data.
-/
import Derived.Test.YtjhfdpopkkmigabGreatDrawM
set_option linter.unusedVariables false
set_option linter.defProp false
set_option linter.unusedSimpArgs false
set_option linter.unnecessarySimpa false
set_option maxRecDepth 100000
set_option maxHeartbeats 4000000
open List renaming take_append_of_le_length->Aa,nil_append->Ac,length_drop->Ad,drop_append_of_le_length->Ae,length_take->Ah,length_append->Aj,take_of_length_le->Al,append_assoc->Am,mem_of_mem_drop->Ar,getElem?_cons_succ->Az,getElem?_cons_zero->Ba,drop_zero->Bd,drop_succ_cons->Bg,mem_singleton->Bi,getElem?_drop->Bl,size_toArray->Bp,length_cons->Br,cons_append->Bt
open Go.Builtin renaming zeroCells->Ab,firstCells->Bj
open Go renaming bodyPost_ret->Ag,Value->Ai,setRow_other->Ap,World->Aq,cell_of_row->Au,setRow_heap->Ay,info_parts->Bc,heap_alloc_new->Be,heap_alloc_old->Bf,grownCap->Bq,Calls->Bu
open Go.IntKind renaming i64->Ak
open Array renaming getElem?_eq_some_iff->Av,length_toList->Bh
open Go.Value.slice renaming injEq->Aw
open _root_ renaming List->Bb
open Option.some renaming injEq->Bo
open Go.IntWalk renaming i64_in->Bv
open Go.Addr.mk renaming injEq->Bw
namespace Go.Proofs.YtjhfdpopkkmigabGreat
open Go.RowKit _root_.Go.Proofs.Tryz
def int_own {w:Aq} {v:Ai} {ps:kg} {n h t:Int} {S:Nat->Prop} (k:(kD.slice 9 kD.str).own w [v] ps S) (hn:-1<=n/\n<=1000001) (hh:-1<=h/\h<=17) (ht:0<=t/\t<=21):jO.own w [v,Qn n,Qn h,Qn t] (ps,n,h,t) S :=
  kD.yF (r:=kN) (cs:=[v]) (ds:=[.int .i64 n,.int .i64 h,.int .i64 t]) k (kD.jW (cs:=[.int .i64 n]) (kD.ku bH3) (kD.jW (cs:=[.int .i64 h]) (kD.ku bH3) (kD.ku bH3)))
def kKc {w0 w:Aq} {p:Nat} (hc:yS w0 w p) :
    Bu prog 67 #[.pointer (some ⟨p,0,none⟩)] w λe w'=>∃ a c ps n h t,e=.returned (.agg #[Qs a ps c,Qn n,Qn h,Qn t])/\kN.own w' [Qs a ps c] ps (jb w.heap.size w'.heap.size)/\(ps.length<=8/\zF ps)/\(-1<=n/\n<=8)/\(-1<=h/\h<=17)/\(0<=t/\t<=21)/\yS w0 w' p/\Touch (λk=>k=p) w w':=by
 go_enter func67,ntmps67
 obtain ⟨bd,bw⟩:=hc.lt
 go_upto_region 1 with fail
 generalize G:World.alloc w _=w1
 obtain ⟨U,R,bo⟩:=EI
 clear G
 obtain ⟨hc,J⟩:=xQ
 clear U
 go_wp2_with fail
 refine (kKd hc).mono ?_
 rintro e V ⟨a,n,c,ps,rfl,hO,bp,L,F,D⟩
 obtain ⟨bv,R,J⟩:=BP
 clear hc D
 have hc:=F
 clear F
 have b4:=yD L
 clear L
 have I:=yD (hO.wide (T:=λj=>w1.heap.size<=j/\j < V.heap.size) (λ_ h=>h))
 clear hO
 go_upto_region 2 with fail
 generalize G:World.alloc V _=w3
 obtain ⟨ad,B,bt⟩:=FW
 clear G
 obtain ⟨R,I,hc,J⟩:=A9
 clear ad
 have ag:Qd w3 V 0 (.slice a n c):=kE B rfl
 obtain ⟨_,_,_,bl,bj⟩:=I.out.parts
 simp only [Aw] at bl
 have bz:=yD (bl.2.1.trans bj.out)
 clear bl bj
 by_cases hz:n=0
 · subst hz;obtain rfl:ps=[]:=List.eq_nil_of_length_eq_zero bz.out.symm;clear ag;obtain ⟨ag,aq,GB,HB⟩:=AY;go_upto_region 4 with fail;clear GB HB;have af:=yD (kD.kNl (e:=9) w3 (kD.kGk (s:={ data:=#[97] }) bH2));generalize G:World.alloc w3 _=w4 at af ⊢;have cc:Qb w3 w4:=tK;have b5:w3.heap.size + 1<=w4.heap.size:=bF4;clear G I;replace R:=kC R cc;replace B:=kC B cc;replace hc:=hc.below cc;replace J:=J.trans (Touch.of_below cc);clear ag aq;clear cc;have I:=yD (kD.kQ.wide (T:=λj=>w1.heap.size<=j/\j < w4.heap.size/\j≠V.heap.size) af.out rP);clear af;generalize G:World.setCell w4 _ _=w5;obtain ⟨cm,B,b3⟩:=JA;clear G;replace R:=cm.kC R bH3;replace I:=yD (I.out.touch cm qW);replace hc:=hc.touch cm bH3 bD5;replace J:=J.jJ cm bH3;clear cm;go_upto_region 4 with fail;have FX:=yD (λ(W:Aq) (hW:Touch (λk=>k=p) w5 W/\yS w0 W p)=>kE (hW.1.kC B bH3) (j:=0) (v:=.slice (some ⟨w3.heap.size,0,none⟩) 1 1) rfl);refine jc (λW=>Touch (λk=>k=p) w5 W/\yS w0 W p) [(0,true),(1,true),(3,true),(5,true),(2,false),(4,false),(6,false),(7,true),(8,true)] bG6 bG6 qY (⟨Touch.of_below bR.drew,hc.below bR.drew⟩) ?_;intro wS E;simp only [jB,Br,List.length_nil,Az,Ba,List.map_cons,List.map_nil,Bt,Ac,Bg,Bd];iterate 4
    refine ky ?_
   refine kw rfl (λK H=>?_);go_simp;refine (ko (n:=9) E.2 bH2).mono ?_;rintro e wS1 ⟨x,au,o,be,rfl,ap,am⟩;replace o:=o bH2;clear be;replace E:=And.intro (E.1.trans am) ap;clear ap am;refine H _ _ E ?_;clear H K;refine jG ?_;refine kw rfl (λK H=>?_);go_simp;refine (ko (n:=5) E.2 bH2).mono ?_;rintro e wS1 ⟨y,ch,aa,a4,rfl,ap,am⟩;replace aa:=aa bH2;clear a4;replace E:=And.intro (E.1.trans am) ap;clear ap am;refine H _ _ E ?_;clear H K;refine jG ?_;refine kw rfl (λK H=>?_);go_simp;refine (ko (n:=6) E.2 bH2).mono ?_;rintro e wS1 ⟨z,bi,bf,a9,rfl,ap,am⟩;replace bf:=bf bH2;clear a9;replace E:=And.intro (E.1.trans am) ap;clear ap am;have hw:Ak.wrap (1 + z)=1 + z:=Bv _ bH3;refine H _ _ E ?_;clear H K;refine jG ?_;refine ky ?_;refine ky ?_;refine yG ?_;have hzs:=E.1.size;obtain ⟨R5,N,ah,aj,al,an,ay,a6,ak,ao,az,a7⟩:=xL;go_wp2;refine Ag (v:=.agg #[.slice (some ⟨w3.heap.size,0,none⟩) 1 1,Qn x,Qn y,.int .i64 (1 + z)]) gP rfl ⟨_,_,[({ data:=#[97] }:ByteArray)],x,y,1 + z,rfl,?_,⟨by decide,λp hp=>by rw [Bi.1 hp];decide⟩,by omega,by omega,by omega,ah.touch sT4 bH3 bD5,N.jJ sT4 bH3⟩;exact (((aj.out.touch sT4 vQ).own bH2).wide fA)
 have cw:¬ (n:Int)=0:=bH3
 go_upto_region 4 with fail
 clear ag
 have FX:=yD (λ(W:Aq) (hW:Touch (λk=>k=p) w3 W/\yS w0 W p)=>kE (hW.1.kC B bH3) (j:=0) (v:=.slice a n c) rfl)
 refine jc (λW=>Touch (λk=>k=p) w3 W/\yS w0 W p) [(0,true),(1,true),(3,true),(5,true),(2,false),(4,false),(6,false),(7,true),(8,true)] bG6 bG6 qY (⟨Touch.of_below bR.drew,hc.below bR.drew⟩) ?_
 intro wS E
 simp only [jB,Br,List.length_nil,Az,Ba,List.map_cons,List.map_nil,Bt,Ac,Bg,Bd]
 iterate 4
  refine ky ?_
 refine kw rfl (λK H=>?_);go_simp;refine (ko (n:=9) E.2 bH2).mono ?_;rintro e wS1 ⟨x,au,o,be,rfl,ap,am⟩;replace o:=o bH2;clear be;replace E:=And.intro (E.1.trans am) ap;clear ap am;refine H _ _ E ?_;clear H K
 refine jG ?_
 refine kw rfl (λK H=>?_);go_simp;refine (ko (n:=5) E.2 bH2).mono ?_;rintro e wS1 ⟨y,ch,aa,a4,rfl,ap,am⟩;replace aa:=aa bH2;clear a4;replace E:=And.intro (E.1.trans am) ap;clear ap am;refine H _ _ E ?_;clear H K
 refine jG ?_
 refine kw rfl (λK H=>?_);go_simp;refine (ko (n:=6) E.2 bH2).mono ?_;rintro e wS1 ⟨z,bi,bf,a9,rfl,ap,am⟩;replace bf:=bf bH2;clear a9;replace E:=And.intro (E.1.trans am) ap;clear ap am;have hw:Ak.wrap (1 + z)=1 + z:=Bv _ bH3;refine H _ _ E ?_;clear H K
 refine jG ?_
 refine ky ?_
 refine ky ?_
 refine yG ?_
 have hzs:=E.1.size
 obtain ⟨R5,N,ah,aj,al,an,ay,a6,ak,ao,az,a7⟩:=xL
 go_wp2
 refine Ag (v:=.agg #[.slice a n c,Qn x,Qn y,.int .i64 (1 + z)]) gP rfl ⟨_,_,ps,x,y,1 + z,by rw [bz.out],?_,⟨by omega,b4.out⟩,by omega,by omega,by omega,ah.touch sT4 bH3 bD5,N.jJ sT4 bH3⟩
 rw [<- bz.out]
 exact (((aj.out.touch sT4 vQ).own bD0).wide fE)
def specl7Any_c {w0 w:Aq} {p:Nat} (hc:yS w0 w p) :
    Bu prog 17 #[.pointer (some ⟨p,0,none⟩)] w λe w'=>∃ a c ps n h t,e=.returned (.agg #[Qs a ps c,Qn n,Qn h,Qn t])/\kN.own w' [Qs a ps c] ps (jb w.heap.size w'.heap.size)/\ps.length<=8/\(-1<=n/\n<=1000001/\(n<=8\/1000000<=n))/\(-1<=h/\h<=17)/\(0<=t/\t<=21)/\yS w0 w' p/\Touch (λk=>k=p) w w':=by
 go_enter func17,ntmps17
 obtain ⟨bd,bw⟩:=hc.lt
 go_upto_region 1 with fail
 generalize G:World.alloc w _=w1
 obtain ⟨U,R,bo⟩:=EI
 clear G
 obtain ⟨hc,J⟩:=xQ
 clear U
 go_wp2_with fail
 refine (kKc hc).mono ?_
 rintro e V ⟨a,c,ps,n,h,t,rfl,hO,bp,hn,hh,ht,F,D⟩
 obtain ⟨bv,R,J⟩:=BP
 clear hc D
 have hc:=F
 clear F
 have I:=yD (hO.wide (T:=λj=>w1.heap.size<=j/\j < V.heap.size) (λ_ h=>h))
 clear hO
 go_upto_region 2 with fail
 generalize G:World.alloc V _=w3
 have ad:Qb V w3:=tK
 have B:Qr w3 V.heap.size #[Qs a ps c,Qn n,Qn h,Qn t] 38:=wW
 have bt:V.heap.size + 1<=w3.heap.size:=bF4
 clear G
 obtain ⟨R,I,hc,J⟩:=A9
 clear ad
 go_wp2_with fail
 refine (ko (n:=12) hc bH2).mono ?_
 rintro e w4 ⟨x,au,o,be,rfl,F,D⟩
 have b5:=D.size
 obtain ⟨R,B⟩:=AV
 obtain ⟨I,J⟩:=xK
 clear hc D
 have hc:=F
 clear F
 replace o:=o bH2
 clear be
 obtain ⟨m,rfl⟩:=Int.eq_ofNat_of_zero_le au
 by_cases hm:m=0
 · have N:(m:Int)=0:=bH3;subst hm;go_wp2_with fail;refine (kTg hc).mono ?_;rintro e w5 ⟨a2,c2,qs,rfl,hQ,a8,F,D⟩;have b3:=D.size;obtain ⟨R,B⟩:=AV;obtain ⟨I,J⟩:=xK;clear hc D;have hc:=F;clear F;have HQ:=yD (hQ.wide (T:=λj=>w1.heap.size<=j/\j < w5.heap.size/\j≠V.heap.size) (λj q=>⟨by have:=q.1;omega,q.2,by have:=q.1;omega⟩));clear hQ I;obtain ⟨ag,af,Z,O⟩:=jZ B;obtain ⟨aq,ap,ar,a9⟩:=kAq B;go_upto_region 11 with fail;generalize G:World.setCell w5 _ _=w6;have L:Touch (λk=>k=V.heap.size) w5 w6:=bB2;replace B:Qr w6 V.heap.size #[Qs a2 qs c2,Qn n,Qn h,Qn t] 38:=wZ;have dh:=L.size;clear G;replace R:=L.kC R bH3;obtain ⟨HQ,hc,J⟩:=IQ;clear ag af Z O aq ap ar a9;clear L;have E:=yD (HQ.out.wide (T:=λj=>w1.heap.size<=j/\j < w6.heap.size) (λj q=>⟨q.1,by have:=q.2.1;omega⟩));obtain ⟨ak,ao,az,a7⟩:=jZ R;obtain ⟨ag,af,Z,O⟩:=jZ B;obtain ⟨al,an,ay,a6⟩:=kAq R;go_wp2;refine Ag (v:=.agg #[Qs a2 qs c2,Qn n,Qn h,Qn t]) gK rfl ⟨a2,c2,qs,n,h,t,rfl,?_,by omega,by omega,by omega,by omega,hc.touch sT4 bH3 bD5,J.jJ sT4 bH3⟩;exact (E.out.touch sT4 vQ).wide fE
 have bc:¬ (m:Int)=0:=bH3
 by_cases bm:m=1
 · subst bm;go_wp2_with fail;refine (zn (hc.below (bR.alloc nL _)) (kD.kDz _ [-1,1000000,1000001] bH2 bH2) bH3 bH2 bH2).mono ?_;rintro e w5 ⟨y,aw,b6,rfl,F,D⟩;obtain ⟨D,b3⟩:=AA;obtain ⟨R,B⟩:=AV;obtain ⟨I,J⟩:=xK;clear hc D;have hc:=F;clear F;have cf:-1<=y/\y<=1000001/\(y<=8\/1000000<=y):=bD4;clear aw b6;obtain ⟨ag,af,Z,O⟩:=jZ B;obtain ⟨aq,ap,ar,a9⟩:=kAq B;go_upto_region 11 with fail;generalize G:World.setCell w5 _ _=w6;have L:Touch (λk=>k=V.heap.size) w5 w6:=bB2;replace B:Qr w6 V.heap.size #[Qs a ps c,Qn y,Qn h,Qn t] 38:=wY;have dh:=L.size;clear G;obtain ⟨R,I,hc,J⟩:=C9;clear ag af Z O aq ap ar a9;clear L;obtain ⟨ak,ao,az,a7⟩:=jZ R;obtain ⟨ag,af,Z,O⟩:=jZ B;obtain ⟨al,an,ay,a6⟩:=kAq R;go_wp2;refine Ag (v:=.agg #[Qs a ps c,Qn y,Qn h,Qn t]) gK rfl ⟨a,c,ps,y,h,t,rfl,?_,by omega,by omega,by omega,by omega,hc.touch sT4 bH3 bD5,J.jJ sT4 bH3⟩;exact (I.out.touch sT4 vQ).wide fE
 have ax:¬ (m:Int)=1:=bH3
 by_cases ba:m=2
 · subst ba;go_wp2_with fail;refine (zn (hc.below (bR.alloc nL _)) (kD.kDz _ [-1,16,17] bH2 bH2) bH3 bH2 bH2).mono ?_;rintro e w5 ⟨y,aw,b6,rfl,F,D⟩;obtain ⟨D,b3⟩:=AA;obtain ⟨R,B⟩:=AV;obtain ⟨I,J⟩:=xK;clear hc D;have hc:=F;clear F;have cf:-1<=y/\y<=17:=bD4;clear aw b6;obtain ⟨ag,af,Z,O⟩:=jZ B;obtain ⟨aq,ap,ar,a9⟩:=kAq B;go_upto_region 11 with fail;generalize G:World.setCell w5 _ _=w6;have L:Touch (λk=>k=V.heap.size) w5 w6:=bB2;replace B:Qr w6 V.heap.size #[Qs a ps c,Qn n,Qn y,Qn t] 38:=by rw [<- G];exact kI B 2
   have dh:=L.size;clear G;obtain ⟨R,I,hc,J⟩:=C9;clear ag af Z O aq ap ar a9;clear L;obtain ⟨ak,ao,az,a7⟩:=jZ R;obtain ⟨ag,af,Z,O⟩:=jZ B;obtain ⟨al,an,ay,a6⟩:=kAq R;go_wp2;refine Ag (v:=.agg #[Qs a ps c,Qn n,Qn y,Qn t]) gK rfl ⟨a,c,ps,n,y,t,rfl,?_,by omega,by omega,by omega,by omega,hc.touch sT4 bH3 bD5,J.jJ sT4 bH3⟩;exact (I.out.touch sT4 vQ).wide fE
 have b7:¬ (m:Int)=2:=bH3
 by_cases ac:m=3
 · subst ac;go_wp2_with fail;refine (zn (hc.below (bR.alloc nL _)) (kD.kDz _ [0,20,21] bH2 bH2) bH3 bH2 bH2).mono ?_;rintro e w5 ⟨y,aw,b6,rfl,F,D⟩;obtain ⟨D,b3⟩:=AA;obtain ⟨R,B⟩:=AV;obtain ⟨I,J⟩:=xK;clear hc D;have hc:=F;clear F;have cf:0<=y/\y<=21:=bD4;clear aw b6;obtain ⟨ag,af,Z,O⟩:=jZ B;obtain ⟨aq,ap,ar,a9⟩:=kAq B;go_upto_region 11 with fail;generalize G:World.setCell w5 _ _=w6;have L:Touch (λk=>k=V.heap.size) w5 w6:=bB2;replace B:Qr w6 V.heap.size #[Qs a ps c,Qn n,Qn h,Qn y] 38:=by rw [<- G];exact kI B 3
   have dh:=L.size;clear G;obtain ⟨R,I,hc,J⟩:=C9;clear ag af Z O aq ap ar a9;clear L;obtain ⟨ak,ao,az,a7⟩:=jZ R;obtain ⟨ag,af,Z,O⟩:=jZ B;obtain ⟨al,an,ay,a6⟩:=kAq R;go_wp2;refine Ag (v:=.agg #[Qs a ps c,Qn n,Qn h,Qn y]) gK rfl ⟨a,c,ps,n,h,y,rfl,?_,by omega,by omega,by omega,by omega,hc.touch sT4 bH3 bD5,J.jJ sT4 bH3⟩;exact (I.out.touch sT4 vQ).wide fE
 have bb:¬ (m:Int)=3:=bH3
 obtain ⟨ak,ao,az,a7⟩:=jZ R
 obtain ⟨ag,af,Z,O⟩:=jZ B
 obtain ⟨al,an,ay,a6⟩:=kAq R
 go_wp2
 refine Ag (v:=.agg #[Qs a ps c,Qn n,Qn h,Qn t]) gK rfl ⟨a,c,ps,n,h,t,rfl,?_,by omega,by omega,by omega,by omega,hc.touch sT4 bH3 bD5,J.jJ sT4 bH3⟩
 exact (I.out.touch sT4 vQ).wide fE
def flatint:kD.int.kDf:=kD.yu
def flatbyte:kD.byte.kDf:=kD.kGi
def jCe {w:Aq} {va:Ai} {x:Bb UInt8} (ha:(kD.slice 5 kD.byte).rd w [va] x):Bu prog 156 #[va] w (kBb (kD.slice 5 kD.byte) x w):=by
 obtain ⟨aa,ao,rfl,la⟩:=kD.sl ha.1;have HA:=yD ha;have D:=λ(W:Aq) (a:Option Addr) (n c:Nat)=>Lib.run_eql_slice_nil (P:=prog) W 22 5 a n c 0 0 underlying22;cases aa with
 | none =>
   have hx:x=[]:=by
     cases x with
     | nil=>rfl
     | cons y ys =>
       exact aJ
   subst hx;clear ha;go_enter func156,ntmps156;go_wp2;go_ret;exact ⟨_,rfl,kD.jm,bR⟩
 | some a =>
   have hb:x.length<=16777216:=ha.2.1;clear ha;go_enter func156,ntmps156;have O0:kD.kQ 5 kD.byte (w.alloc (.cells #[] 5)) (.slice (some ⟨w.heap.size,0,none⟩) 0 0) [] (λk=>k=w.heap.size):=kD.yJ (cs:=[]) (xs:=[]) (T:=λ_=>False) bH4 bH4 rfl (λ_ h=>h.elim) rfl;go_wp2_with (at_builtin;refine kD.yT rfl _ _ 22 rfl (r:=kD.byte) (e:=5) underlying22 kFb rfl bH2 bH2 flatbyte (B:=w.heap.size) O0 bH5 bH5 (HA.out.alloc _) sG bH4 bG7 ?_);exact aK
def kDr:kM.kDf:=kD.kTl (kD.yu) (kD.kTl (kD.yu) (kD.yu))
def kRo {w:Aq} {va:Ai} {x:Bb kU} (ha:(kD.slice 91 kM).rd w [va] x):Bu prog 148 #[va] w (kBb (kD.slice 91 kM) x w):=by
 obtain ⟨aa,ao,rfl,la⟩:=kD.sl ha.1;obtain ⟨HA,D⟩:=IW;cases aa with
 | none =>
   have hx:x=[]:=by
     cases x with
     | nil=>rfl
     | cons y ys =>
       exact aJ
   subst hx;clear ha;go_enter func148,ntmps148;go_wp2;go_ret;exact ⟨_,rfl,kD.jm,bR⟩
 | some a =>
   have hb:x.length<=16777216:=ha.2.1;clear ha;go_enter func148,ntmps148;have O0:kD.kQ 91 kM (w.alloc (.cells #[] 91)) (.slice (some ⟨w.heap.size,0,none⟩) 0 0) [] (λk=>k=w.heap.size):=kD.yJ (cs:=[]) (xs:=[]) (T:=λ_=>False) bH4 bH4 rfl (λ_ h=>h.elim) rfl;go_wp2_with (at_builtin;refine kD.yT rfl _ _ 89 rfl (r:=kM) (e:=91) underlying89 yx rfl bH2 bH2 kDr (B:=w.heap.size) O0 bH5 bH5 (HA.out.alloc _) sG bH4 bG7 ?_);exact aK
namespace kD
section
variable {α:Type} {r:kD α} {e:TypeId} {w w':Aq} {v:Ai} {b cap n:Nat} {xs l:Bb α} {i:Nat} {x:α} {S T:Nat->Prop}
def kNf {P:Program} (w:Aq) (J L ty D:TypeId) (g o F H:Nat) (a:Addr) (G I n:Nat) (cur:Array Ai) (t:TypeId) (cs:Bb Ai)
    (hu:P.underlying J=some (.slice D)) (hs:(P.info? D).map (·.size)=some n)
    (hg:w.heap[g]?=some (.cells cur t (0,0))) (hn:cs.length=Nat.min G F * n)
    (hsrc:∀ j v,cs[j]?=some v->w.cell? (a.add j)=some v) (N:o + cs.length<=cur.size) (h1:∀ v∈cs,v.oneCell'=true) :
    (Builtin.copy_ #[J,L] ty #[.slice (some ⟨g,o,none⟩) F H,.slice (some a) G I]).run P w =
      .ok (goInt (Nat.min G F)) (w.setRow g (cur.toList.take o++cs++cur.toList.drop (o + cs.length)).toArray):=by
 have hl:=run_loadCells_list (P:=P) w a cs hsrc
 have E:=run_storeCells_at P g o t cs 0 cur w hg (by simpa using N) h1
 cases hq:P.info? D with
 | none=>simp [hq] at hs
 | some i =>
   have hi:i.size=n:=by simpa [hq] using hs
   simp [Builtin.copy_,run_underlying hu,Builtin.lenOf,Bj,sizeOf,typeInfo,hq,hi,<- hn,hl,E]
def row_ins (hf:r.kDf) {cells cx:Bb Ai} (h:row r true w cells l S) (hi:i<=l.length) (hx:r.is true w cx x T) :
    row r true w' (cells.take (i * r.n)++(cx++cells.drop (i * r.n))) (l.take i++x :: l.drop i) (λ_=>False):=by
 have hl:l=l.take i++l.drop i:=(List.take_append_drop i l).symm
 rw [hl] at h
 obtain ⟨d1,d2,A,B,rfl,r1,r2,hA,hB,hd⟩:=kGz (l.take i) h
 have hlen:d1.length=i * r.n:=by rw [zH r1,Ah];congr 1;omega
 rw [Aa bH3,Al bH3,Ae bH3,List.drop_of_length_le bH3,Ac]
 refine zx (kJm hf r1) ?_ (λ_ h=>h) (λ_ h=>h) (λ_ _ h _=>h)
 exact ⟨cx,d2,_,_,rfl,hf hx,kJm hf r2,λ_ h=>h,λ_ h=>h,λ_ _ h _=>h⟩
def ins_list {cells cx tl:Bb Ai} {k m:Nat} (hk:k<=cells.length) (hm:cx.length=m) (ht:m<=tl.length) :
    let X:=cells++tl
    let Y:=X.take (k + m)++cells.drop k++X.drop (k + m + (cells.length - k))
    Y.take k++cx++Y.drop (k + m)=(cells.take k++(cx++cells.drop k))++tl.drop m:=by
 intro X Y
 have E:(X.take (k + m)).length=k + m:=by simp [X];omega
 have D:Y.take k=cells.take k:=by
  show (X.take (k + m)++cells.drop k++X.drop (k + m + (cells.length - k))).take k=_;rw [Am,Aa bH3,List.take_take,Nat.min_eq_left bH3];show (cells++tl).take k=_;rw [Aa hk]
 have o:Y.drop (k + m)=cells.drop k++tl.drop m:=by
  show (X.take (k + m)++cells.drop k++X.drop (k + m + (cells.length - k))).drop (k + m)=_;rw [Am,Ae bH3,List.drop_of_length_le bH3,Ac];congr 1;show (cells++tl).drop _=_;rw [List.drop_append];rw [List.drop_of_length_le bH3,Ac];congr 1;omega
 rw [D,o];simp
def ins_new {A cx B tl:Bb Ai} {k m n:Nat} (hk:A.length=k) (hm:cx.length=m) (hB:B.length=n) {Z:Bb Ai} (hz:Z.length=m + n) :
    let X:=A++Z++tl
    let Y:=X.take k++cx++X.drop (k + m)
    Y.take (k + m)++B++Y.drop (k + m + n)=(A++(cx++B))++tl:=by
 intro X Y
 have hX:X.take k=A:=by show (A++Z++tl).take k=_;rw [Am,Aa bH3,Al bH3]
 have o:X.drop (k + m)=Z.drop m++tl:=by
  show (A++Z++tl).drop (k + m)=_;rw [Am,List.drop_append,List.drop_of_length_le bH3,Ac,show k + m - A.length=m by omega,Ae bH3]
 have hY:Y=A++cx++(Z.drop m++tl):=by show X.take k++cx++X.drop (k + m)=_;rw [hX,o]
 rw [hY,Aa bG7,Al bG7,List.drop_append,List.drop_of_length_le bG7,Ac,List.drop_append,List.drop_of_length_le bG7,Ac]
 rw [show k + m + n - (A++cx).length - (Z.drop m).length=0 by simp;omega,Bd]
 simp
def own0_at (hb:∀ y∈xs,r.bdd Big y) {cs tl:Bb Ai} (hn:n=xs.length) (hc:n<=cap) (hm:cap<=maxLen) (hh:w.heap[b]?=some (.cells (cs++tl).toArray e (0,0))) (hs:(cs++tl).length=cap * r.n) (hS:S b) (hr:row r true w cs xs (λ_=>False)) :
    kQ e r w (.slice (some ⟨b,0,none⟩) n cap) xs S:=by
 subst hn
 exact ⟨hb,.inr ⟨b,cap,_,cs,tl,rfl,hc,hm,hh,by simp,by simpa using hs,hS,yL hr (λ_ h=>h.elim)⟩⟩
def mem_ins {P:α->Prop} (h:∀ y∈l,P y) (hx:P x):∀ y∈l.take i++x :: l.drop i,P y:=by
 intro y hy;rcases List.mem_append.1 hy with q | q
 · exact h y (List.mem_of_mem_take q)
 rcases List.mem_cons.1 q with q | q
 · rw [q];exact hx
 exact h y (Ar q)
def len_ins {i:Nat}:(l.take i++x :: l.drop i).length=l.length + 1:=by simp;omega
end
end kD
def kMy {w:Aq} {v:Ai} {l:Bb kU} {i J:Nat} {cx:Bb Ai} {x:kU} {S:Nat->Prop} (hl:kD.kQ 91 kM w v l S) (hlen:l.length<=16777216) (N:w.heap[J]?=some (.cells cx.toArray 91 (0,0))) (ak:¬ S J) (hx:kM.is true w cx x (λ_=>False)) (aa:kM.bdd Big x) (hi:i=l.length) :
    Bu prog 89 #[v,.int .i64 i,.slice (some ⟨J,0,none⟩) 1 1] w λe w'=>∃ v',e=.returned v'/\kD.kQ 91 kM w' v' (l.take i++x :: l.drop i) (λk=>S k\/(w.heap.size<=k/\k < w'.heap.size))/\Touch S w w':=by
 obtain ⟨a,cap,hv⟩:=hl.yw
 have I:=yD hl
 have o:Hid (kD.Src w (.slice (some ⟨J,0,none⟩) 1 1) 1 cx):=yD (.inr ⟨_,1,rfl,λj u hj=>by
   rw [Addr.add_lit,Nat.zero_add,Au w J _ _ 91 (0,0) N];simpa using hj⟩)
 have F:Hid (kD.row kM true w cx [x] (λ_=>False)):=yD ⟨cx,[],_,_,by simp,hx,rfl,λ_ h=>h,λ_ h=>h,λ_ _ h _=>h⟩
 have HR:=yD N
 have HX:=yD hx
 subst hi
 have HB:=yD aa
 have HE:Hid (l.take l.length++x :: l.drop l.length=l++[x]):=yD bH4
 obtain ⟨R,E,bi,b8,ac⟩:=Bc yx
 clear hl N hx aa
 subst hv
 go_enter func89,ntmps89
 go_wp2_with (at_builtin;refine kD.kSz rfl _ _ 89 rfl (r:=kM) (e:=91) (ys:=[x]) (T:=λ_=>False) (m:=1) (cells:=cx) underlying89 E bi b8 rfl bH2 bH3 I.out rfl rfl o.out F.out rfl (λ_ _ h=>h) (by intro y hy;simp only [Bi] at hy;rw [hy];exact HB.out) bG7 ?_)
 all_goals
   intro v' V H af
   obtain ⟨va,vn,vc,aw,D⟩:=H.parts;obtain rfl:=aw
   go_wp2
   go_ret
   refine ⟨_,rfl,H.cast HE.out.symm,⟨af.os,af.tape,af.output,af.size,λk hk q=>af.block k hk (λa=>q a.2)⟩⟩
def kKz {w:Aq} {b cap:Nat} {l:Bb kU} {i J:Nat} {cx:Bb Ai} {x:kU} {S:Nat->Prop} (hl:kD.kQ 91 kM w (.slice (some ⟨b,0,none⟩) l.length cap) l S) (hlen:l.length<=16777216) (N:w.heap[J]?=some (.cells cx.toArray 91 (0,0))) (ak:¬ S J) (hx:kM.is true w cx x (λ_=>False)) (aa:kM.bdd Big x) (hi:i < l.length) (o:l.length + 1<=cap) :
    Bu prog 89 #[.slice (some ⟨b,0,none⟩) l.length cap,.int .i64 i,.slice (some ⟨J,0,none⟩) 1 1] w λe w'=>∃ v',e=.returned v'/\kD.kQ 91 kM w' v' (l.take i++x :: l.drop i) (λk=>S k\/(w.heap.size<=k/\k < w'.heap.size))/\Touch S w w':=by
 obtain ⟨b7,h⟩:=hl
 rcases h with ⟨⟨a,h0⟩,h1⟩|⟨b',cap',cur,cs,tl,h0,h1,h2,h3,h4,h5,h6,h7⟩
 · rw [h1] at hi;simp at hi
 simp only [Aw,Bo,Bw,and_true,true_and] at h0
 obtain ⟨rfl,rfl⟩:=h0
 obtain rfl:cur=(cs++tl).toArray:=bH1
 have aw:kM.n=3:=rfl
 have F:=kD.zH h7
 have ao:=kD.row_one h7
 have bg:=kM.len hx
 have a2:=kM.one hx
 rw [aw] at F bg h5
 obtain ⟨a1,bq,a3,I,ax⟩:=BR
 have U:(prog.info? 91).map (·.size)=some 3:=by
  obtain ⟨R,E,bi,b8,ac⟩:=Bc yx;rw [E];simp [b8]
 have az:∀ j u,cs[j]?=some u->Qc w b j u:=λj u hj=>by
   exact lF
 have bb:∀ j u,cx[j]?=some u->Qc w J j u:=λj u hj=>by
   rw [Au w J j _ 91 (0,0) N];simpa using hj
 have G:∀ lb cb,(callFunc 159 #[.slice (some ⟨J,0,none⟩) 1 1,.slice (some ⟨b,(i + 1) * 3,none⟩) lb cb]).run prog w=.ok (.value (.bool false)) w:=λlb cb=>by
   rw [run_callFunc_extern func159 bG6 bG6 bG6 (e:=Extern.SlicesOverlaps.overlaps #[89,89] #[4]) bG6,
     Lib.run_overlaps_apart w 89 4 91 underlying89 3 (λW=>by
       obtain ⟨R,E,bi,b8,ac⟩:=Bc yx;simp [sizeOf,typeInfo,E,b8]) ⟨J,0,none⟩ ⟨b,(i + 1) * 3,none⟩ 1 1 lb cb (λq=>a1 q.symm) 91 91 3 (cap * 3) (by simp [World.shape?,N,bg]) (by simp only [World.shape?,h3];simp [h5]) bH3 (frozen_of_row w J _ _ _ N) (frozen_of_row w J _ _ _ N)]
   rfl
 have al:(cs.drop (i * 3)).length=(l.length - i) * 3:=by rw [Ad,F];omega
 have V:Nat.min (l.length + 1 - i) (l.length - i)=l.length - i:=qL
 have Y:Nat.min 1 (l.length + 1 - i)=1:=qL
 obtain ⟨R1,ae⟩:∃ R1:Bb Ai,R1=(cs++tl).take (i * 3 + 3)++cs.drop (i * 3)++(cs++tl).drop (i * 3 + 3 + (cs.length - i * 3)):=⟨_,rfl⟩
 have ag:R1.take (i * 3)++cx++R1.drop (i * 3 + 3)=(cs.take (i * 3)++(cx++cs.drop (i * 3)))++tl.drop 3:=by
  rw [ae];exact kD.ins_list bH3 bg bH3
 have au:R1.length=cap * 3:=by
  rw [ae];simp only [Aj,Ah,Ad];omega
 have aq:∀ ty dc sc,(Builtin.copy_ #[89,89] ty #[.slice (some ⟨b,(i + 1) * 3,none⟩) (l.length - i) dc,.slice (some ⟨b,i * 3,none⟩) (l.length + 1 - i) sc]).run prog w.drew=.ok (goInt ((l.length - i:Nat):Int)) (w.drew.setRow b R1.toArray):=λty dc sc=>by
   have q:=kD.kNf (P:=prog) w.drew 89 89 ty 91 b (i * 3 + 3) (l.length - i) dc ⟨b,i * 3,none⟩ (l.length + 1 - i) sc 3 _ 91 (cs.drop (i * 3)) underlying89 U h3 (by rw [V];exact al)
     (λj u hj=>by rw [Addr.add_lit];exact az (i * 3 + j) u (by rwa [Bl] at hj)) gZ (λu hu=>ao u (Ar hu))
   rw [V,Ad] at q;rw [show (i + 1) * 3=i * 3 + 3 by omega,ae];exact q
 have hz:(w.drew.setRow b R1.toArray).heap[b]?=some (.cells R1.toArray 91 (0,0)):=Ay w.drew b _ R1.toArray 91 (0,0) h3
 have an:∀ ty dc,(Builtin.copy_ #[89,89] ty #[.slice (some ⟨b,i * 3,none⟩) (l.length + 1 - i) dc,.slice (some ⟨J,0,none⟩) 1 1]).run prog (w.drew.setRow b R1.toArray)=.ok (goInt ((1:Nat):Int)) ((w.drew.setRow b R1.toArray).setRow b ((cs.take (i * 3)++(cx++cs.drop (i * 3)))++tl.drop 3).toArray):=λty dc=>by
   have q:=kD.kNf (P:=prog) (w.drew.setRow b R1.toArray) 89 89 ty 91 b (i * 3) (l.length + 1 - i) dc ⟨J,0,none⟩ 1 1 3 _ 91 cx underlying89 U hz (by rw [Y,bg])
     (λj u hj=>by
       rw [Addr.add_lit,Nat.zero_add,Au _ J j _ 91 (0,0) ((Ap w.drew b J _ (λq=>a1 q.symm)).trans N)];simpa using hj) (by simp only [Bp];omega) a2
   rw [Y,bg] at q;rw [<- ag];exact q
 have ai:kD.kQ 91 kM ((w.drew.setRow b R1.toArray).setRow b ((cs.take (i * 3)++(cx++cs.drop (i * 3)))++tl.drop 3).toArray) (.slice (some ⟨b,0,none⟩) (l.length + 1) cap) (l.take i++x :: l.drop i) (λk=>S k\/(w.heap.size<=k/\k < ((w.drew.setRow b R1.toArray).setRow b ((cs.take (i * 3)++(cx++cs.drop (i * 3)))++tl.drop 3).toArray).heap.size)):=by
  refine kD.own0_at ax.out kD.len_ins.symm o h2 (Ay _ b _ _ 91 (0,0) hz) ?_ (.inl h6) (I.out _);simp only [Aj,Ah,Ad];rw [aw];omega
 have HE:=yD ai
 have L:Hid (Touch S w ((w.drew.setRow b R1.toArray).setRow b ((cs.take (i * 3)++(cx++cs.drop (i * 3)))++tl.drop 3).toArray)):=yD ⟨rfl,rfl,rfl,by simp,λk hk q=>by
   have ck:k≠b:=λhq=>q (hq ▸ h6);rw [Ap _ b k _ ck,Ap _ b k _ ck];rfl⟩
 generalize ah:w.drew.setRow b R1.toArray=W1 at *
 generalize Z:W1.setRow b _=D at *
 have hil:i<=l.length:=Nat.le_of_lt hi
 have bf:¬ ((i:Int)=(l.length:Int)):=bH3
 have c8:Ak.wrap ((i:Int) + 1)=(i:Int) + 1:=tY
 have H:Ak.wrap ((l.length:Int) + 1)=(l.length:Int) + 1:=tY
 have ba:prog.follows Departure.mixedOrders=true:=bG6
 have O:(0:Int)<=(i:Int) + 1:=bH3
 have am:((i:Int) + 1).toNat=i + 1:=bH3
 have af:¬ (cap=i + 1):=bH3
 obtain ⟨ap,ad,bh,av,X⟩:=IU
 clear h7 h5 h3 az bb N hx a2 ao I ai ax ag hz ae au
 go_enter func89,ntmps89
 go_wp2_with (simp only [G])
 go_region_law_o (refine step_copy_runI rfl _ _ 89 89 rfl _ _ vX vX (aq _ _ _) ?_)
 go_wp2_with (at_builtin;refine wpList_copy_runI _ rfl _ _ 89 89 rfl _ _ rfl rfl (an _ _) ?_)
 go_ret
 exact ⟨_,rfl,HE.out,L.out⟩
def kLq {w:Aq} {b cap:Nat} {l:Bb kU} {i J:Nat} {cx:Bb Ai} {x:kU} {S:Nat->Prop} (hl:kD.kQ 91 kM w (.slice (some ⟨b,0,none⟩) l.length cap) l S) (hlen:l.length<=16777216) (N:w.heap[J]?=some (.cells cx.toArray 91 (0,0))) (ak:¬ S J) (hx:kM.is true w cx x (λ_=>False)) (aa:kM.bdd Big x) (hi:i < l.length) (o:cap < l.length + 1) :
    Bu prog 89 #[.slice (some ⟨b,0,none⟩) l.length cap,.int .i64 i,.slice (some ⟨J,0,none⟩) 1 1] w λe w'=>∃ v',e=.returned v'/\kD.kQ 91 kM w' v' (l.take i++x :: l.drop i) (λk=>S k\/(w.heap.size<=k/\k < w'.heap.size))/\Touch S w w':=by
 obtain ⟨b7,h⟩:=hl
 rcases h with ⟨⟨a,h0⟩,h1⟩|⟨b',cap',cur,cs,tl,h0,h1,h2,h3,h4,h5,h6,h7⟩
 · rw [h1] at hi;simp at hi
 simp only [Aw,Bo,Bw,and_true,true_and] at h0
 obtain ⟨rfl,rfl⟩:=h0
 obtain rfl:cur=(cs++tl).toArray:=bH1
 have aw:kM.n=3:=rfl
 have F:=kD.zH h7
 have ao:=kD.row_one h7
 have bg:=kM.len hx
 have a2:=kM.one hx
 rw [aw] at F bg h5
 obtain ⟨a1,bq,a3,I,ax⟩:=BR
 have U:(prog.info? 91).map (·.size)=some 3:=by
  obtain ⟨R,E,bi,b8,ac⟩:=Bc yx;rw [E];simp [b8]
 have az:∀ j u,cs[j]?=some u->Qc w b j u:=λj u hj=>by
   exact lF
 have bb:∀ j u,cx[j]?=some u->Qc w J j u:=λj u hj=>by
   rw [Au w J j _ 91 (0,0) N];simpa using hj
 have be:l.length<=cap:=h1
 obtain ⟨R,E,bi,b8,ac⟩:=Bc yx
 have ab:b < w.heap.size:=(Av.1 h3).1
 have bp:J < w.heap.size:=(Av.1 N).1
 have al:(cs.drop (i * 3)).length=(l.length - i) * 3:=by rw [Ad,F];omega
 have ah:(cs.take (i * 3)).length=i * 3:=tZ
 obtain ⟨D,a4⟩:∃ D:Ai,R.zero=some D/\D.cells.size=3:=⟨_,bi,rfl⟩
 have a7:(Bj R.size i (.slice (some ⟨b,0,none⟩) i cap)).run prog w.drew=.ok (cs.take (i * 3)).toArray w.drew:=by
  rw [b8];exact run_firstCells_some w.drew 3 i ⟨b,0,none⟩ i cap (cs.take (i * 3)) ah (λj u hj=>by
    rw [Addr.add_lit,Nat.zero_add];rw [List.getElem?_take] at hj;split at hj
    · exact az j u hj
    · cases hj)
 have bl:i + (l.length + 1 - i)=l.length + 1:=bH3
 have bt:∀ ty,(Builtin.append_ #[89,3] ty #[.slice (some ⟨b,0,none⟩) i cap,.int .i64 ((l.length:Int) + 1 - (i:Int))]).run prog w =
     .ok (.slice (some ⟨w.heap.size,0,none⟩) (l.length + 1) (Bq w (l.length + 1) cap 91)) (w.drew.alloc (.cells ((cs.take (i * 3)).toArray++Ab D.cells (l.length + 1 - i)++Ab D.cells (Bq w (l.length + 1) cap 91 - (l.length + 1))) 91)):=λty=>by
   have h:=Lib.run_append_grow_zeros (P:=prog) w 89 3 ty 91 R D .i64 .i64 underlying89 underlying3 E a4.1 (some ⟨b,0,none⟩) i cap (cs.take (i * 3)) a7 (l.length + 1 - i) bH3 bH3 bH3 bH3 (by rw [ac];omega) (by rw [ac,bl];exact growslice_fits o bH3)
   rw [bl] at h
   rw [show ((l.length:Int) + 1 - (i:Int))=((l.length + 1 - i:Nat):Int) by omega]
   exact h
 have bm:l.length + 1<=Bq w (l.length + 1) cap 91:=grownCap_ge w _ _ _
 have a6:Bq w (l.length + 1) cap 91<=maxLen:=grownCap_le_maxLen w (l.length + 1) cap 91 bA9
 generalize Bq w (l.length + 1) cap 91=G at *
 obtain ⟨Z,hZ,bo⟩:∃ Z:Bb Ai,Ab D.cells (l.length + 1 - i)=Z.toArray/\Z.length=3 + (l.length - i) * 3:=⟨(Ab D.cells (l.length + 1 - i)).toList,by simp,by
   rw [Bh,size_zeroCells,a4.2];omega⟩
 obtain ⟨TL,bk,bx⟩:∃ TL:Bb Ai,Ab D.cells (G - (l.length + 1))=TL.toArray/\TL.length=(G - (l.length + 1)) * 3:=⟨(Ab D.cells (G - (l.length + 1))).toList,by simp,by
   rw [Bh,size_zeroCells,a4.2]⟩
 have af:(cs.take (i * 3)).toArray++Ab D.cells (l.length + 1 - i)++Ab D.cells (G - (l.length + 1))=(cs.take (i * 3)++Z++TL).toArray:=by rw [hZ,bk];simp
 rw [af] at bt
 clear af hZ bk a7
 obtain ⟨R1,ae⟩:∃ R1:Bb Ai,R1=(cs.take (i * 3)++Z++TL).take (i * 3)++cx++(cs.take (i * 3)++Z++TL).drop (i * 3 + 3):=⟨_,rfl⟩
 have ag:R1.take (i * 3 + 3)++cs.drop (i * 3)++R1.drop (i * 3 + 3 + (l.length - i) * 3)=(cs.take (i * 3)++(cx++cs.drop (i * 3)))++TL:=by
  rw [ae];exact kD.ins_new ah bg al bo
 have au:R1.length=G * 3:=by
  rw [ae];simp only [Aj,Ah,Ad];omega
 have Y:Nat.min 1 (l.length + 1 - i)=1:=qL
 have V:Nat.min (l.length - i) (l.length - i)=l.length - i:=Nat.min_self _
 have aq:∀ (W:Aq),W.heap=(w.drew.alloc (.cells (cs.take (i * 3)++Z++TL).toArray 91)).heap->∀ ty dc,(Builtin.copy_ #[89,89] ty #[.slice (some ⟨w.heap.size,i * 3,none⟩) (l.length + 1 - i) dc,.slice (some ⟨J,0,none⟩) 1 1]).run prog W=.ok (goInt ((1:Nat):Int)) (W.setRow w.heap.size R1.toArray):=λW hW ty dc=>by
   have q:=kD.kNf (P:=prog) W 89 89 ty 91 w.heap.size (i * 3) (l.length + 1 - i) dc ⟨J,0,none⟩ 1 1 3 (cs.take (i * 3)++Z++TL).toArray 91 cx underlying89 U (by rw [hW];exact Be w.drew _) (by rw [Y,bg])
     (λj u hj=>by
       rw [Addr.add_lit,Nat.zero_add,Au W J j _ 91 (0,0) (by rw [hW];exact (Bf w.drew _ bp).trans N)];simpa using hj) gZ a2
   rw [Y,bg] at q;rw [ae];exact q
 have an:∀ (W:Aq),W.heap=((w.drew.alloc (.cells (cs.take (i * 3)++Z++TL).toArray 91)).setRow w.heap.size R1.toArray).heap->∀ ty dc sc,(Builtin.copy_ #[89,89] ty #[.slice (some ⟨w.heap.size,(i + 1) * 3,none⟩) (l.length - i) dc,.slice (some ⟨b,i * 3,none⟩) (l.length - i) sc]).run prog W=.ok (goInt ((l.length - i:Nat):Int)) (W.setRow w.heap.size ((cs.take (i * 3)++(cx++cs.drop (i * 3)))++TL).toArray):=λW hW ty dc sc=>by
   have q:=kD.kNf (P:=prog) W 89 89 ty 91 w.heap.size (i * 3 + 3) (l.length - i) dc ⟨b,i * 3,none⟩ (l.length - i) sc 3 R1.toArray 91 (cs.drop (i * 3)) underlying89 U (by rw [hW];exact Ay _ w.heap.size _ _ 91 (0,0) (Be w.drew _)) (by rw [V];exact al)
     (λj u hj=>by
       rw [Addr.add_lit,Au W b _ _ 91 (0,0) (by rw [hW];exact ((Ap _ w.heap.size b _ bH3).trans (Bf w.drew _ ab)).trans h3)];have hq:cs[i * 3 + j]?=some u:=by rwa [Bl] at hj
       simp only [List.getElem?_toArray];rw [List.getElem?_append_left (List.getElem?_eq_some_iff.1 hq).1];exact hq) (by simp only [Bp];omega) (λu hu=>ao u (Ar hu))
   rw [V,al] at q;rw [show (i + 1) * 3=i * 3 + 3 by omega];rw [<- ag];exact q
 have ai:∀ (W:Aq),W.heap=(((w.drew.alloc (.cells (cs.take (i * 3)++Z++TL).toArray 91)).setRow w.heap.size R1.toArray).setRow w.heap.size ((cs.take (i * 3)++(cx++cs.drop (i * 3)))++TL).toArray).heap->kD.kQ 91 kM W (.slice (some ⟨w.heap.size,0,none⟩) (l.length + 1) G) (l.take i++x :: l.drop i) (λk=>S k\/(w.heap.size<=k/\k < W.heap.size)):=λW hW=>by
   refine kD.own0_at ax.out kD.len_ins.symm bm a6 (by rw [hW];exact Ay _ w.heap.size _ _ 91 (0,0) (Ay _ w.heap.size _ _ 91 (0,0) (Be w.drew _))) ?_ (.inr ⟨Nat.le_refl _,by rw [hW];simp⟩) (I.out _);simp only [Aj,Ah,Ad];rw [aw];omega
 have a5:∀ (W:Aq),W.heap=(((w.drew.alloc (.cells (cs.take (i * 3)++Z++TL).toArray 91)).setRow w.heap.size R1.toArray).setRow w.heap.size ((cs.take (i * 3)++(cx++cs.drop (i * 3)))++TL).toArray).heap->W.os=w.os->W.tape=w.tape->W.output=w.output->Touch S w W:=λW hW h1 h2 h3=>⟨h1,h2,h3,by rw [hW];simp,λk hk q=>by
   rw [hW,Ap _ _ k _ bH3,Ap _ _ k _ bH3];exact Bf w.drew _ hk⟩
 have HE:=yD ai
 have L:=yD a5
 clear ai a5 ag
 generalize bd:(cs.take (i * 3)++Z++TL).toArray=bj at *
 generalize a8:((cs.take (i * 3)++(cx++cs.drop (i * 3)))++TL).toArray=bv at *
 generalize bn:R1.toArray=RR at *
 have bw:G<=9223372036854775807:=a6
 have bc:=aq ((w.alloc (.cells bj 91)).drew) rfl
 have a9:=an (((w.alloc (.cells bj 91)).drew.setRow w.heap.size RR).drew) rfl
 have bz:¬ (G=i):=bH3
 have br:¬ (G=i + 1):=bH3
 have bu:i<=G:=bH3
 have hil:i<=l.length:=Nat.le_of_lt hi
 have bf:¬ ((i:Int)=(l.length:Int)):=bH3
 have ay:(cap:Int) < (l.length:Int) + 1:=bH3
 have c8:Ak.wrap ((i:Int) + 1)=(i:Int) + 1:=tY
 have H:Ak.wrap ((l.length:Int) + 1)=(l.length:Int) + 1:=tY
 have cd:Ak.wrap ((l.length:Int) + 1 - (i:Int))=(l.length:Int) + 1 - (i:Int):=tY
 have ba:prog.follows Departure.mixedOrders=true:=bG6
 have O:(0:Int)<=(i:Int) + 1:=bH3
 have am:((i:Int) + 1).toNat=i + 1:=bH3
 obtain ⟨ap,ad,bh,av,X⟩:=IU
 have ar:(i:Int)<=(cap:Int):=bH3
 have b0:i<=cap:=bH3
 clear h7 h5 h3 az bb N hx a2 ao I ax ae au bd a8 bn a4 E bi b8 ac U
 go_enter func89,ntmps89
 go_wp2_with (first
   | (at_builtin;refine Lib.wpList_append_run _ rfl _ _ _ _ rfl _ _ rfl rfl _ _ (bt _) ?_)
   | (simp only [bc]))
 go_region_law_o (refine step_copy_runI rfl _ _ 89 89 rfl _ _ vX vX (a9 _ _ _) ?_)
 go_wp2
 go_ret
 exact ⟨_,rfl,HE.out _ rfl,L.out _ rfl rfl rfl rfl⟩
def kHv {w:Aq} {v:Ai} {l:Bb kU} {i J:Nat} {cx:Bb Ai} {x:kU} {S:Nat->Prop} (hl:kD.kQ 91 kM w v l S) (hlen:l.length<=16777216) (N:w.heap[J]?=some (.cells cx.toArray 91 (0,0))) (ak:¬ S J) (hx:kM.is true w cx x (λ_=>False)) (aa:kM.bdd Big x) (hi:i<=l.length) :
    Bu prog 89 #[v,.int .i64 i,.slice (some ⟨J,0,none⟩) 1 1] w λe w'=>∃ v',e=.returned v'/\kD.kQ 91 kM w' v' (l.take i++x :: l.drop i) (λk=>S k\/(w.heap.size<=k/\k < w'.heap.size))/\Touch S w w':=by
 by_cases he:i=l.length
 · exact kMy hl hlen N ak hx aa he
 obtain ⟨b,cap,rfl,h1,h2,h3,h4⟩:=kD.zy hl (i:=i) bH3
 by_cases hr:l.length + 1<=cap
 · exact kKz hl hlen N ak hx aa bH3 hr
 exact kLq hl hlen N ak hx aa bH3 bH3
end Go.Proofs.YtjhfdpopkkmigabGreat

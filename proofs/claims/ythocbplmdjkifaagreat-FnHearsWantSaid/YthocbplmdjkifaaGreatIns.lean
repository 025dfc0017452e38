/-
  slices.Insert over an owned slice of flat data.
-/
import Derived.Test.YthocbplmdjkifaaGreatDrawM
set_option linter.unusedVariables false
set_option linter.defProp false
set_option linter.unusedSimpArgs false
set_option linter.unnecessarySimpa false
set_option maxRecDepth 100000
set_option maxHeartbeats 4000000
open List renaming take_append_of_le_length->Aa,nil_append->Ac,length_drop->Ad,drop_append_of_le_length->Ag,length_take->Ai,length_append->Ak,take_of_length_le->Am,append_assoc->Ap,mem_of_mem_drop->Av,getElem?_cons_succ->Bb,getElem?_cons_zero->Bc,drop_zero->Bg,drop_succ_cons->Bj,mem_singleton->Bn,getElem?_drop->Bq,size_toArray->Bt,length_cons->Bv,cons_append->Bw
open Go.Builtin renaming zeroCells->Ab,firstCells->Bo
open Go.Proofs.Tryz renaming underlying103->Ae
open Go renaming bodyPost_ret->Ah,Value->Aj,setRow_other->Ar,World->Au,cell_of_row->Aw,setRow_heap->Ba,info_parts->Be,heap_alloc_new->Bh,heap_alloc_old->Bi,grownCap->Bu,Calls->Bz
open Go.IntKind renaming i64->Al
open Go.Addr renaming add_lit->Aq
open Array renaming getElem?_eq_some_iff->Ay,length_toList->Bl
open Go.Value.slice renaming injEq->Az
open _root_ renaming List->Bd
open Go.Departure renaming mixedOrders->Bf
open Option.some renaming injEq->Br
open Go.IntWalk renaming i64_in->Ca
open Go.Addr.mk renaming injEq->Cb
namespace Go.Proofs.YthocbplmdjkifaaGreat
open Go.RowKit _root_.Go.Proofs.Tryz
def jGa {w:Au} {v:Aj} {ps:ko} {n h t:Int} {S:Nat->Prop} (k:(kD.slice 9 kD.str).own w [v] ps S) (hn:-1<=n/\n<=1000001) (hh:-1<=h/\h<=17) (ht:0<=t/\t<=21):jM.own w [v,Qn n,Qn h,Qn t] (ps,n,h,t) S :=
  kD.yQ (r:=kR) (cs:=[v]) (ds:=[.int .i64 n,.int .i64 h,.int .i64 t]) k (kD.jl (cs:=[.int .i64 n]) (kD.ky bF2) (kD.jl (cs:=[.int .i64 h]) (kD.ky bF2) (kD.ky bF2)))
def kHs {w0 w:Au} {p:Nat} (hc:ym w0 w p) :
    Bz prog 93 #[.pointer (some ⟨p,0,none⟩)] w λe w'=>∃ a c ps n h t,e=.returned (.agg (Qk a ps c n h t))/\kR.own w' [Qs a ps c] ps (jg w w')/\(ps.length<=8/\zO ps)/\(-1<=n/\n<=8)/\(-1<=h/\h<=17)/\(0<=t/\t<=21)/\ym w0 w' p/\Touch (λk=>k=p) w w':=by
 go_enter func93,ntmps93
 obtain ⟨bh,br⟩:=hc.lt
 go_upto_region 1 with fail
 refine ja ?_
 intro w1 ar R bj
 obtain ⟨hc,O⟩:=uZ
 clear ar
 go_wp2_with fail
 refine (kMd hc).mono ?_
 rintro e w2 ⟨a,n,c,ps,rfl,hO,bu,N,F,D⟩
 obtain ⟨bw,R,O⟩:=y8
 clear hc D
 have hc:=F
 clear F
 have bm:=yD N
 clear N
 have J:=yD (hO.wide (T:=λj=>w1.heap.size<=j/\j < w2.heap.size) (λ_ h=>h))
 clear hO
 go_upto_region 2 with fail
 refine ja ?_
 intro w3 ah B bz
 replace R:=kC R ah
 obtain ⟨J,hc,O⟩:=xC
 clear ah
 have aq:Qd w3 w2 0 (.slice a n c):=kE B rfl
 obtain ⟨_,_,_,bp,bo⟩:=J.out.parts
 simp only [Az] at bp
 have b3:=yD (bp.2.1.trans bo.out)
 clear bp bo
 by_cases hz:n=0
 · subst hz;obtain rfl:ps=[]:=List.eq_nil_of_length_eq_zero b3.out.symm;clear aq;have aq:Qd w3 w2 0 (.slice a 0 c):=kE B rfl;obtain ⟨aw,GB,HB⟩:=A9;go_upto_region 4 with fail;clear GB HB;have ab:=yD (kD.kPm (e:=9) w3 (kD.kGz (s:={ data:=#[97] }) bF1));generalize o:World.alloc w3 _=w4 at ab ⊢;have ce:Qb w3 w4:=tF;have b5:w3.heap.size + 1<=w4.heap.size:=bD6;clear o J;replace R:=kC R ce;replace B:=kC B ce;replace hc:=hc.below ce;replace O:=O.trans (Touch.of_below ce);clear aq aw ce;have J:=yD (kD.kY.wide (T:=λj=>w1.heap.size<=j/\j < w4.heap.size/\j≠w2.heap.size) ab.out rO);clear ab;generalize o:World.setCell w4 _ _=w5;have cg:Touch (λk=>k=w2.heap.size) w4 w5:=wY;replace B:Qr w5 w2 #[.slice (some ⟨w3,0,none⟩) 1 1] 36:=wG;have b4:=cg.size;clear o;replace R:=cg.kC R bF2;replace J:=yD (J.out.touch cg qV);replace hc:=hc.touch cg bF2 bB6;replace O:=O.jJ cg bF2;clear cg;go_upto_region 4 with fail;have FX:=yD (λ(W:Au) (hW:Touch (λk=>k=p) w5 W/\ym w0 W p)=>kE (hW.1.kC B bF2) (j:=0) (v:=.slice (some ⟨w3,0,none⟩) 1 1) rfl);refine je (λW=>Touch (λk=>k=p) w5 W/\ym w0 W p) [(0,true),(1,true),(3,true),(5,true),(2,false),(4,false),(6,false),(7,true),(8,true)] bE5 bE5 qW (⟨Touch.of_below bR.drew,hc.below bR.drew⟩) ?_;intro wS E;simp only [jG,Bv,List.length_nil,Bb,Bc,List.map_cons,List.map_nil,Bw,Ac,Bj,Bg];iterate 4
    refine kS ?_
   refine ku rfl (λK H=>?_);go_simp;refine (kZ (n:=9) E.2 bF1).mono ?_;rintro e wS1 ⟨x,ai,L,bf,rfl,av,ap⟩;replace L:=L bF1;clear bf;replace E:=And.intro (E.1.trans ap) av;clear av ap;refine H _ _ E ?_;clear H K;refine jH ?_;refine ku rfl (λK H=>?_);go_simp;refine (kZ (n:=5) E.2 bF1).mono ?_;rintro e wS1 ⟨y,ao,a4,b7,rfl,av,ap⟩;replace a4:=a4 bF1;clear b7;replace E:=And.intro (E.1.trans ap) av;clear av ap;refine H _ _ E ?_;clear H K;refine jH ?_;refine ku rfl (λK H=>?_);go_simp;refine (kZ (n:=6) E.2 bF1).mono ?_;rintro e wS1 ⟨z,a5,bn,ax,rfl,av,ap⟩;replace bn:=bn bF1;clear ax;replace E:=And.intro (E.1.trans ap) av;clear av ap;have hw:Al.wrap (1 + z)=1 + z:=Ca _ bF2;refine H _ _ E ?_;clear H K;refine jH ?_;refine kS ?_;refine kS ?_;refine yt ?_;have hzs:=E.1.size;obtain ⟨R5,Z,ac,am,ak,al,ay,a7,aj,an,az,a8⟩:=uW;go_wp2;refine Ah (v:=.agg #[.slice (some ⟨w3,0,none⟩) 1 1,Qn x,Qn y,.int .i64 (1 + z)]) gU rfl ⟨_,_,[({ data:=#[97] }:ByteArray)],x,y,1 + z,rfl,?_,⟨by decide,λp hp=>by rw [Bn.1 hp];decide⟩,by omega,by omega,by omega,ac.touch sT4 bF2 bB6,Z.jJ sT4 bF2⟩;exact (((am.out.touch sT4 vK).own bF1).wide fH)
 have c3:¬ (n:Int)=0:=bF2
 go_upto_region 4 with fail
 clear aq
 have FX:=yD (λ(W:Au) (hW:Touch (λk=>k=p) w3 W/\ym w0 W p)=>kE (hW.1.kC B bF2) (j:=0) (v:=.slice a n c) rfl)
 refine je (λW=>Touch (λk=>k=p) w3 W/\ym w0 W p) [(0,true),(1,true),(3,true),(5,true),(2,false),(4,false),(6,false),(7,true),(8,true)] bE5 bE5 qW (⟨Touch.of_below bR.drew,hc.below bR.drew⟩) ?_
 intro wS E
 simp only [jG,Bv,List.length_nil,Bb,Bc,List.map_cons,List.map_nil,Bw,Ac,Bj,Bg]
 iterate 4
  refine kS ?_
 refine ku rfl (λK H=>?_);go_simp;refine (kZ (n:=9) E.2 bF1).mono ?_;rintro e wS1 ⟨x,ai,L,bf,rfl,av,ap⟩;replace L:=L bF1;clear bf;replace E:=And.intro (E.1.trans ap) av;clear av ap;refine H _ _ E ?_;clear H K
 refine jH ?_
 refine ku rfl (λK H=>?_);go_simp;refine (kZ (n:=5) E.2 bF1).mono ?_;rintro e wS1 ⟨y,ao,a4,b7,rfl,av,ap⟩;replace a4:=a4 bF1;clear b7;replace E:=And.intro (E.1.trans ap) av;clear av ap;refine H _ _ E ?_;clear H K
 refine jH ?_
 refine ku rfl (λK H=>?_);go_simp;refine (kZ (n:=6) E.2 bF1).mono ?_;rintro e wS1 ⟨z,a5,bn,ax,rfl,av,ap⟩;replace bn:=bn bF1;clear ax;replace E:=And.intro (E.1.trans ap) av;clear av ap;have hw:Al.wrap (1 + z)=1 + z:=Ca _ bF2;refine H _ _ E ?_;clear H K
 refine jH ?_
 refine kS ?_
 refine kS ?_
 refine yt ?_
 have hzs:=E.1.size
 obtain ⟨R5,Z,ac,am,ak,al,ay,a7,aj,an,az,a8⟩:=uW
 go_wp2
 refine Ah (v:=.agg #[.slice a n c,Qn x,Qn y,.int .i64 (1 + z)]) gU rfl ⟨_,_,ps,x,y,1 + z,by rw [b3.out],?_,⟨by omega,bm.out⟩,by omega,by omega,by omega,ac.touch sT4 bF2 bB6,Z.jJ sT4 bF2⟩
 rw [<- b3.out]
 exact (((am.out.touch sT4 vK).own bB1).wide fT)
def kWm {w0 w:Au} {p:Nat} (hc:ym w0 w p) :
    Bz prog 29 #[.pointer (some ⟨p,0,none⟩)] w λe w'=>∃ a c ps n h t,e=.returned (.agg (Qk a ps c n h t))/\kR.own w' [Qs a ps c] ps (jg w w')/\ps.length<=8/\(-1<=n/\n<=1000001/\(n<=8\/1000000<=n))/\(-1<=h/\h<=17)/\(0<=t/\t<=21)/\ym w0 w' p/\Touch (λk=>k=p) w w':=by
 go_enter func29,ntmps29
 obtain ⟨bh,br⟩:=hc.lt
 go_upto_region 1 with fail
 refine ja ?_
 intro w1 ar R bj
 obtain ⟨hc,O⟩:=uZ
 clear ar
 go_wp2_with fail
 refine (kHs hc).mono ?_
 rintro e w2 ⟨a,c,ps,n,h,t,rfl,hO,bu,hn,hh,ht,F,D⟩
 obtain ⟨bw,R,O⟩:=y8
 clear hc D
 have hc:=F
 clear F
 have J:=yD (hO.wide (T:=λj=>w1.heap.size<=j/\j < w2.heap.size) (λ_ h=>h))
 clear hO
 go_upto_region 2 with fail
 refine ja ?_
 intro w3 ah B bz
 replace R:=kC R ah
 obtain ⟨J,hc,O⟩:=xC
 clear ah
 go_wp2_with fail
 refine (kZ (n:=12) hc bF1).mono ?_
 rintro e w4 ⟨x,ai,L,bf,rfl,F,D⟩
 have b5:=D.size
 obtain ⟨R,B⟩:=xK
 obtain ⟨J,O⟩:=uS
 clear hc D
 have hc:=F
 clear F
 replace L:=L bF1
 clear bf
 obtain ⟨m,rfl⟩:=Int.eq_ofNat_of_zero_le ai
 by_cases hm:m=0
 · have U:(m:Int)=0:=bF2;subst hm;go_wp2_with fail;refine (kWn hc).mono ?_;rintro e w5 ⟨a2,c2,qs,rfl,hQ,ae,F,D⟩;obtain ⟨R,B⟩:=xK;replace O:=O.trans D;clear hc D;have hc:=F;clear F;have HQ:=yD (hQ.wide (T:=λj=>w1.heap.size<=j/\j < w5.heap.size/\j≠w2.heap.size) mR);clear hQ J;obtain ⟨aq,av,ag,N⟩:=jW B;obtain ⟨aw,ax,a9,ba⟩:=zy B;go_upto_region 11 with fail;generalize o:World.setCell w5 _ _=w6;have V:Touch (λk=>k=w2.heap.size) w5 w6:=wY;replace B:Qr w6 w2 (Qk a2 qs c2 n h t) 38:=wG;have df:=V.size;clear o;replace R:=V.kC R bF2;obtain ⟨HQ,hc,O⟩:=FJ;clear aq av ag N aw ax a9 ba V;have E:=yD (HQ.out.wide (T:=λj=>w1.heap.size<=j/\j < w6.heap.size) rU);obtain ⟨aj,an,az,a8⟩:=jW R;obtain ⟨aq,av,ag,N⟩:=jW B;obtain ⟨ak,al,ay,a7⟩:=zy R;go_wp2;refine Ah (v:=.agg (Qk a2 qs c2 n h t)) gM rfl ⟨a2,c2,qs,n,h,t,rfl,?_,by omega,by omega,by omega,by omega,hc.touch sT4 bF2 bB6,O.jJ sT4 bF2⟩;exact (E.out.touch sT4 vK).wide fT
 have bc:¬ (m:Int)=0:=bF2
 by_cases bo:m=1
 · subst bo;go_wp2_with fail;refine (kAd (hc.below (bR.alloc nL _)) (kD.kEh _ [-1,1000000,1000001] bF1 bF1) bF2 bF1 bF1).mono ?_;rintro e w5 ⟨y,bd,bv,rfl,F,D⟩;obtain ⟨D,b4⟩:=xO;obtain ⟨R,B⟩:=xK;obtain ⟨J,O⟩:=uS;clear hc D;have hc:=F;clear F;have ab:-1<=y/\y<=1000001/\(y<=8\/1000000<=y):=bB5;clear bd bv;obtain ⟨aq,av,ag,N⟩:=jW B;obtain ⟨aw,ax,a9,ba⟩:=zy B;go_upto_region 11 with fail;generalize o:World.setCell w5 _ _=w6;have V:Touch (λk=>k=w2.heap.size) w5 w6:=wY;replace B:Qr w6 w2 (Qk a ps c y h t) 38:=wF;have df:=V.size;clear o;obtain ⟨R,J,hc,O⟩:=A7;clear aq av ag N aw ax a9 ba V;obtain ⟨aj,an,az,a8⟩:=jW R;obtain ⟨aq,av,ag,N⟩:=jW B;obtain ⟨ak,al,ay,a7⟩:=zy R;go_wp2;refine Ah (v:=.agg (Qk a ps c y h t)) gM rfl ⟨a,c,ps,y,h,t,rfl,?_,by omega,by omega,by omega,by omega,hc.touch sT4 bF2 bB6,O.jJ sT4 bF2⟩;exact (J.out.touch sT4 vK).wide fT
 have bk:¬ (m:Int)=1:=bF2
 by_cases bn:m=2
 · subst bn;go_wp2_with fail;refine (kAd (hc.below (bR.alloc nL _)) (kD.kEh _ [-1,16,17] bF1 bF1) bF2 bF1 bF1).mono ?_;rintro e w5 ⟨y,bd,bv,rfl,F,D⟩;obtain ⟨D,b4⟩:=xO;obtain ⟨R,B⟩:=xK;obtain ⟨J,O⟩:=uS;clear hc D;have hc:=F;clear F;have ab:-1<=y/\y<=17:=bB5;clear bd bv;obtain ⟨aq,av,ag,N⟩:=jW B;obtain ⟨aw,ax,a9,ba⟩:=zy B;go_upto_region 11 with fail;generalize o:World.setCell w5 _ _=w6;have V:Touch (λk=>k=w2.heap.size) w5 w6:=wY;replace B:Qr w6 w2 (Qk a ps c n y t) 38:=by rw [<- o];exact kG B 2
   have df:=V.size;clear o;obtain ⟨R,J,hc,O⟩:=A7;clear aq av ag N aw ax a9 ba V;obtain ⟨aj,an,az,a8⟩:=jW R;obtain ⟨aq,av,ag,N⟩:=jW B;obtain ⟨ak,al,ay,a7⟩:=zy R;go_wp2;refine Ah (v:=.agg (Qk a ps c n y t)) gM rfl ⟨a,c,ps,n,y,t,rfl,?_,by omega,by omega,by omega,by omega,hc.touch sT4 bF2 bB6,O.jJ sT4 bF2⟩;exact (J.out.touch sT4 vK).wide fT
 have bq:¬ (m:Int)=2:=bF2
 by_cases am:m=3
 · subst am;go_wp2_with fail;refine (kAd (hc.below (bR.alloc nL _)) (kD.kEh _ [0,20,21] bF1 bF1) bF2 bF1 bF1).mono ?_;rintro e w5 ⟨y,bd,bv,rfl,F,D⟩;obtain ⟨D,b4⟩:=xO;obtain ⟨R,B⟩:=xK;obtain ⟨J,O⟩:=uS;clear hc D;have hc:=F;clear F;have ab:0<=y/\y<=21:=bB5;clear bd bv;obtain ⟨aq,av,ag,N⟩:=jW B;obtain ⟨aw,ax,a9,ba⟩:=zy B;go_upto_region 11 with fail;generalize o:World.setCell w5 _ _=w6;have V:Touch (λk=>k=w2.heap.size) w5 w6:=wY;replace B:Qr w6 w2 (Qk a ps c n h y) 38:=by rw [<- o];exact kG B 3
   have df:=V.size;clear o;obtain ⟨R,J,hc,O⟩:=A7;clear aq av ag N aw ax a9 ba V;obtain ⟨aj,an,az,a8⟩:=jW R;obtain ⟨aq,av,ag,N⟩:=jW B;obtain ⟨ak,al,ay,a7⟩:=zy R;go_wp2;refine Ah (v:=.agg (Qk a ps c n h y)) gM rfl ⟨a,c,ps,n,h,y,rfl,?_,by omega,by omega,by omega,by omega,hc.touch sT4 bF2 bB6,O.jJ sT4 bF2⟩;exact (J.out.touch sT4 vK).wide fT
 have bb:¬ (m:Int)=3:=bF2
 obtain ⟨aj,an,az,a8⟩:=jW R
 obtain ⟨aq,av,ag,N⟩:=jW B
 obtain ⟨ak,al,ay,a7⟩:=zy R
 go_wp2
 refine Ah (v:=.agg (Qk a ps c n h t)) gM rfl ⟨a,c,ps,n,h,t,rfl,?_,by omega,by omega,by omega,by omega,hc.touch sT4 bF2 bB6,O.jJ sT4 bF2⟩
 exact (J.out.touch sT4 vK).wide fT
def flatint:kD.int.kCz:=kD.zH
def flatbyte:kD.byte.kCz:=kD.kGw
def jGq {w:Au} {va:Aj} {x:Bd UInt8} (ha:(kD.slice 5 kD.byte).rd w [va] x):Bz prog 162 #[va] w (kBh (kD.slice 5 kD.byte) x w):=by
 obtain ⟨aa,al,rfl,la⟩:=kD.sl ha.1;have HA:=yD ha;have E:=λ(W:Au) (a:Option Addr) (n c:Nat)=>Lib.run_eql_slice_nil (P:=prog) W 22 5 a n c 0 0 underlying22;cases aa with
 | none =>
   have hx:x=[]:=by
     cases x with
     | nil=>rfl
     | cons y ys =>
       exact aJ
   subst hx;clear ha;go_enter func162,ntmps162;go_wp2;go_ret;exact ⟨_,rfl,kD.yF,bR⟩
 | some a =>
   have hb:x.length<=16777216:=ha.2.1;clear ha;go_enter func162,ntmps162;have O0:kD.kY 5 kD.byte (w.alloc (.cells #[] 5)) (.slice (some ⟨w,0,none⟩) 0 0) [] (λk=>k=w.heap.size):=kD.yR (cs:=[]) (xs:=[]) (T:=λ_=>False) bF3 bF3 rfl (λ_ h=>h.elim) rfl;go_wp2_with (at_builtin;refine kD.yh rfl _ _ 22 rfl (r:=kD.byte) (e:=5) underlying22 kFo rfl bF1 bF1 flatbyte (B:=w.heap.size) O0 bF4 bF4 (HA.out.alloc _) rY bF3 bE6 ?_);exact aK
def kEa:kQ.kCz:=kD.kWt (kD.zH) (kD.kWt (kD.zH) (kD.zH))
def kUh {w:Au} {va:Aj} {x:Bd kV} (ha:(kD.slice 105 kQ).rd w [va] x):Bz prog 184 #[va] w (kBh (kD.slice 105 kQ) x w):=by
 obtain ⟨aa,al,rfl,la⟩:=kD.sl ha.1;obtain ⟨HA,E⟩:=FI;cases aa with
 | none =>
   have hx:x=[]:=by
     cases x with
     | nil=>rfl
     | cons y ys =>
       exact aJ
   subst hx;clear ha;go_enter func184,ntmps184;go_wp2;go_ret;exact ⟨_,rfl,kD.yF,bR⟩
 | some a =>
   have hb:x.length<=16777216:=ha.2.1;clear ha;go_enter func184,ntmps184;have O0:kD.kY 105 kQ (w.alloc (.cells #[] 105)) (.slice (some ⟨w,0,none⟩) 0 0) [] (λk=>k=w.heap.size):=kD.yR (cs:=[]) (xs:=[]) (T:=λ_=>False) bF3 bF3 rfl (λ_ h=>h.elim) rfl;go_wp2_with (at_builtin;refine kD.yh rfl _ _ 103 rfl (r:=kQ) (e:=105) Ae zK rfl bF1 bF1 kEa (B:=w.heap.size) O0 bF4 bF4 (HA.out.alloc _) rY bF3 bE6 ?_);exact aK
namespace kD
section
variable {α:Type} {r:kD α} {e:TypeId} {w w':Au} {v:Aj} {b cap n:Nat} {xs l:Bd α} {i:Nat} {x:α} {S T:Nat->Prop}
def kPh {P:Program} (w:Au) (L N ty D:TypeId) (g o E H:Nat) (a:Addr) (F I n:Nat) (cur:Array Aj) (t:TypeId) (cs:Bd Aj)
    (hu:P.underlying L=some (.slice D)) (hs:(P.info? D).map (·.size)=some n)
    (hg:w.heap[g]?=some (.cells cur t (0,0))) (hn:cs.length=Nat.min F E * n)
    (hsrc:∀ j v,cs[j]?=some v->w.cell? (a.add j)=some v) (R:o + cs.length<=cur.size) (h1:∀ v∈cs,v.oneCell'=true) :
    (Builtin.copy_ #[L,N] ty #[.slice (some ⟨g,o,none⟩) E H,.slice (some a) F I]).run P w =
      .ok (goInt (Nat.min F E)) (w.setRow g (cur.toList.take o++cs++cur.toList.drop (o + cs.length)).toArray):=by
 have hl:=run_loadCells_list (P:=P) w a cs hsrc
 have J:=run_storeCells_at P g o t cs 0 cur w hg (by simpa using R) h1
 cases hq:P.info? D with
 | none=>simp [hq] at hs
 | some i =>
   have hi:i.size=n:=by simpa [hq] using hs
   simp [Builtin.copy_,run_underlying hu,Builtin.lenOf,Bo,sizeOf,typeInfo,hq,hi,<- hn,hl,J]
def row_ins (hf:r.kCz) {cells cx:Bd Aj} (h:row r true w cells l S) (hi:i<=l.length) (hx:r.is true w cx x T) :
    row r true w' (cells.take (i * r.n)++(cx++cells.drop (i * r.n))) (l.take i++x :: l.drop i) (λ_=>False):=by
 have hl:l=l.take i++l.drop i:=(List.take_append_drop i l).symm
 rw [hl] at h
 obtain ⟨d1,d2,A,B,rfl,r1,r2,hA,hB,hd⟩:=kHz (l.take i) h
 have hlen:d1.length=i * r.n:=by rw [zR r1,Ai];congr 1;omega
 rw [Aa bF2,Am bF2,Ag bF2,List.drop_of_length_le bF2,Ac]
 refine kAh (kLb hf r1) ?_ (λ_ h=>h) (λ_ h=>h) (λ_ _ h _=>h)
 exact ⟨cx,d2,_,_,rfl,hf hx,kLb hf r2,λ_ h=>h,λ_ h=>h,λ_ _ h _=>h⟩
def ins_list {cells cx tl:Bd Aj} {k m:Nat} (hk:k<=cells.length) (hm:cx.length=m) (ht:m<=tl.length) :
    let X:=cells++tl
    let Y:=X.take (k + m)++cells.drop k++X.drop (k + m + (cells.length - k))
    Y.take k++cx++Y.drop (k + m)=(cells.take k++(cx++cells.drop k))++tl.drop m:=by
 intro X Y
 have E:(X.take (k + m)).length=k + m:=by simp [X];omega
 have D:Y.take k=cells.take k:=by
  show (X.take (k + m)++cells.drop k++X.drop (k + m + (cells.length - k))).take k=_;rw [Ap,Aa bF2,List.take_take,Nat.min_eq_left bF2];show (cells++tl).take k=_;rw [Aa hk]
 have o:Y.drop (k + m)=cells.drop k++tl.drop m:=by
  show (X.take (k + m)++cells.drop k++X.drop (k + m + (cells.length - k))).drop (k + m)=_;rw [Ap,Ag bF2,List.drop_of_length_le bF2,Ac];congr 1;show (cells++tl).drop _=_;rw [List.drop_append];rw [List.drop_of_length_le bF2,Ac];congr 1;omega
 rw [D,o];simp
def ins_new {A cx B tl:Bd Aj} {k m n:Nat} (hk:A.length=k) (hm:cx.length=m) (hB:B.length=n) {Z:Bd Aj} (hz:Z.length=m + n) :
    let X:=A++Z++tl
    let Y:=X.take k++cx++X.drop (k + m)
    Y.take (k + m)++B++Y.drop (k + m + n)=(A++(cx++B))++tl:=by
 intro X Y
 have hX:X.take k=A:=by show (A++Z++tl).take k=_;rw [Ap,Aa bF2,Am bF2]
 have o:X.drop (k + m)=Z.drop m++tl:=by
  show (A++Z++tl).drop (k + m)=_;rw [Ap,List.drop_append,List.drop_of_length_le bF2,Ac,show k + m - A.length=m by omega,Ag bF2]
 have hY:Y=A++cx++(Z.drop m++tl):=by show X.take k++cx++X.drop (k + m)=_;rw [hX,o]
 rw [hY,Aa bE6,Am bE6,List.drop_append,List.drop_of_length_le bE6,Ac,List.drop_append,List.drop_of_length_le bE6,Ac]
 rw [show k + m + n - (A++cx).length - (Z.drop m).length=0 by simp;omega,Bg]
 simp
def own0_at (hb:∀ y∈xs,r.bdd Big y) {cs tl:Bd Aj} (hn:n=xs.length) (hc:n<=cap) (hm:cap<=maxLen) (hh:w.heap[b]?=some (.cells (cs++tl).toArray e (0,0))) (hs:(cs++tl).length=cap * r.n) (hS:S b) (hr:row r true w cs xs (λ_=>False)) :
    kY e r w (.slice (some ⟨b,0,none⟩) n cap) xs S:=by
 subst hn
 exact ⟨hb,.inr ⟨b,cap,_,cs,tl,rfl,hc,hm,hh,by simp,by simpa using hs,hS,yU hr (λ_ h=>h.elim)⟩⟩
def mem_ins {P:α->Prop} (h:∀ y∈l,P y) (hx:P x):∀ y∈l.take i++x :: l.drop i,P y:=by
 intro y hy;rcases List.mem_append.1 hy with q | q
 · exact h y (List.mem_of_mem_take q)
 rcases List.mem_cons.1 q with q | q
 · rw [q];exact hx
 exact h y (Av q)
def len_ins {i:Nat}:(l.take i++x :: l.drop i).length=l.length + 1:=by simp;omega
end
end kD
def kOy {w:Au} {v:Aj} {l:Bd kV} {i O:Nat} {cx:Bd Aj} {x:kV} {S:Nat->Prop} (hl:kD.kY 105 kQ w v l S) (hlen:l.length<=16777216) (R:w.heap[O]?=some (.cells cx.toArray 105 (0,0))) (ah:¬ S O) (hx:kQ.is true w cx x (λ_=>False)) (bf:kQ.bdd Big x) (hi:i=l.length) :
    Bz prog 113 #[v,.int .i64 i,.slice (some ⟨O,0,none⟩) 1 1] w λe w'=>∃ v',e=.returned v'/\kD.kY 105 kQ w' v' (l.take i++x :: l.drop i) (λk=>S k\/(w.heap.size<=k/\k < w'.heap.size))/\Touch S w w':=by
 obtain ⟨a,cap,hv⟩:=hl.zJ
 have J:=yD hl
 have o:Hid (kD.Src w (.slice (some ⟨O,0,none⟩) 1 1) 1 cx):=yD (.inr ⟨_,1,rfl,λj u I=>by
   rw [Aq,Nat.zero_add,Aw w O _ _ 105 (0,0) R];simpa using I⟩)
 have F:Hid (kD.row kQ true w cx [x] (λ_=>False)):=yD ⟨cx,[],_,_,by simp,hx,rfl,λ_ h=>h,λ_ h=>h,λ_ _ h _=>h⟩
 subst hi
 have HB:=yD bf
 have HE:Hid (l.take l.length++x :: l.drop l.length=l++[x]):=yD bF3
 obtain ⟨U,E,a5,bu,Y⟩:=Be zK
 clear hl R hx bf
 subst hv
 go_enter func113,ntmps113
 go_wp2_with (at_builtin;refine kD.kVy rfl _ _ 103 rfl (r:=kQ) (e:=105) (ys:=[x]) (T:=λ_=>False) (m:=1) (cells:=cx) Ae E a5 bu rfl bF1 bF2 J.out rfl rfl o.out F.out rfl (λ_ _ h=>h) (by intro y hy;simp only [Bn] at hy;rw [hy];exact HB.out) bE6 ?_)
 all_goals
   intro v' w2 H ag
   obtain ⟨va,vn,vc,ar,D⟩:=H.parts
   obtain rfl:=ar
   go_wp2
   go_ret
   refine ⟨_,rfl,H.cast HE.out.symm,⟨ag.os,ag.tape,ag.output,ag.size,λk hk q=>ag.block k hk (λa=>q a.2)⟩⟩
def kMw {w:Au} {b cap:Nat} {l:Bd kV} {i O:Nat} {cx:Bd Aj} {x:kV} {S:Nat->Prop} (hl:kD.kY 105 kQ w (.slice (some ⟨b,0,none⟩) l.length cap) l S) (hlen:l.length<=16777216) (R:w.heap[O]?=some (.cells cx.toArray 105 (0,0))) (ah:¬ S O) (hx:kQ.is true w cx x (λ_=>False)) (bf:kQ.bdd Big x) (hi:i < l.length) (D:l.length + 1<=cap) :
    Bz prog 113 #[.slice (some ⟨b,0,none⟩) l.length cap,.int .i64 i,.slice (some ⟨O,0,none⟩) 1 1] w λe w'=>∃ v',e=.returned v'/\kD.kY 105 kQ w' v' (l.take i++x :: l.drop i) (λk=>S k\/(w.heap.size<=k/\k < w'.heap.size))/\Touch S w w':=by
 obtain ⟨cd,h⟩:=hl
 rcases h with ⟨⟨a,h0⟩,h1⟩|⟨b',cap',cur,cs,tl,h0,h1,h2,h3,h4,h5,h6,h7⟩
 · rw [h1] at hi;simp at hi
 simp only [Az,Br,Cb,and_true,true_and] at h0
 obtain ⟨rfl,rfl⟩:=h0
 obtain rfl:cur=(cs++tl).toArray:=bF0
 have au:kQ.n=3:=rfl
 have an:=kD.zR h7
 have am:=kD.row_one h7
 have bi:=kQ.len hx
 have az:=kQ.one hx
 rw [au] at an bi h5
 have a6:b≠O:=λq=>ah (q ▸ h6)
 have ao:cs.length + tl.length=cap * 3:=by simpa using h5
 have ai:cap<=9223372036854775807:=h2
 obtain ⟨H,aw⟩:=AZ
 have be:(prog.info? 105).map (·.size)=some 3:=by
  obtain ⟨U,E,a5,bu,Y⟩:=Be zK;rw [E];simp [bu]
 have ay:∀ j u,cs[j]?=some u->Qc w b j u:=λj u I=>by
   exact lN
 have a9:∀ j u,cx[j]?=some u->Qc w O j u:=λj u I=>by
   rw [Aw w O j _ 105 (0,0) R];simpa using I
 have ak:∀ lb cb,(callFunc 192 #[.slice (some ⟨O,0,none⟩) 1 1,.slice (some ⟨b,(i + 1) * 3,none⟩) lb cb]).run prog w=.ok (.value (.bool false)) w:=λlb cb=>by
   rw [run_callFunc_extern func192 bE5 bE5 bE5 (e:=Extern.SlicesOverlaps.overlaps #[103,103] #[4]) bE5,
     Lib.run_overlaps_apart w 103 4 105 Ae 3 (λW=>by
       obtain ⟨U,E,a5,bu,Y⟩:=Be zK;simp [sizeOf,typeInfo,E,bu]) ⟨O,0,none⟩ ⟨b,(i + 1) * 3,none⟩ 1 1 lb cb (λq=>a6 q.symm) 105 105 3 (cap * 3) (by simp [World.shape?,R,bi]) (by simp only [World.shape?,h3];simp [h5]) bF2 (frozen_of_row w O _ _ _ R) (frozen_of_row w O _ _ _ R)]
   rfl
 have bb:(cs.drop (i * 3)).length=(l.length - i) * 3:=by rw [Ad,an];omega
 have J:Nat.min (l.length + 1 - i) (l.length - i)=l.length - i:=qJ
 have V:Nat.min 1 (l.length + 1 - i)=1:=qJ
 obtain ⟨R1,aa⟩:∃ R1:Bd Aj,R1=(cs++tl).take (i * 3 + 3)++cs.drop (i * 3)++(cs++tl).drop (i * 3 + 3 + (cs.length - i * 3)):=⟨_,rfl⟩
 have ab:R1.take (i * 3)++cx++R1.drop (i * 3 + 3)=(cs.take (i * 3)++(cx++cs.drop (i * 3)))++tl.drop 3:=by
  rw [aa];exact kD.ins_list bF2 bi bF2
 have ar:R1.length=cap * 3:=by
  rw [aa];simp only [Ak,Ai,Ad];omega
 have aq:∀ ty dc sc,(Builtin.copy_ #[103,103] ty #[.slice (some ⟨b,(i + 1) * 3,none⟩) (l.length - i) dc,.slice (some ⟨b,i * 3,none⟩) (l.length + 1 - i) sc]).run prog w.drew=.ok (goInt ((l.length - i:Nat):Int)) (w.drew.setRow b R1.toArray):=λty dc sc=>by
   have q:=kD.kPh (P:=prog) w.drew 103 103 ty 105 b (i * 3 + 3) (l.length - i) dc ⟨b,i * 3,none⟩ (l.length + 1 - i) sc 3 _ 105 (cs.drop (i * 3)) Ae be h3 (by rw [J];exact bb)
     (λj u I=>by rw [Aq];exact ay (i * 3 + j) u (by rwa [Bq] at I)) mD (λu hu=>am u (Av hu))
   rw [J,Ad] at q;rw [show (i + 1) * 3=i * 3 + 3 by omega,aa];exact q
 have hz:(w.drew.setRow b R1.toArray).heap[b]?=some (.cells R1.toArray 105 (0,0)):=Ba w.drew b _ R1.toArray 105 (0,0) h3
 have aj:∀ ty dc,(Builtin.copy_ #[103,103] ty #[.slice (some ⟨b,i * 3,none⟩) (l.length + 1 - i) dc,.slice (some ⟨O,0,none⟩) 1 1]).run prog (w.drew.setRow b R1.toArray)=.ok (goInt ((1:Nat):Int)) ((w.drew.setRow b R1.toArray).setRow b ((cs.take (i * 3)++(cx++cs.drop (i * 3)))++tl.drop 3).toArray):=λty dc=>by
   have q:=kD.kPh (P:=prog) (w.drew.setRow b R1.toArray) 103 103 ty 105 b (i * 3) (l.length + 1 - i) dc ⟨O,0,none⟩ 1 1 3 _ 105 cx Ae be hz (by rw [V,bi])
     (λj u I=>by
       rw [Aq,Nat.zero_add,Aw _ O j _ 105 (0,0) ((Ar w.drew b O _ (λq=>a6 q.symm)).trans R)];simpa using I) (by simp only [Bt];omega) az
   rw [V,bi] at q;rw [<- ab];exact q
 have ad:kD.kY 105 kQ ((w.drew.setRow b R1.toArray).setRow b ((cs.take (i * 3)++(cx++cs.drop (i * 3)))++tl.drop 3).toArray) (.slice (some ⟨b,0,none⟩) (l.length + 1) cap) (l.take i++x :: l.drop i) (λk=>S k\/(w.heap.size<=k/\k < ((w.drew.setRow b R1.toArray).setRow b ((cs.take (i * 3)++(cx++cs.drop (i * 3)))++tl.drop 3).toArray).heap.size)):=by
  refine kD.own0_at aw.out kD.len_ins.symm D h2 (Ba _ b _ _ 105 (0,0) hz) ?_ (.inl h6) (H.out _);simp only [Ak,Ai,Ad];rw [au];omega
 have HE:=yD ad
 have L:Hid (Touch S w ((w.drew.setRow b R1.toArray).setRow b ((cs.take (i * 3)++(cx++cs.drop (i * 3)))++tl.drop 3).toArray)):=yD ⟨rfl,rfl,rfl,by simp,λk hk q=>by
   have co:k≠b:=λhq=>q (hq ▸ h6);rw [Ar _ b k _ co,Ar _ b k _ co];rfl⟩
 generalize Z:w.drew.setRow b R1.toArray=W1 at *
 generalize ap:W1.setRow b _=o at *
 have al:Al.wrap ((i:Int) + 1)=(i:Int) + 1:=tT
 have bo:Al.wrap ((l.length:Int) + 1)=(l.length:Int) + 1:=tT
 have a8:prog.follows Bf=true:=bE5
 have N:(0:Int)<=(i:Int) + 1:=bF2
 have af:((i:Int) + 1).toNat=i + 1:=bF2
 have ag:¬ (cap=i + 1):=bF2
 have ac:(i:Int)<=(l.length:Int) + 1:=bF2
 have F:¬ (cap=i):=bF2
 have X:(i:Int) + 1<=(l.length:Int) + 1:=bF2
 have ae:(i:Int)<=(l.length:Int):=bF2
 clear h7 h5 h3 ay a9 R hx az am H ad aw ab hz aa ar
 go_enter func113,ntmps113
 go_wp2_with (simp only [ak])
 go_region_law_o (refine step_copy_runI rfl _ _ 103 103 rfl _ _ vP vP (aq _ _ _) ?_)
 go_wp2_with (at_builtin;refine wpList_copy_runI _ rfl _ _ 103 103 rfl _ _ rfl rfl (aj _ _) ?_)
 go_ret
 exact ⟨_,rfl,HE.out,L.out⟩
def kNr {w:Au} {b cap:Nat} {l:Bd kV} {i O:Nat} {cx:Bd Aj} {x:kV} {S:Nat->Prop} (hl:kD.kY 105 kQ w (.slice (some ⟨b,0,none⟩) l.length cap) l S) (hlen:l.length<=16777216) (R:w.heap[O]?=some (.cells cx.toArray 105 (0,0))) (ah:¬ S O) (hx:kQ.is true w cx x (λ_=>False)) (bf:kQ.bdd Big x) (hi:i < l.length) (D:cap < l.length + 1) :
    Bz prog 113 #[.slice (some ⟨b,0,none⟩) l.length cap,.int .i64 i,.slice (some ⟨O,0,none⟩) 1 1] w λe w'=>∃ v',e=.returned v'/\kD.kY 105 kQ w' v' (l.take i++x :: l.drop i) (λk=>S k\/(w.heap.size<=k/\k < w'.heap.size))/\Touch S w w':=by
 obtain ⟨cd,h⟩:=hl
 rcases h with ⟨⟨a,h0⟩,h1⟩|⟨b',cap',cur,cs,tl,h0,h1,h2,h3,h4,h5,h6,h7⟩
 · rw [h1] at hi;simp at hi
 simp only [Az,Br,Cb,and_true,true_and] at h0
 obtain ⟨rfl,rfl⟩:=h0
 obtain rfl:cur=(cs++tl).toArray:=bF0
 have au:kQ.n=3:=rfl
 have an:=kD.zR h7
 have am:=kD.row_one h7
 have bi:=kQ.len hx
 have az:=kQ.one hx
 rw [au] at an bi h5
 obtain ⟨H,aw⟩:=AZ
 have be:(prog.info? 105).map (·.size)=some 3:=by
  obtain ⟨U,E,a5,bu,Y⟩:=Be zK;rw [E];simp [bu]
 have ay:∀ j u,cs[j]?=some u->Qc w b j u:=λj u I=>by
   exact lN
 have a9:∀ j u,cx[j]?=some u->Qc w O j u:=λj u I=>by
   rw [Aw w O j _ 105 (0,0) R];simpa using I
 obtain ⟨U,E,a5,bu,Y⟩:=Be zK
 have ai:b < w.heap.size:=(Ay.1 h3).1
 have bn:O < w.heap.size:=(Ay.1 R).1
 have bb:(cs.drop (i * 3)).length=(l.length - i) * 3:=by rw [Ad,an];omega
 have ag:(cs.take (i * 3)).length=i * 3:=tV
 obtain ⟨o,a1⟩:∃ o:Aj,U.zero=some o/\o.cells.size=3:=⟨_,a5,rfl⟩
 have a4:(Bo U.size i (.slice (some ⟨b,0,none⟩) i cap)).run prog w.drew=.ok (cs.take (i * 3)).toArray w.drew:=by
  rw [bu];exact run_firstCells_some w.drew 3 i ⟨b,0,none⟩ i cap (cs.take (i * 3)) ag (λj u I=>by
    rw [Aq,Nat.zero_add];rw [List.getElem?_take] at I;split at I
    · exact ay j u I
    · cases I)
 have bh:i + (l.length + 1 - i)=l.length + 1:=bF2
 have bk:∀ ty,(Builtin.append_ #[103,3] ty #[.slice (some ⟨b,0,none⟩) i cap,.int .i64 ((l.length:Int) + 1 - (i:Int))]).run prog w =
     .ok (.slice (some ⟨w,0,none⟩) (l.length + 1) (Bu w (l.length + 1) cap 105)) (w.drew.alloc (.cells ((cs.take (i * 3)).toArray++Ab o.cells (l.length + 1 - i)++Ab o.cells (Bu w (l.length + 1) cap 105 - (l.length + 1))) 105)):=λty=>by
   have h:=Lib.run_append_grow_zeros (P:=prog) w 103 3 ty 105 U o .i64 .i64 Ae underlying3 E a1.1 (some ⟨b,0,none⟩) i cap (cs.take (i * 3)) a4 (l.length + 1 - i) bF2 bF2 bF2 bF2 (by rw [Y];omega) (by rw [Y,bh];exact growslice_fits D bF2)
   rw [bh] at h
   rw [show ((l.length:Int) + 1 - (i:Int))=((l.length + 1 - i:Nat):Int) by omega]
   exact h
 have bj:l.length + 1<=Bu w (l.length + 1) cap 105:=grownCap_ge w _ _ _
 have a3:Bu w (l.length + 1) cap 105<=maxLen:=grownCap_le_maxLen w (l.length + 1) cap 105 wR
 generalize Bu w (l.length + 1) cap 105=G at *
 obtain ⟨Z,hZ,bm⟩:∃ Z:Bd Aj,Ab o.cells (l.length + 1 - i)=Z.toArray/\Z.length=3 + (l.length - i) * 3:=⟨(Ab o.cells (l.length + 1 - i)).toList,by simp,by
   rw [Bl,size_zeroCells,a1.2];omega⟩
 obtain ⟨TL,bg,bv⟩:∃ TL:Bd Aj,Ab o.cells (G - (l.length + 1))=TL.toArray/\TL.length=(G - (l.length + 1)) * 3:=⟨(Ab o.cells (G - (l.length + 1))).toList,by simp,by
   rw [Bl,size_zeroCells,a1.2]⟩
 have ax:(cs.take (i * 3)).toArray++Ab o.cells (l.length + 1 - i)++Ab o.cells (G - (l.length + 1))=(cs.take (i * 3)++Z++TL).toArray:=by rw [hZ,bg];simp
 rw [ax] at bk
 clear ax hZ bg a4
 obtain ⟨R1,aa⟩:∃ R1:Bd Aj,R1=(cs.take (i * 3)++Z++TL).take (i * 3)++cx++(cs.take (i * 3)++Z++TL).drop (i * 3 + 3):=⟨_,rfl⟩
 have ab:R1.take (i * 3 + 3)++cs.drop (i * 3)++R1.drop (i * 3 + 3 + (l.length - i) * 3)=(cs.take (i * 3)++(cx++cs.drop (i * 3)))++TL:=by
  rw [aa];exact kD.ins_new ag bi bb bm
 have ar:R1.length=G * 3:=by
  rw [aa];simp only [Ak,Ai,Ad];omega
 have V:Nat.min 1 (l.length + 1 - i)=1:=qJ
 have J:Nat.min (l.length - i) (l.length - i)=l.length - i:=Nat.min_self _
 have aq:∀ (W:Au),W.heap=(w.drew.alloc (.cells (cs.take (i * 3)++Z++TL).toArray 105)).heap->∀ ty dc,(Builtin.copy_ #[103,103] ty #[.slice (some ⟨w,i * 3,none⟩) (l.length + 1 - i) dc,.slice (some ⟨O,0,none⟩) 1 1]).run prog W=.ok (goInt ((1:Nat):Int)) (W.setRow w R1.toArray):=λW hW ty dc=>by
   have q:=kD.kPh (P:=prog) W 103 103 ty 105 w (i * 3) (l.length + 1 - i) dc ⟨O,0,none⟩ 1 1 3 (cs.take (i * 3)++Z++TL).toArray 105 cx Ae be (by rw [hW];exact Bh w.drew _) (by rw [V,bi])
     (λj u I=>by
       rw [Aq,Nat.zero_add,Aw W O j _ 105 (0,0) (by rw [hW];exact (Bi w.drew _ bn).trans R)];simpa using I) mD az
   rw [V,bi] at q;rw [aa];exact q
 have aj:∀ (W:Au),W.heap=((w.drew.alloc (.cells (cs.take (i * 3)++Z++TL).toArray 105)).setRow w R1.toArray).heap->∀ ty dc sc,(Builtin.copy_ #[103,103] ty #[.slice (some ⟨w,(i + 1) * 3,none⟩) (l.length - i) dc,.slice (some ⟨b,i * 3,none⟩) (l.length - i) sc]).run prog W=.ok (goInt ((l.length - i:Nat):Int)) (W.setRow w ((cs.take (i * 3)++(cx++cs.drop (i * 3)))++TL).toArray):=λW hW ty dc sc=>by
   have q:=kD.kPh (P:=prog) W 103 103 ty 105 w (i * 3 + 3) (l.length - i) dc ⟨b,i * 3,none⟩ (l.length - i) sc 3 R1.toArray 105 (cs.drop (i * 3)) Ae be (by rw [hW];exact Ba _ w _ _ 105 (0,0) (Bh w.drew _)) (by rw [J];exact bb)
     (λj u I=>by
       rw [Aq,Aw W b _ _ 105 (0,0) (by rw [hW];exact ((Ar _ w b _ bF2).trans (Bi w.drew _ ai)).trans h3)];have hq:cs[i * 3 + j]?=some u:=by rwa [Bq] at I
       simp only [List.getElem?_toArray];rw [List.getElem?_append_left (List.getElem?_eq_some_iff.1 hq).1];exact hq) (by simp only [Bt];omega) (λu hu=>am u (Av hu))
   rw [J,bb] at q;rw [show (i + 1) * 3=i * 3 + 3 by omega];rw [<- ab];exact q
 have ad:∀ (W:Au),W.heap=(((w.drew.alloc (.cells (cs.take (i * 3)++Z++TL).toArray 105)).setRow w R1.toArray).setRow w ((cs.take (i * 3)++(cx++cs.drop (i * 3)))++TL).toArray).heap->kD.kY 105 kQ W (.slice (some ⟨w,0,none⟩) (l.length + 1) G) (l.take i++x :: l.drop i) (λk=>S k\/(w.heap.size<=k/\k < W.heap.size)):=λW hW=>by
   refine kD.own0_at aw.out kD.len_ins.symm bj a3 (by rw [hW];exact Ba _ w _ _ 105 (0,0) (Ba _ w _ _ 105 (0,0) (Bh w.drew _))) ?_ (.inr ⟨Nat.le_refl _,by rw [hW];simp⟩) (H.out _);simp only [Ak,Ai,Ad];rw [au];omega
 have a2:∀ (W:Au),W.heap=(((w.drew.alloc (.cells (cs.take (i * 3)++Z++TL).toArray 105)).setRow w R1.toArray).setRow w ((cs.take (i * 3)++(cx++cs.drop (i * 3)))++TL).toArray).heap->W.os=w.os->W.tape=w.tape->W.output=w.output->Touch S w W:=λW hW h1 h2 h3=>⟨h1,h2,h3,by rw [hW];simp,λk hk q=>by
   rw [hW,Ar _ _ k _ bF2,Ar _ _ k _ bF2];exact Bi w.drew _ hk⟩
 have HE:=yD ad
 have L:=yD a2
 clear ad a2 ab
 generalize bc:(cs.take (i * 3)++Z++TL).toArray=bd at *
 generalize a6:((cs.take (i * 3)++(cx++cs.drop (i * 3)))++TL).toArray=br at *
 generalize bl:R1.toArray=RR at *
 have bt:G<=9223372036854775807:=a3
 have ba:=aq ((w.alloc (.cells bd 105)).drew) rfl
 have a7:=aj (((w.alloc (.cells bd 105)).drew.setRow w RR).drew) rfl
 have bw:¬ (G=i):=bF2
 have bp:¬ (G=i + 1):=bF2
 have bq:i<=G:=bF2
 have ap:(cap:Int) < (l.length:Int) + 1:=bF2
 have al:Al.wrap ((i:Int) + 1)=(i:Int) + 1:=tT
 have bo:Al.wrap ((l.length:Int) + 1)=(l.length:Int) + 1:=tT
 have ao:Al.wrap ((l.length:Int) + 1 - (i:Int))=(l.length:Int) + 1 - (i:Int):=tT
 have a8:prog.follows Bf=true:=bE5
 have N:(0:Int)<=(i:Int) + 1:=bF2
 have af:((i:Int) + 1).toNat=i + 1:=bF2
 have ac:(i:Int)<=(l.length:Int) + 1:=bF2
 have F:¬ (cap=i):=bF2
 have X:(i:Int) + 1<=(l.length:Int) + 1:=bF2
 have ae:(i:Int)<=(l.length:Int):=bF2
 have ak:(i:Int)<=(cap:Int):=bF2
 clear h7 h5 h3 ay a9 R hx az am H aw aa ar bc a6 bl a1 E a5 bu Y be
 go_enter func113,ntmps113
 go_wp2_with (first
   | (at_builtin;refine Lib.wpList_append_run _ rfl _ _ _ _ rfl _ _ rfl rfl _ _ (bk _) ?_)
   | (simp only [ba]))
 go_region_law_o (refine step_copy_runI rfl _ _ 103 103 rfl _ _ vP vP (a7 _ _ _) ?_)
 go_wp2
 go_ret
 exact ⟨_,rfl,HE.out _ rfl,L.out _ rfl rfl rfl rfl⟩
def kJb {w:Au} {v:Aj} {l:Bd kV} {i O:Nat} {cx:Bd Aj} {x:kV} {S:Nat->Prop} (hl:kD.kY 105 kQ w v l S) (hlen:l.length<=16777216) (R:w.heap[O]?=some (.cells cx.toArray 105 (0,0))) (ah:¬ S O) (hx:kQ.is true w cx x (λ_=>False)) (bf:kQ.bdd Big x) (hi:i<=l.length) :
    Bz prog 113 #[v,.int .i64 i,.slice (some ⟨O,0,none⟩) 1 1] w λe w'=>∃ v',e=.returned v'/\kD.kY 105 kQ w' v' (l.take i++x :: l.drop i) (λk=>S k\/(w.heap.size<=k/\k < w'.heap.size))/\Touch S w w':=by
 by_cases he:i=l.length
 · exact kOy hl hlen R ah hx bf he
 obtain ⟨b,cap,rfl,h1,h2,h3,h4⟩:=kD.zm hl (i:=i) bF2
 by_cases hr:l.length + 1<=cap
 · exact kMw hl hlen R ah hx bf bF2 hr
 exact kNr hl hlen R ah hx bf bF2 bF2
end Go.Proofs.YthocbplmdjkifaaGreat

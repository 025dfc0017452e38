/-
  A node of a small world, drawn.
-/
import Derived.Test.YtjhfdpopkkmigabGreatDrawH
import Derived.Test.YtjhfdpopkkmigabGreatDrawC
import Derived.Test.YtjhfdpopkkmigabGreatSoft5
set_option linter.unusedVariables false
set_option linter.unusedSimpArgs false
set_option linter.unnecessarySimpa false
set_option maxRecDepth 100000
set_option maxHeartbeats 16000000
open _root_ renaming Option->Aa,List->Ag
open Int renaming eq_ofNat_of_zero_le->Ab
open Go renaming frozen_of_row->Ac,Addr->Ah
open List renaming getElem?_cons_succ->Ad,getElem?_cons_zero->Ae
namespace Go.Proofs.YtjhfdpopkkmigabGreat
open Go.RowKit _root_.Go.Proofs.Tryz
theorem kFo {w:World} {cs:Ag Value} {x:jd} (h:yB.raw w cs x):∃ a0 c0 a1 c1 a2 c2 a3 c3 a4 c4 a5 c5,cs=[.slice a0 x.1.length c0,.int .i64 x.2.1.1,.slice a1 x.2.1.2.length c1,.slice a2 x.2.2.1.length c2,.slice a3 x.2.2.2.1.length c3,.slice a4 x.2.2.2.2.1.length c4,.slice a5 x.2.2.2.2.2.1.length c5,.int .i64 x.2.2.2.2.2.2]:=by
 obtain ⟨v0,v2,v3,v4,v5,v6,rfl,Y,R,aj,ai,al,E,D,o,F⟩:=yY h;obtain ⟨a0,c0,rfl,_⟩:=kD.sl Y;obtain ⟨a1,c1,rfl,_⟩:=kD.sl ai;obtain ⟨a2,c2,rfl,_⟩:=kD.sl al;obtain ⟨a3,c3,rfl,_⟩:=kD.sl E;obtain ⟨a4,c4,rfl,_⟩:=kD.sl D;obtain ⟨a5,c5,rfl,_⟩:=kD.sl o;exact ⟨_,_,_,_,_,_,_,_,_,_,_,_,rfl⟩
theorem addL_len (t:jT) (U:Ag jT) (r:kz × Ag kF × Ag jL × Ag jA × Ag kZ × Int):∃ y0,addL t (U,r)=(y0,r)/\y0.length<=U.length + 1:=by
 unfold addL;split
 · exact ⟨U++[t],rfl,by simp⟩
 exact ⟨U,rfl,by omega⟩
theorem kWp {w:World} {c0 c1 c2 c3 c4 c5 L o v:Value} {U:Ag jT} {F:kz} {x2:Ag kF} {x3:Ag jL} {x4 y:Ag jA} {x5:Ag kZ} {x6:Int} {S T:Nat->Prop}
    (h:yB.own w [c0,c1,c2,c3,c4,c5,L,o] (U,F,x2,x3,x4,x5,x6) S) (hv:(kD.slice 144 kY).own w [v] y T) (hd:∀ k,S k->T k->False):yB.own w [c0,c1,c2,c3,c4,v,L,o] (U,F,x2,x3,y,x5,x6) (λk=>S k\/T k) :=
  kD.set_right (c:=[c0]) h rfl (λB hB hq=>kD.set_right (c:=[c1,c2]) hq rfl (λX E a9=>kD.set_right (c:=[c3]) a9 rfl (λB3 I G=>kD.set_right (c:=[c4]) G rfl (λB4 aa H=>kD.set_left (c:=[c5]) (c':=[v]) H rfl hv (λk a b=>hd k (hB k (E k (I k (aa k a)))) b)) (λk a b=>hd k (hB k (E k (I k a))) b)) (λk a b=>hd k (hB k (E k a)) b)) (λk a b=>hd k (hB k a) b)) hd
theorem node_pendZ {w:World} {c0 c1 c2 c3 c4 c5 L o:Value} {U:Ag jT} {F:kz} {x2:Ag kF} {x3:Ag jL} {x4:Ag jA} {x5:Ag kZ} {x6:Int} (h:yB.rd w [c0,c1,c2,c3,c4,c5,L,o] (U,F,x2,x3,x4,x5,x6)):(kD.slice 93 kH).rd w [c3] x2:=⟨kNk h.1,h.2.2.2.1⟩
def tameN (x:jd):Prop:=x.1.length<=9/\x.2.1.2.length<=9/\kAj x.2.2.1 14/\kFm x.2.2.2.1/\x.2.2.2.2.1.length<=48/\x.2.2.2.2.2.1.length<=48/\-1<=x.2.2.2.2.2.2/\x.2.2.2.2.2.2<=0
def DrawnN (w0 w:World) (p:Nat) (e:Ending) (w':World):Prop:=∃ cs x ct t tb,e=.returned (.tuple #[.agg cs.toArray,.agg ct.toArray])/\yB.own w' cs x (jb tb w'.heap.size)/\tameN x/\kBh.jo w' ct t (jb w.heap.size tb)/\lenT t/\(w.heap.size<=tb/\tb<=w'.heap.size)/\yS w0 w' p/\Touch (λk=>k=p) w w'
theorem kYf {w0 w:World} {p:Nat} (hc:yS w0 w p) :
    Calls prog 59 #[.pointer (some ⟨p,0,none⟩)] w λe w'=>DrawnN w0 w p e w':=by
 go_enter func59,ntmps59
 obtain ⟨bd,bw⟩:=hc.lt
 go_upto_region 1 with fail
 generalize G:World.alloc (World.alloc w _) _=w1
 obtain ⟨hb,RN,RT,bo⟩:=C8
 clear G
 obtain ⟨hc,J⟩:=G9
 clear hb
 go_wp2_with fail
 refine (kVw hc).mono ?_
 rintro e V ⟨ds,t,rfl,hT,hlt,F,D⟩
 have bv:=D.size
 replace RN:=D.kC RN bH3
 replace RT:=D.kC RT bH3
 replace J:=J.trans D
 clear hc D
 have hc:=F
 clear F
 obtain ⟨bi,ck,bz,cw,bb,cz,cl,co,rfl⟩:=kJy hT.rd.1
 have L:=yD (hT)
 clear hT
 go_upto_region 2 with fail
 generalize G:World.alloc V _=w3
 have ad:Qb V w3:=tK
 have BT:Qr w3 V.heap.size #[Qs bi t.1 ck,Qs bz t.2.1 cw,Qs bb t.2.2.1 cz,Qs cl t.2.2.2 co] 57:=wW
 have bt:V.heap.size + 1<=w3.heap.size:=bF4
 clear G
 replace RN:=kC RN ad
 replace RT:=kC RT ad
 replace L:=yD (L.out.below ad)
 replace hc:=hc.below ad
 replace J:=J.trans (Touch.of_below ad)
 clear ad
 obtain ⟨tb,ef⟩:∃ b_,b_=V.heap.size:=⟨_,rfl⟩
 rw [<- ef] at BT ⊢
 have fa:=Nat.le_of_eq ef
 have fc:=Nat.le_of_eq ef.symm
 clear ef
 go_wp2_with fail
 refine (ko (n:=4) hc bH2).mono ?_
 rintro e w4 ⟨k4,gj,fb,f5,rfl,F,D⟩
 have b5:=D.size
 replace RN:=D.kC RN bH3
 replace RT:=D.kC RT bH3
 replace BT:=D.kC BT bH3
 replace L:=yD (L.out.touch D qW)
 replace J:=J.trans D
 clear hc D
 have hc:=F
 clear F
 replace fb:=fb bH2
 clear f5
 go_wp2_with fail
 refine (kYk (c:=k4) bH3).mono ?_
 rintro e w5 ⟨cs,rfl,hO,hb⟩
 have b3:=hb.size
 replace RN:=kC RN hb
 replace RT:=kC RT hb
 replace BT:=kC BT hb
 replace L:=yD (L.out.below hb)
 obtain ⟨hc,J⟩:=xI
 clear hb
 obtain ⟨a0,c0,a1,c1,a2,c2,a3,c3,a4,c4,a5,c5,rfl⟩:=kFo hO.raw
 simp only [newN,newC,List.length_nil] at hO ⊢
 have f3:=kRc (c:=k4) bH3
 generalize capC k4=kc at *
 have I:=yD (hO)
 clear hO
 go_upto_region 3 with fail
 generalize G:World.alloc w5 _=w6
 have av:Qb w5 w6:=tK
 have BN:Qr w6 w5.heap.size #[.slice a0 0 c0,Qn kc,.slice a1 0 c1,.slice a2 0 c2,.slice a3 0 c3,.slice a4 0 c4,.slice a5 0 c5,Qn 0] 33:=wW
 have dh:w5.heap.size + 1<=w6.heap.size:=bF4
 clear G
 replace RN:=kC RN av
 replace RT:=kC RT av
 replace BT:=kC BT av
 replace L:=yD (L.out.below av)
 replace I:=yD (I.out.below av)
 obtain ⟨hc,J⟩:=FV
 clear av
 obtain ⟨R,dy⟩:∃ b_,b_=w5.heap.size:=⟨_,rfl⟩
 rw [<- dy] at BN ⊢
 have f0:=Nat.le_of_eq dy
 have fy:=Nat.le_of_eq dy.symm
 clear dy
 go_wp2_with fail
 refine (ko (n:=3) hc bH2).mono ?_
 rintro e w7 ⟨m,bc,ax,b7,rfl,F,D⟩
 have et:=D.size
 replace RN:=D.kC RN bH3
 replace RT:=D.kC RT bH3
 replace BT:=D.kC BT bH3
 replace BN:=D.kC BN bH3
 replace L:=yD (L.out.touch D qW)
 obtain ⟨I,J⟩:=xK
 clear hc D
 have hc:=F
 clear F
 replace ax:=ax bH2
 clear b7
 obtain ⟨m,rfl⟩:=Ab bc
 have cc:=L
 have fh:=BT
 clear L BT
 go_wp2
 go_loopw [6] (λi wr=>∃ (j:Nat) (a0:Aa Ah) (c0:Nat) (a1:Aa Ah) (c1:Nat) (a2:Aa Ah) (c2:Nat) (a3:Aa Ah) (c3:Nat) (a4:Aa Ah) (c4:Nat) (a5:Aa Ah) (c5:Nat) (U:Ag jT),i=.int .i64 j/\j<=3/\Hid (U.length + j<=2)/\Qr wr R #[Qs a0 U c0,Qn kc,.slice a1 0 c1,.slice a2 0 c2,.slice a3 0 c3,.slice a4 0 c4,.slice a5 0 c5,Qn 0] 33/\Hid (yB.own wr [Qs a0 U c0,Qn kc,.slice a1 0 c1,.slice a2 0 c2,.slice a3 0 c3,.slice a4 0 c4,.slice a5 0 c5,Qn 0] (U,(kc,[]),[],[],[],[],0) (λk=>tb < k/\k < wr.heap.size/\k≠R))/\w7.heap.size<=wr.heap.size/\yS w0 wr p/\Touch (λk=>k=p\/k=R) w7 wr) (λi _=>(intOf i).toNat)
 case atStart=>exact ⟨m,a0,c0,a1,c1,a2,c2,a3,c3,a4,c4,a5,c5,[],rfl,by omega,yD bG7,BN,yD (I.out.wide gF),Nat.le_refl _,hc,Touch.of_below bR⟩
 clear BN I hc
 obtain ⟨j,a0,c0,a1,c1,a2,c2,a3,c3,a4,c4,a5,c5,U,rfl,hj,HL,BN,I,da,hc,af⟩:=hrel
 have fn:=af.size
 have BT:=af.kC fh bH3
 have L:=yD (cc.out.touch af pV)
 cases j with
 | zero =>
   have c9:¬ (0:Int) < (0:Nat):=bH3;go_wp2_with fail;refine (ko (n:=4) hc bH2).mono ?_;rintro e bu ⟨m2,fz,e8,f7,rfl,F,D⟩;have cm:=D.size;obtain ⟨af,BN,BT,I,L⟩:=xX;clear hc D;have hc:=F;clear F;replace e8:=e8 bH2;clear f7;obtain ⟨m2,rfl⟩:=Ab fz;have gl:U.length<=2:=bB3;go_wp2;go_loopw [7] (λi wr=>∃ (j:Nat) (a0:Aa Ah) (c0:Nat) (a1:Aa Ah) (c1:Nat) (a2:Aa Ah) (c2:Nat) (a3:Aa Ah) (c3:Nat) (a4:Aa Ah) (c4:Nat) (a5:Aa Ah) (c5:Nat) (xe:Ag jC),i=.int .i64 j/\j<=3/\Hid (xe.length + j<=3)/\Qr wr R #[Qs a0 U c0,Qn kc,Qs a1 xe c1,.slice a2 0 c2,.slice a3 0 c3,.slice a4 0 c4,.slice a5 0 c5,Qn 0] 33/\Hid (yB.own wr [Qs a0 U c0,Qn kc,Qs a1 xe c1,.slice a2 0 c2,.slice a3 0 c3,.slice a4 0 c4,.slice a5 0 c5,Qn 0] (U,(kc,xe),[],[],[],[],0) (λk=>tb < k/\k < wr.heap.size/\k≠R))/\w7.heap.size<=wr.heap.size/\yS w0 wr p/\Touch (λk=>k=p\/k=R) w7 wr) (λi _=>(intOf i).toNat);case atStart=>exact ⟨m2,a0,c0,a1,c1,a2,c2,a3,c3,a4,c4,a5,c5,[],rfl,by omega,yD bG7,BN,yD (I.out.wide qN),by omega,hc,af⟩
   case round =>
     clear BN I hc af BT L HL;obtain ⟨j,a0,c0,a1,c1,a2,c2,a3,c3,a4,c4,a5,c5,xe,rfl,hj,HL,BN,I,da,hc,af⟩:=hrel;have fn:=af.size;have BT:=af.kC fh bH3;have L:=yD (cc.out.touch af pV);cases j with
     | zero =>
       have c9:¬ (0:Int) < (0:Nat):=bH3;have gi:xe.length<=3:=bB3;clear HL;go_wp2_with fail;refine (kOn hc).mono ?_;rintro e dz ⟨ra,rc,rl,rfl,hR,f2,F,D⟩;have es:=D.size;obtain ⟨af,BN,BT,I,L⟩:=xX;clear hc D;have hc:=F;clear F;have HR:=yD hR;clear hR;have fw:=f2.1;clear f2;obtain ⟨aq,ar,X,o,N,aj,ai,ag⟩:=yz BN;obtain ⟨au,bh,bq,a8,bf,a9,bl,be⟩:=kIc BN;go_upto_region 13 with fail;generalize G:World.setCell dz _ _=dt;have hT:Touch (λk=>k=R) dz dt:=bB2;replace BN:Qr dt R #[Qs a0 U c0,Qn kc,Qs a1 xe c1,.slice a2 0 c2,.slice a3 0 c3,Qs ra rl rc,.slice a5 0 c5,Qn 0] 33:=by rw [<- G];exact kI (BN) 5
       have ev:=hT.size;clear G;clear aq ar X o N aj ai ag au bh bq a8 bf a9 bl be;obtain ⟨BT,I,L⟩:=I7;replace HR:=yD (HR.out.touch hT pV);obtain ⟨hc,af⟩:=y9;clear hT;replace I:=yD ((kWp I.out HR.out mY).wide (T:=(λk=>tb < k/\k < dt.heap.size/\k≠R)) bN);clear HR;go_wp2_with fail;refine (kOl hc).mono ?_;rintro e ek ⟨ma,mc,ml,rfl,hM,d1,F,D⟩;have ff:=D.size;obtain ⟨af,BN,BT,I,L⟩:=xX;clear hc D;have hc:=F;clear F;have HM:=yD hM;clear hM;obtain ⟨aq,ar,X,o,N,aj,ai,ag⟩:=yz BN;obtain ⟨au,bh,bq,a8,bf,a9,bl,be⟩:=kIc BN;go_upto_region 14 with fail;generalize G:World.setCell ek _ _=d5;have hT:Touch (λk=>k=R) ek d5:=bB2;replace BN:Qr d5 R #[Qs a0 U c0,Qn kc,Qs a1 xe c1,.slice a2 0 c2,.slice a3 0 c3,Qs ra rl rc,Qs ma ml mc,Qn 0] 33:=by rw [<- G];exact kI (BN) 6
       have fr:=hT.size;clear G;clear aq ar X o N aj ai ag au bh bq a8 bf a9 bl be;obtain ⟨BT,I,L⟩:=I7;replace HM:=yD (HM.out.touch hT pV);obtain ⟨hc,af⟩:=y9;clear hT;replace I:=yD ((jBq I.out HM.out mY).wide (T:=(λk=>tb < k/\k < d5.heap.size/\k≠R)) bN);clear HM;go_wp2_with fail;refine (ko (n:=4) hc bH2).mono ?_;rintro e gn ⟨m3,f4,fd,fx,rfl,F,D⟩;have ge:=D.size;obtain ⟨af,BN,BT,I,L⟩:=xX;clear hc D;have hc:=F;clear F;replace fd:=fd bH2;clear fx;obtain ⟨m3,rfl⟩:=Ab f4;go_wp2;go_loopw [9] (λi wr=>∃ (j:Nat) (a0:Aa Ah) (c0:Nat) (a1:Aa Ah) (c1:Nat) (a2:Aa Ah) (c2:Nat) (a3:Aa Ah) (c3:Nat) (a4:Aa Ah) (c4:Nat) (a5:Aa Ah) (c5:Nat) (x2:Ag kF),i=.int .i64 j/\j<=3/\Hid (kAj x2 (3 - j))/\Qr wr R #[Qs a0 U c0,Qn kc,Qs a1 xe c1,Qs a2 x2 c2,.slice a3 0 c3,Qs a4 rl c4,Qs a5 ml c5,Qn 0] 33/\Hid (yB.own wr [Qs a0 U c0,Qn kc,Qs a1 xe c1,Qs a2 x2 c2,.slice a3 0 c3,Qs a4 rl c4,Qs a5 ml c5,Qn 0] (U,(kc,xe),x2,[],rl,ml,0) (λk=>tb < k/\k < wr.heap.size/\k≠R))/\w7.heap.size<=wr.heap.size/\yS w0 wr p/\Touch (λk=>k=p\/k=R) w7 wr) (λi _=>(intOf i).toNat);case atStart=>exact ⟨m3,a0,c0,a1,c1,a2,c2,a3,c3,ra,rc,ma,mc,[],rfl,by omega,yD ⟨by simp,λy hy=>by simp at hy⟩,BN,yD (I.out.wide qN),by omega,hc,af⟩
       case round =>
         clear BN I hc af BT L;obtain ⟨j,a0,c0,a1,c1,a2,c2,a3,c3,a4,c4,a5,c5,x2,rfl,hj,HL,BN,I,da,hc,af⟩:=hrel;have fn:=af.size;have BT:=af.kC fh bH3;have L:=yD (cc.out.touch af pV);cases j with
         | zero =>
           have c9:¬ (0:Int) < (0:Nat):=bH3;go_wp2_with fail;refine (kYh hc).mono ?_;rintro e c6 ⟨sa,sn,sc,sl,rfl,bx,f1,hS,F,D⟩;have e6:=D.size;obtain ⟨af,BN,BT,I,L⟩:=xX;clear hc D;have hc:=F;clear F;subst bx;have e4:=yD hS;have ga:=yD f1;clear hS f1;obtain ⟨aq,ar,X,o,N,aj,ai,ag⟩:=yz BN;obtain ⟨au,bh,bq,a8,bf,a9,bl,be⟩:=kIc BN;go_upto_region 19 with fail;generalize G:World.setCell c6 _ _=bj;have hT:Touch (λk=>k=R) c6 bj:=bB2;replace BN:Qr bj R #[Qs a0 U c0,Qn kc,Qs a1 xe c1,Qs a2 x2 c2,Qs sa sl sc,Qs a4 rl c4,Qs a5 ml c5,Qn 0] 33:=by rw [<- G];exact kI (BN) 4
           have f9:=hT.size;clear G;clear aq ar X o N aj ai ag au bh bq a8 bf a9 bl be;obtain ⟨BT,I,L⟩:=I7;replace e4:=yD (e4.out.touch hT pV);obtain ⟨hc,af⟩:=y9;clear hT;replace I:=yD ((kKl I.out e4.out mY).wide (T:=(λk=>tb < k/\k < bj.heap.size/\k≠R)) bN);clear e4;replace RN:=af.kC RN bH3;replace RT:=af.kC RT bH3;replace J:=J.ji af bD7;have FX:=yD (λ(W:World) (hW:Touch (λk=>k=w.heap.size\/k=w.heap.size + 1) bj W)=>And.intro (kE (hW.kC BN bH3) (j:=0) (v:=.slice a0 U.length c0) rfl) (And.intro (kE (hW.kC BN bH3) (j:=1) (v:=.int .i64 kc) rfl) (And.intro (kE (hW.kC BN bH3) (j:=2) (v:=.slice a1 xe.length c1) rfl) (And.intro (kE (hW.kC BN bH3) (j:=3) (v:=.slice a2 x2.length c2) rfl) (And.intro (kE (hW.kC BN bH3) (j:=4) (v:=.slice sa sl.length sc) rfl) (And.intro (kE (hW.kC BN bH3) (j:=5) (v:=.slice a4 rl.length c4) rfl) (And.intro (kE (hW.kC BN bH3) (j:=6) (v:=.slice a5 ml.length c5) rfl) (And.intro (kE (hW.kC BN bH3) (j:=7) (v:=.int .i64 0) rfl) (And.intro (kE (hW.kC BT bH3) (j:=0) (v:=.slice bi t.1.length ck) rfl) (And.intro (kE (hW.kC BT bH3) (j:=1) (v:=.slice bz t.2.1.length cw) rfl) (And.intro (kE (hW.kC BT bH3) (j:=2) (v:=.slice bb t.2.2.1.length cz) rfl) (kE (hW.kC BT bH3) (j:=3) (v:=.slice cl t.2.2.2.length co) rfl))))))))))));refine kDv (λW=>Touch (λk=>k=w.heap.size\/k=w.heap.size + 1) bj W) bG6 (Touch.of_below bR.drew) ?_;intro t1 dp E;have bD:Qb bj t1:=(by rw [dp];exact bR.drew);replace RN:=kC RN bD;replace RT:=kC RT bD;clear bD dp;have gb:=E.size;refine kL 0 ?_;refine kL 1 ?_;refine kP (k:=2) rfl bG6 rfl (λK H=>?_);obtain ⟨ce,dm,di,dq,ey,ei,eq,e0⟩:=yz RN;obtain ⟨dn,dj,dl,dr,en,el,ez,em⟩:=kIc RN;go_simp;generalize G:World.setCell (World.setCell (World.setCell (World.setCell (World.setCell (World.setCell (World.setCell (World.setCell t1 _ _) _ _) _ _) _ _) _ _) _ _) _ _) _ _=t2;have hT:Touch (λk=>k=w.heap.size) t1 t2:=(by rw [<- G];exact sT8);replace RN:Qr t2 w.heap.size #[Qs a0 U c0,Qn kc,Qs a1 xe c1,Qs a2 x2 c2,Qs sa sl sc,Qs a4 rl c4,Qs a5 ml c5,Qn 0] 33:=(by rw [<- G];exact kI (kI (kI (kI (kI (kI (kI (kI (RN) 0) 1) 2) 3) 4) 5) 6) 7);have e9:=hT.size;clear G ce dn dm dj di dl dq dr ey en ei el eq ez e0 em;replace RT:=hT.kC RT bH3;replace E:=E.trans (hT.wide (λk q=>.inl q));clear hT;refine H _ _ E ?_;clear H K;refine jG ?_;refine kP (k:=3) rfl bG6 rfl (λK H=>?_);obtain ⟨ce,dm,di,dq⟩:=jZ RT;obtain ⟨dn,dj,dl,dr⟩:=kAq RT;go_simp;generalize G:World.setCell (World.setCell (World.setCell (World.setCell t2 _ _) _ _) _ _) _ _=t3;obtain ⟨hT,RT,e7⟩:=EE;clear G ce dn dm dj di dl dq dr;replace RN:=hT.kC RN bH3;replace E:=E.trans (hT.wide (λk q=>.inr q));clear hT;refine H _ _ E ?_;clear H K;refine jG ?_;refine jg bG6 ?_;obtain ⟨fq,ft,fl,fo,fg,fp,fk,fm⟩:=yz RN;obtain ⟨de,dc,dd,dk⟩:=jZ RT;have zS:=E.size;go_wp2;refine bodyPost_ret (v:=.tuple #[.agg #[Qs a0 U c0,Qn kc,Qs a1 xe c1,Qs a2 x2 c2,Qs sa sl sc,Qs a4 rl c4,Qs a5 ml c5,Qn 0],.agg #[Qs bi t.1 ck,Qs bz t.2.1 cw,Qs bb t.2.2.1 cz,Qs cl t.2.2.2 co]]) (by simp [results,results59,go_sem,fq,ft,fl,fo,fg,fp,fk,fm,de,dc,dd,dk]) rfl ⟨[Qs a0 U c0,Qn kc,Qs a1 xe c1,Qs a2 x2 c2,Qs sa sl sc,Qs a4 rl c4,Qs a5 ml c5,Qn 0],(U,(kc,xe),x2,sl,rl,ml,0),[.slice bi t.1.length ck,.slice bz t.2.1.length cw,.slice bb t.2.2.1.length cz,.slice cl t.2.2.2.length co],t,tb,rfl,?_,⟨by simp only;omega,by simp only;omega,HL.out.mono bH3,ga.out,by simp only;omega,by simp only;omega,by simp,by simp⟩,?_,hlt,⟨by omega,by omega⟩,hc.touch E bH3 bD7,J.ji E bD7⟩
           · exact (I.out.touch E vD).wide (T:=jb tb _) (λj hj=>⟨by have:=hj.1;omega,by have:=hj.2.1;omega⟩)
           · exact (L.out.touch E vD).wide (T:=jb w.heap.size tb) mV
         | succ j =>
           have c8:(0:Int) < (j:Int) + 1:=bH3;go_upto_region 17 with fail;refine kJc (λW=>Touch (λk=>k=p) wr W/\yS w0 W p) (λ_=>True) [] [(0,true),(1,true),(2,true),(4,true),(3,false),(5,false),(6,false),(7,true)] [(8,true),(9,true),(10,true),(11,false)] bG6 bG6 qY (⟨Touch.of_below bR.drew,hc.below bR.drew⟩) ?_;intro wS E;simp only [jB,zO,Ad,Ae,List.map_cons,List.map_nil];refine pre_nil ?_;refine jf (v:=?_) rfl (λW hW=>?_) ?_;rotate_left;(· go_simp;try with_reducible rfl);refine jG ?_;refine jf (v:=?_) rfl (λW hW=>?_) ?_;rotate_left;(· have dg:=kE (hW.1.kC BN bH3) (j:=0) (v:=.slice a0 U.length c0) rfl;have dw:=kE (hW.1.kC BN bH3) (j:=1) (v:=.int .i64 kc) rfl;have d0:=kE (hW.1.kC BN bH3) (j:=2) (v:=.slice a1 xe.length c1) rfl;have eh:=kE (hW.1.kC BN bH3) (j:=3) (v:=.slice a2 x2.length c2) rfl;have eg:=kE (hW.1.kC BN bH3) (j:=4) (v:=.slice a3 0 c3) rfl;have e3:=kE (hW.1.kC BN bH3) (j:=5) (v:=.slice a4 rl.length c4) rfl;have ew:=kE (hW.1.kC BN bH3) (j:=6) (v:=.slice a5 ml.length c5) rfl;have e5:=kE (hW.1.kC BN bH3) (j:=7) (v:=.int .i64 0) rfl;clear hW;go_simp;try with_reducible rfl);iterate 2
            refine jG ?_
            refine jf (v:=?_) rfl (λW hW=>?_) ?_;rotate_left;(· go_simp;try with_reducible rfl)
           refine jG ?_;refine zK rfl (λK H=>?_);go_simp;refine (kOj E.2).mono ?_;rintro e wS1 ⟨ia,ic,ps,n,h,tl,rfl,hr,db,hn,hh,ht,ap,am⟩;have HI:=yD (int_own hr (n:=n) (h:=h) (t:=tl) bH3 bH3 bH3);have fu:=yD db;have fe:=E.1.size;have gf:=am.size;replace E:=And.intro (E.1.trans am) ap;refine H _ _ E ?_;clear H K ap am hr;refine jG ?_;refine zK rfl (λK H=>?_);go_simp;refine (ko (n:=4) E.2 bH2).mono ?_;rintro e bm ⟨f,d4,df,dx,rfl,ap,am⟩;replace df:=df bH2;clear dx;replace HI:=yD (HI.out.touch am pV);have gm:=am.size;replace E:=And.intro (E.1.trans am) ap;refine H _ _ E ?_;clear H K ap am;refine jG ?_;refine zK rfl (λK H=>?_);go_simp;refine (kEc (l:=x2) (node_pendZ (I.out.touch E.1 pV).rd) (λy hy=>Nat.le_trans (HL.out.2 y hy).1 bH3) (cx:=[.slice ia ps.length ic,.int .i64 n,.int .i64 h,.int .i64 tl]) (x:=(ps,n,h,tl)) HI.out.rd (f:=f) bH3 (t:=45) bH3).mono ?_;rintro e Y ⟨v2,rfl,O2,Z⟩;have dv:=E.1.size;have bk:=Z.size;replace E:=And.intro (E.1.trans (Touch.of_below Z)) (E.2.below Z);obtain ⟨O,ba⟩:∃ O,kBk (ps,n,h,tl) f 45 x2=O:=⟨_,rfl⟩;have fj:=kXt (x:=(ps,n,h,tl)) (f:=f) (t:=45) (show n < 100 by omega) fu.out.2 HL.out;rw [ba] at O2 fj;clear ba;have br:Hid (kAj O (3 - j)):=yD (fj.mono bH3);generalize yH (ps,n,h,tl) f x2=okA;obtain ⟨va,vc,aw,_⟩:=kD.kBd O2.raw;obtain rfl:v2=.slice va O.length vc:=(by simpa using aw);clear aw fj;have HN:=yD O2;refine H _ _ E ?_;clear H K Z O2;refine jG ?_;refine jf (v:=?_) rfl (λW hW=>?_) ?_;rotate_left;(· go_simp;try with_reducible rfl);refine jG ?_;obtain ⟨fi,RS,ak,al,ao,an⟩:=EY;have az:Qc Y R 2 (.slice a1 xe.length c1):=kE RS rfl;have ay:Y.frozen? ⟨R,2,none⟩=false:=Ac Y (R) 2 _ _ RS;have a7:Qc Y R 3 (.slice a2 x2.length c2):=kE RS rfl;obtain ⟨a6,bp,bn⟩:=GR;have ej:Qc Y R 5 (.slice a4 rl.length c4):=kE RS rfl;have eu:Y.frozen? ⟨R,5,none⟩=false:=Ac Y (R) 5 _ _ RS;have eo:Qc Y R 6 (.slice a5 ml.length c5):=kE RS rfl;obtain ⟨ep,er,e1⟩:=GX;refine kAa trivial ?_;iterate 3
            refine ky ?_
           refine kw rfl (λK H=>?_);go_simp;refine H _ _ trivial ?_;clear H K;refine jG ?_;refine kS ?_;replace af:=af.ji E.1 nJ;replace BT:=E.1.kC BT bH3;replace I:=yD (I.out.touch E.1 pV);replace L:=yD (L.out.touch E.1 pV);replace hc:=E.2;clear E BN;have BN:=RS;clear RS ak al ao an az ay a7 a6 bp bn ej eu eo ep er e1;clear HI L BT;generalize G:World.setCell Y _ _=c6;have hT:Touch (λk=>k=R) Y c6:=bB2;replace BN:Qr c6 R #[Qs a0 U c0,Qn kc,Qs a1 xe c1,Qs va O vc,.slice a3 0 c3,Qs a4 rl c4,Qs a5 ml c5,Qn 0] 33:=by rw [<- G];exact kI (BN) 3
           have e6:=hT.size;clear G;replace I:=yD (I.out.touch hT pV);replace HN:=yD (HN.out.touch hT pV);obtain ⟨hc,af⟩:=y9;clear hT;replace I:=yD ((kEy I.out HN.out mY).wide (T:=(λk=>tb < k/\k < c6.heap.size/\k≠R)) bN);go_wp2;go_roundw;case rel=>exact ⟨j,a0,c0,a1,c1,va,vc,a3,c3,a4,c4,a5,c5,O,by go_num,by omega,br,BN,I,by omega,hc,af⟩
           case measure=>simp [intOf]
     | succ j =>
       have c8:(0:Int) < (j:Int) + 1:=bH3;obtain ⟨cg,b6,cf,cd⟩:=jZ BT;go_wp2_with fail;refine (kOr hc (ct:=[.slice bi t.1.length ck,.slice bz t.2.1.length cw,.slice bb t.2.2.1.length cz,.slice cl t.2.2.2.length co]) (tp:=t) L.out vR).mono ?_;rintro e dz ⟨ds,x,rfl,hX,bg,F,D⟩;clear cg b6 cf cd;have es:=D.size;obtain ⟨af,BN,BT,I,L⟩:=xX;clear hc D;have hc:=F;clear F;obtain ⟨b8,b9,b2,b1,cv,b4,rfl⟩:=zk hX.raw;have HX:=yD hX;clear hX;go_upto_region 11 with fail;generalize G:World.alloc dz _=dt;have hb:Qb dz dt:=tK;have BX:Qr dt dz.heap.size #[Qs b8 x.1 b9,Qs b2 x.2.1 b1,Qs cv x.2.2.1 b4,Qn x.2.2.2.1,Qn x.2.2.2.2] 70:=wW;have f8:dz.heap.size + 1<=dt.heap.size:=bF4;clear G;have ev:=hb.size;replace af:=af.trans (Touch.of_below hb);replace BN:=kC BN hb;replace BT:=kC BT hb;replace I:=yD (I.out.below hb);replace L:=yD (L.out.below hb);replace HX:=yD (HX.out.below hb);replace hc:=hc.below hb;clear hb;obtain ⟨aq,ar,X,o,N,aj,ai,ag⟩:=yz BN;obtain ⟨aa,ab,ae,ac,ah⟩:=zD BX;go_wp2_with fail;refine (kLc (cx:=[.int .i64 kc,.slice a1 xe.length c1]) (x:=(kc,xe)) (node_cache I.out.rd) (cy:=[.slice b8 x.1.length b9,.slice b2 x.2.1.length b1,.slice cv x.2.2.1.length b4,.int .i64 x.2.2.2.1,.int .i64 x.2.2.2.2]) HX.out.rd (t:=40) bH3 (by have:=HL.out;show xe.length<=_;omega)).mono ?_;rintro e ek ⟨cs,rfl,b0,hb⟩;clear aq ar X o N aj ai ag aa ab ae ac ah;have ff:=hb.size;replace af:=af.trans (Touch.of_below hb);replace BN:=kC BN hb;replace BT:=kC BT hb;replace BX:=kC BX hb;replace I:=yD (I.out.below hb);replace L:=yD (L.out.below hb);replace HX:=yD (HX.out.below hb);replace hc:=hc.below hb;clear hb;obtain ⟨O,ba,ee⟩:=kRd x 40 kc xe;rw [ba] at b0;obtain ⟨na,np,rfl⟩:=kKa b0.raw;clear ba;have HN:=yD b0;have gg:=yD ee;clear b0 HX BX L ee;obtain ⟨aq,ar,X,o,N,aj,ai,ag⟩:=yz BN;obtain ⟨au,bh,bq,a8,bf,a9,bl,be⟩:=kIc BN;go_upto_region 9 with fail;generalize G:World.setCell (World.setCell ek _ _) _ _=d5;have hT:Touch (λk=>k=R) ek d5:=bB8;replace BN:Qr d5 R #[Qs a0 U c0,Qn kc,Qs na O np,.slice a2 0 c2,.slice a3 0 c3,.slice a4 0 c4,.slice a5 0 c5,Qn 0] 33:=by rw [<- G];exact kI (kI (BN) 1) 2
       have fr:=hT.size;clear G;clear aq ar X o N aj ai ag au bh bq a8 bf a9 bl be;replace BT:=hT.kC BT bH3;replace I:=yD (I.out.touch hT pV);replace HN:=yD (HN.out.touch hT pV);obtain ⟨hc,af⟩:=y9;clear hT;replace I:=yD ((kIu I.out HN.out mY).wide (T:=(λk=>tb < k/\k < d5.heap.size/\k≠R)) bN);go_wp2;go_roundw;case rel=>exact ⟨j,a0,c0,na,np,a2,c2,a3,c3,a4,c4,a5,c5,O,by go_num,by omega,yD (by have:=HL.out;have:=gg.out;omega),BN,I,by omega,hc,af⟩
       case measure=>simp [intOf]
 | succ j =>
   have c8:(0:Int) < (j:Int) + 1:=bH3;go_upto_region 6 with fail;refine kJc (λW=>Touch (λk=>k=p) wr W/\yS w0 W p) (λ_=>True) [] [(0,true),(1,true),(2,true),(3,false),(4,false),(5,true)] [(6,true),(7,true),(8,false)] bG6 bG6 qY (⟨Touch.of_below bR.drew,hc.below bR.drew⟩) ?_;intro wS E;simp only [jB,zO,Ad,Ae,List.map_cons,List.map_nil];refine pre_nil ?_;refine jf (v:=?_) rfl (λW hW=>?_) ?_;rotate_left;(· have dg:=kE (hW.1.kC BN bH3) (j:=0) (v:=.slice a0 U.length c0) rfl;have dw:=kE (hW.1.kC BN bH3) (j:=1) (v:=.int .i64 kc) rfl;have d0:=kE (hW.1.kC BN bH3) (j:=2) (v:=.slice a1 0 c1) rfl;have eh:=kE (hW.1.kC BN bH3) (j:=3) (v:=.slice a2 0 c2) rfl;have eg:=kE (hW.1.kC BN bH3) (j:=4) (v:=.slice a3 0 c3) rfl;have e3:=kE (hW.1.kC BN bH3) (j:=5) (v:=.slice a4 0 c4) rfl;have ew:=kE (hW.1.kC BN bH3) (j:=6) (v:=.slice a5 0 c5) rfl;have e5:=kE (hW.1.kC BN bH3) (j:=7) (v:=.int .i64 0) rfl;have gd:=kE (hW.1.kC BT bH3) (j:=0) (v:=.slice bi t.1.length ck) rfl;have gc:=kE (hW.1.kC BT bH3) (j:=1) (v:=.slice bz t.2.1.length cw) rfl;have fv:=kE (hW.1.kC BT bH3) (j:=2) (v:=.slice bb t.2.2.1.length cz) rfl;have f6:=kE (hW.1.kC BT bH3) (j:=3) (v:=.slice cl t.2.2.2.length co) rfl;clear hW;go_simp;try with_reducible rfl);refine jG ?_;refine jf (v:=?_) rfl (λW hW=>?_) ?_;rotate_left;(· go_simp;try with_reducible rfl);refine jG ?_;refine jf (v:=?_) rfl (λW hW=>?_) ?_;rotate_left;(· have dg:=kE (hW.1.kC BN bH3) (j:=0) (v:=.slice a0 U.length c0) rfl;have dw:=kE (hW.1.kC BN bH3) (j:=1) (v:=.int .i64 kc) rfl;have d0:=kE (hW.1.kC BN bH3) (j:=2) (v:=.slice a1 0 c1) rfl;have eh:=kE (hW.1.kC BN bH3) (j:=3) (v:=.slice a2 0 c2) rfl;have eg:=kE (hW.1.kC BN bH3) (j:=4) (v:=.slice a3 0 c3) rfl;have e3:=kE (hW.1.kC BN bH3) (j:=5) (v:=.slice a4 0 c4) rfl;have ew:=kE (hW.1.kC BN bH3) (j:=6) (v:=.slice a5 0 c5) rfl;have e5:=kE (hW.1.kC BN bH3) (j:=7) (v:=.int .i64 0) rfl;have gd:=kE (hW.1.kC BT bH3) (j:=0) (v:=.slice bi t.1.length ck) rfl;have gc:=kE (hW.1.kC BT bH3) (j:=1) (v:=.slice bz t.2.1.length cw) rfl;have fv:=kE (hW.1.kC BT bH3) (j:=2) (v:=.slice bb t.2.2.1.length cz) rfl;have f6:=kE (hW.1.kC BT bH3) (j:=3) (v:=.slice cl t.2.2.2.length co) rfl;clear hW;go_simp;try with_reducible rfl);refine jG ?_;refine zK rfl (λK H=>?_);go_simp;refine (kOr E.2 (ct:=[.slice bi t.1.length ck,.slice bz t.2.1.length cw,.slice bb t.2.2.1.length cz,.slice cl t.2.2.2.length co]) (tp:=t) (L.out.touch E.1 pV) vR).mono ?_;rintro e wS1 ⟨ds,x,rfl,hX,bg,ap,am⟩;obtain ⟨b8,b9,b2,b1,cv,b4,rfl⟩:=zk hX.raw;have HX:=yD hX;have fe:=E.1.size;have gf:=am.size;replace E:=And.intro (E.1.trans am) ap;refine H _ _ E ?_;clear H K ap am hX;refine jG ?_;refine zK rfl (λK H=>?_);go_simp;refine (kWb (cx:=[.slice a0 U.length c0,.int .i64 kc,.slice a1 0 c1,.slice a2 0 c2,.slice a3 0 c3,.slice a4 0 c4,.slice a5 0 c5,.int .i64 0]) (x:=(U,(kc,[]),[],[],[],[],0)) (I.out.touch E.1 pV).rd (ct:=[.slice b8 x.1.length b9,.slice b2 x.2.1.length b1,.slice cv x.2.2.1.length b4,.int .i64 x.2.2.2.1,.int .i64 x.2.2.2.2]) HX.out.rd).mono ?_;rintro e Y ⟨cs,rfl,hO,Z⟩;have dv:=E.1.size;have bk:=Z.size;replace E:=And.intro (E.1.trans (Touch.of_below Z)) (E.2.below Z);obtain ⟨y0,ch,gh⟩:=addL_len x U ((kc,[]),[],[],[],[],0);rw [ch] at hO;obtain ⟨du,c7,d8,d2,eb,d3,ea,ec,ed,d6,d9,d7,rfl⟩:=kFo hO.raw;simp only [List.length_nil] at hO ⊢;clear ch;generalize kPn x _=okA;have HN:=yD hO;refine H _ _ E ?_;clear H K Z hO;refine jG ?_;refine jf (v:=?_) rfl (λW hW=>?_) ?_;rotate_left;(· go_simp;try with_reducible rfl);refine jG ?_;obtain ⟨fi,RS,ak,al,ao,an⟩:=EY;have az:Qc Y R 2 (.slice a1 0 c1):=kE RS rfl;have ay:Y.frozen? ⟨R,2,none⟩=false:=Ac Y (R) 2 _ _ RS;have a7:Qc Y R 3 (.slice a2 0 c2):=kE RS rfl;obtain ⟨a6,bp,bn⟩:=GR;have ej:Qc Y R 5 (.slice a4 0 c4):=kE RS rfl;have eu:Y.frozen? ⟨R,5,none⟩=false:=Ac Y (R) 5 _ _ RS;have eo:Qc Y R 6 (.slice a5 0 c5):=kE RS rfl;obtain ⟨ep,er,e1⟩:=GX;refine kAa trivial ?_;refine ky ?_;refine ky ?_;refine kw rfl (λK H=>?_);go_simp;refine H _ _ trivial ?_;clear H K;refine jG ?_;refine kS ?_;replace af:=af.ji E.1 nJ;replace BT:=E.1.kC BT bH3;replace I:=yD (I.out.touch E.1 pV);replace L:=yD (L.out.touch E.1 pV);replace hc:=E.2;clear E BN;have BN:=RS;clear RS ak al ao an az ay a7 a6 bp bn ej eu eo ep er e1;clear I HX L BT;generalize G:World.setCell (World.setCell (World.setCell (World.setCell (World.setCell (World.setCell (World.setCell (World.setCell Y _ _) _ _) _ _) _ _) _ _) _ _) _ _) _ _=bu;have hT:Touch (λk=>k=R) Y bu:=bC1;replace BN:Qr bu R #[Qs du y0 c7,Qn kc,.slice d8 0 d2,.slice eb 0 d3,.slice ea 0 ec,.slice ed 0 d6,.slice d9 0 d7,Qn 0] 33:=by rw [<- G];exact kI (kI (kI (kI (kI (kI (kI (kI (BN) 0) 1) 2) 3) 4) 5) 6) 7
   have cm:=hT.size;clear G;replace HN:=yD (HN.out.touch hT pV);obtain ⟨hc,af⟩:=y9;clear hT;go_wp2;go_roundw;case rel=>exact ⟨j,du,c7,d8,d2,eb,d3,ea,ec,ed,d6,d9,d7,y0,by go_num,by omega,yD bB3,BN,yD (HN.out.wide gD),by omega,hc,af⟩
   case measure=>simp [intOf]
end Go.Proofs.YtjhfdpopkkmigabGreat

/-
  A node of a small world, drawn.
-/
import Derived.Test.YtjhfdpopkkmigaaGreatDrawH
import Derived.Test.YtjhfdpopkkmigaaGreatDrawC
import Derived.Test.YtjhfdpopkkmigaaGreatSoft5
set_option linter.unusedVariables false
set_option linter.unusedSimpArgs false
set_option linter.unnecessarySimpa false
set_option maxRecDepth 100000
set_option maxHeartbeats 16000000
open _root_ renaming Option->Aa,List->Ag
open Int renaming eq_ofNat_of_zero_le->Ab
open Go renaming frozen_of_row->Ac,Addr->Ah
open List renaming getElem?_cons_succ->Ad,getElem?_cons_zero->Ae
namespace Go.Proofs.YtjhfdpopkkmigaaGreat
open Go.RowKit _root_.Go.Proofs.Tryz
theorem yj {w:World} {cs:Ag Value} {x:jq} (h:je.raw w cs x):∃ a0 c0 a1 c1 a2 c2 a3 c3 a4 c4 a5 c5,cs=[.slice a0 x.1.length c0,.int .i64 x.2.1.1,.slice a1 x.2.1.2.length c1,.slice a2 x.2.2.1.length c2,.slice a3 x.2.2.2.1.length c3,.slice a4 x.2.2.2.2.1.length c4,.slice a5 x.2.2.2.2.2.1.length c5,.int .i64 x.2.2.2.2.2.2]:=by
 obtain ⟨v0,v2,v3,v4,v5,v6,rfl,ac,Z,ao,ai,ad,av,aq,o,D⟩:=yB h;obtain ⟨a0,c0,rfl,_⟩:=kD.sl ac;obtain ⟨a1,c1,rfl,_⟩:=kD.sl ai;obtain ⟨a2,c2,rfl,_⟩:=kD.sl ad;obtain ⟨a3,c3,rfl,_⟩:=kD.sl av;obtain ⟨a4,c4,rfl,_⟩:=kD.sl aq;obtain ⟨a5,c5,rfl,_⟩:=kD.sl o;exact ⟨_,_,_,_,_,_,_,_,_,_,_,_,rfl⟩
theorem addL_len (t:jL) (x0:Ag jL) (r:kg × Ag kI × Ag jK × Ag kz × Ag kT × Int):∃ y0,addL t (x0,r)=(y0,r)/\y0.length<=x0.length + 1:=by
 unfold addL;split
 · exact ⟨x0++[t],rfl,by simp⟩
 exact ⟨x0,rfl,by omega⟩
theorem kVp {w:World} {c0 c1 c2 c3 c4 c5 N D v:Value} {x0:Ag jL} {x1:kg} {x2:Ag kI} {x3:Ag jK} {x4 y:Ag kz} {X:Ag kT} {o:Int} {S T:Nat->Prop}
    (h:je.own w [c0,c1,c2,c3,c4,c5,N,D] (x0,x1,x2,x3,x4,X,o) S) (hv:(kD.slice 131 kS).own w [v] y T) (hd:∀ k,S k->T k->False):je.own w [c0,c1,c2,c3,c4,v,N,D] (x0,x1,x2,x3,y,X,o) (λk=>S k\/T k) :=
  kD.set_right (c:=[c0]) h rfl (λB hB hq=>kD.set_right (c:=[c1,c2]) hq rfl (λB2 E bu=>kD.set_right (c:=[c3]) bu rfl (λB3 G F=>kD.set_right (c:=[c4]) F rfl (λO H I=>kD.set_left (c:=[c5]) (c':=[v]) I rfl hv (λk a b=>hd k (hB k (E k (G k (H k a)))) b)) (λk a b=>hd k (hB k (E k (G k a))) b)) (λk a b=>hd k (hB k (E k a)) b)) (λk a b=>hd k (hB k a) b)) hd
theorem node_pendZ {w:World} {c0 c1 c2 c3 c4 c5 N D:Value} {x0:Ag jL} {x1:kg} {x2:Ag kI} {x3:Ag jK} {x4:Ag kz} {X:Ag kT} {o:Int} (h:je.rd w [c0,c1,c2,c3,c4,c5,N,D] (x0,x1,x2,x3,x4,X,o)):(kD.slice 145 kJ).rd w [c3] x2:=⟨node_pend h.1,h.2.2.2.1⟩
def tameN (x:jq):Prop:=x.1.length<=9/\x.2.1.2.length<=9/\kAf x.2.2.1 14/\kFk x.2.2.2.1/\x.2.2.2.2.1.length<=48/\x.2.2.2.2.2.1.length<=48/\-1<=x.2.2.2.2.2.2/\x.2.2.2.2.2.2<=0
def DrawnN (w0 w:World) (p:Nat) (e:Ending) (w':World):Prop:=∃ cs x ct t tb,e=.returned (.tuple #[.agg cs.toArray,.agg ct.toArray])/\je.own w' cs x (jU tb w'.heap.size)/\tameN x/\kAy.ji w' ct t (jU w.heap.size tb)/\lenT t/\(w.heap.size<=tb/\tb<=w'.heap.size)/\yT w0 w' p/\Touch (λk=>k=p) w w'
theorem kXe {w0 w:World} {p:Nat} (hc:yT w0 w p) :
    Calls prog 110 #[.pointer (some ⟨p,0,none⟩)] w λe w'=>DrawnN w0 w p e w':=by
 go_enter func110,ntmps110
 obtain ⟨ay,bt⟩:=hc.lt
 go_upto_region 1 with fail
 generalize F:World.alloc (World.alloc w _) _=w1
 obtain ⟨hb,RN,RT,bf⟩:=CJ
 clear F
 replace hc:=hc.below hb
 have J:Touch (λk=>k=p) w w1:=Touch.of_below hb
 clear hb
 go_wp2_with fail
 refine (kUr hc).mono ?_
 rintro e V ⟨ds,t,rfl,N,hlt,G,D⟩
 have bg:=D.size
 replace RN:=D.kC RN bD1
 replace RT:=D.kC RT bD1
 replace J:=J.trans D
 clear hc D
 have hc:=G
 clear G
 obtain ⟨a8,ce,bn,co,bb,cq,df,dg,rfl⟩:=kGf N.rd.1
 have U:=yD (N)
 clear N
 go_upto_region 2 with fail
 generalize F:World.alloc V _=w3
 have aa:Qb V w3:=rT
 have BT:Qr w3 V.heap.size #[Qs a8 t.1 ce,Qs bn t.2.1 co,Qs bb t.2.2.1 cq,Qs df t.2.2.2 dg] 79:=vD
 have bi:V.heap.size + 1<=w3.heap.size:=bB3
 clear F
 replace RN:=kC RN aa
 replace RT:=kC RT aa
 replace U:=yD (U.out.below aa)
 replace hc:=hc.below aa
 replace J:=J.trans (Touch.of_below aa)
 clear aa
 obtain ⟨tb,em⟩:∃ b_,b_=V.heap.size:=⟨_,rfl⟩
 rw [<- em] at BT ⊢
 have eq:=Nat.le_of_eq em
 have er:=Nat.le_of_eq em.symm
 clear em
 go_wp2_with fail
 refine (ku (n:=4) hc bD0).mono ?_
 rintro e w4 ⟨k4,gj,ey,f2,rfl,G,D⟩
 have bu:=D.size
 replace RN:=D.kC RN bD1
 replace RT:=D.kC RT bD1
 replace BT:=D.kC BT bD1
 replace U:=yD (U.out.touch D pX)
 replace J:=J.trans D
 clear hc D
 have hc:=G
 clear G
 replace ey:=ey bD0
 clear f2
 go_wp2_with fail
 refine (kMu (c:=k4) bD1).mono ?_
 rintro e w5 ⟨cs,rfl,hO,hb⟩
 have br:=hb.size
 replace RN:=kC RN hb
 replace RT:=kC RT hb
 replace BT:=kC BT hb
 replace U:=yD (U.out.below hb)
 obtain ⟨hc,J⟩:=xE
 clear hb
 obtain ⟨a0,c0,a1,c1,a2,c2,a3,c3,a4,c4,a5,c5,rfl⟩:=yj hO.raw
 simp only [newN,kGs,List.length_nil] at hO ⊢
 have fz:=kIn (c:=k4) bD1
 generalize kGu k4=kc at *
 have L:=yD (hO)
 clear hO
 go_upto_region 3 with fail
 generalize F:World.alloc w5 _=w6
 have aw:Qb w5 w6:=rT
 have BN:Qr w6 w5.heap.size #[.slice a0 0 c0,Qn kc,.slice a1 0 c1,.slice a2 0 c2,.slice a3 0 c3,.slice a4 0 c4,.slice a5 0 c5,Qn 0] 33:=vD
 have da:w5.heap.size + 1<=w6.heap.size:=bB3
 clear F
 replace RN:=kC RN aw
 replace RT:=kC RT aw
 replace BT:=kC BT aw
 replace U:=yD (U.out.below aw)
 obtain ⟨L,hc,J⟩:=I7
 clear aw
 obtain ⟨R,eg⟩:∃ b_,b_=w5.heap.size:=⟨_,rfl⟩
 rw [<- eg] at BN ⊢
 have fv:=Nat.le_of_eq eg
 have fr:=Nat.le_of_eq eg.symm
 clear eg
 go_wp2_with fail
 refine (ku (n:=3) hc bD0).mono ?_
 rintro e w7 ⟨m,bc,ad,c8,rfl,G,D⟩
 have ea:=D.size
 replace RN:=D.kC RN bD1
 replace RT:=D.kC RT bD1
 replace BT:=D.kC BT bD1
 replace BN:=D.kC BN bD1
 replace U:=yD (U.out.touch D pX)
 obtain ⟨L,J⟩:=xK
 clear hc D
 have hc:=G
 clear G
 replace ad:=ad bD0
 clear c8
 obtain ⟨m,rfl⟩:=Ab bc
 have dc:=U
 have e4:=BT
 clear U BT
 go_wp2
 go_loopw [6] (λi wr=>∃ (j:Nat) (a0:Aa Ah) (c0:Nat) (a1:Aa Ah) (c1:Nat) (a2:Aa Ah) (c2:Nat) (a3:Aa Ah) (c3:Nat) (a4:Aa Ah) (c4:Nat) (a5:Aa Ah) (c5:Nat) (x0:Ag jL),i=.int .i64 j/\j<=3/\Hid (x0.length + j<=2)/\Qr wr R #[Qs a0 x0 c0,Qn kc,.slice a1 0 c1,.slice a2 0 c2,.slice a3 0 c3,.slice a4 0 c4,.slice a5 0 c5,Qn 0] 33/\Hid (je.own wr [Qs a0 x0 c0,Qn kc,.slice a1 0 c1,.slice a2 0 c2,.slice a3 0 c3,.slice a4 0 c4,.slice a5 0 c5,Qn 0] (x0,(kc,[]),[],[],[],[],0) (λk=>tb < k/\k < wr.heap.size/\k≠R))/\w7.heap.size<=wr.heap.size/\yT w0 wr p/\Touch (λk=>k=p\/k=R) w7 wr) (λi _=>(intOf i).toNat)
 case atStart=>exact ⟨m,a0,c0,a1,c1,a2,c2,a3,c3,a4,c4,a5,c5,[],rfl,by omega,yD bC6,BN,yD (L.out.wide fP),Nat.le_refl _,hc,Touch.of_below bR⟩
 clear BN L hc
 obtain ⟨j,a0,c0,a1,c1,a2,c2,a3,c3,a4,c4,a5,c5,x0,rfl,I,HL,BN,L,dp,hc,Z⟩:=hrel
 have fb:=Z.size
 have BT:=Z.kC e4 bD1
 have U:=yD (dc.out.touch Z nT)
 cases j with
 | zero =>
   have dq:¬ (0:Int) < (0:Nat):=bD1;go_wp2_with fail;refine (ku (n:=4) hc bD0).mono ?_;rintro e b8 ⟨m2,fu,ew,f7,rfl,G,D⟩;have dr:=D.size;obtain ⟨Z,BN,BT,L,U⟩:=z8;clear hc D;have hc:=G;clear G;replace ew:=ew bD0;clear f7;obtain ⟨m2,rfl⟩:=Ab fu;have gl:x0.length<=2:=vQ;go_wp2;go_loopw [7] (λi wr=>∃ (j:Nat) (a0:Aa Ah) (c0:Nat) (a1:Aa Ah) (c1:Nat) (a2:Aa Ah) (c2:Nat) (a3:Aa Ah) (c3:Nat) (a4:Aa Ah) (c4:Nat) (a5:Aa Ah) (c5:Nat) (xe:Ag kZ),i=.int .i64 j/\j<=3/\Hid (xe.length + j<=3)/\Qr wr R #[Qs a0 x0 c0,Qn kc,Qs a1 xe c1,.slice a2 0 c2,.slice a3 0 c3,.slice a4 0 c4,.slice a5 0 c5,Qn 0] 33/\Hid (je.own wr [Qs a0 x0 c0,Qn kc,Qs a1 xe c1,.slice a2 0 c2,.slice a3 0 c3,.slice a4 0 c4,.slice a5 0 c5,Qn 0] (x0,(kc,xe),[],[],[],[],0) (λk=>tb < k/\k < wr.heap.size/\k≠R))/\w7.heap.size<=wr.heap.size/\yT w0 wr p/\Touch (λk=>k=p\/k=R) w7 wr) (λi _=>(intOf i).toNat);case atStart=>exact ⟨m2,a0,c0,a1,c1,a2,c2,a3,c3,a4,c4,a5,c5,[],rfl,by omega,yD bC6,BN,yD (L.out.wide pR),by omega,hc,Z⟩
   case round =>
     clear BN L hc Z BT U HL;obtain ⟨j,a0,c0,a1,c1,a2,c2,a3,c3,a4,c4,a5,c5,xe,rfl,I,HL,BN,L,dp,hc,Z⟩:=hrel;have fb:=Z.size;have BT:=Z.kC e4 bD1;have U:=yD (dc.out.touch Z nT);cases j with
     | zero =>
       have dq:¬ (0:Int) < (0:Nat):=bD1;have gi:xe.length<=3:=vQ;clear HL;go_wp2_with fail;refine (kMp hc).mono ?_;rintro e d9 ⟨ra,rc,rl,rfl,hR,fx,G,D⟩;have fc:=D.size;obtain ⟨Z,BN,BT,L,U⟩:=z8;clear hc D;have hc:=G;clear G;have HR:=yD hR;clear hR;have fn:=fx.1;clear fx;obtain ⟨ao,ar,ah,ab,ag,ap,aj,ai⟩:=yL BN;obtain ⟨az,bz,b1,a7,bw,a9,b0,bv⟩:=kCz BN;go_upto_region 13 with fail;generalize F:World.setCell d9 _ _=ej;have N:Touch (λk=>k=R) d9 ej:=vR;replace BN:Qr ej R #[Qs a0 x0 c0,Qn kc,Qs a1 xe c1,.slice a2 0 c2,.slice a3 0 c3,Qs ra rl rc,.slice a5 0 c5,Qn 0] 33:=by rw [<- F];exact kF (BN) 5
       have fg:=N.size;clear F;clear ao ar ah ab ag ap aj ai az bz b1 a7 bw a9 b0 bv;obtain ⟨BT,L,U⟩:=IP;replace HR:=yD (HR.out.touch N nT);obtain ⟨hc,Z⟩:=BO;clear N;replace L:=yD ((kVp L.out HR.out mG).wide (T:=(λk=>tb < k/\k < ej.heap.size/\k≠R)) bJ);clear HR;go_wp2_with fail;refine (kMn hc).mono ?_;rintro e eo ⟨ma,mc,ml,rfl,hM,eb,G,D⟩;have e1:=D.size;obtain ⟨Z,BN,BT,L,U⟩:=z8;clear hc D;have hc:=G;clear G;have HM:=yD hM;clear hM;obtain ⟨ao,ar,ah,ab,ag,ap,aj,ai⟩:=yL BN;obtain ⟨az,bz,b1,a7,bw,a9,b0,bv⟩:=kCz BN;go_upto_region 14 with fail;generalize F:World.setCell eo _ _=ei;have N:Touch (λk=>k=R) eo ei:=vR;replace BN:Qr ei R #[Qs a0 x0 c0,Qn kc,Qs a1 xe c1,.slice a2 0 c2,.slice a3 0 c3,Qs ra rl rc,Qs ma ml mc,Qn 0] 33:=by rw [<- F];exact kF (BN) 6
       have fh:=N.size;clear F;clear ao ar ah ab ag ap aj ai az bz b1 a7 bw a9 b0 bv;obtain ⟨BT,L,U⟩:=IP;replace HM:=yD (HM.out.touch N nT);obtain ⟨hc,Z⟩:=BO;clear N;replace L:=yD ((jAk L.out HM.out mG).wide (T:=(λk=>tb < k/\k < ei.heap.size/\k≠R)) bJ);clear HM;go_wp2_with fail;refine (ku (n:=4) hc bD0).mono ?_;rintro e gn ⟨m3,f0,ez,fq,rfl,G,D⟩;have ge:=D.size;obtain ⟨Z,BN,BT,L,U⟩:=z8;clear hc D;have hc:=G;clear G;replace ez:=ez bD0;clear fq;obtain ⟨m3,rfl⟩:=Ab f0;go_wp2;go_loopw [9] (λi wr=>∃ (j:Nat) (a0:Aa Ah) (c0:Nat) (a1:Aa Ah) (c1:Nat) (a2:Aa Ah) (c2:Nat) (a3:Aa Ah) (c3:Nat) (a4:Aa Ah) (c4:Nat) (a5:Aa Ah) (c5:Nat) (x2:Ag kI),i=.int .i64 j/\j<=3/\Hid (kAf x2 (3 - j))/\Qr wr R #[Qs a0 x0 c0,Qn kc,Qs a1 xe c1,Qs a2 x2 c2,.slice a3 0 c3,Qs a4 rl c4,Qs a5 ml c5,Qn 0] 33/\Hid (je.own wr [Qs a0 x0 c0,Qn kc,Qs a1 xe c1,Qs a2 x2 c2,.slice a3 0 c3,Qs a4 rl c4,Qs a5 ml c5,Qn 0] (x0,(kc,xe),x2,[],rl,ml,0) (λk=>tb < k/\k < wr.heap.size/\k≠R))/\w7.heap.size<=wr.heap.size/\yT w0 wr p/\Touch (λk=>k=p\/k=R) w7 wr) (λi _=>(intOf i).toNat);case atStart=>exact ⟨m3,a0,c0,a1,c1,a2,c2,a3,c3,ra,rc,ma,mc,[],rfl,by omega,yD ⟨by simp,λy hy=>by simp at hy⟩,BN,yD (L.out.wide pR),by omega,hc,Z⟩
       case round =>
         clear BN L hc Z BT U;obtain ⟨j,a0,c0,a1,c1,a2,c2,a3,c3,a4,c4,a5,c5,x2,rfl,I,HL,BN,L,dp,hc,Z⟩:=hrel;have fb:=Z.size;have BT:=Z.kC e4 bD1;have U:=yD (dc.out.touch Z nT);cases j with
         | zero =>
           have dq:¬ (0:Int) < (0:Nat):=bD1;go_wp2_with fail;refine (kXg hc).mono ?_;rintro e d4 ⟨sa,sn,sc,sl,rfl,am,fw,hS,G,D⟩;have ev:=D.size;obtain ⟨Z,BN,BT,L,U⟩:=z8;clear hc D;have hc:=G;clear G;subst am;have es:=yD hS;have ga:=yD fw;clear hS fw;obtain ⟨ao,ar,ah,ab,ag,ap,aj,ai⟩:=yL BN;obtain ⟨az,bz,b1,a7,bw,a9,b0,bv⟩:=kCz BN;go_upto_region 19 with fail;generalize F:World.setCell d4 _ _=o;have N:Touch (λk=>k=R) d4 o:=vR;replace BN:Qr o R #[Qs a0 x0 c0,Qn kc,Qs a1 xe c1,Qs a2 x2 c2,Qs sa sl sc,Qs a4 rl c4,Qs a5 ml c5,Qn 0] 33:=by rw [<- F];exact kF (BN) 4
           have f9:=N.size;clear F;clear ao ar ah ab ag ap aj ai az bz b1 a7 bw a9 b0 bv;obtain ⟨BT,L,U⟩:=IP;replace es:=yD (es.out.touch N nT);obtain ⟨hc,Z⟩:=BO;clear N;replace L:=yD ((jAi L.out es.out mG).wide (T:=(λk=>tb < k/\k < o.heap.size/\k≠R)) bJ);clear es;replace RN:=Z.kC RN bD1;replace RT:=Z.kC RT bD1;replace J:=J.ja Z wZ;have FX:=yD (λ(W:World) (hW:Touch (λk=>k=w.heap.size\/k=w.heap.size + 1) o W)=>And.intro (kE (hW.kC BN bD1) (j:=0) (v:=.slice a0 x0.length c0) rfl) (And.intro (kE (hW.kC BN bD1) (j:=1) (v:=.int .i64 kc) rfl) (And.intro (kE (hW.kC BN bD1) (j:=2) (v:=.slice a1 xe.length c1) rfl) (And.intro (kE (hW.kC BN bD1) (j:=3) (v:=.slice a2 x2.length c2) rfl) (And.intro (kE (hW.kC BN bD1) (j:=4) (v:=.slice sa sl.length sc) rfl) (And.intro (kE (hW.kC BN bD1) (j:=5) (v:=.slice a4 rl.length c4) rfl) (And.intro (kE (hW.kC BN bD1) (j:=6) (v:=.slice a5 ml.length c5) rfl) (And.intro (kE (hW.kC BN bD1) (j:=7) (v:=.int .i64 0) rfl) (And.intro (kE (hW.kC BT bD1) (j:=0) (v:=.slice a8 t.1.length ce) rfl) (And.intro (kE (hW.kC BT bD1) (j:=1) (v:=.slice bn t.2.1.length co) rfl) (And.intro (kE (hW.kC BT bD1) (j:=2) (v:=.slice bb t.2.2.1.length cq) rfl) (kE (hW.kC BT bD1) (j:=3) (v:=.slice df t.2.2.2.length dg) rfl))))))))))));refine zY (λW=>Touch (λk=>k=w.heap.size\/k=w.heap.size + 1) o W) bC5 (Touch.of_below bR.drew) ?_;intro t1 c9 E;have bD:Qb o t1:=(by rw [c9];exact bR.drew);replace RN:=kC RN bD;replace RT:=kC RT bD;clear bD c9;have gb:=E.size;refine kQ 0 ?_;refine kQ 1 ?_;refine kN (k:=2) rfl bC5 rfl (λK H=>?_);obtain ⟨b9,cz,ck,c6,de,dh,dk,dm⟩:=yL RN;obtain ⟨cd,cv,cw,c7,dd,di,dl,dj⟩:=kCz RN;go_simp;generalize F:World.setCell (World.setCell (World.setCell (World.setCell (World.setCell (World.setCell (World.setCell (World.setCell t1 _ _) _ _) _ _) _ _) _ _) _ _) _ _) _ _=t2;have N:Touch (λk=>k=w.heap.size) t1 t2:=(by rw [<- F];exact sT8);replace RN:Qr t2 w.heap.size #[Qs a0 x0 c0,Qn kc,Qs a1 xe c1,Qs a2 x2 c2,Qs sa sl sc,Qs a4 rl c4,Qs a5 ml c5,Qn 0] 33:=(by rw [<- F];exact kF (kF (kF (kF (kF (kF (kF (kF (RN) 0) 1) 2) 3) 4) 5) 6) 7);have d0:=N.size;clear F b9 cd cz cv ck cw c6 c7 de dd dh di dk dl dm dj;replace RT:=N.kC RT bD1;replace E:=E.trans (N.wide (λk q=>.inl q));clear N;refine H _ _ E ?_;clear H K;refine jD ?_;refine kN (k:=3) rfl bC5 rfl (λK H=>?_);obtain ⟨b9,cz,ck,c6⟩:=kKs RT;obtain ⟨cd,cv,cw,c7⟩:=kVf RT;go_simp;generalize F:World.setCell (World.setCell (World.setCell (World.setCell t2 _ _) _ _) _ _) _ _=t3;obtain ⟨N,RT,dw⟩:=EM;clear F b9 cd cz cv ck cw c6 c7;replace RN:=N.kC RN bD1;replace E:=E.trans (N.wide (λk q=>.inr q));clear N;refine H _ _ E ?_;clear H K;refine jD ?_;refine jW bC5 ?_;obtain ⟨ff,fj,e8,fd,e3,fe,e7,e9⟩:=yL RN;obtain ⟨d3,du,dz,dv⟩:=kKs RT;have zS:=E.size;go_wp2;refine bodyPost_ret (v:=.tuple #[.agg #[Qs a0 x0 c0,Qn kc,Qs a1 xe c1,Qs a2 x2 c2,Qs sa sl sc,Qs a4 rl c4,Qs a5 ml c5,Qn 0],.agg #[Qs a8 t.1 ce,Qs bn t.2.1 co,Qs bb t.2.2.1 cq,Qs df t.2.2.2 dg]]) (by simp [results,results110,go_sem,ff,fj,e8,fd,e3,fe,e7,e9,d3,du,dz,dv]) rfl ⟨[Qs a0 x0 c0,Qn kc,Qs a1 xe c1,Qs a2 x2 c2,Qs sa sl sc,Qs a4 rl c4,Qs a5 ml c5,Qn 0],(x0,(kc,xe),x2,sl,rl,ml,0),[.slice a8 t.1.length ce,.slice bn t.2.1.length co,.slice bb t.2.2.1.length cq,.slice df t.2.2.2.length dg],t,tb,rfl,?_,⟨by simp only;omega,by simp only;omega,HL.out.mono bD1,ga.out,by simp only;omega,by simp only;omega,by simp,by simp⟩,?_,hlt,⟨by omega,by omega⟩,hc.touch E bD1 wZ,J.ja E wZ⟩
           · exact (L.out.touch E sK).wide (T:=jU tb _) (λj I=>⟨by have:=I.1;omega,by have:=I.2.1;omega⟩)
           · exact (U.out.touch E sK).wide (T:=jU w.heap.size tb) mU
         | succ j =>
           have dn:(0:Int) < (j:Int) + 1:=bD1;go_upto_region 17 with fail;refine kHx (λW=>Touch (λk=>k=p) wr W/\yT w0 W p) (λ_=>True) [] [(0,true),(1,true),(2,true),(4,true),(3,false),(5,false),(6,false),(7,true)] [(8,true),(9,true),(10,true),(11,false)] bC5 bC5 pY (⟨Touch.of_below bR.drew,hc.below bR.drew⟩) ?_;intro wS E;simp only [jB,zK,Ad,Ae,List.map_cons,List.map_nil];refine pre_nil ?_;refine jf (v:=?_) rfl (λW hW=>?_) ?_;rotate_left;(· go_simp;try with_reducible rfl);refine jD ?_;refine jf (v:=?_) rfl (λW hW=>?_) ?_;rotate_left;(· have dt:=kE (hW.1.kC BN bD1) (j:=0) (v:=.slice a0 x0.length c0) rfl;have d8:=kE (hW.1.kC BN bD1) (j:=1) (v:=.int .i64 kc) rfl;have eh:=kE (hW.1.kC BN bD1) (j:=2) (v:=.slice a1 xe.length c1) rfl;have ef:=kE (hW.1.kC BN bD1) (j:=3) (v:=.slice a2 x2.length c2) rfl;have ec:=kE (hW.1.kC BN bD1) (j:=4) (v:=.slice a3 0 c3) rfl;have et:=kE (hW.1.kC BN bD1) (j:=5) (v:=.slice a4 rl.length c4) rfl;have en:=kE (hW.1.kC BN bD1) (j:=6) (v:=.slice a5 ml.length c5) rfl;have ep:=kE (hW.1.kC BN bD1) (j:=7) (v:=.int .i64 0) rfl;clear hW;go_simp;try with_reducible rfl);iterate 2
            refine jD ?_
            refine jf (v:=?_) rfl (λW hW=>?_) ?_;rotate_left;(· go_simp;try with_reducible rfl)
           refine jD ?_;refine zH rfl (λK H=>?_);go_simp;refine (kEs E.2).mono ?_;rintro e wS1 ⟨ia,ic,Y,n,h,tl,rfl,hr,d6,hn,hh,ht,au,aq⟩;have HI:=yD (int_own hr (n:=n) (h:=h) (t:=tl) bD1 bD1 bD1);have fl:=yD d6;have e0:=E.1.size;have gf:=aq.size;replace E:=And.intro (E.1.trans aq) au;refine H _ _ E ?_;clear H K au aq hr;refine jD ?_;refine zH rfl (λK H=>?_);go_simp;refine (ku (n:=4) E.2 bD0).mono ?_;rintro e bx ⟨f,eu,ed,ee,rfl,au,aq⟩;replace ed:=ed bD0;clear ee;replace HI:=yD (HI.out.touch aq nT);have gm:=aq.size;replace E:=And.intro (E.1.trans aq) au;refine H _ _ E ?_;clear H K au aq;refine jD ?_;refine zH rfl (λK H=>?_);go_simp;refine (kGi (l:=x2) (node_pendZ (L.out.touch E.1 nT).rd) (λy hy=>Nat.le_trans (HL.out.2 y hy).1 bD1) (cx:=[.slice ia Y.length ic,.int .i64 n,.int .i64 h,.int .i64 tl]) (x:=(Y,n,h,tl)) HI.out.rd (f:=f) bD1 (t:=45) bD1).mono ?_;rintro e O ⟨v2,rfl,O2,X⟩;have d7:=E.1.size;have bq:=X.size;replace E:=And.intro (E.1.trans (Touch.of_below X)) (E.2.below X);obtain ⟨l2,ba⟩:∃ l2,addQ (Y,n,h,tl) f 45 x2=l2:=⟨_,rfl⟩;have e6:=kWt (x:=(Y,n,h,tl)) (f:=f) (t:=45) (show n < 100 by omega) fl.out.2 HL.out;rw [ba] at O2 e6;clear ba;have b2:Hid (kAf l2 (3 - j)):=yD (e6.mono bD1);generalize kBl (Y,n,h,tl) f x2=okA;obtain ⟨va,vc,a6,_⟩:=kD.kAx O2.raw;obtain rfl:v2=.slice va l2.length vc:=(by simpa using a6);clear a6 e6;have HN:=yD O2;refine H _ _ E ?_;clear H K X O2;refine jD ?_;refine jf (v:=?_) rfl (λW hW=>?_) ?_;rotate_left;(· go_simp;try with_reducible rfl);refine jD ?_;obtain ⟨e5,RS,ac,ak,an,al⟩:=FC;have bd:Qc O R 2 (.slice a1 xe.length c1):=kE RS rfl;have ax:O.frozen? ⟨R,2,none⟩=false:=Ac O (R) 2 _ _ RS;have bh:Qc O R 3 (.slice a2 x2.length c2):=kE RS rfl;obtain ⟨be,bp,bo⟩:=GR;have av:Qc O R 5 (.slice a4 rl.length c4):=kE RS rfl;have d2:O.frozen? ⟨R,5,none⟩=false:=Ac O (R) 5 _ _ RS;have dx:Qc O R 6 (.slice a5 ml.length c5):=kE RS rfl;obtain ⟨dy,d1,d5⟩:=GY;refine zl trivial ?_;iterate 3
            refine kX ?_
           refine kY rfl (λK H=>?_);go_simp;refine H _ _ trivial ?_;clear H K;refine jD ?_;refine kR ?_;replace Z:=Z.ja E.1 mM;replace BT:=E.1.kC BT bD1;replace L:=yD (L.out.touch E.1 nT);replace U:=yD (U.out.touch E.1 nT);replace hc:=E.2;clear E BN;have BN:=RS;clear RS ac ak an al bd ax bh be bp bo av d2 dx dy d1 d5;clear HI U BT;generalize F:World.setCell O _ _=d4;have N:Touch (λk=>k=R) O d4:=vR;replace BN:Qr d4 R #[Qs a0 x0 c0,Qn kc,Qs a1 xe c1,Qs va l2 vc,.slice a3 0 c3,Qs a4 rl c4,Qs a5 ml c5,Qn 0] 33:=by rw [<- F];exact kF (BN) 3
           have ev:=N.size;clear F;replace L:=yD (L.out.touch N nT);replace HN:=yD (HN.out.touch N nT);obtain ⟨hc,Z⟩:=BO;clear N;replace L:=yD ((jAj L.out HN.out mG).wide (T:=(λk=>tb < k/\k < d4.heap.size/\k≠R)) bJ);go_wp2;go_roundw;case rel=>exact ⟨j,a0,c0,a1,c1,va,vc,a3,c3,a4,c4,a5,c5,l2,by go_num,by omega,b2,BN,L,by omega,hc,Z⟩
           case measure=>simp [intOf]
     | succ j =>
       have dn:(0:Int) < (j:Int) + 1:=bD1;obtain ⟨bm,bj,bl,bk⟩:=kKs BT;go_wp2_with fail;refine (kMt hc (ct:=[.slice a8 t.1.length ce,.slice bn t.2.1.length co,.slice bb t.2.2.1.length cq,.slice df t.2.2.2.length dg]) (tp:=t) U.out tC).mono ?_;rintro e d9 ⟨ds,x,rfl,hX,b5,G,D⟩;clear bm bj bl bk;have fc:=D.size;obtain ⟨Z,BN,BT,L,U⟩:=z8;clear hc D;have hc:=G;clear G;obtain ⟨cl,cm,b3,cf,ch,cg,rfl⟩:=yS hX.raw;have HX:=yD hX;clear hX;go_upto_region 11 with fail;generalize F:World.alloc d9 _=ej;have hb:Qb d9 ej:=rT;have BX:Qr ej d9.heap.size #[Qs cl x.1 cm,Qs b3 x.2.1 cf,Qs ch x.2.2.1 cg,Qn x.2.2.2.1,Qn x.2.2.2.2] 38:=vD;have f8:d9.heap.size + 1<=ej.heap.size:=bB3;clear F;have fg:=hb.size;replace Z:=Z.trans (Touch.of_below hb);replace BN:=kC BN hb;replace BT:=kC BT hb;replace L:=yD (L.out.below hb);replace U:=yD (U.out.below hb);replace HX:=yD (HX.out.below hb);replace hc:=hc.below hb;clear hb;obtain ⟨ao,ar,ah,ab,ag,ap,aj,ai⟩:=yL BN;obtain ⟨ae,af,b7,b4,b6⟩:=yI BX;go_wp2_with fail;refine (kJp (cx:=[.int .i64 kc,.slice a1 xe.length c1]) (x:=(kc,xe)) (node_cache L.out.rd) (cy:=[.slice cl x.1.length cm,.slice b3 x.2.1.length cf,.slice ch x.2.2.1.length cg,.int .i64 x.2.2.2.1,.int .i64 x.2.2.2.2]) HX.out.rd (t:=40) bD1 (by have:=HL.out;show xe.length<=_;omega)).mono ?_;rintro e eo ⟨cs,rfl,ca,hb⟩;clear ao ar ah ab ag ap aj ai ae af b7 b4 b6;have e1:=hb.size;replace Z:=Z.trans (Touch.of_below hb);replace BN:=kC BN hb;replace BT:=kC BT hb;replace BX:=kC BX hb;replace L:=yD (L.out.below hb);replace U:=yD (U.out.below hb);replace HX:=yD (HX.out.below hb);replace hc:=hc.below hb;clear hb;obtain ⟨l2,ba,ek⟩:=kPo x 40 kc xe;rw [ba] at ca;obtain ⟨na,np,rfl⟩:=kIx ca.raw;clear ba;have HN:=yD ca;have gg:=yD ek;clear ca HX BX U ek;obtain ⟨ao,ar,ah,ab,ag,ap,aj,ai⟩:=yL BN;obtain ⟨az,bz,b1,a7,bw,a9,b0,bv⟩:=kCz BN;go_upto_region 9 with fail;generalize F:World.setCell (World.setCell eo _ _) _ _=ei;have N:Touch (λk=>k=R) eo ei:=wF;replace BN:Qr ei R #[Qs a0 x0 c0,Qn kc,Qs na l2 np,.slice a2 0 c2,.slice a3 0 c3,.slice a4 0 c4,.slice a5 0 c5,Qn 0] 33:=by rw [<- F];exact kF (kF (BN) 1) 2
       have fh:=N.size;clear F;clear ao ar ah ab ag ap aj ai az bz b1 a7 bw a9 b0 bv;replace BT:=N.kC BT bD1;replace L:=yD (L.out.touch N nT);replace HN:=yD (HN.out.touch N nT);obtain ⟨hc,Z⟩:=BO;clear N;replace L:=yD ((kXl L.out HN.out mG).wide (T:=(λk=>tb < k/\k < ei.heap.size/\k≠R)) bJ);go_wp2;go_roundw;case rel=>exact ⟨j,a0,c0,na,np,a2,c2,a3,c3,a4,c4,a5,c5,l2,by go_num,by omega,yD (by have:=HL.out;have:=gg.out;omega),BN,L,by omega,hc,Z⟩
       case measure=>simp [intOf]
 | succ j =>
   have dn:(0:Int) < (j:Int) + 1:=bD1;go_upto_region 6 with fail;refine kHx (λW=>Touch (λk=>k=p) wr W/\yT w0 W p) (λ_=>True) [] [(0,true),(1,true),(2,true),(3,false),(4,false),(5,true)] [(6,true),(7,true),(8,false)] bC5 bC5 pY (⟨Touch.of_below bR.drew,hc.below bR.drew⟩) ?_;intro wS E;simp only [jB,zK,Ad,Ae,List.map_cons,List.map_nil];refine pre_nil ?_;refine jf (v:=?_) rfl (λW hW=>?_) ?_;rotate_left;(· have dt:=kE (hW.1.kC BN bD1) (j:=0) (v:=.slice a0 x0.length c0) rfl;have d8:=kE (hW.1.kC BN bD1) (j:=1) (v:=.int .i64 kc) rfl;have eh:=kE (hW.1.kC BN bD1) (j:=2) (v:=.slice a1 0 c1) rfl;have ef:=kE (hW.1.kC BN bD1) (j:=3) (v:=.slice a2 0 c2) rfl;have ec:=kE (hW.1.kC BN bD1) (j:=4) (v:=.slice a3 0 c3) rfl;have et:=kE (hW.1.kC BN bD1) (j:=5) (v:=.slice a4 0 c4) rfl;have en:=kE (hW.1.kC BN bD1) (j:=6) (v:=.slice a5 0 c5) rfl;have ep:=kE (hW.1.kC BN bD1) (j:=7) (v:=.int .i64 0) rfl;have gd:=kE (hW.1.kC BT bD1) (j:=0) (v:=.slice a8 t.1.length ce) rfl;have gc:=kE (hW.1.kC BT bD1) (j:=1) (v:=.slice bn t.2.1.length co) rfl;have fm:=kE (hW.1.kC BT bD1) (j:=2) (v:=.slice bb t.2.2.1.length cq) rfl;have f3:=kE (hW.1.kC BT bD1) (j:=3) (v:=.slice df t.2.2.2.length dg) rfl;clear hW;go_simp;try with_reducible rfl);refine jD ?_;refine jf (v:=?_) rfl (λW hW=>?_) ?_;rotate_left;(· go_simp;try with_reducible rfl);refine jD ?_;refine jf (v:=?_) rfl (λW hW=>?_) ?_;rotate_left;(· have dt:=kE (hW.1.kC BN bD1) (j:=0) (v:=.slice a0 x0.length c0) rfl;have d8:=kE (hW.1.kC BN bD1) (j:=1) (v:=.int .i64 kc) rfl;have eh:=kE (hW.1.kC BN bD1) (j:=2) (v:=.slice a1 0 c1) rfl;have ef:=kE (hW.1.kC BN bD1) (j:=3) (v:=.slice a2 0 c2) rfl;have ec:=kE (hW.1.kC BN bD1) (j:=4) (v:=.slice a3 0 c3) rfl;have et:=kE (hW.1.kC BN bD1) (j:=5) (v:=.slice a4 0 c4) rfl;have en:=kE (hW.1.kC BN bD1) (j:=6) (v:=.slice a5 0 c5) rfl;have ep:=kE (hW.1.kC BN bD1) (j:=7) (v:=.int .i64 0) rfl;have gd:=kE (hW.1.kC BT bD1) (j:=0) (v:=.slice a8 t.1.length ce) rfl;have gc:=kE (hW.1.kC BT bD1) (j:=1) (v:=.slice bn t.2.1.length co) rfl;have fm:=kE (hW.1.kC BT bD1) (j:=2) (v:=.slice bb t.2.2.1.length cq) rfl;have f3:=kE (hW.1.kC BT bD1) (j:=3) (v:=.slice df t.2.2.2.length dg) rfl;clear hW;go_simp;try with_reducible rfl);refine jD ?_;refine zH rfl (λK H=>?_);go_simp;refine (kMt E.2 (ct:=[.slice a8 t.1.length ce,.slice bn t.2.1.length co,.slice bb t.2.2.1.length cq,.slice df t.2.2.2.length dg]) (tp:=t) (U.out.touch E.1 nT) tC).mono ?_;rintro e wS1 ⟨ds,x,rfl,hX,b5,au,aq⟩;obtain ⟨cl,cm,b3,cf,ch,cg,rfl⟩:=yS hX.raw;have HX:=yD hX;have e0:=E.1.size;have gf:=aq.size;replace E:=And.intro (E.1.trans aq) au;refine H _ _ E ?_;clear H K au aq hX;refine jD ?_;refine zH rfl (λK H=>?_);go_simp;refine (kKp (cx:=[.slice a0 x0.length c0,.int .i64 kc,.slice a1 0 c1,.slice a2 0 c2,.slice a3 0 c3,.slice a4 0 c4,.slice a5 0 c5,.int .i64 0]) (x:=(x0,(kc,[]),[],[],[],[],0)) (L.out.touch E.1 nT).rd (ct:=[.slice cl x.1.length cm,.slice b3 x.2.1.length cf,.slice ch x.2.2.1.length cg,.int .i64 x.2.2.2.1,.int .i64 x.2.2.2.2]) HX.out.rd).mono ?_;rintro e O ⟨cs,rfl,hO,X⟩;have d7:=E.1.size;have bq:=X.size;replace E:=And.intro (E.1.trans (Touch.of_below X)) (E.2.below X);obtain ⟨y0,db,gh⟩:=addL_len x x0 ((kc,[]),[],[],[],[],0);rw [db] at hO;obtain ⟨el,cc,ft,fi,f4,fk,f1,f5,f6,fo,fy,fp,rfl⟩:=yj hO.raw;simp only [List.length_nil] at hO ⊢;clear db;generalize kHw x _=okA;have HN:=yD hO;refine H _ _ E ?_;clear H K X hO;refine jD ?_;refine jf (v:=?_) rfl (λW hW=>?_) ?_;rotate_left;(· go_simp;try with_reducible rfl);refine jD ?_;obtain ⟨e5,RS,ac,ak,an,al⟩:=FC;have bd:Qc O R 2 (.slice a1 0 c1):=kE RS rfl;have ax:O.frozen? ⟨R,2,none⟩=false:=Ac O (R) 2 _ _ RS;have bh:Qc O R 3 (.slice a2 0 c2):=kE RS rfl;obtain ⟨be,bp,bo⟩:=GR;have av:Qc O R 5 (.slice a4 0 c4):=kE RS rfl;have d2:O.frozen? ⟨R,5,none⟩=false:=Ac O (R) 5 _ _ RS;have dx:Qc O R 6 (.slice a5 0 c5):=kE RS rfl;obtain ⟨dy,d1,d5⟩:=GY;refine zl trivial ?_;refine kX ?_;refine kX ?_;refine kY rfl (λK H=>?_);go_simp;refine H _ _ trivial ?_;clear H K;refine jD ?_;refine kR ?_;replace Z:=Z.ja E.1 mM;replace BT:=E.1.kC BT bD1;replace L:=yD (L.out.touch E.1 nT);replace U:=yD (U.out.touch E.1 nT);replace hc:=E.2;clear E BN;have BN:=RS;clear RS ac ak an al bd ax bh be bp bo av d2 dx dy d1 d5;clear L HX U BT;generalize F:World.setCell (World.setCell (World.setCell (World.setCell (World.setCell (World.setCell (World.setCell (World.setCell O _ _) _ _) _ _) _ _) _ _) _ _) _ _) _ _=b8;have N:Touch (λk=>k=R) O b8:=vT;replace BN:Qr b8 R #[Qs el y0 cc,Qn kc,.slice ft 0 fi,.slice f4 0 fk,.slice f1 0 f5,.slice f6 0 fo,.slice fy 0 fp,Qn 0] 33:=by rw [<- F];exact kF (kF (kF (kF (kF (kF (kF (kF (BN) 0) 1) 2) 3) 4) 5) 6) 7
   have dr:=N.size;clear F;replace HN:=yD (HN.out.touch N nT);obtain ⟨hc,Z⟩:=BO;clear N;go_wp2;go_roundw;case rel=>exact ⟨j,el,cc,ft,fi,f4,fk,f1,f5,f6,fo,fy,fp,y0,by go_num,by omega,yD vQ,BN,yD (HN.out.wide fO),by omega,hc,Z⟩
   case measure=>simp [intOf]
end Go.Proofs.YtjhfdpopkkmigaaGreat

/-
  A node of a small world, drawn.
-/
import Derived.Test.YthocbplmdjkifaaGreatDrawH
import Derived.Test.YthocbplmdjkifaaGreatDrawC
import Derived.Test.YthocbplmdjkifaaGreatSoft5
set_option linter.unusedVariables false
set_option linter.unusedSimpArgs false
set_option linter.unnecessarySimpa false
set_option maxRecDepth 100000
set_option maxHeartbeats 16000000
open _root_ renaming Option->Aa,List->Ag
open Int renaming eq_ofNat_of_zero_le->Ab
open Go renaming frozen_of_row->Ac,Addr->Ah
open List renaming getElem?_cons_succ->Ad,getElem?_cons_zero->Ae
namespace Go.Proofs.YthocbplmdjkifaaGreat
open Go.RowKit _root_.Go.Proofs.Tryz
theorem kCu {w:World} {cs:Ag Value} {x:jX} (h:jo.raw w cs x):∃ a0 c0 a1 c1 a2 c2 a3 c3 a4 c4 a5 c5,cs=[.slice a0 x.1.length c0,.int .i64 x.2.1.1,.slice a1 x.2.1.2.length c1,.slice a2 x.2.2.1.length c2,.slice a3 x.2.2.2.1.length c3,.slice a4 x.2.2.2.2.1.length c4,.slice a5 x.2.2.2.2.2.1.length c5,.int .i64 x.2.2.2.2.2.2]:=by
 obtain ⟨v0,v2,v3,v4,v5,v6,rfl,ao,am,aq,ap,Y,E,D,o,F⟩:=yO h;obtain ⟨a0,c0,rfl,_,a1,c1,rfl,_,a2,c2,rfl,_,a3,c3,rfl,_,a4,c4,rfl,_,a5,c5,rfl,_⟩:=kD.sx ao (kD.sx ap (kD.sx Y (kD.sx E (kD.sx D (kD.sl o)))));exact ⟨_,_,_,_,_,_,_,_,_,_,_,_,rfl⟩
theorem addL_len (t:jQ) (x0:Ag jQ) (r:kg × Ag kF × Ag jK × Ag jI × Ag kW × Int):∃ y0,addL t (x0,r)=(y0,r)/\y0.length<=x0.length + 1:=by
 unfold addL;split
 · exact ⟨x0++[t],rfl,by simp⟩
 exact ⟨x0,rfl,by omega⟩
theorem jAk {w:World} {c0 c1 c2 c3 c4 c5 N o v:Value} {x0:Ag jQ} {x1:kg} {x2:Ag kF} {x3:Ag jK} {x4 y:Ag jI} {x5:Ag kW} {x6:Int} {S T:Nat->Prop}
    (h:jo.own w [c0,c1,c2,c3,c4,c5,N,o] (x0,x1,x2,x3,x4,x5,x6) S) (hv:(kD.slice 176 jA).own w [v] y T) (hd:∀ k,S k->T k->False):jo.own w [c0,c1,c2,c3,c4,v,N,o] (x0,x1,x2,x3,y,x5,x6) (λk=>S k\/T k) :=
  kD.set_right (c:=[c0]) h rfl (λB hB hq=>kD.set_right (c:=[c1,c2]) hq rfl (λB2 E R=>kD.set_right (c:=[c3]) R rfl (λB3 I H=>kD.set_right (c:=[c4]) H rfl (λB4 Y J=>kD.set_left (c:=[c5]) (c':=[v]) J rfl hv (λk a b=>hd k (hB k (E k (I k (Y k a)))) b)) (λk a b=>hd k (hB k (E k (I k a))) b)) (λk a b=>hd k (hB k (E k a)) b)) (λk a b=>hd k (hB k a) b)) hd
theorem node_pendZ {w:World} {c0 c1 c2 c3 c4 c5 N o:Value} {x0:Ag jQ} {x1:kg} {x2:Ag kF} {x3:Ag jK} {x4:Ag jI} {x5:Ag kW} {x6:Int} (h:jo.rd w [c0,c1,c2,c3,c4,c5,N,o] (x0,x1,x2,x3,x4,x5,x6)):(kD.slice 107 kH).rd w [c3] x2:=⟨jEd h.1,h.2.2.2.1⟩
def tameN (x:jX):Prop:=x.1.length<=9/\x.2.1.2.length<=9/\kAo x.2.2.1 14/\kHd x.2.2.2.1/\x.2.2.2.2.1.length<=14/\x.2.2.2.2.2.1.length<=48/\-1<=x.2.2.2.2.2.2/\x.2.2.2.2.2.2<=0
def DrawnN (w0 w:World) (p:Nat) (e:Ending) (w':World):Prop:=∃ cs x ct t tb,e=.returned (.tuple #[.agg cs.toArray,.agg ct.toArray])/\jo.own w' cs x (jg tb w')/\tameN x/\kBt.jr w' ct t (jg w tb)/\lenT t/\(w.heap.size<=tb/\tb<=w'.heap.size)/\ym w0 w' p/\Touch (λk=>k=p) w w'
theorem jCe {w0 w:World} {p:Nat} (hc:ym w0 w p) :
    Calls prog 86 #[.pointer (some ⟨p,0,none⟩)] w λe w'=>DrawnN w0 w p e w':=by
 go_enter func86,ntmps86
 obtain ⟨bh,br⟩:=hc.lt
 go_upto_region 1 with fail
 refine kAe ?_
 intro w1 hb RN RT bj
 obtain ⟨hc,O⟩:=DT
 clear hb
 go_wp2_with fail
 refine (kZj hc).mono ?_
 rintro e w2 ⟨ds,t,rfl,hT,hlt,F,D⟩
 have bw:=D.size
 replace RN:=D.kC RN bF2
 replace RT:=D.kC RT bF2
 replace O:=O.trans D
 clear hc D
 have hc:=F
 clear F
 obtain ⟨b0,ck,b6,dd,bb,dh,c7,c8,rfl⟩:=kLy hT.rd.1
 have L:=yD (hT)
 clear hT
 go_upto_region 2 with fail
 refine ja ?_
 intro w3 ah BT bz
 replace RN:=kC RN ah
 replace RT:=kC RT ah
 replace L:=yD (L.out.below ah)
 replace hc:=hc.below ah
 replace O:=O.trans (Touch.of_below ah)
 clear ah
 obtain ⟨tb,es⟩:∃ b_,b_=w2.heap.size:=⟨_,rfl⟩
 rw [<- es] at BT ⊢
 have fd:=Nat.le_of_eq es
 have ff:=Nat.le_of_eq es.symm
 clear es
 go_wp2_with fail
 refine (kZ (n:=4) hc bF1).mono ?_
 rintro e w4 ⟨k4,gj,fe,f8,rfl,F,D⟩
 have b5:=D.size
 replace RN:=D.kC RN bF2
 replace RT:=D.kC RT bF2
 replace BT:=D.kC BT bF2
 replace L:=yD (L.out.touch D qV)
 replace O:=O.trans D
 clear hc D
 have hc:=F
 clear F
 replace fe:=fe bF1
 clear f8
 go_wp2_with fail
 refine (jCk (c:=k4) bF2).mono ?_
 rintro e w5 ⟨cs,rfl,hO,hb⟩
 have b4:=hb.size
 replace RN:=kC RN hb
 replace RT:=kC RT hb
 replace BT:=kC BT hb
 replace L:=yD (L.out.below hb)
 obtain ⟨hc,O⟩:=uT
 clear hb
 obtain ⟨a0,c0,a1,c1,a2,c2,a3,c3,a4,c4,a5,c5,rfl⟩:=kCu hO.raw
 simp only [newN,newC,List.length_nil] at hO ⊢
 have f6:=jBp (c:=k4) bF2
 generalize capC k4=kc at *
 have J:=yD (hO)
 clear hO
 go_upto_region 3 with fail
 refine ja ?_
 intro w6 au BN df
 replace RN:=kC RN au
 replace RT:=kC RT au
 replace BT:=kC BT au
 replace L:=yD (L.out.below au)
 replace J:=yD (J.out.below au)
 obtain ⟨hc,O⟩:=BP
 clear au
 obtain ⟨nb,d6⟩:∃ b_,b_=w5.heap.size:=⟨_,rfl⟩
 rw [<- d6] at BN ⊢
 have f3:=Nat.le_of_eq d6
 have f1:=Nat.le_of_eq d6.symm
 clear d6
 go_wp2_with fail
 refine (kZ (n:=3) hc bF1).mono ?_
 rintro e w7 ⟨m,bc,bk,bq,rfl,F,D⟩
 have eo:=D.size
 replace RN:=D.kC RN bF2
 replace RT:=D.kC RT bF2
 replace BT:=D.kC BT bF2
 replace BN:=D.kC BN bF2
 replace L:=yD (L.out.touch D qV)
 obtain ⟨J,O⟩:=uS
 clear hc D
 have hc:=F
 clear F
 replace bk:=bk bF1
 clear bq
 obtain ⟨m,rfl⟩:=Ab bc
 have fy:=L
 have fk:=BT
 clear L BT
 go_wp2
 go_loopw [6] (λi wr=>∃ (j:Nat) (a0:Aa Ah) (c0:Nat) (a1:Aa Ah) (c1:Nat) (a2:Aa Ah) (c2:Nat) (a3:Aa Ah) (c3:Nat) (a4:Aa Ah) (c4:Nat) (a5:Aa Ah) (c5:Nat) (x0:Ag jQ),i=.int .i64 j/\j<=3/\Hid (x0.length + j<=2)/\Qr wr nb #[Qs a0 x0 c0,Qn kc,.slice a1 0 c1,.slice a2 0 c2,.slice a3 0 c3,.slice a4 0 c4,.slice a5 0 c5,Qn 0] 33/\Hid (jo.own wr [Qs a0 x0 c0,Qn kc,.slice a1 0 c1,.slice a2 0 c2,.slice a3 0 c3,.slice a4 0 c4,.slice a5 0 c5,Qn 0] (x0,(kc,[]),[],[],[],[],0) (λk=>tb < k/\k < wr.heap.size/\k≠nb))/\w7.heap.size<=wr.heap.size/\ym w0 wr p/\Touch (λk=>k=p\/k=nb) w7 wr) (λi _=>(intOf i).toNat)
 case atStart=>exact ⟨m,a0,c0,a1,c1,a2,c2,a3,c3,a4,c4,a5,c5,[],rfl,by omega,yD bE6,BN,yD (J.out.wide gG),Nat.le_refl _,hc,Touch.of_below bR⟩
 clear BN J hc
 obtain ⟨j,a0,c0,a1,c1,a2,c2,a3,c3,a4,c4,a5,c5,x0,rfl,I,HL,BN,J,ch,hc,ag⟩:=hrel
 have fq:=ag.size
 have BT:=ag.kC fk bF2
 have L:=yD (fy.out.touch ag pR)
 cases j with
 | zero =>
   have ef:¬ (0:Int) < (0:Nat):=bF2;go_wp2_with fail;refine (kZ (n:=4) hc bF1).mono ?_;rintro e b8 ⟨m2,f2,fc,f9,rfl,F,D⟩;have cg:=D.size;obtain ⟨ag,BN,BT,J,L⟩:=xB;clear hc D;have hc:=F;clear F;replace fc:=fc bF1;clear f9;obtain ⟨m2,rfl⟩:=Ab f2;have gl:x0.length<=2:=wZ;go_wp2;go_loopw [7] (λi wr=>∃ (j:Nat) (a0:Aa Ah) (c0:Nat) (a1:Aa Ah) (c1:Nat) (a2:Aa Ah) (c2:Nat) (a3:Aa Ah) (c3:Nat) (a4:Aa Ah) (c4:Nat) (a5:Aa Ah) (c5:Nat) (xe:Ag kr),i=.int .i64 j/\j<=3/\Hid (xe.length + j<=3)/\Qr wr nb #[Qs a0 x0 c0,Qn kc,Qs a1 xe c1,.slice a2 0 c2,.slice a3 0 c3,.slice a4 0 c4,.slice a5 0 c5,Qn 0] 33/\Hid (jo.own wr [Qs a0 x0 c0,Qn kc,Qs a1 xe c1,.slice a2 0 c2,.slice a3 0 c3,.slice a4 0 c4,.slice a5 0 c5,Qn 0] (x0,(kc,xe),[],[],[],[],0) (λk=>tb < k/\k < wr.heap.size/\k≠nb))/\w7.heap.size<=wr.heap.size/\ym w0 wr p/\Touch (λk=>k=p\/k=nb) w7 wr) (λi _=>(intOf i).toNat);case atStart=>exact ⟨m2,a0,c0,a1,c1,a2,c2,a3,c3,a4,c4,a5,c5,[],rfl,by omega,yD bE6,BN,yD (J.out.wide qN),by omega,hc,ag⟩
   case round =>
     clear BN J hc ag BT L HL;obtain ⟨j,a0,c0,a1,c1,a2,c2,a3,c3,a4,c4,a5,c5,xe,rfl,I,HL,BN,J,ch,hc,ag⟩:=hrel;have fq:=ag.size;have BT:=ag.kC fk bF2;have L:=yD (fy.out.touch ag pR);cases j with
     | zero =>
       have ef:¬ (0:Int) < (0:Nat):=bF2;have gi:xe.length<=3:=wZ;clear HL;go_wp2_with fail;refine (kQz hc).mono ?_;rintro e e9 ⟨ra,rc,rl,rfl,hR,f5,F,D⟩;have e1:=D.size;obtain ⟨ag,BN,BT,J,L⟩:=xB;clear hc D;have hc:=F;clear F;have HR:=yD hR;clear hR;have fz:=f5.1;clear f5;obtain ⟨R,aq,X,N,U,ai,ab,Z⟩:=yu BN;obtain ⟨aw,bd,bl,ax,ba,a6,bf,a9⟩:=kIo BN;go_upto_region 13 with fail;generalize o:World.setCell e9 _ _=ek;have hT:Touch (λk=>k=nb) e9 ek:=wY;replace BN:Qr ek nb #[Qs a0 x0 c0,Qn kc,Qs a1 xe c1,.slice a2 0 c2,.slice a3 0 c3,Qs ra rl rc,.slice a5 0 c5,Qn 0] 33:=by rw [<- o];exact kG (BN) 5
       have e4:=hT.size;clear o R aq X N U ai ab Z aw bd bl ax ba a6 bf a9;obtain ⟨BT,J,L⟩:=EP;replace HR:=yD (HR.out.touch hT pR);obtain ⟨hc,ag⟩:=xG;clear hT;replace J:=yD ((jAk J.out HR.out mX).wide (T:=(λk=>tb < k/\k < ek.heap.size/\k≠nb)) bO);clear HR;go_wp2_with fail;refine (kQx hc).mono ?_;rintro e ev ⟨ma,mc,ml,rfl,hM,ej,F,D⟩;have fi:=D.size;obtain ⟨ag,BN,BT,J,L⟩:=xB;clear hc D;have hc:=F;clear F;have HM:=yD hM;clear hM;obtain ⟨R,aq,X,N,U,ai,ab,Z⟩:=yu BN;obtain ⟨aw,bd,bl,ax,ba,a6,bf,a9⟩:=kIo BN;go_upto_region 14 with fail;generalize o:World.setCell ev _ _=en;have hT:Touch (λk=>k=nb) ev en:=wY;replace BN:Qr en nb #[Qs a0 x0 c0,Qn kc,Qs a1 xe c1,.slice a2 0 c2,.slice a3 0 c3,Qs ra rl rc,Qs ma ml mc,Qn 0] 33:=by rw [<- o];exact kG (BN) 6
       have fv:=hT.size;clear o R aq X N U ai ab Z aw bd bl ax ba a6 bf a9;obtain ⟨BT,J,L⟩:=EP;replace HM:=yD (HM.out.touch hT pR);obtain ⟨hc,ag⟩:=xG;clear hT;replace J:=yD ((jFx J.out HM.out mX).wide (T:=(λk=>tb < k/\k < en.heap.size/\k≠nb)) bO);clear HM;go_wp2_with fail;refine (kZ (n:=4) hc bF1).mono ?_;rintro e gn ⟨m3,f7,fg,f0,rfl,F,D⟩;have ge:=D.size;obtain ⟨ag,BN,BT,J,L⟩:=xB;clear hc D;have hc:=F;clear F;replace fg:=fg bF1;clear f0;obtain ⟨m3,rfl⟩:=Ab f7;go_wp2;go_loopw [9] (λi wr=>∃ (j:Nat) (a0:Aa Ah) (c0:Nat) (a1:Aa Ah) (c1:Nat) (a2:Aa Ah) (c2:Nat) (a3:Aa Ah) (c3:Nat) (a4:Aa Ah) (c4:Nat) (a5:Aa Ah) (c5:Nat) (x2:Ag kF),i=.int .i64 j/\j<=3/\Hid (kAo x2 (3 - j))/\Qr wr nb #[Qs a0 x0 c0,Qn kc,Qs a1 xe c1,Qs a2 x2 c2,.slice a3 0 c3,Qs a4 rl c4,Qs a5 ml c5,Qn 0] 33/\Hid (jo.own wr [Qs a0 x0 c0,Qn kc,Qs a1 xe c1,Qs a2 x2 c2,.slice a3 0 c3,Qs a4 rl c4,Qs a5 ml c5,Qn 0] (x0,(kc,xe),x2,[],rl,ml,0) (λk=>tb < k/\k < wr.heap.size/\k≠nb))/\w7.heap.size<=wr.heap.size/\ym w0 wr p/\Touch (λk=>k=p\/k=nb) w7 wr) (λi _=>(intOf i).toNat);case atStart=>exact ⟨m3,a0,c0,a1,c1,a2,c2,a3,c3,ra,rc,ma,mc,[],rfl,by omega,yD ⟨by simp,λy hy=>by simp at hy⟩,BN,yD (J.out.wide qN),by omega,hc,ag⟩
       case round =>
         clear BN J hc ag BT L;obtain ⟨j,a0,c0,a1,c1,a2,c2,a3,c3,a4,c4,a5,c5,x2,rfl,I,HL,BN,J,ch,hc,ag⟩:=hrel;have fq:=ag.size;have BT:=ag.kC fk bF2;have L:=yD (fy.out.touch ag pR);cases j with
         | zero =>
           have ef:¬ (0:Int) < (0:Nat):=bF2;go_wp2_with fail;refine (jCh hc).mono ?_;rintro e d2 ⟨sa,sn,sc,sl,rfl,b3,f4,hS,F,D⟩;have fb:=D.size;obtain ⟨ag,BN,BT,J,L⟩:=xB;clear hc D;have hc:=F;clear F;subst b3;have e6:=yD hS;have gc:=yD f4;clear hS f4;obtain ⟨R,aq,X,N,U,ai,ab,Z⟩:=yu BN;obtain ⟨aw,bd,bl,ax,ba,a6,bf,a9⟩:=kIo BN;go_upto_region 19 with fail;generalize o:World.setCell d2 _ _=d0;have hT:Touch (λk=>k=nb) d2 d0:=wY;replace BN:Qr d0 nb (Qh a0 x0 c0 kc a1 xe c1 a2 x2 c2 sa sl sc a4 rl c4 a5 ml c5 0) 33:=by rw [<- o];exact kG (BN) 4
           have gb:=hT.size;clear o R aq X N U ai ab Z aw bd bl ax ba a6 bf a9;obtain ⟨BT,J,L⟩:=EP;replace e6:=yD (e6.out.touch hT pR);obtain ⟨hc,ag⟩:=xG;clear hT;replace J:=yD ((kMj J.out e6.out mX).wide (T:=(λk=>tb < k/\k < d0.heap.size/\k≠nb)) bO);clear e6;replace RN:=ag.kC RN bF2;replace RT:=ag.kC RT bF2;replace O:=O.yB ag bB8;have FX:=yD (λ(W:World) (hW:Touch (λk=>k=w.heap.size\/k=w.heap.size + 1) d0 W)=>And.intro (kE (hW.kC BN bF2) (j:=0) (v:=Qs a0 x0 c0) rfl) (And.intro (kE (hW.kC BN bF2) (j:=1) (v:=.int .i64 kc) rfl) (And.intro (kE (hW.kC BN bF2) (j:=2) (v:=Qs a1 xe c1) rfl) (And.intro (kE (hW.kC BN bF2) (j:=3) (v:=Qs a2 x2 c2) rfl) (And.intro (kE (hW.kC BN bF2) (j:=4) (v:=Qs sa sl sc) rfl) (And.intro (kE (hW.kC BN bF2) (j:=5) (v:=Qs a4 rl c4) rfl) (And.intro (kE (hW.kC BN bF2) (j:=6) (v:=Qs a5 ml c5) rfl) (And.intro (kE (hW.kC BN bF2) (j:=7) (v:=.int .i64 0) rfl) (And.intro (kE (hW.kC BT bF2) (j:=0) (v:=Qs b0 t.1 ck) rfl) (And.intro (kE (hW.kC BT bF2) (j:=1) (v:=Qs b6 t.2.1 dd) rfl) (And.intro (kE (hW.kC BT bF2) (j:=2) (v:=Qs bb t.2.2.1 dh) rfl) (kE (hW.kC BT bF2) (j:=3) (v:=Qs c7 t.2.2.2 c8) rfl))))))))))));refine kCn (λW=>Touch (λk=>k=w.heap.size\/k=w.heap.size + 1) d0 W) bE5 (Touch.of_below bR.drew) ?_;intro t1 di E;have bD:Qb d0 t1:=(by rw [di];exact bR.drew);replace RN:=kC RN bD;replace RT:=kC RT bD;clear bD di;have gd:=E.size;refine kT 0 ?_;refine kT 1 ?_;refine kU (k:=2) rfl bE5 rfl (λK H=>?_);obtain ⟨cw,db,cz,de,eb,d3,ea,ed⟩:=yu RN;obtain ⟨dc,c6,da,dg,d9,d7,ec,d8⟩:=kIo RN;go_simp;generalize o:World.setCell (World.setCell (World.setCell (World.setCell (World.setCell (World.setCell (World.setCell (World.setCell t1 _ _) _ _) _ _) _ _) _ _) _ _) _ _) _ _=t2;have hT:Touch (λk=>k=w.heap.size) t1 t2:=(by rw [<- o];exact sT8);replace RN:Qr t2 w (Qh a0 x0 c0 kc a1 xe c1 a2 x2 c2 sa sl sc a4 rl c4 a5 ml c5 0) 33:=(by rw [<- o];exact kG (kG (kG (kG (kG (kG (kG (kG (RN) 0) 1) 2) 3) 4) 5) 6) 7);have ez:=hT.size;clear o cw dc db c6 cz da de dg eb d9 d3 d7 ea ec ed d8;replace RT:=hT.kC RT bF2;replace E:=E.trans (hT.wide (λk q=>.inl q));clear hT;refine H _ _ E ?_;clear H K;refine jH ?_;refine kU (k:=3) rfl bE5 rfl (λK H=>?_);obtain ⟨cw,db,cz,de⟩:=jW RT;obtain ⟨dc,c6,da,dg⟩:=zy RT;go_simp;generalize o:World.setCell (World.setCell (World.setCell (World.setCell t2 _ _) _ _) _ _) _ _=t3;obtain ⟨hT,RT,eu⟩:=BL;clear o cw dc db c6 cz da de dg;replace RN:=hT.kC RN bF2;replace E:=E.trans (hT.wide (λk q=>.inr q));clear hT;refine H _ _ E ?_;clear H K;refine jH ?_;refine jv bE5 ?_;obtain ⟨fu,fw,fo,fr,fj,ft,fn,fp⟩:=yu RN;obtain ⟨dx,dj,dv,dy⟩:=jW RT;have zS:=E.size;go_wp2;refine bodyPost_ret (v:=.tuple #[.agg (Qh a0 x0 c0 kc a1 xe c1 a2 x2 c2 sa sl sc a4 rl c4 a5 ml c5 0),.agg #[Qs b0 t.1 ck,Qs b6 t.2.1 dd,Qs bb t.2.2.1 dh,Qs c7 t.2.2.2 c8]]) (by simp [results,results86,go_sem,fu,fw,fo,fr,fj,ft,fn,fp,dx,dj,dv,dy]) rfl ⟨[Qs a0 x0 c0,Qn kc,Qs a1 xe c1,Qs a2 x2 c2,Qs sa sl sc,Qs a4 rl c4,Qs a5 ml c5,Qn 0],(x0,(kc,xe),x2,sl,rl,ml,0),[.slice b0 t.1.length ck,.slice b6 t.2.1.length dd,.slice bb t.2.2.1.length dh,.slice c7 t.2.2.2.length c8],t,tb,rfl,?_,⟨by simp only;omega,by simp only;omega,HL.out.mono bF2,gc.out,by simp only;omega,by simp only;omega,by simp,by simp⟩,?_,hlt,⟨by omega,by omega⟩,hc.touch E bF2 bB8,O.yB E bB8⟩
           · exact (J.out.touch E tZ).wide (T:=jg tb _) (λj I=>⟨by have:=I.1;omega,by have:=I.2.1;omega⟩)
           · exact (L.out.touch E tZ).wide (T:=jg w tb) nK
         | succ j =>
           have c9:(0:Int) < (j:Int) + 1:=bF2;go_upto_region 17 with fail;refine kKq (λW=>Touch (λk=>k=p) wr W/\ym w0 W p) (λ_=>True) [] [(0,true),(1,true),(2,true),(4,true),(3,false),(5,false),(6,false),(7,true)] [(8,true),(9,true),(10,true),(11,false)] bE5 bE5 qW (⟨Touch.of_below bR.drew,hc.below bR.drew⟩) ?_;intro wS E;simp only [jG,kAu,Ad,Ae,List.map_cons,List.map_nil];refine pre_nil ?_;refine yA (v:=?_) rfl (λW hW=>?_) ?_;rotate_left;(· go_simp;try with_reducible rfl);refine jH ?_;refine yA (v:=?_) rfl (λW hW=>?_) ?_;rotate_left;(· have cv:=kE (hW.1.kC BN bF2) (j:=0) (v:=Qs a0 x0 c0) rfl;have dk:=kE (hW.1.kC BN bF2) (j:=1) (v:=.int .i64 kc) rfl;have dz:=kE (hW.1.kC BN bF2) (j:=2) (v:=Qs a1 xe c1) rfl;have d5:=kE (hW.1.kC BN bF2) (j:=3) (v:=Qs a2 x2 c2) rfl;have d4:=kE (hW.1.kC BN bF2) (j:=4) (v:=.slice a3 0 c3) rfl;have el:=kE (hW.1.kC BN bF2) (j:=5) (v:=Qs a4 rl c4) rfl;have eh:=kE (hW.1.kC BN bF2) (j:=6) (v:=Qs a5 ml c5) rfl;have em:=kE (hW.1.kC BN bF2) (j:=7) (v:=.int .i64 0) rfl;clear hW;go_simp;try with_reducible rfl);iterate 2
            refine jH ?_
            refine yA (v:=?_) rfl (λW hW=>?_) ?_;rotate_left;(· go_simp;try with_reducible rfl)
           refine jH ?_;refine zY rfl (λK H=>?_);go_simp;refine (kQv E.2).mono ?_;rintro e wS1 ⟨ia,ic,ps,n,h,tl,rfl,hr,ee,hn,hh,ht,av,ap⟩;have HI:=yD (jGa hr (n:=n) (h:=h) (t:=tl) bF2 bF2 bF2);have fx:=yD ee;have fh:=E.1.size;have gf:=ap.size;replace E:=And.intro (E.1.trans ap) av;refine H _ _ E ?_;clear H K av ap hr;refine jH ?_;refine zY rfl (λK H=>?_);go_simp;refine (kZ (n:=4) E.2 bF1).mono ?_;rintro e be ⟨f,ei,dr,eg,rfl,av,ap⟩;replace dr:=dr bF1;clear eg;replace HI:=yD (HI.out.touch ap pR);have gm:=ap.size;replace E:=And.intro (E.1.trans ap) av;refine H _ _ E ?_;clear H K av ap;refine jH ?_;refine zY rfl (λK H=>?_);go_simp;refine (kEk (l:=x2) (node_pendZ (J.out.touch E.1 pR).rd) (λy hy=>Nat.le_trans (HL.out.2 y hy).1 bF2) (cx:=[.slice ia ps.length ic,.int .i64 n,.int .i64 h,.int .i64 tl]) (x:=(ps,n,h,tl)) HI.out.rd (f:=f) bF2 (t:=45) bF2).mono ?_;rintro e am ⟨v2,rfl,O2,V⟩;have d1:=E.1.size;have bx:=V.size;replace E:=And.intro (E.1.trans (Touch.of_below V)) (E.2.below V);obtain ⟨l2,bg⟩:∃ l2,kDv (ps,n,h,tl) f 45 x2=l2:=⟨_,rfl⟩;have fm:=jBu (x:=(ps,n,h,tl)) (f:=f) (t:=45) (show n < 100 by omega) fx.out.2 HL.out;rw [bg] at O2 fm;clear bg;have bp:Hid (kAo l2 (3 - j)):=yD (fm.mono bF2);generalize yY (ps,n,h,tl) f x2=okA;obtain ⟨va,vc,ar,_⟩:=kD.kAw O2.raw;obtain rfl:v2=.slice va l2.length vc:=(by simpa using ar);clear ar fm;have Y:=yD O2;refine H _ _ E ?_;clear H K V O2;refine jH ?_;refine yA (v:=?_) rfl (λW hW=>?_) ?_;rotate_left;(· go_simp;try with_reducible rfl);refine jH ?_;obtain ⟨fl,RS,aj,ak,an,al⟩:=CU;have az:Qc am nb 2 (Qs a1 xe c1):=kE RS rfl;have ay:am.frozen? ⟨nb,2,none⟩=false:=Ac am (nb) 2 _ _ RS;have a8:Qc am nb 3 (Qs a2 x2 c2):=kE RS rfl;obtain ⟨a7,bt,bm⟩:=DW;have et:Qc am nb 5 (Qs a4 rl c4):=kE RS rfl;have e3:am.frozen? ⟨nb,5,none⟩=false:=Ac am (nb) 5 _ _ RS;have ew:Qc am nb 6 (Qs a5 ml c5):=kE RS rfl;obtain ⟨ey,e0,e5⟩:=EG;refine kAk trivial ?_;iterate 3
            refine kS ?_
           refine ku rfl (λK H=>?_);go_simp;refine H _ _ trivial ?_;clear H K;refine jH ?_;refine kM ?_;replace ag:=ag.yB E.1 nD;replace BT:=E.1.kC BT bF2;replace J:=yD (J.out.touch E.1 pR);replace L:=yD (L.out.touch E.1 pR);replace hc:=E.2;clear E BN;have BN:=RS;clear RS aj ak an al az ay a8 a7 bt bm et e3 ew ey e0 e5 HI L BT;generalize o:World.setCell am _ _=d2;have hT:Touch (λk=>k=nb) am d2:=wY;replace BN:Qr d2 nb #[Qs a0 x0 c0,Qn kc,Qs a1 xe c1,Qs va l2 vc,.slice a3 0 c3,Qs a4 rl c4,Qs a5 ml c5,Qn 0] 33:=by rw [<- o];exact kG (BN) 3
           have fb:=hT.size;clear o;replace J:=yD (J.out.touch hT pR);replace Y:=yD (Y.out.touch hT pR);obtain ⟨hc,ag⟩:=xG;clear hT;replace J:=yD ((kFk J.out Y.out mX).wide (T:=(λk=>tb < k/\k < d2.heap.size/\k≠nb)) bO);go_wp2;go_roundw;case rel=>exact ⟨j,a0,c0,a1,c1,va,vc,a3,c3,a4,c4,a5,c5,l2,by go_num,by omega,bp,BN,J,by omega,hc,ag⟩
           case measure=>simp [intOf]
     | succ j =>
       have c9:(0:Int) < (j:Int) + 1:=bF2;obtain ⟨b7,bo,b2,bv⟩:=jW BT;go_wp2_with fail;refine (kRd hc (ct:=[.slice b0 t.1.length ck,.slice b6 t.2.1.length dd,.slice bb t.2.2.1.length dh,.slice c7 t.2.2.2.length c8]) (tp:=t) L.out vL).mono ?_;rintro e e9 ⟨ds,x,rfl,hX,bi,F,D⟩;clear b7 bo b2 bv;have e1:=D.size;obtain ⟨ag,BN,BT,J,L⟩:=xB;clear hc D;have hc:=F;clear F;obtain ⟨b9,cf,b1,cc,cl,cd,rfl⟩:=zo hX.raw;have HX:=yD hX;clear hX;go_upto_region 11 with fail;refine ja ?_;intro ek hb BX ga;have e4:=hb.size;replace ag:=ag.trans (Touch.of_below hb);replace BN:=kC BN hb;replace BT:=kC BT hb;replace J:=yD (J.out.below hb);replace L:=yD (L.out.below hb);replace HX:=yD (HX.out.below hb);replace hc:=hc.below hb;clear hb;obtain ⟨R,aq,X,N,U,ai,ab,Z⟩:=yu BN;obtain ⟨aa,ac,ae,ad,af⟩:=yZ BX;go_wp2_with fail;refine (kNd (cx:=[.int .i64 kc,.slice a1 xe.length c1]) (x:=(kc,xe)) (node_cache J.out.rd) (cy:=[.slice b9 x.1.length cf,.slice b1 x.2.1.length cc,.slice cl x.2.2.1.length cd,.int .i64 x.2.2.2.1,.int .i64 x.2.2.2.2]) HX.out.rd (t:=40) bF2 (by have:=HL.out;show xe.length<=_;omega)).mono ?_;rintro e ev ⟨cs,rfl,bu,hb⟩;clear R aq X N U ai ab Z aa ac ae ad af;have fi:=hb.size;replace ag:=ag.trans (Touch.of_below hb);replace BN:=kC BN hb;replace BT:=kC BT hb;replace BX:=kC BX hb;replace J:=yD (J.out.below hb);replace L:=yD (L.out.below hb);replace HX:=yD (HX.out.below hb);replace hc:=hc.below hb;clear hb;obtain ⟨l2,bg,er⟩:=kTw x 40 kc xe;rw [bg] at bu;obtain ⟨na,np,rfl⟩:=kMb bu.raw;clear bg;have Y:=yD bu;have gg:=yD er;clear bu HX BX L er;obtain ⟨R,aq,X,N,U,ai,ab,Z⟩:=yu BN;obtain ⟨aw,bd,bl,ax,ba,a6,bf,a9⟩:=kIo BN;go_upto_region 9 with fail;generalize o:World.setCell (World.setCell ev _ _) _ _=en;have hT:Touch (λk=>k=nb) ev en:=bA3;replace BN:Qr en nb #[Qs a0 x0 c0,Qn kc,Qs na l2 np,.slice a2 0 c2,.slice a3 0 c3,.slice a4 0 c4,.slice a5 0 c5,Qn 0] 33:=by rw [<- o];exact kG (kG (BN) 1) 2
       have fv:=hT.size;clear o R aq X N U ai ab Z aw bd bl ax ba a6 bf a9;replace BT:=hT.kC BT bF2;replace J:=yD (J.out.touch hT pR);replace Y:=yD (Y.out.touch hT pR);obtain ⟨hc,ag⟩:=xG;clear hT;replace J:=yD ((kKh J.out Y.out mX).wide (T:=(λk=>tb < k/\k < en.heap.size/\k≠nb)) bO);go_wp2;go_roundw;case rel=>exact ⟨j,a0,c0,na,np,a2,c2,a3,c3,a4,c4,a5,c5,l2,by go_num,by omega,yD (by have:=HL.out;have:=gg.out;omega),BN,J,by omega,hc,ag⟩
       case measure=>simp [intOf]
 | succ j =>
   have c9:(0:Int) < (j:Int) + 1:=bF2;go_upto_region 6 with fail;refine kKq (λW=>Touch (λk=>k=p) wr W/\ym w0 W p) (λ_=>True) [] [(0,true),(1,true),(2,true),(3,false),(4,false),(5,true)] [(6,true),(7,true),(8,false)] bE5 bE5 qW (⟨Touch.of_below bR.drew,hc.below bR.drew⟩) ?_;intro wS E;simp only [jG,kAu,Ad,Ae,List.map_cons,List.map_nil];refine pre_nil ?_;refine yA (v:=?_) rfl (λW hW=>?_) ?_;rotate_left;(· have cv:=kE (hW.1.kC BN bF2) (j:=0) (v:=Qs a0 x0 c0) rfl;have dk:=kE (hW.1.kC BN bF2) (j:=1) (v:=.int .i64 kc) rfl;have dz:=kE (hW.1.kC BN bF2) (j:=2) (v:=.slice a1 0 c1) rfl;have d5:=kE (hW.1.kC BN bF2) (j:=3) (v:=.slice a2 0 c2) rfl;have d4:=kE (hW.1.kC BN bF2) (j:=4) (v:=.slice a3 0 c3) rfl;have el:=kE (hW.1.kC BN bF2) (j:=5) (v:=.slice a4 0 c4) rfl;have eh:=kE (hW.1.kC BN bF2) (j:=6) (v:=.slice a5 0 c5) rfl;have em:=kE (hW.1.kC BN bF2) (j:=7) (v:=.int .i64 0) rfl;have e8:=kE (hW.1.kC BT bF2) (j:=0) (v:=Qs b0 t.1 ck) rfl;have e7:=kE (hW.1.kC BT bF2) (j:=1) (v:=Qs b6 t.2.1 dd) rfl;have ep:=kE (hW.1.kC BT bF2) (j:=2) (v:=Qs bb t.2.2.1 dh) rfl;have eq:=kE (hW.1.kC BT bF2) (j:=3) (v:=Qs c7 t.2.2.2 c8) rfl;clear hW;go_simp;try with_reducible rfl);refine jH ?_;refine yA (v:=?_) rfl (λW hW=>?_) ?_;rotate_left;(· go_simp;try with_reducible rfl);refine jH ?_;refine yA (v:=?_) rfl (λW hW=>?_) ?_;rotate_left;(· have cv:=kE (hW.1.kC BN bF2) (j:=0) (v:=Qs a0 x0 c0) rfl;have dk:=kE (hW.1.kC BN bF2) (j:=1) (v:=.int .i64 kc) rfl;have dz:=kE (hW.1.kC BN bF2) (j:=2) (v:=.slice a1 0 c1) rfl;have d5:=kE (hW.1.kC BN bF2) (j:=3) (v:=.slice a2 0 c2) rfl;have d4:=kE (hW.1.kC BN bF2) (j:=4) (v:=.slice a3 0 c3) rfl;have el:=kE (hW.1.kC BN bF2) (j:=5) (v:=.slice a4 0 c4) rfl;have eh:=kE (hW.1.kC BN bF2) (j:=6) (v:=.slice a5 0 c5) rfl;have em:=kE (hW.1.kC BN bF2) (j:=7) (v:=.int .i64 0) rfl;have e8:=kE (hW.1.kC BT bF2) (j:=0) (v:=Qs b0 t.1 ck) rfl;have e7:=kE (hW.1.kC BT bF2) (j:=1) (v:=Qs b6 t.2.1 dd) rfl;have ep:=kE (hW.1.kC BT bF2) (j:=2) (v:=Qs bb t.2.2.1 dh) rfl;have eq:=kE (hW.1.kC BT bF2) (j:=3) (v:=Qs c7 t.2.2.2 c8) rfl;clear hW;go_simp;try with_reducible rfl);refine jH ?_;refine zY rfl (λK H=>?_);go_simp;refine (kRd E.2 (ct:=[.slice b0 t.1.length ck,.slice b6 t.2.1.length dd,.slice bb t.2.2.1.length dh,.slice c7 t.2.2.2.length c8]) (tp:=t) (L.out.touch E.1 pR) vL).mono ?_;rintro e wS1 ⟨ds,x,rfl,hX,bi,av,ap⟩;obtain ⟨b9,cf,b1,cc,cl,cd,rfl⟩:=zo hX.raw;have HX:=yD hX;have fh:=E.1.size;have gf:=ap.size;replace E:=And.intro (E.1.trans ap) av;refine H _ _ E ?_;clear H K av ap hX;refine jH ?_;refine zY rfl (λK H=>?_);go_simp;refine (kZp (cx:=[.slice a0 x0.length c0,.int .i64 kc,.slice a1 0 c1,.slice a2 0 c2,.slice a3 0 c3,.slice a4 0 c4,.slice a5 0 c5,.int .i64 0]) (x:=(x0,(kc,[]),[],[],[],[],0)) (J.out.touch E.1 pR).rd (ct:=[.slice b9 x.1.length cf,.slice b1 x.2.1.length cc,.slice cl x.2.2.1.length cd,.int .i64 x.2.2.2.1,.int .i64 x.2.2.2.2]) HX.out.rd).mono ?_;rintro e am ⟨cs,rfl,hO,V⟩;have d1:=E.1.size;have bx:=V.size;replace E:=And.intro (E.1.trans (Touch.of_below V)) (E.2.below V);obtain ⟨y0,ao,gh⟩:=addL_len x x0 ((kc,[]),[],[],[],[],0);rw [ao] at hO;obtain ⟨ce,bn,dn,cm,dt,co,dq,du,dw,dl,dp,dm,rfl⟩:=kCu hO.raw;simp only [List.length_nil] at hO ⊢;clear ao;generalize kSl x _=okA;have Y:=yD hO;refine H _ _ E ?_;clear H K V hO;refine jH ?_;refine yA (v:=?_) rfl (λW hW=>?_) ?_;rotate_left;(· go_simp;try with_reducible rfl);refine jH ?_;obtain ⟨fl,RS,aj,ak,an,al⟩:=CU;have az:Qc am nb 2 (.slice a1 0 c1):=kE RS rfl;have ay:am.frozen? ⟨nb,2,none⟩=false:=Ac am (nb) 2 _ _ RS;have a8:Qc am nb 3 (.slice a2 0 c2):=kE RS rfl;obtain ⟨a7,bt,bm⟩:=DW;have et:Qc am nb 5 (.slice a4 0 c4):=kE RS rfl;have e3:am.frozen? ⟨nb,5,none⟩=false:=Ac am (nb) 5 _ _ RS;have ew:Qc am nb 6 (.slice a5 0 c5):=kE RS rfl;obtain ⟨ey,e0,e5⟩:=EG;refine kAk trivial ?_;refine kS ?_;refine kS ?_;refine ku rfl (λK H=>?_);go_simp;refine H _ _ trivial ?_;clear H K;refine jH ?_;refine kM ?_;replace ag:=ag.yB E.1 nD;replace BT:=E.1.kC BT bF2;replace J:=yD (J.out.touch E.1 pR);replace L:=yD (L.out.touch E.1 pR);replace hc:=E.2;clear E BN;have BN:=RS;clear RS aj ak an al az ay a8 a7 bt bm et e3 ew ey e0 e5 J HX L BT;generalize o:World.setCell (World.setCell (World.setCell (World.setCell (World.setCell (World.setCell (World.setCell (World.setCell am _ _) _ _) _ _) _ _) _ _) _ _) _ _) _ _=b8;have hT:Touch (λk=>k=nb) am b8:=bA5;replace BN:Qr b8 nb #[Qs ce y0 bn,Qn kc,.slice dn 0 cm,.slice dt 0 co,.slice dq 0 du,.slice dw 0 dl,.slice dp 0 dm,Qn 0] 33:=by rw [<- o];exact kG (kG (kG (kG (kG (kG (kG (kG (BN) 0) 1) 2) 3) 4) 5) 6) 7
   have cg:=hT.size;clear o;replace Y:=yD (Y.out.touch hT pR);obtain ⟨hc,ag⟩:=xG;clear hT;go_wp2;go_roundw;case rel=>exact ⟨j,ce,bn,dn,cm,dt,co,dq,du,dw,dl,dp,dm,y0,by go_num,by omega,yD wZ,BN,yD (Y.out.wide gF),by omega,hc,ag⟩
   case measure=>simp [intOf]
end Go.Proofs.YthocbplmdjkifaaGreat

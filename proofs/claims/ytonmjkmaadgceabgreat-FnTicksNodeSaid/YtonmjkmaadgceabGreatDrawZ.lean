/-
  A node of a small world, drawn.
-/
import Derived.Test.YtonmjkmaadgceabGreatDrawH
import Derived.Test.YtonmjkmaadgceabGreatDrawC
import Derived.Test.YtonmjkmaadgceabGreatAddL
import Derived.Test.YtonmjkmaadgceabGreatSoft5
set_option linter.unusedVariables false
set_option linter.unusedSimpArgs false
set_option linter.unnecessarySimpa false
set_option maxRecDepth 100000
set_option maxHeartbeats 16000000
open _root_ renaming Option->Aa,List->Ag
open Int renaming eq_ofNat_of_zero_le->Ab
open Go renaming frozen_of_row->Ac,Addr->Ah
open List renaming getElem?_cons_succ->Ad,getElem?_cons_zero->Ae
namespace Go.Proofs.YtonmjkmaadgceabGreat
open Go.RowKit _root_.Go.Proofs.Tryz
theorem kDt {w:World} {cs:Ag Value} {x:yB} (h:jr.raw w cs x):∃ a0 c0 a1 c1 a2 c2 a3 c3 a4 c4 a5 c5,cs=[.slice a0 x.1.length c0,.int .i64 x.2.1.1,.slice a1 x.2.1.2.length c1,.slice a2 x.2.2.1.length c2,.slice a3 x.2.2.2.1.length c3,.slice a4 x.2.2.2.2.1.length c4,.slice a5 x.2.2.2.2.2.1.length c5,.int .i64 x.2.2.2.2.2.2]:=by
 obtain ⟨v0,v2,v3,v4,v5,v6,rfl,ab,Z,ai,ah,I,R,L,o,D⟩:=yS h;obtain ⟨a0,c0,rfl,_⟩:=kD.sl ab;obtain ⟨a1,c1,rfl,_⟩:=kD.sl ah;obtain ⟨a2,c2,rfl,_⟩:=kD.sl I;obtain ⟨a3,c3,rfl,_⟩:=kD.sl R;obtain ⟨a4,c4,rfl,_⟩:=kD.sl L;obtain ⟨a5,c5,rfl,_⟩:=kD.sl o;exact ⟨_,_,_,_,_,_,_,_,_,_,_,_,rfl⟩
theorem addL_len (t:jN) (x0:Ag jN) (r:kg × Ag kF × Ag jH × Ag ky × Ag kJ × Int):∃ y0,addL t (x0,r)=(y0,r)/\y0.length<=x0.length + 1:=by
 unfold addL;split
 · exact ⟨x0++[t],rfl,by simp⟩
 exact ⟨x0,rfl,by omega⟩
theorem kUy {w:World} {c0 c1 c2 c3 c4 c5 O o v:Value} {x0:Ag jN} {x1:kg} {x2:Ag kF} {x3:Ag jH} {x4 y:Ag ky} {x5:Ag kJ} {x6:Int} {S T:Nat->Prop}
    (h:jr.own w [c0,c1,c2,c3,c4,c5,O,o] (x0,x1,x2,x3,x4,x5,x6) S) (hv:(kD.slice 77 kY).own w [v] y T) (hd:∀ k,S k->T k->False):jr.own w [c0,c1,c2,c3,c4,v,O,o] (x0,x1,x2,x3,y,x5,x6) (λk=>S k\/T k) :=
  kD.set_right (c:=[c0]) h rfl (λB hB hq=>kD.set_right (c:=[c1,c2]) hq rfl (λU E az=>kD.set_right (c:=[c3]) az rfl (λB3 F H=>kD.set_right (c:=[c4]) H rfl (λZ D I=>kD.set_left (c:=[c5]) (c':=[v]) I rfl hv (λk a b=>hd k (hB k (E k (F k (D k a)))) b)) (λk a b=>hd k (hB k (E k (F k a))) b)) (λk a b=>hd k (hB k (E k a)) b)) (λk a b=>hd k (hB k a) b)) hd
theorem node_pendZ {w:World} {c0 c1 c2 c3 c4 c5 O o:Value} {x0:Ag jN} {x1:kg} {x2:Ag kF} {x3:Ag jH} {x4:Ag ky} {x5:Ag kJ} {x6:Int} (h:jr.rd w [c0,c1,c2,c3,c4,c5,O,o] (x0,x1,x2,x3,x4,x5,x6)):(kD.slice 43 kH).rd w [c3] x2:=⟨kLo h.1,h.2.2.2.1⟩
def tameN (x:yB):Prop:=x.1.length<=9/\x.2.1.2.length<=9/\kAf x.2.2.1 14/\kFn x.2.2.2.1/\x.2.2.2.2.1.length<=48/\x.2.2.2.2.2.1.length<=48/\-1<=x.2.2.2.2.2.2/\x.2.2.2.2.2.2<=0
def DrawnN (w0 w:World) (p:Nat) (e:Ending) (w':World):Prop:=∃ cs x ct t tb,e=.returned (.tuple #[.agg cs.toArray,.agg ct.toArray])/\jr.own w' cs x (jX tb w'.heap.size)/\tameN x/\kAz.ji w' ct t (jX w.heap.size tb)/\lenT t/\(w.heap.size<=tb/\tb<=w'.heap.size)/\yU w0 w' p/\Touch (λk=>k=p) w w'
theorem kWo {w0 w:World} {p:Nat} (hc:yU w0 w p) :
    Calls prog 92 #[.pointer (some ⟨p,0,none⟩)] w λe w'=>DrawnN w0 w p e w':=by
 go_enter func92,ntmps92
 obtain ⟨bf,b4⟩:=hc.lt
 go_upto_region 1 with fail
 generalize F:World.alloc (World.alloc w _) _=Y
 obtain ⟨hb,RN,RT,bd⟩:=AY
 clear F
 replace hc:=hc.below hb
 have N:Touch (λk=>k=p) w Y:=Touch.of_below hb
 clear hb
 go_wp2_with fail
 refine (kUb hc).mono ?_
 rintro e V ⟨ds,t,rfl,hT,hlt,G,D⟩
 have bk:=D.size
 replace RN:=D.kC RN bC9
 replace RT:=D.kC RT bC9
 replace N:=N.trans D
 clear hc D
 have hc:=G
 clear G
 obtain ⟨a7,b8,bx,cw,be,cz,cl,co,rfl⟩:=kIp hT.rd.1
 have L:=yD (hT)
 clear hT
 go_upto_region 2 with fail
 generalize F:World.alloc V _=w3
 have ak:Qb V w3:=rM
 have BT:Qr w3 V.heap.size #[Qs a7 t.1 b8,Qs bx t.2.1 cw,Qs be t.2.2.1 cz,Qs cl t.2.2.2 co] 84:=vB
 have bl:V.heap.size + 1<=w3.heap.size:=bB1
 clear F
 replace RN:=kC RN ak
 replace RT:=kC RT ak
 replace L:=yD (L.out.below ak)
 replace hc:=hc.below ak
 replace N:=N.trans (Touch.of_below ak)
 clear ak
 obtain ⟨tb,ef⟩:∃ b_,b_=V.heap.size:=⟨_,rfl⟩
 rw [<- ef] at BT ⊢
 have en:=Nat.le_of_eq ef
 have ep:=Nat.le_of_eq ef.symm
 clear ef
 go_wp2_with fail
 refine (kr (n:=4) hc bC8).mono ?_
 rintro e w4 ⟨k4,gh,eo,f0,rfl,G,D⟩
 have bw:=D.size
 replace RN:=D.kC RN bC9
 replace RT:=D.kC RT bC9
 replace BT:=D.kC BT bC9
 replace L:=yD (L.out.touch D pJ)
 replace N:=N.trans D
 clear hc D
 have hc:=G
 clear G
 replace eo:=eo bC8
 clear f0
 go_wp2_with fail
 refine (kWu (c:=k4) bC9).mono ?_
 rintro e w5 ⟨cs,rfl,hO,hb⟩
 have bv:=hb.size
 replace RN:=kC RN hb
 replace RT:=kC RT hb
 replace BT:=kC BT hb
 replace L:=yD (L.out.below hb)
 obtain ⟨hc,N⟩:=xG
 clear hb
 obtain ⟨a0,c0,a1,c1,a2,c2,a3,c3,a4,c4,a5,c5,rfl⟩:=kDt hO.raw
 simp only [newN,newC,List.length_nil] at hO ⊢
 have fx:=kPi (c:=k4) bC9
 generalize capC k4=kc at *
 have J:=yD (hO)
 clear hO
 go_upto_region 3 with fail
 generalize F:World.alloc w5 _=w6
 have aq:Qb w5 w6:=rM
 have BN:Qr w6 w5.heap.size #[.slice a0 0 c0,Qn kc,.slice a1 0 c1,.slice a2 0 c2,.slice a3 0 c3,.slice a4 0 c4,.slice a5 0 c5,Qn 0] 33:=vB
 have cf:w5.heap.size + 1<=w6.heap.size:=bB1
 clear F
 replace RN:=kC RN aq
 replace RT:=kC RT aq
 replace BT:=kC BT aq
 replace L:=yD (L.out.below aq)
 obtain ⟨J,hc,N⟩:=G8
 clear aq
 obtain ⟨R,dl⟩:∃ b_,b_=w5.heap.size:=⟨_,rfl⟩
 rw [<- dl] at BN ⊢
 have ft:=Nat.le_of_eq dl
 have fp:=Nat.le_of_eq dl.symm
 clear dl
 go_wp2_with fail
 refine (kr (n:=3) hc bC8).mono ?_
 rintro e w7 ⟨m,bt,ah,b1,rfl,G,D⟩
 have dp:=D.size
 replace RN:=D.kC RN bC9
 replace RT:=D.kC RT bC9
 replace BT:=D.kC BT bC9
 replace BN:=D.kC BN bC9
 replace L:=yD (L.out.touch D pJ)
 obtain ⟨J,N⟩:=xM
 clear hc D
 have hc:=G
 clear G
 replace ah:=ah bC8
 clear b1
 obtain ⟨m,rfl⟩:=Ab bt
 have cc:=L
 have eu:=BT
 clear L BT
 go_wp2
 go_loopw [6] (λi wr=>∃ (j:Nat) (a0:Aa Ah) (c0:Nat) (a1:Aa Ah) (c1:Nat) (a2:Aa Ah) (c2:Nat) (a3:Aa Ah) (c3:Nat) (a4:Aa Ah) (c4:Nat) (a5:Aa Ah) (c5:Nat) (x0:Ag jN),i=.int .i64 j/\j<=3/\Hid (x0.length + j<=2)/\Qr wr R #[Qs a0 x0 c0,Qn kc,.slice a1 0 c1,.slice a2 0 c2,.slice a3 0 c3,.slice a4 0 c4,.slice a5 0 c5,Qn 0] 33/\Hid (jr.own wr [Qs a0 x0 c0,Qn kc,.slice a1 0 c1,.slice a2 0 c2,.slice a3 0 c3,.slice a4 0 c4,.slice a5 0 c5,Qn 0] (x0,(kc,[]),[],[],[],[],0) (λk=>tb < k/\k < wr.heap.size/\k≠R))/\w7.heap.size<=wr.heap.size/\yU w0 wr p/\Touch (λk=>k=p\/k=R) w7 wr) (λi _=>(intOf i).toNat)
 case atStart=>exact ⟨m,a0,c0,a1,c1,a2,c2,a3,c3,a4,c4,a5,c5,[],rfl,by omega,yD bC4,BN,yD (J.out.wide fH),Nat.le_refl _,hc,Touch.of_below bR⟩
 clear BN J hc
 obtain ⟨j,a0,c0,a1,c1,a2,c2,a3,c3,a4,c4,a5,c5,x0,rfl,I,HL,BN,J,dt,hc,Z⟩:=hrel
 have e4:=Z.size
 have BT:=Z.kC eu bC9
 have L:=yD (cc.out.touch Z nH)
 cases j with
 | zero =>
   have cq:¬ (0:Int) < (0:Nat):=bC9;go_wp2_with fail;refine (kr (n:=4) hc bC8).mono ?_;rintro e b6 ⟨m2,fr,em,f5,rfl,G,D⟩;have cv:=D.size;obtain ⟨Z,BN,BT,J,L⟩:=xW;clear hc D;have hc:=G;clear G;replace em:=em bC8;clear f5;obtain ⟨m2,rfl⟩:=Ab fr;have gi:x0.length<=2:=vN;go_wp2;go_loopw [7] (λi wr=>∃ (j:Nat) (a0:Aa Ah) (c0:Nat) (a1:Aa Ah) (c1:Nat) (a2:Aa Ah) (c2:Nat) (a3:Aa Ah) (c3:Nat) (a4:Aa Ah) (c4:Nat) (a5:Aa Ah) (c5:Nat) (xe:Ag kT),i=.int .i64 j/\j<=3/\Hid (xe.length + j<=3)/\Qr wr R #[Qs a0 x0 c0,Qn kc,Qs a1 xe c1,.slice a2 0 c2,.slice a3 0 c3,.slice a4 0 c4,.slice a5 0 c5,Qn 0] 33/\Hid (jr.own wr [Qs a0 x0 c0,Qn kc,Qs a1 xe c1,.slice a2 0 c2,.slice a3 0 c3,.slice a4 0 c4,.slice a5 0 c5,Qn 0] (x0,(kc,xe),[],[],[],[],0) (λk=>tb < k/\k < wr.heap.size/\k≠R))/\w7.heap.size<=wr.heap.size/\yU w0 wr p/\Touch (λk=>k=p\/k=R) w7 wr) (λi _=>(intOf i).toNat);case atStart=>exact ⟨m2,a0,c0,a1,c1,a2,c2,a3,c3,a4,c4,a5,c5,[],rfl,by omega,yD bC4,BN,yD (J.out.wide pF),by omega,hc,Z⟩
   case round =>
     clear BN J hc Z BT L HL;obtain ⟨j,a0,c0,a1,c1,a2,c2,a3,c3,a4,c4,a5,c5,xe,rfl,I,HL,BN,J,dt,hc,Z⟩:=hrel;have e4:=Z.size;have BT:=Z.kC eu bC9;have L:=yD (cc.out.touch Z nH);cases j with
     | zero =>
       have cq:¬ (0:Int) < (0:Nat):=bC9;have gg:xe.length<=3:=vN;clear HL;go_wp2_with fail;refine (kMn hc).mono ?_;rintro e dr ⟨ra,rc,rl,rfl,hR,fv,G,D⟩;have e6:=D.size;obtain ⟨Z,BN,BT,J,L⟩:=xW;clear hc D;have hc:=G;clear G;have HR:=yD hR;clear hR;have ed:=fv.1;clear fv;obtain ⟨ao,ax,ai,o,U,aw,au,am⟩:=jR BN;obtain ⟨a6,bp,bz,ba,bo,bc,br,bj⟩:=kAw BN;go_upto_region 13 with fail;generalize F:World.setCell dr _ _=ea;have hT:Touch (λk=>k=R) dr ea:=vO;replace BN:Qr ea R #[Qs a0 x0 c0,Qn kc,Qs a1 xe c1,.slice a2 0 c2,.slice a3 0 c3,Qs ra rl rc,.slice a5 0 c5,Qn 0] 33:=by rw [<- F];exact kK (BN) 5
       have fa:=hT.size;clear F;clear ao ax ai o U aw au am a6 bp bz ba bo bc br bj;obtain ⟨BT,J,L⟩:=GD;replace HR:=yD (HR.out.touch hT nH);obtain ⟨hc,Z⟩:=A9;clear hT;replace J:=yD ((kUy J.out HR.out gW).wide (T:=(λk=>tb < k/\k < ea.heap.size/\k≠R)) bJ);clear HR;go_wp2_with fail;refine (kMl hc).mono ?_;rintro e ej ⟨ma,mc,ml,rfl,hM,dv,G,D⟩;have es:=D.size;obtain ⟨Z,BN,BT,J,L⟩:=xW;clear hc D;have hc:=G;clear G;have HM:=yD hM;clear hM;obtain ⟨ao,ax,ai,o,U,aw,au,am⟩:=jR BN;obtain ⟨a6,bp,bz,ba,bo,bc,br,bj⟩:=kAw BN;go_upto_region 14 with fail;generalize F:World.setCell ej _ _=d8;have hT:Touch (λk=>k=R) ej d8:=vO;replace BN:Qr d8 R #[Qs a0 x0 c0,Qn kc,Qs a1 xe c1,.slice a2 0 c2,.slice a3 0 c3,Qs ra rl rc,Qs ma ml mc,Qn 0] 33:=by rw [<- F];exact kK (BN) 6
       have fc:=hT.size;clear F;clear ao ax ai o U aw au am a6 bp bz ba bo bc br bj;obtain ⟨BT,J,L⟩:=GD;replace HM:=yD (HM.out.touch hT nH);obtain ⟨hc,Z⟩:=A9;clear hT;replace J:=yD ((kIz J.out HM.out gW).wide (T:=(λk=>tb < k/\k < d8.heap.size/\k≠R)) bJ);clear HM;go_wp2_with fail;refine (kr (n:=4) hc bC8).mono ?_;rintro e gl ⟨m3,fy,eq,fn,rfl,G,D⟩;have gc:=D.size;obtain ⟨Z,BN,BT,J,L⟩:=xW;clear hc D;have hc:=G;clear G;replace eq:=eq bC8;clear fn;obtain ⟨m3,rfl⟩:=Ab fy;go_wp2;go_loopw [9] (λi wr=>∃ (j:Nat) (a0:Aa Ah) (c0:Nat) (a1:Aa Ah) (c1:Nat) (a2:Aa Ah) (c2:Nat) (a3:Aa Ah) (c3:Nat) (a4:Aa Ah) (c4:Nat) (a5:Aa Ah) (c5:Nat) (x2:Ag kF),i=.int .i64 j/\j<=3/\Hid (kAf x2 (3 - j))/\Qr wr R #[Qs a0 x0 c0,Qn kc,Qs a1 xe c1,Qs a2 x2 c2,.slice a3 0 c3,Qs a4 rl c4,Qs a5 ml c5,Qn 0] 33/\Hid (jr.own wr [Qs a0 x0 c0,Qn kc,Qs a1 xe c1,Qs a2 x2 c2,.slice a3 0 c3,Qs a4 rl c4,Qs a5 ml c5,Qn 0] (x0,(kc,xe),x2,[],rl,ml,0) (λk=>tb < k/\k < wr.heap.size/\k≠R))/\w7.heap.size<=wr.heap.size/\yU w0 wr p/\Touch (λk=>k=p\/k=R) w7 wr) (λi _=>(intOf i).toNat);case atStart=>exact ⟨m3,a0,c0,a1,c1,a2,c2,a3,c3,ra,rc,ma,mc,[],rfl,by omega,yD ⟨by simp,λy hy=>by simp at hy⟩,BN,yD (J.out.wide pF),by omega,hc,Z⟩
       case round =>
         clear BN J hc Z BT L;obtain ⟨j,a0,c0,a1,c1,a2,c2,a3,c3,a4,c4,a5,c5,x2,rfl,I,HL,BN,J,dt,hc,Z⟩:=hrel;have e4:=Z.size;have BT:=Z.kC eu bC9;have L:=yD (cc.out.touch Z nH);cases j with
         | zero =>
           have cq:¬ (0:Int) < (0:Nat):=bC9;go_wp2_with fail;refine (kWr hc).mono ?_;rintro e dk ⟨sa,sn,sc,sl,rfl,ag,fu,hS,G,D⟩;have el:=D.size;obtain ⟨Z,BN,BT,J,L⟩:=xW;clear hc D;have hc:=G;clear G;subst ag;have ek:=yD hS;have f8:=yD fu;clear hS fu;obtain ⟨ao,ax,ai,o,U,aw,au,am⟩:=jR BN;obtain ⟨a6,bp,bz,ba,bo,bc,br,bj⟩:=kAw BN;go_upto_region 19 with fail;generalize F:World.setCell dk _ _=de;have hT:Touch (λk=>k=R) dk de:=vO;replace BN:Qr de R #[Qs a0 x0 c0,Qn kc,Qs a1 xe c1,Qs a2 x2 c2,Qs sa sl sc,Qs a4 rl c4,Qs a5 ml c5,Qn 0] 33:=by rw [<- F];exact kK (BN) 4
           have f7:=hT.size;clear F;clear ao ax ai o U aw au am a6 bp bz ba bo bc br bj;obtain ⟨BT,J,L⟩:=GD;replace ek:=yD (ek.out.touch hT nH);obtain ⟨hc,Z⟩:=A9;clear hT;replace J:=yD ((kIx J.out ek.out gW).wide (T:=(λk=>tb < k/\k < de.heap.size/\k≠R)) bJ);clear ek;replace RN:=Z.kC RN bC9;replace RT:=Z.kC RT bC9;replace N:=N.jh Z wP;have FX:=yD (λ(W:World) (hW:Touch (λk=>k=w.heap.size\/k=w.heap.size + 1) de W)=>And.intro (kE (hW.kC BN bC9) (j:=0) (v:=.slice a0 x0.length c0) rfl) (And.intro (kE (hW.kC BN bC9) (j:=1) (v:=.int .i64 kc) rfl) (And.intro (kE (hW.kC BN bC9) (j:=2) (v:=.slice a1 xe.length c1) rfl) (And.intro (kE (hW.kC BN bC9) (j:=3) (v:=.slice a2 x2.length c2) rfl) (And.intro (kE (hW.kC BN bC9) (j:=4) (v:=.slice sa sl.length sc) rfl) (And.intro (kE (hW.kC BN bC9) (j:=5) (v:=.slice a4 rl.length c4) rfl) (And.intro (kE (hW.kC BN bC9) (j:=6) (v:=.slice a5 ml.length c5) rfl) (And.intro (kE (hW.kC BN bC9) (j:=7) (v:=.int .i64 0) rfl) (And.intro (kE (hW.kC BT bC9) (j:=0) (v:=.slice a7 t.1.length b8) rfl) (And.intro (kE (hW.kC BT bC9) (j:=1) (v:=.slice bx t.2.1.length cw) rfl) (And.intro (kE (hW.kC BT bC9) (j:=2) (v:=.slice be t.2.2.1.length cz) rfl) (kE (hW.kC BT bC9) (j:=3) (v:=.slice cl t.2.2.2.length co) rfl))))))))))));refine kFl (λW=>Touch (λk=>k=w.heap.size\/k=w.heap.size + 1) de W) bC3 (Touch.of_below bR.drew) ?_;intro t1 dx E;have bD:Qb de t1:=(by rw [dx];exact bR.drew);replace RN:=kC RN bD;replace RT:=kC RT bD;clear bD dx;have f9:=E.size;refine kQ 0 ?_;refine kQ 1 ?_;refine kP (k:=2) rfl bC3 rfl (λK H=>?_);obtain ⟨dz,d5,d0,d7,fb,et,e5,fi⟩:=jR RN;obtain ⟨d6,d2,d4,d9,e3,e0,fd,e1⟩:=kAw RN;go_simp;generalize F:World.setCell (World.setCell (World.setCell (World.setCell (World.setCell (World.setCell (World.setCell (World.setCell t1 _ _) _ _) _ _) _ _) _ _) _ _) _ _) _ _=t2;have hT:Touch (λk=>k=w.heap.size) t1 t2:=(by rw [<- F];exact sT8);replace RN:Qr t2 w.heap.size #[Qs a0 x0 c0,Qn kc,Qs a1 xe c1,Qs a2 x2 c2,Qs sa sl sc,Qs a4 rl c4,Qs a5 ml c5,Qn 0] 33:=(by rw [<- F];exact kK (kK (kK (kK (kK (kK (kK (kK (RN) 0) 1) 2) 3) 4) 5) 6) 7);have fo:=hT.size;clear F dz d6 d5 d2 d0 d4 d7 d9 fb e3 et e0 e5 fd fi e1;replace RT:=hT.kC RT bC9;replace E:=E.trans (hT.wide (λk q=>.inl q));clear hT;refine H _ _ E ?_;clear H K;refine jF ?_;refine kP (k:=3) rfl bC3 rfl (λK H=>?_);obtain ⟨dz,d5,d0,d7⟩:=kKm RT;obtain ⟨d6,d2,d4,d9⟩:=kUm RT;go_simp;generalize F:World.setCell (World.setCell (World.setCell (World.setCell t2 _ _) _ _) _ _) _ _=t3;obtain ⟨hT,RT,fj⟩:=DC;clear F dz d6 d5 d2 d0 d4 d7 d9;replace RN:=hT.kC RN bC9;replace E:=E.trans (hT.wide (λk q=>.inr q));clear hT;refine H _ _ E ?_;clear H K;refine jF ?_;refine jf bC3 ?_;obtain ⟨e9,ff,ey,eh,dy,e7,ei,ez⟩:=jR RN;obtain ⟨dg,c8,dd,db⟩:=kKm RT;have zS:=E.size;go_wp2;refine bodyPost_ret (v:=.tuple #[.agg #[Qs a0 x0 c0,Qn kc,Qs a1 xe c1,Qs a2 x2 c2,Qs sa sl sc,Qs a4 rl c4,Qs a5 ml c5,Qn 0],.agg #[Qs a7 t.1 b8,Qs bx t.2.1 cw,Qs be t.2.2.1 cz,Qs cl t.2.2.2 co]]) (by simp [results,results92,go_sem,e9,ff,ey,eh,dy,e7,ei,ez,dg,c8,dd,db]) rfl ⟨[Qs a0 x0 c0,Qn kc,Qs a1 xe c1,Qs a2 x2 c2,Qs sa sl sc,Qs a4 rl c4,Qs a5 ml c5,Qn 0],(x0,(kc,xe),x2,sl,rl,ml,0),[.slice a7 t.1.length b8,.slice bx t.2.1.length cw,.slice be t.2.2.1.length cz,.slice cl t.2.2.2.length co],t,tb,rfl,?_,⟨by simp only;omega,by simp only;omega,HL.out.mono bC9,f8.out,by simp only;omega,by simp only;omega,by simp,by simp⟩,?_,hlt,⟨by omega,by omega⟩,hc.touch E bC9 wP,N.jh E wP⟩
           · exact (J.out.touch E rZ).wide (T:=jX tb _) (λj I=>⟨by have:=I.1;omega,by have:=I.2.1;omega⟩)
           · exact (L.out.touch E rZ).wide (T:=jX w.heap.size tb) mH
         | succ j =>
           have ce:(0:Int) < (j:Int) + 1:=bC9;go_upto_region 17 with fail;refine kHq (λW=>Touch (λk=>k=p) wr W/\yU w0 W p) (λ_=>True) [] [(0,true),(1,true),(2,true),(4,true),(3,false),(5,false),(6,false),(7,true)] [(8,true),(9,true),(10,true),(11,false)] bC3 bC3 pK (⟨Touch.of_below bR.drew,hc.below bR.drew⟩) ?_;intro wS E;simp only [kz,zF,Ad,Ae,List.map_cons,List.map_nil];refine pre_nil ?_;refine jW (v:=?_) rfl (λW hW=>?_) ?_;rotate_left;(· go_simp;try with_reducible rfl);refine jF ?_;refine jW (v:=?_) rfl (λW hW=>?_) ?_;rotate_left;(· have c6:=kE (hW.1.kC BN bC9) (j:=0) (v:=.slice a0 x0.length c0) rfl;have dj:=kE (hW.1.kC BN bC9) (j:=1) (v:=.int .i64 kc) rfl;have du:=kE (hW.1.kC BN bC9) (j:=2) (v:=.slice a1 xe.length c1) rfl;have dq:=kE (hW.1.kC BN bC9) (j:=3) (v:=.slice a2 x2.length c2) rfl;have dn:=kE (hW.1.kC BN bC9) (j:=4) (v:=.slice a3 0 c3) rfl;have eb:=kE (hW.1.kC BN bC9) (j:=5) (v:=.slice a4 rl.length c4) rfl;have d3:=kE (hW.1.kC BN bC9) (j:=6) (v:=.slice a5 ml.length c5) rfl;have eg:=kE (hW.1.kC BN bC9) (j:=7) (v:=.int .i64 0) rfl;clear hW;go_simp;try with_reducible rfl);iterate 2
            refine jF ?_
            refine jW (v:=?_) rfl (λW hW=>?_) ?_;rotate_left;(· go_simp;try with_reducible rfl)
           refine jF ?_;refine yx rfl (λK H=>?_);go_simp;refine (kWn E.2).mono ?_;rintro e wS1 ⟨ia,ic,ps,n,h,tl,rfl,hr,dm,hn,hh,ht,ar,ap⟩;have HI:=yD (int_own hr (n:=n) (h:=h) (t:=tl) bC9 bC9 bC9);have fh:=yD dm;have er:=E.1.size;have gd:=ap.size;replace E:=And.intro (E.1.trans ap) ar;refine H _ _ E ?_;clear H K ar ap hr;refine jF ?_;refine yx rfl (λK H=>?_);go_simp;refine (kr (n:=4) E.2 bC8).mono ?_;rintro e a9 ⟨f,e8,dw,d1,rfl,ar,ap⟩;replace dw:=dw bC8;clear d1;replace HI:=yD (HI.out.touch ap nH);have gj:=ap.size;replace E:=And.intro (E.1.trans ap) ar;refine H _ _ E ?_;clear H K ar ap;refine jF ?_;refine yx rfl (λK H=>?_);go_simp;refine (kGe (l:=x2) (node_pendZ (J.out.touch E.1 nH).rd) (λy hy=>Nat.le_trans (HL.out.2 y hy).1 bC9) (cx:=[.slice ia ps.length ic,.int .i64 n,.int .i64 h,.int .i64 tl]) (x:=(ps,n,h,tl)) HI.out.rd (f:=f) bC9 (t:=45) bC9).mono ?_;rintro e O ⟨v2,rfl,O2,ab⟩;have di:=E.1.size;have bu:=ab.size;replace E:=And.intro (E.1.trans (Touch.of_below ab)) (E.2.below ab);obtain ⟨l2,a8⟩:∃ l2,addQ (ps,n,h,tl) f 45 x2=l2:=⟨_,rfl⟩;have ew:=kWc (x:=(ps,n,h,tl)) (f:=f) (t:=45) (show n < 100 by omega) fh.out.2 HL.out;rw [a8] at O2 ew;clear a8;have b2:Hid (kAf l2 (3 - j)):=yD (ew.mono bC9);generalize kBm (ps,n,h,tl) f x2=okA;obtain ⟨va,vc,az,_⟩:=kD.kAy O2.raw;obtain rfl:v2=.slice va l2.length vc:=(by simpa using az);clear az ew;have HN:=yD O2;refine H _ _ E ?_;clear H K ab O2;refine jF ?_;refine jW (v:=?_) rfl (λW hW=>?_) ?_;rotate_left;(· go_simp;try with_reducible rfl);refine jF ?_;obtain ⟨ev,RS,ad,aj,an,al⟩:=DX;have bb:Qc O R 2 (.slice a1 xe.length c1):=kE RS rfl;have av:O.frozen? ⟨R,2,none⟩=false:=Ac O (R) 2 _ _ RS;have bh:Qc O R 3 (.slice a2 x2.length c2):=kE RS rfl;obtain ⟨bg,bm,bi⟩:=FP;have c7:Qc O R 5 (.slice a4 rl.length c4):=kE RS rfl;have df:O.frozen? ⟨R,5,none⟩=false:=Ac O (R) 5 _ _ RS;have c9:Qc O R 6 (.slice a5 ml.length c5):=kE RS rfl;obtain ⟨da,dc,dh⟩:=FW;refine zk trivial ?_;iterate 3
            refine ku ?_
           refine kw rfl (λK H=>?_);go_simp;refine H _ _ trivial ?_;clear H K;refine jF ?_;refine kS ?_;replace Z:=Z.jh E.1 gZ;replace BT:=E.1.kC BT bC9;replace J:=yD (J.out.touch E.1 nH);replace L:=yD (L.out.touch E.1 nH);replace hc:=E.2;clear E BN;have BN:=RS;clear RS ad aj an al bb av bh bg bm bi c7 df c9 da dc dh;clear HI L BT;generalize F:World.setCell O _ _=dk;have hT:Touch (λk=>k=R) O dk:=vO;replace BN:Qr dk R #[Qs a0 x0 c0,Qn kc,Qs a1 xe c1,Qs va l2 vc,.slice a3 0 c3,Qs a4 rl c4,Qs a5 ml c5,Qn 0] 33:=by rw [<- F];exact kK (BN) 3
           have el:=hT.size;clear F;replace J:=yD (J.out.touch hT nH);replace HN:=yD (HN.out.touch hT nH);obtain ⟨hc,Z⟩:=A9;clear hT;replace J:=yD ((kIy J.out HN.out gW).wide (T:=(λk=>tb < k/\k < dk.heap.size/\k≠R)) bJ);go_wp2;go_roundw;case rel=>exact ⟨j,a0,c0,a1,c1,va,vc,a3,c3,a4,c4,a5,c5,l2,by go_num,by omega,b2,BN,J,by omega,hc,Z⟩
           case measure=>simp [intOf]
     | succ j =>
       have ce:(0:Int) < (j:Int) + 1:=bC9;obtain ⟨ay,bn,bq,cm⟩:=kKm BT;go_wp2_with fail;refine (kMr hc (ct:=[.slice a7 t.1.length b8,.slice bx t.2.1.length cw,.slice be t.2.2.1.length cz,.slice cl t.2.2.2.length co]) (tp:=t) L.out sU).mono ?_;rintro e dr ⟨ds,x,rfl,hX,b0,G,D⟩;clear ay bn bq cm;have e6:=D.size;obtain ⟨Z,BN,BT,J,L⟩:=xW;clear hc D;have hc:=G;clear G;obtain ⟨ch,cg,b3,b9,cd,ca,rfl⟩:=zZ hX.raw;have HX:=yD hX;clear hX;go_upto_region 11 with fail;generalize F:World.alloc dr _=ea;have hb:Qb dr ea:=rM;have BX:Qr ea dr.heap.size #[Qs ch x.1 cg,Qs b3 x.2.1 b9,Qs cd x.2.2.1 ca,Qn x.2.2.2.1,Qn x.2.2.2.2] 68:=vB;have f6:dr.heap.size + 1<=ea.heap.size:=bB1;clear F;have fa:=hb.size;replace Z:=Z.trans (Touch.of_below hb);replace BN:=kC BN hb;replace BT:=kC BT hb;replace J:=yD (J.out.below hb);replace L:=yD (L.out.below hb);replace HX:=yD (HX.out.below hb);replace hc:=hc.below hb;clear hb;obtain ⟨ao,ax,ai,o,U,aw,au,am⟩:=jR BN;obtain ⟨X,aa,af,ac,ae⟩:=yt BX;go_wp2_with fail;refine (kJk (cx:=[.int .i64 kc,.slice a1 xe.length c1]) (x:=(kc,xe)) (kUz J.out.rd) (cy:=[.slice ch x.1.length cg,.slice b3 x.2.1.length b9,.slice cd x.2.2.1.length ca,.int .i64 x.2.2.2.1,.int .i64 x.2.2.2.2]) HX.out.rd (t:=40) bC9 (by have:=HL.out;show xe.length<=_;omega)).mono ?_;rintro e ej ⟨cs,rfl,b5,hb⟩;clear ao ax ai o U aw au am X aa af ac ae;have es:=hb.size;replace Z:=Z.trans (Touch.of_below hb);replace BN:=kC BN hb;replace BT:=kC BT hb;replace BX:=kC BX hb;replace J:=yD (J.out.below hb);replace L:=yD (L.out.below hb);replace HX:=yD (HX.out.below hb);replace hc:=hc.below hb;clear hb;obtain ⟨l2,a8,ec⟩:=kPj x 40 kc xe;rw [a8] at b5;obtain ⟨na,np,rfl⟩:=kIs b5.raw;clear a8;have HN:=yD b5;have ge:=yD ec;clear b5 HX BX L ec;obtain ⟨ao,ax,ai,o,U,aw,au,am⟩:=jR BN;obtain ⟨a6,bp,bz,ba,bo,bc,br,bj⟩:=kAw BN;go_upto_region 9 with fail;generalize F:World.setCell (World.setCell ej _ _) _ _=d8;have hT:Touch (λk=>k=R) ej d8:=vU;replace BN:Qr d8 R #[Qs a0 x0 c0,Qn kc,Qs na l2 np,.slice a2 0 c2,.slice a3 0 c3,.slice a4 0 c4,.slice a5 0 c5,Qn 0] 33:=by rw [<- F];exact kK (kK (BN) 1) 2
       have fc:=hT.size;clear F;clear ao ax ai o U aw au am a6 bp bz ba bo bc br bj;replace BT:=hT.kC BT bC9;replace J:=yD (J.out.touch hT nH);replace HN:=yD (HN.out.touch hT nH);obtain ⟨hc,Z⟩:=A9;clear hT;replace J:=yD ((kHk J.out HN.out gW).wide (T:=(λk=>tb < k/\k < d8.heap.size/\k≠R)) bJ);go_wp2;go_roundw;case rel=>exact ⟨j,a0,c0,na,np,a2,c2,a3,c3,a4,c4,a5,c5,l2,by go_num,by omega,yD (by have:=HL.out;have:=ge.out;omega),BN,J,by omega,hc,Z⟩
       case measure=>simp [intOf]
 | succ j =>
   have ce:(0:Int) < (j:Int) + 1:=bC9;go_upto_region 6 with fail;refine kHq (λW=>Touch (λk=>k=p) wr W/\yU w0 W p) (λ_=>True) [] [(0,true),(1,true),(2,true),(3,false),(4,false),(5,true)] [(6,true),(7,true),(8,false)] bC3 bC3 pK (⟨Touch.of_below bR.drew,hc.below bR.drew⟩) ?_;intro wS E;simp only [kz,zF,Ad,Ae,List.map_cons,List.map_nil];refine pre_nil ?_;refine jW (v:=?_) rfl (λW hW=>?_) ?_;rotate_left;(· have c6:=kE (hW.1.kC BN bC9) (j:=0) (v:=.slice a0 x0.length c0) rfl;have dj:=kE (hW.1.kC BN bC9) (j:=1) (v:=.int .i64 kc) rfl;have du:=kE (hW.1.kC BN bC9) (j:=2) (v:=.slice a1 0 c1) rfl;have dq:=kE (hW.1.kC BN bC9) (j:=3) (v:=.slice a2 0 c2) rfl;have dn:=kE (hW.1.kC BN bC9) (j:=4) (v:=.slice a3 0 c3) rfl;have eb:=kE (hW.1.kC BN bC9) (j:=5) (v:=.slice a4 0 c4) rfl;have d3:=kE (hW.1.kC BN bC9) (j:=6) (v:=.slice a5 0 c5) rfl;have eg:=kE (hW.1.kC BN bC9) (j:=7) (v:=.int .i64 0) rfl;have gb:=kE (hW.1.kC BT bC9) (j:=0) (v:=.slice a7 t.1.length b8) rfl;have ga:=kE (hW.1.kC BT bC9) (j:=1) (v:=.slice bx t.2.1.length cw) rfl;have fk:=kE (hW.1.kC BT bC9) (j:=2) (v:=.slice be t.2.2.1.length cz) rfl;have f1:=kE (hW.1.kC BT bC9) (j:=3) (v:=.slice cl t.2.2.2.length co) rfl;clear hW;go_simp;try with_reducible rfl);refine jF ?_;refine jW (v:=?_) rfl (λW hW=>?_) ?_;rotate_left;(· go_simp;try with_reducible rfl);refine jF ?_;refine jW (v:=?_) rfl (λW hW=>?_) ?_;rotate_left;(· have c6:=kE (hW.1.kC BN bC9) (j:=0) (v:=.slice a0 x0.length c0) rfl;have dj:=kE (hW.1.kC BN bC9) (j:=1) (v:=.int .i64 kc) rfl;have du:=kE (hW.1.kC BN bC9) (j:=2) (v:=.slice a1 0 c1) rfl;have dq:=kE (hW.1.kC BN bC9) (j:=3) (v:=.slice a2 0 c2) rfl;have dn:=kE (hW.1.kC BN bC9) (j:=4) (v:=.slice a3 0 c3) rfl;have eb:=kE (hW.1.kC BN bC9) (j:=5) (v:=.slice a4 0 c4) rfl;have d3:=kE (hW.1.kC BN bC9) (j:=6) (v:=.slice a5 0 c5) rfl;have eg:=kE (hW.1.kC BN bC9) (j:=7) (v:=.int .i64 0) rfl;have gb:=kE (hW.1.kC BT bC9) (j:=0) (v:=.slice a7 t.1.length b8) rfl;have ga:=kE (hW.1.kC BT bC9) (j:=1) (v:=.slice bx t.2.1.length cw) rfl;have fk:=kE (hW.1.kC BT bC9) (j:=2) (v:=.slice be t.2.2.1.length cz) rfl;have f1:=kE (hW.1.kC BT bC9) (j:=3) (v:=.slice cl t.2.2.2.length co) rfl;clear hW;go_simp;try with_reducible rfl);refine jF ?_;refine yx rfl (λK H=>?_);go_simp;refine (kMr E.2 (ct:=[.slice a7 t.1.length b8,.slice bx t.2.1.length cw,.slice be t.2.2.1.length cz,.slice cl t.2.2.2.length co]) (tp:=t) (L.out.touch E.1 nH) sU).mono ?_;rintro e wS1 ⟨ds,x,rfl,hX,b0,ar,ap⟩;obtain ⟨ch,cg,b3,b9,cd,ca,rfl⟩:=zZ hX.raw;have HX:=yD hX;have er:=E.1.size;have gd:=ap.size;replace E:=And.intro (E.1.trans ap) ar;refine H _ _ E ?_;clear H K ar ap hX;refine jF ?_;refine yx rfl (λK H=>?_);go_simp;refine (kUh (cx:=[.slice a0 x0.length c0,.int .i64 kc,.slice a1 0 c1,.slice a2 0 c2,.slice a3 0 c3,.slice a4 0 c4,.slice a5 0 c5,.int .i64 0]) (x:=(x0,(kc,[]),[],[],[],[],0)) (J.out.touch E.1 nH).rd (ct:=[.slice ch x.1.length cg,.slice b3 x.2.1.length b9,.slice cd x.2.2.1.length ca,.int .i64 x.2.2.2.1,.int .i64 x.2.2.2.2]) HX.out.rd).mono ?_;rintro e O ⟨cs,rfl,hO,ab⟩;have di:=E.1.size;have bu:=ab.size;replace E:=And.intro (E.1.trans (Touch.of_below ab)) (E.2.below ab);obtain ⟨y0,b7,gf⟩:=addL_len x x0 ((kc,[]),[],[],[],[],0);rw [b7] at hO;obtain ⟨ee,ck,fq,fe,f2,fg,fz,f3,f4,fl,fw,fm,rfl⟩:=kDt hO.raw;simp only [List.length_nil] at hO ⊢;clear b7;generalize kNq x _=okA;have HN:=yD hO;refine H _ _ E ?_;clear H K ab hO;refine jF ?_;refine jW (v:=?_) rfl (λW hW=>?_) ?_;rotate_left;(· go_simp;try with_reducible rfl);refine jF ?_;obtain ⟨ev,RS,ad,aj,an,al⟩:=DX;have bb:Qc O R 2 (.slice a1 0 c1):=kE RS rfl;have av:O.frozen? ⟨R,2,none⟩=false:=Ac O (R) 2 _ _ RS;have bh:Qc O R 3 (.slice a2 0 c2):=kE RS rfl;obtain ⟨bg,bm,bi⟩:=FP;have c7:Qc O R 5 (.slice a4 0 c4):=kE RS rfl;have df:O.frozen? ⟨R,5,none⟩=false:=Ac O (R) 5 _ _ RS;have c9:Qc O R 6 (.slice a5 0 c5):=kE RS rfl;obtain ⟨da,dc,dh⟩:=FW;refine zk trivial ?_;refine ku ?_;refine ku ?_;refine kw rfl (λK H=>?_);go_simp;refine H _ _ trivial ?_;clear H K;refine jF ?_;refine kS ?_;replace Z:=Z.jh E.1 gZ;replace BT:=E.1.kC BT bC9;replace J:=yD (J.out.touch E.1 nH);replace L:=yD (L.out.touch E.1 nH);replace hc:=E.2;clear E BN;have BN:=RS;clear RS ad aj an al bb av bh bg bm bi c7 df c9 da dc dh;clear J HX L BT;generalize F:World.setCell (World.setCell (World.setCell (World.setCell (World.setCell (World.setCell (World.setCell (World.setCell O _ _) _ _) _ _) _ _) _ _) _ _) _ _) _ _=b6;have hT:Touch (λk=>k=R) O b6:=wB;replace BN:Qr b6 R #[Qs ee y0 ck,Qn kc,.slice fq 0 fe,.slice f2 0 fg,.slice fz 0 f3,.slice f4 0 fl,.slice fw 0 fm,Qn 0] 33:=by rw [<- F];exact kK (kK (kK (kK (kK (kK (kK (kK (BN) 0) 1) 2) 3) 4) 5) 6) 7
   have cv:=hT.size;clear F;replace HN:=yD (HN.out.touch hT nH);obtain ⟨hc,Z⟩:=A9;clear hT;go_wp2;go_roundw;case rel=>exact ⟨j,ee,ck,fq,fe,f2,fg,fz,f3,f4,fl,fw,fm,y0,by go_num,by omega,yD vN,BN,yD (HN.out.wide fG),by omega,hc,Z⟩
   case measure=>simp [intOf]
end Go.Proofs.YtonmjkmaadgceabGreat

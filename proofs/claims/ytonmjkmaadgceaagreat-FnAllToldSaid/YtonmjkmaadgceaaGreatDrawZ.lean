/-
  A node of a small world, drawn.
-/
import Derived.Test.YtonmjkmaadgceaaGreatDrawH
import Derived.Test.YtonmjkmaadgceaaGreatDrawC
import Derived.Test.YtonmjkmaadgceaaGreatSoft5
set_option linter.unusedVariables false
set_option linter.unusedSimpArgs false
set_option linter.unnecessarySimpa false
set_option maxRecDepth 100000
set_option maxHeartbeats 16000000
namespace Go.Proofs.YtonmjkmaadgceaaGreat
open Go.RowKit _root_.Go.Proofs.Tryz
theorem kDu {w:World} {cs:List Value} {x:yI} (h:yA.raw w cs x):∃ a0 c0 a1 c1 a2 c2 a3 c3 a4 c4 a5 c5,cs=[.slice a0 x.1.length c0,.int .i64 x.2.1.1,.slice a1 x.2.1.2.length c1,.slice a2 x.2.2.1.length c2,.slice a3 x.2.2.2.1.length c3,.slice a4 x.2.2.2.2.1.length c4,.slice a5 x.2.2.2.2.2.1.length c5,.int .i64 x.2.2.2.2.2.2]:=by
 obtain ⟨v0,v2,v3,v4,v5,v6,rfl,bw,ba,b3,b5,W,cz,cf,F,I⟩:=zf h
 obtain ⟨a0,c0,rfl,_⟩:=kE.sl bw
 obtain ⟨a1,c1,rfl,_⟩:=kE.sl b5
 obtain ⟨a2,c2,rfl,_⟩:=kE.sl W
 obtain ⟨a3,c3,rfl,_⟩:=kE.sl cz
 obtain ⟨a4,c4,rfl,_⟩:=kE.sl cf
 obtain ⟨a5,c5,rfl,_⟩:=kE.sl F
 exact ⟨_,_,_,_,_,_,_,_,_,_,_,_,rfl⟩
theorem addL_len (t:jG) (x0:List jG) (r:kg × List kI × List jI × List jL × List kT × Int):∃ y0,addL t (x0,r)=(y0,r)∧y0.length≤x0.length + 1:=by
 unfold addL
 split
 · exact ⟨x0++[t],rfl,by simp⟩
 exact ⟨x0,rfl,by omega⟩
theorem kSw {w:World} {c0 c1 c2 c3 c4 c5 N D v:Value} {x0:List jG} {x1:kg} {x2:List kI} {x3:List jI} {x4 y:List jL} {x5:List kT} {x6:Int} {S T:Nat→Prop}
    (h:yA.own w [c0,c1,c2,c3,c4,c5,N,D] (x0,x1,x2,x3,x4,x5,x6) S) (hv:(kE.slice 102 jT).own w [v] y T) (hd:∀ k,S k→T k→False):yA.own w [c0,c1,c2,c3,c4,v,N,D] (x0,x1,x2,x3,y,x5,x6) (fun k=>S k∨T k) :=
  kE.set_right (c:=[c0]) h rfl (fun B hB hq=>kE.set_right (c:=[c1,c2]) hq rfl (fun B2 G F=>kE.set_right (c:=[c3]) F rfl (fun B3 O E=>kE.set_right (c:=[c4]) E rfl (fun B4 X I=>kE.set_left (c:=[c5]) (c':=[v]) I rfl hv (fun k a b=>hd k (hB k (G k (O k (X k a)))) b)) (fun k a b=>hd k (hB k (G k (O k a))) b)) (fun k a b=>hd k (hB k (G k a)) b)) (fun k a b=>hd k (hB k a) b)) hd
theorem kSx {w:World} {c0 c1 c2 c3 c4 c5 N D:Value} {x0:List jG} {x1:kg} {x2:List kI} {x3:List jI} {x4:List jL} {x5:List kT} {x6:Int} (h:yA.rd w [c0,c1,c2,c3,c4,c5,N,D] (x0,x1,x2,x3,x4,x5,x6)):(kE.slice 71 kJ).rd w [c3] x2:=⟨kVl h.1,h.2.2.2.1⟩
def tameN (x:yI):Prop:=x.1.length≤9∧x.2.1.2.length≤9∧kAa x.2.2.1 14∧kFc x.2.2.2.1∧x.2.2.2.2.1.length≤48∧x.2.2.2.2.2.1.length≤48∧-1≤x.2.2.2.2.2.2∧x.2.2.2.2.2.2≤0
def DrawnN (w0 w:World) (p:Nat) (e:Ending) (w':World):Prop:=∃ cs x ct t tb,e=.returned (.tuple #[.agg cs.toArray,.agg ct.toArray])∧yA.own w' cs x (jR tb w'.heap.size)∧tameN x∧je.jY w' ct t (jR w.heap.size tb)∧lenT t∧(w.heap.size≤tb∧tb≤w'.heap.size)∧yK w0 w' p∧Touch (fun k=>k=p) w w'
theorem kUb {w0 w:World} {p:Nat} (hc:yK w0 w p) :
    Calls prog 76 #[.pointer (some ⟨p,0,none⟩)] w fun e w'=>DrawnN w0 w p e w':=by
 go_enter func76,ntmps76
 obtain ⟨b7,cj⟩:=hc.lt
 go_upto_region 1 with fail
 generalize F:World.alloc (World.alloc w _) _=w1
 obtain ⟨hb,RN,RT,bn⟩:=uP
 clear F
 obtain ⟨hc,H⟩:=CQ
 clear hb
 go_wp2_with fail
 refine (kSh hc).mono ?_
 rintro e V ⟨ds,t,rfl,Y,hlt,G,D⟩
 have bo:=D.size
 replace RN:=D.kD RN bB9
 replace RT:=D.kD RT bB9
 replace H:=H.trans D
 clear hc D
 have hc:=G
 clear G
 obtain ⟨av,br,bd,bw,aw,bz,ag,bt,rfl⟩:=kDj Y.rd.1
 have U:=yD (Y)
 clear Y
 go_upto_region 2 with fail
 generalize F:World.alloc V _=w3
 have ap:Below V.heap.size V w3:=rX
 have BT:w3.heap[V.heap.size]?=some (.cells #[.slice av t.1.length br,.slice bd t.2.1.length bw,.slice aw t.2.2.1.length bz,.slice ag t.2.2.2.length bt] 38 (0,0)):=tX
 have bp:V.heap.size + 1≤w3.heap.size:=bA3
 clear F
 replace RN:=kD RN ap
 replace RT:=kD RT ap
 replace U:=yD (U.out.below ap)
 replace hc:=hc.below ap
 replace H:=H.trans (Touch.of_below ap)
 clear ap
 obtain ⟨tb,ek⟩:∃ b_,b_=V.heap.size:=⟨_,rfl⟩
 rw [← ek] at BT ⊢
 have e9:=Nat.le_of_eq ek
 have fb:=Nat.le_of_eq ek.symm
 clear ek
 go_wp2_with fail
 refine (kV (n:=4) hc bB8).mono ?_
 rintro e w4 ⟨k4,gg,fa,f4,rfl,G,D⟩
 have b9:=D.size
 replace RN:=D.kD RN bB9
 replace RT:=D.kD RT bB9
 replace BT:=D.kD BT bB9
 replace U:=yD (U.out.touch D qB)
 replace H:=H.trans D
 clear hc D
 have hc:=G
 clear G
 replace fa:=fa bB8
 clear f4
 go_wp2_with fail
 refine (kUh (c:=k4) bB9).mono ?_
 rintro e w5 ⟨cs,rfl,hO,hb⟩
 have cd:=hb.size
 replace RN:=kD RN hb
 replace RT:=kD RT hb
 replace BT:=kD BT hb
 replace U:=yD (U.out.below hb)
 obtain ⟨hc,H⟩:=oP
 clear hb
 obtain ⟨a0,c0,a1,c1,a2,c2,a3,c3,a4,c4,a5,c5,rfl⟩:=kDu hO.raw
 simp only [newN,newC,List.length_nil] at hO ⊢
 have f2:=kOd (c:=k4) bB9
 generalize capC k4=kc at *
 have L:=yD (hO)
 clear hO
 go_upto_region 3 with fail
 generalize F:World.alloc w5 _=w6
 have ba:Below w5.heap.size w5 w6:=rX
 have BN:w6.heap[w5.heap.size]?=some (.cells #[.slice a0 0 c0,.int .i64 kc,.slice a1 0 c1,.slice a2 0 c2,.slice a3 0 c3,.slice a4 0 c4,.slice a5 0 c5,.int .i64 0] 33 (0,0)):=tX
 have c8:w5.heap.size + 1≤w6.heap.size:=bA3
 clear F
 replace RN:=kD RN ba
 replace RT:=kD RT ba
 replace BT:=kD BT ba
 replace U:=yD (U.out.below ba)
 obtain ⟨L,hc,H⟩:=DD
 clear ba
 obtain ⟨nb,d2⟩:∃ b_,b_=w5.heap.size:=⟨_,rfl⟩
 rw [← d2] at BN ⊢
 have f0:=Nat.le_of_eq d2
 have fy:=Nat.le_of_eq d2.symm
 clear d2
 go_wp2_with fail
 refine (kV (n:=3) hc bB8).mono ?_
 rintro e w7 ⟨m,bq,ao,ck,rfl,G,D⟩
 have dg:=D.size
 replace RN:=D.kD RN bB9
 replace RT:=D.kD RT bB9
 replace BT:=D.kD BT bB9
 replace BN:=D.kD BN bB9
 replace U:=yD (U.out.touch D qB)
 obtain ⟨L,H⟩:=oZ
 clear hc D
 have hc:=G
 clear G
 replace ao:=ao bB8
 clear ck
 obtain ⟨m,rfl⟩:=Int.eq_ofNat_of_zero_le bq
 have fw:=U
 have fg:=BT
 skip
 clear U BT
 go_wp2
 go_loopw [6] (fun i wr=>∃ (j:Nat) (a0:Option Addr) (c0:Nat) (a1:Option Addr) (c1:Nat) (a2:Option Addr) (c2:Nat) (a3:Option Addr) (c3:Nat) (a4:Option Addr) (c4:Nat) (a5:Option Addr) (c5:Nat) (x0:List jG),i=.int .i64 j∧j≤3∧Hid (x0.length + j≤2)∧wr.heap[nb]?=some (.cells #[.slice a0 x0.length c0,.int .i64 kc,.slice a1 0 c1,.slice a2 0 c2,.slice a3 0 c3,.slice a4 0 c4,.slice a5 0 c5,.int .i64 0] 33 (0,0))∧Hid (yA.own wr [.slice a0 x0.length c0,.int .i64 kc,.slice a1 0 c1,.slice a2 0 c2,.slice a3 0 c3,.slice a4 0 c4,.slice a5 0 c5,.int .i64 0] (x0,(kc,[]),[],[],[],[],0) (fun k=>tb < k∧k < wr.heap.size∧k≠nb))∧w7.heap.size≤wr.heap.size∧yK w0 wr p∧Touch (fun k=>k=p∨k=nb) w7 wr) (fun i _=>(intOf i).toNat)
 case atStart=>exact ⟨m,a0,c0,a1,c1,a2,c2,a3,c3,a4,c4,a5,c5,[],rfl,by omega,yD bB5,BN,yD (L.out.wide fV),Nat.le_refl _,hc,Touch.of_below bR⟩
 clear BN L hc
 obtain ⟨j,a0,c0,a1,c1,a2,c2,a3,c3,a4,c4,a5,c5,x0,rfl,I,HL,BN,L,dh,hc,X⟩:=hrel
 have fm:=X.size
 have BT:=X.kD fg bB9
 have U:=yD (fw.out.touch X nO)
 cases j with
 | zero =>
   have em:¬ (0:Int) < (0:Nat):=bB9
   go_wp2_with fail
   refine (kV (n:=4) hc bB8).mono ?_
   rintro e cf ⟨m2,fz,e8,f5,rfl,G,D⟩
   have de:=D.size
   obtain ⟨X,BN,BT,L,U⟩:=rG
   clear hc D
   have hc:=G
   clear G
   replace e8:=e8 bB8
   clear f5
   obtain ⟨m2,rfl⟩:=Int.eq_ofNat_of_zero_le fz
   have gh:x0.length≤2:=vN
   go_wp2
   go_loopw [7] (fun i wr=>∃ (j:Nat) (a0:Option Addr) (c0:Nat) (a1:Option Addr) (c1:Nat) (a2:Option Addr) (c2:Nat) (a3:Option Addr) (c3:Nat) (a4:Option Addr) (c4:Nat) (a5:Option Addr) (c5:Nat) (xe:List kr),i=.int .i64 j∧j≤3∧Hid (xe.length + j≤3)∧wr.heap[nb]?=some (.cells #[.slice a0 x0.length c0,.int .i64 kc,.slice a1 xe.length c1,.slice a2 0 c2,.slice a3 0 c3,.slice a4 0 c4,.slice a5 0 c5,.int .i64 0] 33 (0,0))∧Hid (yA.own wr [.slice a0 x0.length c0,.int .i64 kc,.slice a1 xe.length c1,.slice a2 0 c2,.slice a3 0 c3,.slice a4 0 c4,.slice a5 0 c5,.int .i64 0] (x0,(kc,xe),[],[],[],[],0) (fun k=>tb < k∧k < wr.heap.size∧k≠nb))∧w7.heap.size≤wr.heap.size∧yK w0 wr p∧Touch (fun k=>k=p∨k=nb) w7 wr) (fun i _=>(intOf i).toNat)
   case atStart=>exact ⟨m2,a0,c0,a1,c1,a2,c2,a3,c3,a4,c4,a5,c5,[],rfl,by omega,yD bB5,BN,yD (L.out.wide pQ),by omega,hc,X⟩
   case round =>
     clear BN L hc X BT U HL
     obtain ⟨j,a0,c0,a1,c1,a2,c2,a3,c3,a4,c4,a5,c5,xe,rfl,I,HL,BN,L,dh,hc,X⟩:=hrel
     have fm:=X.size
     have BT:=X.kD fg bB9
     have U:=yD (fw.out.touch X nO)
     cases j with
     | zero =>
       have em:¬ (0:Int) < (0:Nat):=bB9
       have gf:xe.length≤3:=vN
       clear HL
       go_wp2_with fail
       refine (kLp hc).mono ?_
       rintro e d9 ⟨ra,rc,rl,rfl,hR,f6,G,D⟩
       have fn:=D.size
       obtain ⟨X,BN,BT,L,U⟩:=rG
       clear hc D
       have hc:=G
       clear G
       have HR:=yD hR
       clear hR
       have ev:=f6.1
       clear f6
       obtain ⟨bb,am,ae,R,Z,aj,ai,ah⟩:=zt BN
       obtain ⟨N,b2,b4,ax,b0,bk,b3,bx⟩:=kGn BN
       go_upto_region 13 with fail
       generalize F:World.setCell d9 _ _=ei
       have Y:Touch (fun k=>k=nb) d9 ei:=sU
       replace BN:ei.heap[nb]?=some (.cells #[.slice a0 x0.length c0,.int .i64 kc,.slice a1 xe.length c1,.slice a2 0 c2,.slice a3 0 c3,.slice ra rl.length rc,.slice a5 0 c5,.int .i64 0] 33 (0,0)):=by rw [← F];exact kH (BN) 5
       have fr:=Y.size
       clear F
       clear bb am ae R Z aj ai ah N b2 b4 ax b0 bk b3 bx
       obtain ⟨BT,L,U⟩:=DV
       replace HR:=yD (HR.out.touch Y nO)
       obtain ⟨hc,X⟩:=uU
       clear Y
       replace L:=yD ((kSw L.out HR.out mF).wide (T:=(fun k=>tb < k∧k < ei.heap.size∧k≠nb)) bN)
       clear HR
       go_wp2_with fail
       refine (kLn hc).mono ?_
       rintro e eo ⟨ma,mc,ml,rfl,hM,ee,G,D⟩
       have fe:=D.size
       obtain ⟨X,BN,BT,L,U⟩:=rG
       clear hc D
       have hc:=G
       clear G
       have HM:=yD hM
       clear hM
       obtain ⟨bb,am,ae,R,Z,aj,ai,ah⟩:=zt BN
       obtain ⟨N,b2,b4,ax,b0,bk,b3,bx⟩:=kGn BN
       go_upto_region 14 with fail
       generalize F:World.setCell eo _ _=eh
       have Y:Touch (fun k=>k=nb) eo eh:=sU
       replace BN:eh.heap[nb]?=some (.cells #[.slice a0 x0.length c0,.int .i64 kc,.slice a1 xe.length c1,.slice a2 0 c2,.slice a3 0 c3,.slice ra rl.length rc,.slice ma ml.length mc,.int .i64 0] 33 (0,0)):=by rw [← F];exact kH (BN) 6
       have ft:=Y.size
       clear F
       clear bb am ae R Z aj ai ah N b2 b4 ax b0 bk b3 bx
       obtain ⟨BT,L,U⟩:=DV
       replace HM:=yD (HM.out.touch Y nO)
       obtain ⟨hc,X⟩:=uU
       clear Y
       replace L:=yD ((kIv L.out HM.out mF).wide (T:=(fun k=>tb < k∧k < eh.heap.size∧k≠nb)) bN)
       clear HM
       go_wp2_with fail
       refine (kV (n:=4) hc bB8).mono ?_
       rintro e gj ⟨m3,f3,fc,fx,rfl,G,D⟩
       have gb:=D.size
       obtain ⟨X,BN,BT,L,U⟩:=rG
       clear hc D
       have hc:=G
       clear G
       replace fc:=fc bB8
       clear fx
       obtain ⟨m3,rfl⟩:=Int.eq_ofNat_of_zero_le f3
       go_wp2
       go_loopw [9] (fun i wr=>∃ (j:Nat) (a0:Option Addr) (c0:Nat) (a1:Option Addr) (c1:Nat) (a2:Option Addr) (c2:Nat) (a3:Option Addr) (c3:Nat) (a4:Option Addr) (c4:Nat) (a5:Option Addr) (c5:Nat) (x2:List kI),i=.int .i64 j∧j≤3∧Hid (kAa x2 (3 - j))∧wr.heap[nb]?=some (.cells #[.slice a0 x0.length c0,.int .i64 kc,.slice a1 xe.length c1,.slice a2 x2.length c2,.slice a3 0 c3,.slice a4 rl.length c4,.slice a5 ml.length c5,.int .i64 0] 33 (0,0))∧Hid (yA.own wr [.slice a0 x0.length c0,.int .i64 kc,.slice a1 xe.length c1,.slice a2 x2.length c2,.slice a3 0 c3,.slice a4 rl.length c4,.slice a5 ml.length c5,.int .i64 0] (x0,(kc,xe),x2,[],rl,ml,0) (fun k=>tb < k∧k < wr.heap.size∧k≠nb))∧w7.heap.size≤wr.heap.size∧yK w0 wr p∧Touch (fun k=>k=p∨k=nb) w7 wr) (fun i _=>(intOf i).toNat)
       case atStart=>exact ⟨m3,a0,c0,a1,c1,a2,c2,a3,c3,ra,rc,ma,mc,[],rfl,by omega,yD ⟨by simp,fun y hy=>by simp at hy⟩,BN,yD (L.out.wide pQ),by omega,hc,X⟩
       case round =>
         clear BN L hc X BT U
         obtain ⟨j,a0,c0,a1,c1,a2,c2,a3,c3,a4,c4,a5,c5,x2,rfl,I,HL,BN,L,dh,hc,X⟩:=hrel
         have fm:=X.size
         have BT:=X.kD fg bB9
         have U:=yD (fw.out.touch X nO)
         cases j with
         | zero =>
           have em:¬ (0:Int) < (0:Nat):=bB9
           go_wp2_with fail
           refine (kUe hc).mono ?_
           rintro e d3 ⟨sa,sn,sc,sl,rfl,b1,f1,hS,G,D⟩
           have e1:=D.size
           obtain ⟨X,BN,BT,L,U⟩:=rG
           clear hc D
           have hc:=G
           clear G
           subst b1
           have eu:=yD hS
           have f9:=yD f1
           clear hS f1
           obtain ⟨bb,am,ae,R,Z,aj,ai,ah⟩:=zt BN
           obtain ⟨N,b2,b4,ax,b0,bk,b3,bx⟩:=kGn BN
           go_upto_region 19 with fail
           generalize F:World.setCell d3 _ _=dy
           have Y:Touch (fun k=>k=nb) d3 dy:=sU
           replace BN:dy.heap[nb]?=some (.cells #[.slice a0 x0.length c0,.int .i64 kc,.slice a1 xe.length c1,.slice a2 x2.length c2,.slice sa sl.length sc,.slice a4 rl.length c4,.slice a5 ml.length c5,.int .i64 0] 33 (0,0)):=by rw [← F];exact kH (BN) 4
           have f8:=Y.size
           clear F
           clear bb am ae R Z aj ai ah N b2 b4 ax b0 bk b3 bx
           obtain ⟨BT,L,U⟩:=DV
           replace eu:=yD (eu.out.touch Y nO)
           obtain ⟨hc,X⟩:=uU
           clear Y
           replace L:=yD ((kIu L.out eu.out mF).wide (T:=(fun k=>tb < k∧k < dy.heap.size∧k≠nb)) bN)
           clear eu
           replace RN:=X.kD RN bB9
           replace RT:=X.kD RT bB9
           replace H:=H.jZ X wG
           have FX:=yD (fun (W:World) (hW:Touch (fun k=>k=w.heap.size∨k=w.heap.size + 1) dy W)=>And.intro (kF (hW.kD BN bB9) (j:=0) (v:=.slice a0 x0.length c0) rfl) (And.intro (kF (hW.kD BN bB9) (j:=1) (v:=.int .i64 kc) rfl) (And.intro (kF (hW.kD BN bB9) (j:=2) (v:=.slice a1 xe.length c1) rfl) (And.intro (kF (hW.kD BN bB9) (j:=3) (v:=.slice a2 x2.length c2) rfl) (And.intro (kF (hW.kD BN bB9) (j:=4) (v:=.slice sa sl.length sc) rfl) (And.intro (kF (hW.kD BN bB9) (j:=5) (v:=.slice a4 rl.length c4) rfl) (And.intro (kF (hW.kD BN bB9) (j:=6) (v:=.slice a5 ml.length c5) rfl) (And.intro (kF (hW.kD BN bB9) (j:=7) (v:=.int .i64 0) rfl) (And.intro (kF (hW.kD BT bB9) (j:=0) (v:=.slice av t.1.length br) rfl) (And.intro (kF (hW.kD BT bB9) (j:=1) (v:=.slice bd t.2.1.length bw) rfl) (And.intro (kF (hW.kD BT bB9) (j:=2) (v:=.slice aw t.2.2.1.length bz) rfl) (kF (hW.kD BT bB9) (j:=3) (v:=.slice ag t.2.2.2.length bt) rfl))))))))))))
           refine kAp (fun W=>Touch (fun k=>k=w.heap.size∨k=w.heap.size + 1) dy W) bB4 (Touch.of_below bR.drew) ?_
           intro t1 dj E
           have bD:Below dy.heap.size dy t1:=(by rw [dj];exact bR.drew)
           replace RN:=kD RN bD
           replace RT:=kD RT bD
           clear bD dj
           have ga:=E.size
           refine jB 0 ?_
           refine kX ?_
           refine jB 1 ?_
           refine kX ?_
           refine kY (k:=2) rfl bB4 rfl (fun K J=>?_)
           obtain ⟨ch,cv,cl,cz,dm,ea,ed,eg⟩:=zt RN
           obtain ⟨cw,co,cu,c7,dl,eb,ef,ec⟩:=kGn RN
           go_simp
           generalize F:World.setCell (World.setCell (World.setCell (World.setCell (World.setCell (World.setCell (World.setCell (World.setCell t1 _ _) _ _) _ _) _ _) _ _) _ _) _ _) _ _=t2
           have Y:Touch (fun k=>k=w.heap.size) t1 t2:=(by rw [← F];exact (((((((kC _ _ _ _).trans (kC _ _ _ _)).trans (kC _ _ _ _)).trans (kC _ _ _ _)).trans (kC _ _ _ _)).trans (kC _ _ _ _)).trans (kC _ _ _ _)).trans (kC _ _ _ _))
           replace RN:t2.heap[w.heap.size]?=some (.cells #[.slice a0 x0.length c0,.int .i64 kc,.slice a1 xe.length c1,.slice a2 x2.length c2,.slice sa sl.length sc,.slice a4 rl.length c4,.slice a5 ml.length c5,.int .i64 0] 33 (0,0)):=(by rw [← F];exact kH (kH (kH (kH (kH (kH (kH (kH (RN) 0) 1) 2) 3) 4) 5) 6) 7)
           have d7:=Y.size
           clear F ch cw cv co cl cu cz c7 dm dl ea eb ed ef eg ec
           replace RT:=Y.kD RT bB9
           replace E:=E.trans (Y.wide (fun k q=>.inl q))
           clear Y
           refine J _ _ E ?_
           clear J K
           refine kX ?_
           refine kY (k:=3) rfl bB4 rfl (fun K J=>?_)
           obtain ⟨ch,cv,cl,cz⟩:=kAh RT
           obtain ⟨cw,co,cu,c7⟩:=kNk RT
           go_simp
           generalize F:World.setCell (World.setCell (World.setCell (World.setCell t2 _ _) _ _) _ _) _ _=t3
           obtain ⟨Y,RT,d5⟩:=x9
           clear F ch cw cv co cl cu cz c7
           replace RN:=Y.kD RN bB9
           replace E:=E.trans (Y.wide (fun k q=>.inr q))
           clear Y
           refine J _ _ E ?_
           clear J K
           refine kX ?_
           refine yR bB4 ?_
           obtain ⟨fq,fu,fk,fo,ff,fp,fj,fl⟩:=zt RN
           obtain ⟨dp,du,dx,dv⟩:=kAh RT
           have zS:=E.size
           go_wp2
           refine bodyPost_ret (v:=.tuple #[.agg #[.slice a0 x0.length c0,.int .i64 kc,.slice a1 xe.length c1,.slice a2 x2.length c2,.slice sa sl.length sc,.slice a4 rl.length c4,.slice a5 ml.length c5,.int .i64 0],.agg #[.slice av t.1.length br,.slice bd t.2.1.length bw,.slice aw t.2.2.1.length bz,.slice ag t.2.2.2.length bt]]) (by simp [results,results76,go_sem,fq,fu,fk,fo,ff,fp,fj,fl,dp,du,dx,dv]) rfl ⟨[.slice a0 x0.length c0,.int .i64 kc,.slice a1 xe.length c1,.slice a2 x2.length c2,.slice sa sl.length sc,.slice a4 rl.length c4,.slice a5 ml.length c5,.int .i64 0],(x0,(kc,xe),x2,sl,rl,ml,0),[.slice av t.1.length br,.slice bd t.2.1.length bw,.slice aw t.2.2.1.length bz,.slice ag t.2.2.2.length bt],t,tb,rfl,?_,⟨by simp only;omega,by simp only;omega,HL.out.mono bB9,f9.out,by simp only;omega,by simp only;omega,by simp,by simp⟩,?_,hlt,⟨by omega,by omega⟩,hc.touch E bB9 wG,H.jZ E wG⟩
           · exact (L.out.touch E sK).wide (T:=jR tb _) (fun j I=>⟨by have:=I.1;omega,by have:=I.2.1;omega⟩)
           · exact (U.out.touch E sK).wide (T:=jR w.heap.size tb) mR
         | succ j =>
           have dn:(0:Int) < (j:Int) + 1:=bB9
           go_upto_region 17 with fail
           refine kHo (fun W=>Touch (fun k=>k=p) wr W∧yK w0 W p) (fun _=>True) [] [(0,true),(1,true),(2,true),(4,true),(3,false),(5,false),(6,false),(7,true)] [(8,true),(9,true),(10,true),(11,false)] bB4 bB4 qD (⟨Touch.of_below bR.drew,hc.below bR.drew⟩) ?_
           intro wS E
           simp only [jD,kAv,List.getElem?_cons_succ,List.getElem?_cons_zero,List.map_cons,List.map_nil]
           refine pre_nil ?_
           refine jX (v:=?_) rfl (fun W hW=>?_) ?_;rotate_left;(· go_simp;try with_reducible rfl)
           refine kX ?_
           refine jX (v:=?_) rfl (fun W hW=>?_) ?_;rotate_left;(· have cg:=kF (hW.1.kD BN bB9) (j:=0) (v:=.slice a0 x0.length c0) rfl;have c9:=kF (hW.1.kD BN bB9) (j:=1) (v:=.int .i64 kc) rfl;have di:=kF (hW.1.kD BN bB9) (j:=2) (v:=.slice a1 xe.length c1) rfl;have df:=kF (hW.1.kD BN bB9) (j:=3) (v:=.slice a2 x2.length c2) rfl;have dd:=kF (hW.1.kD BN bB9) (j:=4) (v:=.slice a3 0 c3) rfl;have dk:=kF (hW.1.kD BN bB9) (j:=5) (v:=.slice a4 rl.length c4) rfl;have dr:=kF (hW.1.kD BN bB9) (j:=6) (v:=.slice a5 ml.length c5) rfl;have dw:=kF (hW.1.kD BN bB9) (j:=7) (v:=.int .i64 0) rfl;clear hW;go_simp;try with_reducible rfl)
           iterate 2
            refine kX ?_
            refine jX (v:=?_) rfl (fun W hW=>?_) ?_;rotate_left;(· go_simp;try with_reducible rfl)
           refine kX ?_
           refine yu rfl (fun K J=>?_);go_simp;refine (kUa E.2).mono ?_;rintro e wS1 ⟨ia,ic,ps,n,h,tl,rfl,hr,dz,hn,hh,ht,be,a9⟩;have HI:=yD (int_own hr (n:=n) (h:=h) (t:=tl) bB9 bB9 bB9);have fv:=yD dz;have fd:=E.1.size;have gc:=a9.size;replace E:=And.intro (E.1.trans a9) be;refine J _ _ E ?_;clear J K be a9 hr
           refine kX ?_
           refine yu rfl (fun K J=>?_);go_simp;refine (kV (n:=4) E.2 bB8).mono ?_;rintro e bj ⟨f,el,dt,d4,rfl,be,a9⟩;replace dt:=dt bB8;clear d4;replace HI:=yD (HI.out.touch a9 nO);have gi:=a9.size;replace E:=And.intro (E.1.trans a9) be;refine J _ _ E ?_;clear J K be a9
           refine kX ?_
           refine yu rfl (fun K J=>?_);go_simp;refine (kFs (l:=x2) (kSx (L.out.touch E.1 nO).rd) (fun y hy=>Nat.le_trans (HL.out.2 y hy).1 bB9) (cx:=[.slice ia ps.length ic,.int .i64 n,.int .i64 h,.int .i64 tl]) (x:=(ps,n,h,tl)) HI.out.rd (f:=f) bB9 (t:=45) bB9).mono ?_;rintro e O ⟨v2,rfl,O2,af⟩;have d1:=E.1.size;have b8:=af.size;replace E:=And.intro (E.1.trans (Touch.of_below af)) (E.2.below af);obtain ⟨l2,bc⟩:∃ l2,addQ (ps,n,h,tl) f 45 x2=l2:=⟨_,rfl⟩;have fi:=kTs (x:=(ps,n,h,tl)) (f:=f) (t:=45) (show n < 100 by omega) fv.out.2 HL.out;rw [bc] at O2 fi;clear bc;have ce:Hid (kAa l2 (3 - j)):=yD (fi.mono bB9);generalize kBg (ps,n,h,tl) f x2=okA;obtain ⟨va,vc,b5,_⟩:=kE.kAx O2.raw;obtain rfl:v2=.slice va l2.length vc:=(by simpa using b5);clear b5 fi;have HN:=yD O2;refine J _ _ E ?_;clear J K af O2
           refine kX ?_
           refine jX (v:=?_) rfl (fun W hW=>?_) ?_;rotate_left;(· go_simp;try with_reducible rfl)
           refine kX ?_
           obtain ⟨fh,RS,ac,aq,au,ar⟩:=xY
           have bi:O.cell? ⟨nb,2,none⟩=some (.slice a1 xe.length c1):=kF RS rfl
           have bh:O.frozen? ⟨nb,2,none⟩=false:=frozen_of_row O (nb) 2 _ _ RS
           have bm:O.cell? ⟨nb,3,none⟩=some (.slice a2 x2.length c2):=kF RS rfl
           obtain ⟨bl,bv,bu⟩:=C8
           have en:O.cell? ⟨nb,5,none⟩=some (.slice a4 rl.length c4):=kF RS rfl
           have es:O.frozen? ⟨nb,5,none⟩=false:=frozen_of_row O (nb) 5 _ _ RS
           have ep:O.cell? ⟨nb,6,none⟩=some (.slice a5 ml.length c5):=kF RS rfl
           obtain ⟨eq,er,et⟩:=CF
           refine zl trivial ?_
           iterate 3
            refine kS ?_
           refine ko rfl (fun K J=>?_);go_simp;refine J _ _ trivial ?_;clear J K
           refine kX ?_
           refine kZ ?_
           replace X:=X.jZ E.1 mK
           replace BT:=E.1.kD BT bB9
           replace L:=yD (L.out.touch E.1 nO)
           replace U:=yD (U.out.touch E.1 nO)
           replace hc:=E.2
           clear E BN
           have BN:=RS
           clear RS ac aq au ar bi bh bm bl bv bu en es ep eq er et
           clear HI U BT
           generalize F:World.setCell O _ _=d3
           have Y:Touch (fun k=>k=nb) O d3:=sU
           replace BN:d3.heap[nb]?=some (.cells #[.slice a0 x0.length c0,.int .i64 kc,.slice a1 xe.length c1,.slice va l2.length vc,.slice a3 0 c3,.slice a4 rl.length c4,.slice a5 ml.length c5,.int .i64 0] 33 (0,0)):=by rw [← F];exact kH (BN) 3
           have e1:=Y.size
           clear F
           replace L:=yD (L.out.touch Y nO)
           replace HN:=yD (HN.out.touch Y nO)
           obtain ⟨hc,X⟩:=uU
           clear Y
           replace L:=yD ((kNo L.out HN.out mF).wide (T:=(fun k=>tb < k∧k < d3.heap.size∧k≠nb)) bN)
           go_wp2
           go_roundw
           case rel=>exact ⟨j,a0,c0,a1,c1,va,vc,a3,c3,a4,c4,a5,c5,l2,by go_num,by omega,ce,BN,L,by omega,hc,X⟩
           case measure=>simp [intOf]
     | succ j =>
       have dn:(0:Int) < (j:Int) + 1:=bB9
       obtain ⟨a8,az,a7,a6⟩:=kAh BT
       go_wp2_with fail
       refine (kHc hc (ct:=[.slice av t.1.length br,.slice bd t.2.1.length bw,.slice aw t.2.2.1.length bz,.slice ag t.2.2.2.length bt]) (tp:=t) U.out sZ).mono ?_
       rintro e d9 ⟨ds,x,rfl,hX,ci,G,D⟩
       clear a8 az a7 a6
       have fn:=D.size
       obtain ⟨X,BN,BT,L,U⟩:=rG
       clear hc D
       have hc:=G
       clear G
       obtain ⟨bg,dc,ay,c6,bf,db,rfl⟩:=yN hX.raw
       have HX:=yD hX
       clear hX
       go_upto_region 11 with fail
       generalize F:World.alloc d9 _=ei
       have hb:Below d9.heap.size d9 ei:=rX
       have BX:ei.heap[d9.heap.size]?=some (.cells #[.slice bg x.1.length dc,.slice ay x.2.1.length c6,.slice bf x.2.2.1.length db,.int .i64 x.2.2.2.1,.int .i64 x.2.2.2.2] 43 (0,0)):=tX
       have f7:d9.heap.size + 1≤ei.heap.size:=bA3
       clear F
       have fr:=hb.size
       replace X:=X.trans (Touch.of_below hb)
       replace BN:=kD BN hb
       replace BT:=kD BT hb
       obtain ⟨L,U⟩:=BV
       replace HX:=yD (HX.out.below hb)
       replace hc:=hc.below hb
       clear hb
       obtain ⟨bb,am,ae,R,Z,aj,ai,ah⟩:=zt BN
       obtain ⟨aa,ab,an,ak,al⟩:=jU BX
       go_wp2_with fail
       refine (kJf (cx:=[.int .i64 kc,.slice a1 xe.length c1]) (x:=(kc,xe)) (node_cache L.out.rd) (cy:=[.slice bg x.1.length dc,.slice ay x.2.1.length c6,.slice bf x.2.2.1.length db,.int .i64 x.2.2.2.1,.int .i64 x.2.2.2.2]) HX.out.rd (t:=40) bB9 (by have:=HL.out;show xe.length≤_;omega)).mono ?_
       rintro e eo ⟨cs,rfl,cc,hb⟩
       clear bb am ae R Z aj ai ah aa ab an ak al
       have fe:=hb.size
       replace X:=X.trans (Touch.of_below hb)
       replace BN:=kD BN hb
       replace BT:=kD BT hb
       replace BX:=kD BX hb
       obtain ⟨L,U⟩:=BV
       replace HX:=yD (HX.out.below hb)
       replace hc:=hc.below hb
       clear hb
       obtain ⟨l2,bc,ej⟩:=kOe x 40 kc xe
       rw [bc] at cc
       obtain ⟨na,np,rfl⟩:=kIo cc.raw
       clear bc
       have HN:=yD cc
       have gd:=yD ej
       clear cc HX BX U ej
       obtain ⟨bb,am,ae,R,Z,aj,ai,ah⟩:=zt BN
       obtain ⟨N,b2,b4,ax,b0,bk,b3,bx⟩:=kGn BN
       go_upto_region 9 with fail
       generalize F:World.setCell (World.setCell eo _ _) _ _=eh
       have Y:Touch (fun k=>k=nb) eo eh:=mO
       replace BN:eh.heap[nb]?=some (.cells #[.slice a0 x0.length c0,.int .i64 kc,.slice na l2.length np,.slice a2 0 c2,.slice a3 0 c3,.slice a4 0 c4,.slice a5 0 c5,.int .i64 0] 33 (0,0)):=by rw [← F];exact kH (kH (BN) 1) 2
       have ft:=Y.size
       clear F
       clear bb am ae R Z aj ai ah N b2 b4 ax b0 bk b3 bx
       replace BT:=Y.kD BT bB9
       replace L:=yD (L.out.touch Y nO)
       replace HN:=yD (HN.out.touch Y nO)
       obtain ⟨hc,X⟩:=uU
       clear Y
       replace L:=yD ((kLw L.out HN.out mF).wide (T:=(fun k=>tb < k∧k < eh.heap.size∧k≠nb)) bN)
       go_wp2
       go_roundw
       case rel=>exact ⟨j,a0,c0,na,np,a2,c2,a3,c3,a4,c4,a5,c5,l2,by go_num,by omega,yD (by have:=HL.out;have:=gd.out;omega),BN,L,by omega,hc,X⟩
       case measure=>simp [intOf]
 | succ j =>
   have dn:(0:Int) < (j:Int) + 1:=bB9
   go_upto_region 6 with fail
   refine kHo (fun W=>Touch (fun k=>k=p) wr W∧yK w0 W p) (fun _=>True) [] [(0,true),(1,true),(2,true),(3,false),(4,false),(5,true)] [(6,true),(7,true),(8,false)] bB4 bB4 qD (⟨Touch.of_below bR.drew,hc.below bR.drew⟩) ?_
   intro wS E
   simp only [jD,kAv,List.getElem?_cons_succ,List.getElem?_cons_zero,List.map_cons,List.map_nil]
   refine pre_nil ?_
   refine jX (v:=?_) rfl (fun W hW=>?_) ?_;rotate_left;(· have cg:=kF (hW.1.kD BN bB9) (j:=0) (v:=.slice a0 x0.length c0) rfl;have c9:=kF (hW.1.kD BN bB9) (j:=1) (v:=.int .i64 kc) rfl;have di:=kF (hW.1.kD BN bB9) (j:=2) (v:=.slice a1 0 c1) rfl;have df:=kF (hW.1.kD BN bB9) (j:=3) (v:=.slice a2 0 c2) rfl;have dd:=kF (hW.1.kD BN bB9) (j:=4) (v:=.slice a3 0 c3) rfl;have dk:=kF (hW.1.kD BN bB9) (j:=5) (v:=.slice a4 0 c4) rfl;have dr:=kF (hW.1.kD BN bB9) (j:=6) (v:=.slice a5 0 c5) rfl;have dw:=kF (hW.1.kD BN bB9) (j:=7) (v:=.int .i64 0) rfl;have d8:=kF (hW.1.kD BT bB9) (j:=0) (v:=.slice av t.1.length br) rfl;have d6:=kF (hW.1.kD BT bB9) (j:=1) (v:=.slice bd t.2.1.length bw) rfl;have da:=kF (hW.1.kD BT bB9) (j:=2) (v:=.slice aw t.2.2.1.length bz) rfl;have dq:=kF (hW.1.kD BT bB9) (j:=3) (v:=.slice ag t.2.2.2.length bt) rfl;clear hW;go_simp;try with_reducible rfl)
   refine kX ?_
   refine jX (v:=?_) rfl (fun W hW=>?_) ?_;rotate_left;(· go_simp;try with_reducible rfl)
   refine kX ?_
   refine jX (v:=?_) rfl (fun W hW=>?_) ?_;rotate_left;(· have cg:=kF (hW.1.kD BN bB9) (j:=0) (v:=.slice a0 x0.length c0) rfl;have c9:=kF (hW.1.kD BN bB9) (j:=1) (v:=.int .i64 kc) rfl;have di:=kF (hW.1.kD BN bB9) (j:=2) (v:=.slice a1 0 c1) rfl;have df:=kF (hW.1.kD BN bB9) (j:=3) (v:=.slice a2 0 c2) rfl;have dd:=kF (hW.1.kD BN bB9) (j:=4) (v:=.slice a3 0 c3) rfl;have dk:=kF (hW.1.kD BN bB9) (j:=5) (v:=.slice a4 0 c4) rfl;have dr:=kF (hW.1.kD BN bB9) (j:=6) (v:=.slice a5 0 c5) rfl;have dw:=kF (hW.1.kD BN bB9) (j:=7) (v:=.int .i64 0) rfl;have d8:=kF (hW.1.kD BT bB9) (j:=0) (v:=.slice av t.1.length br) rfl;have d6:=kF (hW.1.kD BT bB9) (j:=1) (v:=.slice bd t.2.1.length bw) rfl;have da:=kF (hW.1.kD BT bB9) (j:=2) (v:=.slice aw t.2.2.1.length bz) rfl;have dq:=kF (hW.1.kD BT bB9) (j:=3) (v:=.slice ag t.2.2.2.length bt) rfl;clear hW;go_simp;try with_reducible rfl)
   refine kX ?_
   refine yu rfl (fun K J=>?_);go_simp;refine (kHc E.2 (ct:=[.slice av t.1.length br,.slice bd t.2.1.length bw,.slice aw t.2.2.1.length bz,.slice ag t.2.2.2.length bt]) (tp:=t) (U.out.touch E.1 nO) sZ).mono ?_;rintro e wS1 ⟨ds,x,rfl,hX,ci,be,a9⟩;obtain ⟨bg,dc,ay,c6,bf,db,rfl⟩:=yN hX.raw;have HX:=yD hX;have fd:=E.1.size;have gc:=a9.size;replace E:=And.intro (E.1.trans a9) be;refine J _ _ E ?_;clear J K be a9 hX
   refine kX ?_
   refine yu rfl (fun K J=>?_);go_simp;refine (kSl (cx:=[.slice a0 x0.length c0,.int .i64 kc,.slice a1 0 c1,.slice a2 0 c2,.slice a3 0 c3,.slice a4 0 c4,.slice a5 0 c5,.int .i64 0]) (x:=(x0,(kc,[]),[],[],[],[],0)) (L.out.touch E.1 nO).rd (ct:=[.slice bg x.1.length dc,.slice ay x.2.1.length c6,.slice bf x.2.2.1.length db,.int .i64 x.2.2.2.1,.int .i64 x.2.2.2.2]) HX.out.rd).mono ?_;rintro e O ⟨cs,rfl,hO,af⟩;have d1:=E.1.size;have b8:=af.size;replace E:=And.intro (E.1.trans (Touch.of_below af)) (E.2.below af);obtain ⟨y0,b6,ge⟩:=addL_len x x0 ((kc,[]),[],[],[],[],0);rw [b6] at hO;obtain ⟨d0,cq,ey,e3,e4,e5,e0,e6,e7,ew,ez,ex,rfl⟩:=kDu hO.raw;simp only [List.length_nil] at hO ⊢;clear b6;generalize kMu x _=okA;have HN:=yD hO;refine J _ _ E ?_;clear J K af hO
   refine kX ?_
   refine jX (v:=?_) rfl (fun W hW=>?_) ?_;rotate_left;(· go_simp;try with_reducible rfl)
   refine kX ?_
   obtain ⟨fh,RS,ac,aq,au,ar⟩:=xY
   have bi:O.cell? ⟨nb,2,none⟩=some (.slice a1 0 c1):=kF RS rfl
   have bh:O.frozen? ⟨nb,2,none⟩=false:=frozen_of_row O (nb) 2 _ _ RS
   have bm:O.cell? ⟨nb,3,none⟩=some (.slice a2 0 c2):=kF RS rfl
   obtain ⟨bl,bv,bu⟩:=C8
   have en:O.cell? ⟨nb,5,none⟩=some (.slice a4 0 c4):=kF RS rfl
   have es:O.frozen? ⟨nb,5,none⟩=false:=frozen_of_row O (nb) 5 _ _ RS
   have ep:O.cell? ⟨nb,6,none⟩=some (.slice a5 0 c5):=kF RS rfl
   obtain ⟨eq,er,et⟩:=CF
   refine zl trivial ?_
   refine kS ?_
   refine kS ?_
   refine ko rfl (fun K J=>?_);go_simp;refine J _ _ trivial ?_;clear J K
   refine kX ?_
   refine kZ ?_
   replace X:=X.jZ E.1 mK
   replace BT:=E.1.kD BT bB9
   replace L:=yD (L.out.touch E.1 nO)
   replace U:=yD (U.out.touch E.1 nO)
   replace hc:=E.2
   clear E BN
   have BN:=RS
   clear RS ac aq au ar bi bh bm bl bv bu en es ep eq er et
   clear L HX U BT
   generalize F:World.setCell (World.setCell (World.setCell (World.setCell (World.setCell (World.setCell (World.setCell (World.setCell O _ _) _ _) _ _) _ _) _ _) _ _) _ _) _ _=cf
   have Y:Touch (fun k=>k=nb) O cf:=bF
   replace BN:cf.heap[nb]?=some (.cells #[.slice d0 y0.length cq,.int .i64 kc,.slice ey 0 e3,.slice e4 0 e5,.slice e0 0 e6,.slice e7 0 ew,.slice ez 0 ex,.int .i64 0] 33 (0,0)):=by rw [← F];exact kH (kH (kH (kH (kH (kH (kH (kH (BN) 0) 1) 2) 3) 4) 5) 6) 7
   have de:=Y.size
   clear F
   replace HN:=yD (HN.out.touch Y nO)
   obtain ⟨hc,X⟩:=uU
   clear Y
   go_wp2
   go_roundw
   case rel=>exact ⟨j,d0,cq,ey,e3,e4,e5,e0,e6,e7,ew,ez,ex,y0,by go_num,by omega,yD vN,BN,yD (HN.out.wide fU),by omega,hc,X⟩
   case measure=>simp [intOf]
end Go.Proofs.YtonmjkmaadgceaaGreat

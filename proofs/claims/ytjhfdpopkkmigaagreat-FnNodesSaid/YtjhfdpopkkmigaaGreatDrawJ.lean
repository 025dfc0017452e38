/-
  The draws of the law of nodes.
-/
import Derived.Test.YtjhfdpopkkmigaaGreatDrawF
set_option linter.unusedVariables false
set_option linter.unusedSimpArgs false
set_option linter.unnecessarySimpa false
set_option maxRecDepth 100000
set_option maxHeartbeats 8000000
open Go renaming bodyPost_ret->Aa,World->Ab,frozen_of_row->Ac
namespace Go.Proofs.YtjhfdpopkkmigaaGreat
open Go.RowKit _root_.Go.Proofs.Tryz
theorem kMb {w:Ab} {v:Value} {Z:List UInt8} (ad:(kD.slice 5 kD.byte).raw w [v] Z) :
    Calls prog 12 #[v] w (DrawnNd w):=by
 obtain ⟨ca,cc,rfl,_⟩:=kD.sl ad
 go_enter func12,ntmps12
 go_upto_region 1 with fail
 generalize F:World.alloc w _=w1
 obtain ⟨ag,R,bf⟩:=FU
 clear F
 have EE:=ag
 clear ag
 go_wp2_with fail
 refine (kDw ad EE).mono ?_
 rintro e V ⟨p,cs,x,rfl,hO,hx,ay,hc,O⟩
 have bg:=O.size
 have bt:=hc.lt.2
 replace R:=kC R O
 have J:Touch (λk=>k=p) w V:=Touch.of_below (tQ EE O)
 clear O EE
 obtain ⟨a0,c0,a1,c1,a2,c2,a3,c3,a4,c4,a5,c5,rfl⟩:=yj hO.rd.1
 obtain ⟨x0,⟨kc,xe⟩,x2,x3,x4,X,o⟩:=x
 obtain ⟨hO,L,HX⟩:=xM
 clear hO hx
 go_upto_region 2 with fail
 generalize F:World.alloc V _=w3
 obtain ⟨aa,BX,bi⟩:=xS
 clear F
 replace R:=kC R aa
 obtain ⟨L,hc,J⟩:=xR
 clear aa
 obtain ⟨ac,an,bd,bh,bp,av,dx,d1⟩:=yL R
 obtain ⟨ae,af,b7,b4,b6,c6,c7,c9⟩:=yL BX
 obtain ⟨ak,al,ax,be,bo,d2,dy,d5⟩:=kCz R
 go_wp2
 refine Aa (v:=.agg #[Qs a0 x0 c0,Qn kc,Qs a1 xe c1,Qs a2 x2 c2,Qs a3 x3 c3,Qs a4 x4 c4,Qs a5 X c5,Qn o]) (by simp [results,results12,go_sem,ac,ak,an,al,bd,ax,bh,be,bp,bo,av,d2,dx,dy,d1,d5]) rfl ⟨[Qs a0 x0 c0,Qn kc,Qs a1 xe c1,Qs a2 x2 c2,Qs a3 x3 c3,Qs a4 x4 c4,Qs a5 X c5,Qn o],(x0,(kc,xe),x2,x3,x4,X,o),rfl,?_,HX.out,?_⟩
 · exact (L.out.touch sT8 sM).wide (T:=jU w.heap.size _) fF
 exact (J.below nL wW).trans ((sT8:Touch (λk=>k=w.heap.size) w3 _).below (B:=w.heap.size) bD1 wW)
theorem kNe {w:Ab} {v:Value} {Z:List UInt8} (ad:(kD.slice 5 kD.byte).raw w [v] Z) :
    Calls prog 8 #[v] w (DrawnNI w):=by
 obtain ⟨ca,cc,rfl,_⟩:=kD.sl ad
 go_enter func8,ntmps8
 go_upto_region 1 with fail
 generalize F:World.alloc (World.alloc w _) _=w1
 obtain ⟨hb,R⟩:=y7
 have RN:Qr w1 (w.heap.size + 1) #[.slice none 0 0] 36:=by rw [<- F];exact kH bD2
 have bf:w.heap.size + 2<=w1.heap.size:=bB3
 clear F
 have EE:=hb
 clear hb
 go_wp2_with fail
 refine (kDw ad EE).mono ?_
 rintro e V ⟨p,cs,x,rfl,hO,hx,ay,hc,O⟩
 obtain ⟨bg,bt,R,RN,J⟩:=CY
 clear O EE
 obtain ⟨a0,c0,a1,c1,a2,c2,a3,c3,a4,c4,a5,c5,rfl⟩:=yj hO.rd.1
 obtain ⟨x0,⟨kc,xe⟩,x2,x3,x4,X,o⟩:=x
 obtain ⟨hO,L,HX⟩:=xM
 clear hO hx
 go_upto_region 2 with fail
 generalize F:World.alloc V _=w3
 obtain ⟨aa,BX,bi⟩:=xS
 clear F
 replace R:=kC R aa
 replace RN:=kC RN aa
 obtain ⟨L,hc,J⟩:=xR
 clear aa
 have FX:=yD (λ(W:Ab) (hW:Touch (λk=>k=p\/k=w.heap.size\/k=w.heap.size + 1) w3 W)=>And.intro (kE (hW.kC BX bD1) (j:=0) (v:=.slice a0 x0.length c0) rfl) (And.intro (kE (hW.kC BX bD1) (j:=1) (v:=.int .i64 kc) rfl) (And.intro (kE (hW.kC BX bD1) (j:=2) (v:=.slice a1 xe.length c1) rfl) (And.intro (kE (hW.kC BX bD1) (j:=3) (v:=.slice a2 x2.length c2) rfl) (And.intro (kE (hW.kC BX bD1) (j:=4) (v:=.slice a3 x3.length c3) rfl) (And.intro (kE (hW.kC BX bD1) (j:=5) (v:=.slice a4 x4.length c4) rfl) (And.intro (kE (hW.kC BX bD1) (j:=6) (v:=.slice a5 X.length c5) rfl) (kE (hW.kC BX bD1) (j:=7) (v:=.int .i64 o) rfl))))))))
 refine zY (λW=>Touch (λk=>k=p\/k=w.heap.size\/k=w.heap.size + 1) w3 W) bC5 (Touch.of_below bR.drew) ?_
 intro t1 c9 E
 have bD:Qb w3 t1:=(by rw [c9];exact bR.drew)
 obtain ⟨R,RN,hc,ao⟩:=EN
 clear bD c9
 refine kQ 0 ?_
 refine kQ 1 ?_
 refine kQ 4 ?_
 refine jl (i:=2) (j:=5) rfl rfl bC5 rfl rfl (λK H=>?_) (λK H=>?_)
 · go_simp;refine (kEs hc).mono ?_;rintro e t2 ⟨a,c,Y,n,h,lt,rfl,hQ,ah,hn,hh,ht,G,D⟩;have d0:=D.size;obtain ⟨R,RN⟩:=EP;clear hc;have hc:=G;clear G;replace E:=E.trans (D.wide (λk q=>.inl q));clear D;obtain ⟨eq,HQ⟩:=CZ;refine H _ _ E ?_;clear H K;refine jD ?_;refine kLf (k:=3) (v:=.agg #[Qs a Y c]) rfl bC5 pY rfl E (λW hW=>?_) ?_
   · go_simp;(try simp only [eq]);try rfl
   refine jD ?_;refine kN (k:=5) rfl bC5 rfl (λK H=>?_);go_simp;generalize F:World.alloc t2 _=t3;have hb:Qb t2 t3:=(by rw [<- F];exact bR.alloc nL _);have ab:Hid ((kD.slice 3 kD.int).own t3 [.slice (some ⟨t2.heap.size,0,none⟩) 3 3] [50,3999,4001] (λk=>k=t2.heap.size)):=(by rw [<- F];exact yD (kD.kEf t2 [50,3999,4001] bD0 bD0));have dw:t2.heap.size + 1<=t3.heap.size:=(by rw [<- F];simp);clear F;replace R:=kC R hb;replace RN:=kC RN hb;replace HQ:=yD (HQ.out.below hb);replace hc:=hc.below hb;obtain ⟨lb,bc⟩:∃ b_,b_=t2.heap.size:=⟨_,rfl⟩;rw [<- bc] at ab ⊢;obtain ⟨ab,dy,dt⟩:=IM;clear bc;replace E:=E.trans (Touch.of_below hb);clear hb;refine H _ _ E ?_;clear H K;refine jD ?_;refine kN (k:=6) rfl bC5 rfl (λK H=>?_);go_simp;refine (zy hc ab.out bD1 bD0 bD0).mono ?_;rintro e t4 ⟨y,ar,bz,rfl,G,D⟩;have ap:=D.size;obtain ⟨R,RN⟩:=EP;replace HQ:=yD (HQ.out.touch D nT);replace ab:=yD (ab.out.touch D nT);clear hc;have hc:=G;clear G;replace E:=E.trans (D.wide (λk q=>.inl q));clear D;have a6:0<=y/\y<=4001:=by simp at ar;omega
   clear ar bz;refine H _ _ E ?_;clear H K;refine jD ?_;refine kN (k:=7) rfl bC5 rfl (λK H=>?_);obtain ⟨b9,cz,ck,c6,de,dh,dk,dm⟩:=yL R;obtain ⟨cd,cv,cw,c7,dd,di,dl,dj⟩:=kCz R;go_simp;generalize F:World.setCell (World.setCell (World.setCell (World.setCell (World.setCell (World.setCell (World.setCell (World.setCell t4 _ _) _ _) _ _) _ _) _ _) _ _) _ _) _ _=t5;obtain ⟨N,R,an⟩:=DK;clear F b9 cd cz cv ck cw c6 c7 de dd dh di dk dl dm dj;replace RN:=N.kC RN bD1;replace HQ:=yD (HQ.out.touch N nT);replace ab:=yD (ab.out.touch N nT);obtain ⟨hc,E⟩:=CR;clear N;refine H _ _ E ?_;clear H K;refine jD ?_;refine kN (k:=8) rfl bC5 rfl (λK H=>?_);have b9:=kE RN (j:=0) rfl;have cd:t5.frozen? ⟨w.heap.size + 1,0,none⟩=false:=Ac t5 (w.heap.size + 1) 0 _ _ RN;go_simp;generalize F:World.setCell t5 _ _=t6;obtain ⟨N,RN,aq⟩:=I1;clear F b9 cd;replace R:=N.kC R bD1;replace HQ:=yD (HQ.out.touch N nT);replace ab:=yD (ab.out.touch N nT);exact bH
 go_simp
 generalize F:World.alloc t1 _=t2
 have hb:Qb t1 t2:=(by rw [<- F];exact bR.alloc nL _)
 have ab:Hid ((kD.slice 3 kD.int).own t2 [.slice (some ⟨t1.heap.size,0,none⟩) 3 3] [50,3999,4001] (λk=>k=t1.heap.size)):=(by rw [<- F];exact yD (kD.kEf t1 [50,3999,4001] bD0 bD0))
 have d0:t1.heap.size + 1<=t2.heap.size:=(by rw [<- F];simp)
 clear F
 replace R:=kC R hb
 replace RN:=kC RN hb
 replace hc:=hc.below hb
 obtain ⟨lb,bc⟩:∃ b_,b_=t1.heap.size:=⟨_,rfl⟩
 rw [<- bc] at ab ⊢
 obtain ⟨ab,dy,dt⟩:=IM
 clear bc
 replace E:=E.trans (Touch.of_below hb)
 clear hb
 refine H _ _ E ?_
 clear H K
 refine jD ?_
 refine kN (k:=2) rfl bC5 rfl (λK H=>?_)
 go_simp
 refine (kEs hc).mono ?_
 rintro e t3 ⟨a,c,Y,n,h,lt,rfl,hQ,ah,hn,hh,ht,G,D⟩
 have dw:=D.size
 obtain ⟨R,RN⟩:=EP
 replace ab:=yD (ab.out.touch D nT)
 clear hc
 have hc:=G
 clear G
 replace E:=E.trans (D.wide (λk q=>.inl q))
 clear D
 obtain ⟨eq,HQ⟩:=CZ
 refine H _ _ E ?_
 clear H K
 refine jD ?_
 refine kLf (k:=3) (v:=.agg #[Qs a Y c]) rfl bC5 pY rfl E (λW hW=>?_) ?_
 · go_simp;(try simp only [eq]);try rfl
 refine jD ?_
 refine kN (k:=6) rfl bC5 rfl (λK H=>?_)
 go_simp
 refine (zy hc ab.out bD1 bD0 bD0).mono ?_
 rintro e t4 ⟨y,ar,bz,rfl,G,D⟩
 have ap:=D.size
 obtain ⟨R,RN⟩:=EP
 replace ab:=yD (ab.out.touch D nT)
 replace HQ:=yD (HQ.out.touch D nT)
 clear hc
 have hc:=G
 clear G
 replace E:=E.trans (D.wide (λk q=>.inl q))
 clear D
 have a6:0<=y/\y<=4001:=by simp at ar;omega
 clear ar bz
 refine H _ _ E ?_
 clear H K
 refine jD ?_
 refine kN (k:=7) rfl bC5 rfl (λK H=>?_)
 obtain ⟨b9,cz,ck,c6,de,dh,dk,dm⟩:=yL R
 obtain ⟨cd,cv,cw,c7,dd,di,dl,dj⟩:=kCz R
 go_simp
 generalize F:World.setCell (World.setCell (World.setCell (World.setCell (World.setCell (World.setCell (World.setCell (World.setCell t4 _ _) _ _) _ _) _ _) _ _) _ _) _ _) _ _=t5
 obtain ⟨N,R,an⟩:=DK
 clear F b9 cd cz cv ck cw c6 c7 de dd dh di dk dl dm dj
 replace RN:=N.kC RN bD1
 replace ab:=yD (ab.out.touch N nT)
 replace HQ:=yD (HQ.out.touch N nT)
 obtain ⟨hc,E⟩:=CR
 clear N
 refine H _ _ E ?_
 clear H K
 refine jD ?_
 refine kN (k:=8) rfl bC5 rfl (λK H=>?_)
 have b9:=kE RN (j:=0) rfl
 have cd:t5.frozen? ⟨w.heap.size + 1,0,none⟩=false:=Ac t5 (w.heap.size + 1) 0 _ _ RN
 go_simp
 generalize F:World.setCell t5 _ _=t6
 obtain ⟨N,RN,aq⟩:=I1
 clear F b9 cd
 replace R:=N.kC R bD1
 replace ab:=yD (ab.out.touch N nT)
 replace HQ:=yD (HQ.out.touch N nT)
 exact bH
theorem kIe {w:Ab} {v:Value} {Z:List UInt8} (ad:(kD.slice 5 kD.byte).raw w [v] Z) :
    Calls prog 11 #[v] w (DrawnNI w):=by
 obtain ⟨ca,cc,rfl,_⟩:=kD.sl ad
 go_enter func11,ntmps11
 go_upto_region 1 with fail
 generalize F:World.alloc (World.alloc w _) _=w1
 obtain ⟨hb,R⟩:=y7
 have RN:Qr w1 (w.heap.size + 1) #[.slice none 0 0] 36:=by rw [<- F];exact kH bD2
 have bf:w.heap.size + 2<=w1.heap.size:=bB3
 clear F
 have EE:=hb
 clear hb
 go_wp2_with fail
 refine (kDw ad EE).mono ?_
 rintro e V ⟨p,cs,x,rfl,hO,hx,ay,hc,O⟩
 obtain ⟨bg,bt,R,RN,J⟩:=CY
 clear O EE
 obtain ⟨a0,c0,a1,c1,a2,c2,a3,c3,a4,c4,a5,c5,rfl⟩:=yj hO.rd.1
 obtain ⟨x0,⟨kc,xe⟩,x2,x3,x4,X,o⟩:=x
 obtain ⟨hO,L,HX⟩:=xM
 clear hO hx
 go_upto_region 2 with fail
 generalize F:World.alloc V _=w3
 obtain ⟨aa,BX,bi⟩:=xS
 clear F
 replace R:=kC R aa
 replace RN:=kC RN aa
 obtain ⟨L,hc,J⟩:=xR
 clear aa
 have FX:=yD (λ(W:Ab) (hW:Touch (λk=>k=p\/k=w.heap.size\/k=w.heap.size + 1) w3 W)=>And.intro (kE (hW.kC BX bD1) (j:=0) (v:=.slice a0 x0.length c0) rfl) (And.intro (kE (hW.kC BX bD1) (j:=1) (v:=.int .i64 kc) rfl) (And.intro (kE (hW.kC BX bD1) (j:=2) (v:=.slice a1 xe.length c1) rfl) (And.intro (kE (hW.kC BX bD1) (j:=3) (v:=.slice a2 x2.length c2) rfl) (And.intro (kE (hW.kC BX bD1) (j:=4) (v:=.slice a3 x3.length c3) rfl) (And.intro (kE (hW.kC BX bD1) (j:=5) (v:=.slice a4 x4.length c4) rfl) (And.intro (kE (hW.kC BX bD1) (j:=6) (v:=.slice a5 X.length c5) rfl) (kE (hW.kC BX bD1) (j:=7) (v:=.int .i64 o) rfl))))))))
 refine zY (λW=>Touch (λk=>k=p\/k=w.heap.size\/k=w.heap.size + 1) w3 W) bC5 (Touch.of_below bR.drew) ?_
 intro t1 c9 E
 have bD:Qb w3 t1:=(by rw [c9];exact bR.drew)
 obtain ⟨R,RN,hc,ao⟩:=EN
 clear bD c9
 refine kQ 0 ?_
 refine kQ 1 ?_
 refine kQ 4 ?_
 refine kN (k:=2) rfl bC5 rfl (λK H=>?_)
 go_simp
 refine (kEs hc).mono ?_
 rintro e t2 ⟨a,c,Y,n,h,lt,rfl,hQ,ah,hn,hh,ht,G,D⟩
 have d0:=D.size
 obtain ⟨R,RN⟩:=EP
 clear hc
 have hc:=G
 clear G
 replace E:=E.trans (D.wide (λk q=>.inl q))
 clear D
 obtain ⟨eq,HQ⟩:=CZ
 refine H _ _ E ?_
 clear H K
 refine jD ?_
 refine kLf (k:=3) (v:=.agg #[Qs a Y c]) rfl bC5 pY rfl E (λW hW=>?_) ?_
 · go_simp;(try simp only [eq]);try rfl
 refine jD ?_
 refine kN (k:=5) rfl bC5 rfl (λK H=>?_)
 go_simp
 refine (ku (n:=5) hc bD0).mono ?_
 rintro e t3 ⟨y,db,bk,bm,rfl,G,D⟩
 have dw:=D.size
 obtain ⟨R,RN⟩:=EP
 replace HQ:=yD (HQ.out.touch D nT)
 clear hc
 have hc:=G
 clear G
 replace E:=E.trans (D.wide (λk q=>.inl q))
 clear D
 replace bk:=bk bD0
 clear bm
 refine H _ _ E ?_
 clear H K
 refine jD ?_
 refine kN (k:=6) rfl bC5 rfl (λK H=>?_)
 obtain ⟨b9,cz,ck,c6,de,dh,dk,dm⟩:=yL R
 obtain ⟨cd,cv,cw,c7,dd,di,dl,dj⟩:=kCz R
 go_simp
 generalize F:World.setCell (World.setCell (World.setCell (World.setCell (World.setCell (World.setCell (World.setCell (World.setCell t3 _ _) _ _) _ _) _ _) _ _) _ _) _ _) _ _=t4
 have N:Touch (λk=>k=w.heap.size) t3 t4:=(by rw [<- F];exact sT8)
 replace R:Qr t4 w.heap.size #[Qs a0 x0 c0,Qn kc,Qs a1 xe c1,Qs a2 x2 c2,Qs a3 x3 c3,Qs a4 x4 c4,Qs a5 X c5,Qn o] 33:=(by rw [<- F];exact kF (kF (kF (kF (kF (kF (kF (kF (R) 0) 1) 2) 3) 4) 5) 6) 7)
 have ap:=N.size
 clear F b9 cd cz cv ck cw c6 c7 de dd dh di dk dl dm dj
 replace RN:=N.kC RN bD1
 replace HQ:=yD (HQ.out.touch N nT)
 obtain ⟨hc,E⟩:=CR
 clear N
 refine H _ _ E ?_
 clear H K
 refine jD ?_
 refine kN (k:=7) rfl bC5 rfl (λK H=>?_)
 have b9:=kE RN (j:=0) rfl
 have cd:t4.frozen? ⟨w.heap.size + 1,0,none⟩=false:=Ac t4 (w.heap.size + 1) 0 _ _ RN
 go_simp
 generalize F:World.setCell t4 _ _=t5
 have N:Touch (λk=>k=w.heap.size + 1) t4 t5:=(by rw [<- F];exact sT1)
 replace RN:Qr t5 (w.heap.size + 1) #[Qs a Y c] 36:=(by rw [<- F];exact kF (RN) 0)
 have an:=N.size
 clear F b9 cd
 replace R:=N.kC R bD1
 replace HQ:=yD (HQ.out.touch N nT)
 obtain ⟨hc,E⟩:=FB
 clear N
 refine H _ _ E ?_
 clear H K
 refine jD ?_
 refine kQ 8 ?_
 refine jW bC5 ?_
 obtain ⟨aj,ai,am,ak,al,ag,af,ae⟩:=yL R
 have ac:=kE RN (j:=0) rfl
 have zS:=E.size
 go_wp2
 refine Aa (v:=.tuple #[.agg #[Qs a0 x0 c0,Qn kc,Qs a1 xe c1,Qs a2 x2 c2,Qs a3 x3 c3,Qs a4 x4 c4,Qs a5 X c5,Qn o],.agg #[Qs a Y c],.int .i64 y]) (by simp [results,results11,go_sem,aj,ai,am,ak,al,ag,af,ae,ac]) rfl ⟨[Qs a0 x0 c0,Qn kc,Qs a1 xe c1,Qs a2 x2 c2,Qs a3 x3 c3,Qs a4 x4 c4,Qs a5 X c5,Qn o],(x0,(kc,xe),x2,x3,x4,X,o),a,c,Y,y,rfl,?_,HX.out,?_,⟨by omega,by omega⟩,?_⟩
 · exact (L.out.touch E nT).wide (T:=jU w.heap.size _) mU
 · exact HQ.out.wide (T:=jU w.heap.size _) mU
 exact (J.ja (S:=λk=>k=p) E wZ).below nL wW
theorem kNf {w:Ab} {v:Value} {Z:List UInt8} (ad:(kD.slice 5 kD.byte).raw w [v] Z) :
    Calls prog 5 #[v] w (DrawnND w):=by
 obtain ⟨ca,cc,rfl,_⟩:=kD.sl ad
 go_enter func5,ntmps5
 go_upto_region 1 with fail
 generalize F:World.alloc (World.alloc w _) _=w1
 obtain ⟨hb,R⟩:=y7
 have RN:Qr w1 (w.heap.size + 1) #[.slice none 0 0,.slice none 0 0,.slice none 0 0,Qn 0,Qn 0] 38:=by rw [<- F];exact kH bD2
 have bf:w.heap.size + 2<=w1.heap.size:=bB3
 clear F
 have EE:=hb
 clear hb
 go_wp2_with fail
 refine (kDw ad EE).mono ?_
 rintro e V ⟨p,cs,x,rfl,hO,hx,ay,hc,O⟩
 obtain ⟨bg,bt,R,RN,J⟩:=CY
 clear O EE
 obtain ⟨a0,c0,a1,c1,a2,c2,a3,c3,a4,c4,a5,c5,rfl⟩:=yj hO.rd.1
 obtain ⟨x0,⟨kc,xe⟩,x2,x3,x4,X,o⟩:=x
 obtain ⟨hO,L,HX⟩:=xM
 clear hO hx
 go_upto_region 2 with fail
 generalize F:World.alloc V _=w3
 obtain ⟨aa,BX,bi⟩:=xS
 clear F
 replace R:=kC R aa
 replace RN:=kC RN aa
 obtain ⟨L,hc,J⟩:=xR
 clear aa
 have FX:=yD (λ(W:Ab) (hW:Touch (λk=>k=p\/k=w.heap.size\/k=w.heap.size + 1) w3 W)=>And.intro (kE (hW.kC BX bD1) (j:=0) (v:=.slice a0 x0.length c0) rfl) (And.intro (kE (hW.kC BX bD1) (j:=1) (v:=.int .i64 kc) rfl) (And.intro (kE (hW.kC BX bD1) (j:=2) (v:=.slice a1 xe.length c1) rfl) (And.intro (kE (hW.kC BX bD1) (j:=3) (v:=.slice a2 x2.length c2) rfl) (And.intro (kE (hW.kC BX bD1) (j:=4) (v:=.slice a3 x3.length c3) rfl) (And.intro (kE (hW.kC BX bD1) (j:=5) (v:=.slice a4 x4.length c4) rfl) (And.intro (kE (hW.kC BX bD1) (j:=6) (v:=.slice a5 X.length c5) rfl) (kE (hW.kC BX bD1) (j:=7) (v:=.int .i64 o) rfl))))))))
 refine zY (λW=>Touch (λk=>k=p\/k=w.heap.size\/k=w.heap.size + 1) w3 W) bC5 (Touch.of_below bR.drew) ?_
 intro t1 c9 E
 have bD:Qb w3 t1:=(by rw [c9];exact bR.drew)
 obtain ⟨R,RN,hc,ao⟩:=EN
 clear bD c9
 refine kQ 0 ?_
 refine kQ 1 ?_
 refine kN (k:=2) rfl bC5 rfl (λK H=>?_)
 go_simp
 refine (kKk hc).mono ?_
 rintro e t2 ⟨ds,y,rfl,hY,dr,G,D⟩
 have d0:=D.size
 obtain ⟨R,RN⟩:=EP
 clear hc
 have hc:=G
 clear G
 replace E:=E.trans (D.wide (λk q=>.inl q))
 clear D
 obtain ⟨dq,d5,dx,d7,dv,d8,rfl⟩:=yS hY.raw
 have HY:=yD (hY.ji)
 refine H _ _ E ?_
 clear H K
 refine jD ?_
 refine kN (k:=3) rfl bC5 rfl (λK H=>?_)
 obtain ⟨b9,cz,ck,c6,de,dh,dk,dm⟩:=yL R
 obtain ⟨cd,cv,cw,c7,dd,di,dl,dj⟩:=kCz R
 go_simp
 generalize F:World.setCell (World.setCell (World.setCell (World.setCell (World.setCell (World.setCell (World.setCell (World.setCell t2 _ _) _ _) _ _) _ _) _ _) _ _) _ _) _ _=t3
 obtain ⟨N,R,dw⟩:=DL
 clear F b9 cd cz cv ck cw c6 c7 de dd dh di dk dl dm dj
 replace RN:=N.kC RN bD1
 replace HY:=yD (HY.out.touch N nT)
 obtain ⟨hc,E⟩:=CR
 clear N
 refine H _ _ E ?_
 clear H K
 refine jD ?_
 refine kN (k:=4) rfl bC5 rfl (λK H=>?_)
 obtain ⟨b9,cz,ck,c6,de⟩:=yI RN
 obtain ⟨cd,cv,cw,c7,dd⟩:=kBh RN
 go_simp
 generalize F:World.setCell (World.setCell (World.setCell (World.setCell (World.setCell t3 _ _) _ _) _ _) _ _) _ _=t4
 have N:Touch (λk=>k=w.heap.size + 1) t3 t4:=(by rw [<- F];exact sT5)
 replace RN:Qr t4 (w.heap.size + 1) #[Qs dq y.1 d5,Qs dx y.2.1 d7,Qs dv y.2.2.1 d8,Qn y.2.2.2.1,Qn y.2.2.2.2] 38:=(by rw [<- F];exact kF (kF (kF (kF (kF (RN) 0) 1) 2) 3) 4)
 have ap:=N.size
 clear F b9 cd cz cv ck cw c6 c7 de dd
 replace R:=N.kC R bD1
 replace HY:=yD (HY.out.touch N nT)
 obtain ⟨hc,E⟩:=FB
 clear N
 refine H _ _ E ?_
 clear H K
 refine jD ?_
 refine jW bC5 ?_
 obtain ⟨aj,ai,am,ak,al,ag,af,ae⟩:=yL R
 obtain ⟨ac,Y,ab,ah,U⟩:=yI RN
 have zS:=E.size
 go_wp2
 refine Aa (v:=.tuple #[.agg #[Qs a0 x0 c0,Qn kc,Qs a1 xe c1,Qs a2 x2 c2,Qs a3 x3 c3,Qs a4 x4 c4,Qs a5 X c5,Qn o],.agg #[Qs dq y.1 d5,Qs dx y.2.1 d7,Qs dv y.2.2.1 d8,Qn y.2.2.2.1,Qn y.2.2.2.2]]) (by simp [results,results5,go_sem,aj,ai,am,ak,al,ag,af,ae,ac,Y,ab,ah,U]) rfl ⟨[Qs a0 x0 c0,Qn kc,Qs a1 xe c1,Qs a2 x2 c2,Qs a3 x3 c3,Qs a4 x4 c4,Qs a5 X c5,Qn o],(x0,(kc,xe),x2,x3,x4,X,o),[.slice dq y.1.length d5,.slice dx y.2.1.length d7,.slice dv y.2.2.1.length d8,.int .i64 y.2.2.2.1,.int .i64 y.2.2.2.2],y,rfl,?_,HX.out,?_,?_⟩
 · exact (L.out.touch E nT).wide (T:=jU w.heap.size _) mU
 · exact HY.out.wide (T:=jU w.heap.size _) mU
 exact (J.ja (S:=λk=>k=p) E wZ).below nL wW
theorem kOn {w:Ab} {v:Value} {Z:List UInt8} (ad:(kD.slice 5 kD.byte).raw w [v] Z) :
    Calls prog 14 #[v] w (DrawnK w):=by
 obtain ⟨ca,cc,rfl,_⟩:=kD.sl ad
 go_enter func14,ntmps14
 go_wp2_with fail
 refine (kRn ad bR).mono ?_
 rintro e w1 ⟨p,rfl,hc,ay,O⟩
 have bf:=O.size
 have bt:=hc.lt.2
 have J:Touch (λk=>k=p) w w1:=Touch.of_below (O)
 clear O
 go_wp2_with fail
 refine (zy (hc.below (bR.alloc nL _)) (kD.kEf _ [-1,0,3,8,9] bD0 bD0) (by have:=hc.lt;omega) bD0 bD0).mono ?_
 rintro e V ⟨y,ar,bz,rfl,G,D⟩
 obtain ⟨D,bg⟩:=CQ
 replace J:=J.trans D
 clear hc D
 have hc:=G
 clear G
 have a6:-1<=y/\y<=9:=by simp at ar;omega
 clear ar bz
 go_wp2
 refine Aa (v:=.int .i64 y) (by simp [results,results14,go_sem]) rfl ⟨y,rfl,a6,J.below nL wW⟩
theorem kKm {w:Ab} {v:Value} {Z:List UInt8} (ad:(kD.slice 5 kD.byte).raw w [v] Z) :
    Calls prog 13 #[v] w (DrawnN2 w):=by
 obtain ⟨ca,cc,rfl,_⟩:=kD.sl ad
 go_enter func13,ntmps13
 go_upto_region 1 with fail
 generalize F:World.alloc (World.alloc w _) _=w1
 obtain ⟨hb,R⟩:=y7
 have RN:Qr w1 (w.heap.size + 1) #[.slice none 0 0,Qn 0,.slice none 0 0,.slice none 0 0,.slice none 0 0,.slice none 0 0,.slice none 0 0,Qn 0] 33:=by rw [<- F];exact kH bD2
 have bf:w.heap.size + 2<=w1.heap.size:=bB3
 clear F
 have EE:=hb
 clear hb
 go_wp2_with fail
 refine (kDw ad EE).mono ?_
 rintro e V ⟨p,cs,x,rfl,hO,hx,ay,hc,O⟩
 obtain ⟨bg,bt,R,RN,J⟩:=CY
 clear O EE
 obtain ⟨a0,c0,a1,c1,a2,c2,a3,c3,a4,c4,a5,c5,rfl⟩:=yj hO.rd.1
 obtain ⟨x0,⟨kc,xe⟩,x2,x3,x4,X,o⟩:=x
 obtain ⟨hO,L,HX⟩:=xM
 clear hO hx
 go_upto_region 2 with fail
 generalize F:World.alloc V _=w3
 obtain ⟨aa,BX,bi⟩:=xS
 clear F
 replace R:=kC R aa
 replace RN:=kC RN aa
 obtain ⟨L,hc,J⟩:=xR
 clear aa
 go_wp2_with fail
 refine (zk (n:=2) hc bD0).mono ?_
 rintro e w4 ⟨b_,rfl,G,D⟩
 have bu:=D.size
 obtain ⟨R,RN⟩:=EP
 replace BX:=D.kC BX bD1
 obtain ⟨L,J⟩:=xK
 clear hc D
 have hc:=G
 clear G
 cases b_
 · go_wp2_with fail;refine (kOm hc).mono ?_;rintro e w5 ⟨cs,y,ct,tr,tb,rfl,hO,hx,N,hlt,⟨eq,er⟩,G,D⟩;have br:=D.size;obtain ⟨R,RN⟩:=EP;replace BX:=D.kC BX bD1;obtain ⟨L,J⟩:=xK;clear hc D;have hc:=G;clear G;obtain ⟨a8,ce,bn,co,bb,cq,df,dg,rfl⟩:=kGf N.rd.1;obtain ⟨a7,bc,b0,bz,bh,bq,db,a9,c8,ba,dc,b2,rfl⟩:=yj hO.rd.1;obtain ⟨y0,⟨an,ye⟩,y2,y3,y4,y5,y6⟩:=y;replace hO:je.ji _ [Qs a7 y0 bc,Qn an,Qs b0 ye bz,Qs bh y2 bq,Qs db y3 a9,Qs c8 y4 ba,Qs dc y5 b2,Qn y6] (y0,(an,ye),y2,y3,y4,y5,y6) _:=hO;have HY:=yD hO;clear hO hx N hlt;go_upto_region 5 with fail;generalize F:World.alloc (World.alloc w5 _) _=w6;have hb:Qb w5 w6:=by rw [<- F];exact (bR.alloc nL _).alloc bD2 _
   have BY:Qr w6 w5.heap.size #[Qs a7 y0 bc,Qn an,Qs b0 ye bz,Qs bh y2 bq,Qs db y3 a9,Qs c8 y4 ba,Qs dc y5 b2,Qn y6] 33:=sN;have BT:Qr w6 (w5.heap.size + 1) #[Qs a8 tr.1 ce,Qs bn tr.2.1 co,Qs bb tr.2.2.1 cq,Qs df tr.2.2.2 dg] 79:=by rw [<- F];exact kH bD2
   have da:w5.heap.size + 2<=w6.heap.size:=bB3;clear F;replace R:=kC R hb;replace RN:=kC RN hb;replace BX:=kC BX hb;replace L:=yD (L.out.below hb);replace HY:=yD (HY.out.below hb);obtain ⟨hc,J⟩:=xE;clear hb;have FX:=yD (λ(W:Ab) (hW:Touch (λk=>k=p\/k=w.heap.size\/k=w.heap.size + 1) w6 W)=>And.intro (kE (hW.kC BX bD1) (j:=0) (v:=.slice a0 x0.length c0) rfl) (And.intro (kE (hW.kC BX bD1) (j:=1) (v:=.int .i64 kc) rfl) (And.intro (kE (hW.kC BX bD1) (j:=2) (v:=.slice a1 xe.length c1) rfl) (And.intro (kE (hW.kC BX bD1) (j:=3) (v:=.slice a2 x2.length c2) rfl) (And.intro (kE (hW.kC BX bD1) (j:=4) (v:=.slice a3 x3.length c3) rfl) (And.intro (kE (hW.kC BX bD1) (j:=5) (v:=.slice a4 x4.length c4) rfl) (And.intro (kE (hW.kC BX bD1) (j:=6) (v:=.slice a5 X.length c5) rfl) (And.intro (kE (hW.kC BX bD1) (j:=7) (v:=.int .i64 o) rfl) (And.intro (kE (hW.kC BY bD1) (j:=0) (v:=.slice a7 y0.length bc) rfl) (And.intro (kE (hW.kC BY bD1) (j:=1) (v:=.int .i64 an) rfl) (And.intro (kE (hW.kC BY bD1) (j:=2) (v:=.slice b0 ye.length bz) rfl) (And.intro (kE (hW.kC BY bD1) (j:=3) (v:=.slice bh y2.length bq) rfl) (And.intro (kE (hW.kC BY bD1) (j:=4) (v:=.slice db y3.length a9) rfl) (And.intro (kE (hW.kC BY bD1) (j:=5) (v:=.slice c8 y4.length ba) rfl) (And.intro (kE (hW.kC BY bD1) (j:=6) (v:=.slice dc y5.length b2) rfl) (kE (hW.kC BY bD1) (j:=7) (v:=.int .i64 y6) rfl))))))))))))))));refine zY (λW=>Touch (λk=>k=p\/k=w.heap.size\/k=w.heap.size + 1) w6 W) bC5 (Touch.of_below bR.drew) ?_;intro t1 c9 E;have bD:Qb w6 t1:=(by rw [c9];exact bR.drew);obtain ⟨R,RN,hc,ao⟩:=EN;clear bD c9;refine kQ 0 ?_;refine kQ 1 ?_;refine kN (k:=2) rfl bC5 rfl (λK H=>?_);obtain ⟨b9,cz,ck,c6,de,dh,dk,dm⟩:=yL R;obtain ⟨cd,cv,cw,c7,dd,di,dl,dj⟩:=kCz R;go_simp;generalize F:World.setCell (World.setCell (World.setCell (World.setCell (World.setCell (World.setCell (World.setCell (World.setCell t1 _ _) _ _) _ _) _ _) _ _) _ _) _ _) _ _=t2;have N:Touch (λk=>k=w.heap.size) t1 t2:=(by rw [<- F];exact sT8);replace R:Qr t2 w.heap.size #[Qs a0 x0 c0,Qn kc,Qs a1 xe c1,Qs a2 x2 c2,Qs a3 x3 c3,Qs a4 x4 c4,Qs a5 X c5,Qn o] 33:=(by rw [<- F];exact kF (kF (kF (kF (kF (kF (kF (kF (R) 0) 1) 2) 3) 4) 5) 6) 7);have d0:=N.size;clear F b9 cd cz cv ck cw c6 c7 de dd dh di dk dl dm dj;replace RN:=N.kC RN bD1;obtain ⟨hc,E⟩:=CR;clear N;refine H _ _ E ?_;clear H K;refine jD ?_;refine kN (k:=3) rfl bC5 rfl (λK H=>?_);obtain ⟨b9,cz,ck,c6,de,dh,dk,dm⟩:=yL RN;obtain ⟨cd,cv,cw,c7,dd,di,dl,dj⟩:=kCz RN;go_simp;generalize F:World.setCell (World.setCell (World.setCell (World.setCell (World.setCell (World.setCell (World.setCell (World.setCell t2 _ _) _ _) _ _) _ _) _ _) _ _) _ _) _ _=t3;have N:Touch (λk=>k=w.heap.size + 1) t2 t3:=(by rw [<- F];exact sT8);replace RN:Qr t3 (w.heap.size + 1) #[Qs a7 y0 bc,Qn an,Qs b0 ye bz,Qs bh y2 bq,Qs db y3 a9,Qs c8 y4 ba,Qs dc y5 b2,Qn y6] 33:=(by rw [<- F];exact kF (kF (kF (kF (kF (kF (kF (kF (RN) 0) 1) 2) 3) 4) 5) 6) 7);have dw:=N.size;clear F b9 cd cz cv ck cw c6 c7 de dd dh di dk dl dm dj;replace R:=N.kC R bD1;obtain ⟨hc,E⟩:=FB;clear N;refine H _ _ E ?_;clear H K;refine jD ?_;refine jW bC5 ?_;obtain ⟨aj,ai,am,ak,al,ag,af,ae⟩:=yL R;obtain ⟨ac,Y,ab,ah,U,aq,ar,au⟩:=yL RN;have zS:=E.size;go_wp2;refine Aa (v:=.tuple #[.agg #[Qs a0 x0 c0,Qn kc,Qs a1 xe c1,Qs a2 x2 c2,Qs a3 x3 c3,Qs a4 x4 c4,Qs a5 X c5,Qn o],.agg #[Qs a7 y0 bc,Qn an,Qs b0 ye bz,Qs bh y2 bq,Qs db y3 a9,Qs c8 y4 ba,Qs dc y5 b2,Qn y6]]) dH rfl ⟨[Qs a0 x0 c0,Qn kc,Qs a1 xe c1,Qs a2 x2 c2,Qs a3 x3 c3,Qs a4 x4 c4,Qs a5 X c5,Qn o],(x0,(kc,xe),x2,x3,x4,X,o),[.slice a7 y0.length bc,.int .i64 an,.slice b0 ye.length bz,.slice bh y2.length bq,.slice db y3.length a9,.slice c8 y4.length ba,.slice dc y5.length b2,.int .i64 y6],(y0,(an,ye),y2,y3,y4,y5,y6),rfl,?_,?_,?_⟩
   · exact (L.out.touch E nT).wide (T:=jU w.heap.size _) mU
   · exact (HY.out.touch E nT).wide (T:=jU w.heap.size _) mU
   exact (J.ja (S:=λk=>k=p) E wZ).below nL wW
 go_upto_region 3 with fail
 have FX:=yD (λ(W:Ab) (hW:Touch (λk=>k=p\/k=w.heap.size\/k=w.heap.size + 1) w4 W)=>And.intro (kE (hW.kC BX bD1) (j:=0) (v:=.slice a0 x0.length c0) rfl) (And.intro (kE (hW.kC BX bD1) (j:=1) (v:=.int .i64 kc) rfl) (And.intro (kE (hW.kC BX bD1) (j:=2) (v:=.slice a1 xe.length c1) rfl) (And.intro (kE (hW.kC BX bD1) (j:=3) (v:=.slice a2 x2.length c2) rfl) (And.intro (kE (hW.kC BX bD1) (j:=4) (v:=.slice a3 x3.length c3) rfl) (And.intro (kE (hW.kC BX bD1) (j:=5) (v:=.slice a4 x4.length c4) rfl) (And.intro (kE (hW.kC BX bD1) (j:=6) (v:=.slice a5 X.length c5) rfl) (kE (hW.kC BX bD1) (j:=7) (v:=.int .i64 o) rfl))))))))
 refine zY (λW=>Touch (λk=>k=p\/k=w.heap.size\/k=w.heap.size + 1) w4 W) bC5 (Touch.of_below bR.drew) ?_
 intro t1 c9 E
 have bD:Qb w4 t1:=(by rw [c9];exact bR.drew)
 obtain ⟨R,RN,hc,ao⟩:=EN
 clear bD c9
 refine kQ 0 ?_
 refine kQ 1 ?_
 refine kN (k:=2) rfl bC5 rfl (λK H=>?_)
 go_simp
 refine (kKn (cx:=[.slice a0 x0.length c0,.int .i64 kc,.slice a1 xe.length c1,.slice a2 x2.length c2,.slice a3 x3.length c3,.slice a4 x4.length c4,.slice a5 X.length c5,.int .i64 o]) (L.out.touch E nT).rd).mono ?_
 rintro e t2 ⟨cs,rfl,hO,hb⟩
 have d0:=hb.size
 replace R:=kC R hb
 replace RN:=kC RN hb
 replace hc:=hc.below hb
 replace E:=E.trans (Touch.of_below hb)
 clear hb
 obtain ⟨a7,bc,b0,bz,bh,bq,db,a9,c8,ba,dc,b2,rfl⟩:=yj hO.raw
 replace hO:je.own _ [Qs a7 x0 bc,Qn kc,Qs b0 xe bz,Qs bh x2 bq,Qs db x3 a9,Qs c8 x4 ba,Qs dc X b2,Qn o] (x0,(kc,xe),x2,x3,x4,X,o) _:=hO
 have HY:=yD (hO.ji)
 refine H _ _ E ?_
 clear H K
 refine jD ?_
 refine kN (k:=3) rfl bC5 rfl (λK H=>?_)
 obtain ⟨b9,cz,ck,c6,de,dh,dk,dm⟩:=yL R
 obtain ⟨cd,cv,cw,c7,dd,di,dl,dj⟩:=kCz R
 go_simp
 generalize F:World.setCell (World.setCell (World.setCell (World.setCell (World.setCell (World.setCell (World.setCell (World.setCell t2 _ _) _ _) _ _) _ _) _ _) _ _) _ _) _ _=t3
 obtain ⟨N,R,dw⟩:=DL
 clear F b9 cd cz cv ck cw c6 c7 de dd dh di dk dl dm dj
 replace RN:=N.kC RN bD1
 replace HY:=yD (HY.out.touch N nT)
 obtain ⟨hc,E⟩:=CR
 clear N
 refine H _ _ E ?_
 clear H K
 refine jD ?_
 refine kN (k:=4) rfl bC5 rfl (λK H=>?_)
 obtain ⟨b9,cz,ck,c6,de,dh,dk,dm⟩:=yL RN
 obtain ⟨cd,cv,cw,c7,dd,di,dl,dj⟩:=kCz RN
 go_simp
 generalize F:World.setCell (World.setCell (World.setCell (World.setCell (World.setCell (World.setCell (World.setCell (World.setCell t3 _ _) _ _) _ _) _ _) _ _) _ _) _ _) _ _=t4
 have N:Touch (λk=>k=w.heap.size + 1) t3 t4:=(by rw [<- F];exact sT8)
 replace RN:Qr t4 (w.heap.size + 1) #[Qs a7 x0 bc,Qn kc,Qs b0 xe bz,Qs bh x2 bq,Qs db x3 a9,Qs c8 x4 ba,Qs dc X b2,Qn o] 33:=(by rw [<- F];exact kF (kF (kF (kF (kF (kF (kF (kF (RN) 0) 1) 2) 3) 4) 5) 6) 7)
 have ap:=N.size
 clear F b9 cd cz cv ck cw c6 c7 de dd dh di dk dl dm dj
 replace R:=N.kC R bD1
 replace HY:=yD (HY.out.touch N nT)
 obtain ⟨hc,E⟩:=FB
 clear N
 refine H _ _ E ?_
 clear H K
 refine jD ?_
 refine jW bC5 ?_
 obtain ⟨aj,ai,am,ak,al,ag,af,ae⟩:=yL R
 obtain ⟨ac,Y,ab,ah,U,aq,ar,au⟩:=yL RN
 have zS:=E.size
 go_wp2
 refine Aa (v:=.tuple #[.agg #[Qs a0 x0 c0,Qn kc,Qs a1 xe c1,Qs a2 x2 c2,Qs a3 x3 c3,Qs a4 x4 c4,Qs a5 X c5,Qn o],.agg #[Qs a7 x0 bc,Qn kc,Qs b0 xe bz,Qs bh x2 bq,Qs db x3 a9,Qs c8 x4 ba,Qs dc X b2,Qn o]]) dH rfl ⟨[Qs a0 x0 c0,Qn kc,Qs a1 xe c1,Qs a2 x2 c2,Qs a3 x3 c3,Qs a4 x4 c4,Qs a5 X c5,Qn o],(x0,(kc,xe),x2,x3,x4,X,o),[.slice a7 x0.length bc,.int .i64 kc,.slice b0 xe.length bz,.slice bh x2.length bq,.slice db x3.length a9,.slice c8 x4.length ba,.slice dc X.length b2,.int .i64 o],(x0,(kc,xe),x2,x3,x4,X,o),rfl,?_,?_,?_⟩
 · exact (L.out.touch E nT).wide (T:=jU w.heap.size _) mU
 · exact HY.out.wide (T:=jU w.heap.size _) mU
 exact (J.ja (S:=λk=>k=p) E wZ).below nL wW
end Go.Proofs.YtjhfdpopkkmigaaGreat

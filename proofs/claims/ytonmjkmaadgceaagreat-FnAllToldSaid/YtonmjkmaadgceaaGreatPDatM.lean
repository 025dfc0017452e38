/-
  What data brings about: impl.
-/
import Derived.Test.YtonmjkmaadgceaaGreatPTold
set_option linter.unusedVariables false
set_option linter.unusedSimpArgs false
set_option linter.unnecessarySimpa false
set_option maxRecDepth 100000
set_option maxHeartbeats 8000000
namespace Go.Proofs.YtonmjkmaadgceaaGreat
open Go.RowKit _root_.Go.Proofs.Tryz
theorem kNw {w:World} {cx:List Value} {x:yI} (hx:yA.rd w cx x) {cp:List Value} {p:jS} (hp:je.rd w cp p) {f:Int} (hf:-9223372036854775808≤f∧f≤9223372036854775807) {cy:List Value} {y:jG} (hy:jA.rd w cy y) {t:Int} (ht:-9223372036854775808≤t∧t≤9223372036854775807) (hB:lenN 1048576 x) (h8:lenT p) (fk:y.2.1.length≤2000000) :
    Calls prog 10 #[.agg cx.toArray,.agg cp.toArray,.int .i64 f,.agg cy.toArray,.int .i64 t] w (kAn kXg (kQi x p f y t) w):=by
 obtain ⟨x0,⟨xc,xe⟩,x2,x3,x4,x5,x6⟩:=x
 obtain ⟨p0,p1,p2,p3⟩:=p
 obtain ⟨y0,y1,y2,y3,y4⟩:=y
 have HX:=yD hx
 have HP:=yD hp
 have HY:=yD hy
 have HF:=yD hf
 have iu:=yD ht
 have im:=yD h8
 have iv:=yD fk
 obtain ⟨ez,e9,f9,f8,f2,f1,rfl,ac,ay,a3,a5,ba,bg,b2,da,dd⟩:=zf hx.1
 obtain ⟨cl,b6,rfl,e1⟩:=kE.sl ac
 obtain ⟨c6,c5,rfl,fa⟩:=kE.sl a5
 obtain ⟨dq,dp,rfl,f3⟩:=kE.sl ba
 obtain ⟨ee,eb,rfl,f7⟩:=kE.sl bg
 obtain ⟨d3,dw,rfl,gd⟩:=kE.sl b2
 obtain ⟨d4,dr,rfl,f5⟩:=kE.sl da
 obtain ⟨h7,jx,iw,ik,rfl,a4,dg,ew,fj⟩:=zb hp.1
 obtain ⟨fm,fn,rfl,ir⟩:=kE.sl a4
 obtain ⟨fr,fp,rfl,ju⟩:=kE.sl dg
 obtain ⟨ej,ek,rfl,jn⟩:=kE.sl ew
 obtain ⟨ef,d9,rfl,i9⟩:=kE.sl fj
 obtain ⟨iy,jt,ih,rfl,e4,e5,gx,gl,fi,fl,gm⟩:=jN hy.1
 obtain ⟨ff,fd,rfl,io⟩:=kE.sl e5
 obtain ⟨h4,hw,rfl,jz⟩:=kE.sl gx
 obtain ⟨g7,g6,rfl,iq⟩:=kE.sl fi
 have it:Hid ((kE.slice 71 kJ).rd w [.slice dq x2.length dp] x2):=yD ⟨ba,hx.2.2.2.1⟩
 have ig:Hid (kN.rd w [.int .i64 xc,.slice c6 xe.length c5] (xc,xe)):=yD ⟨ay,hx.2.2.1⟩
 have h5:Hid ((kE.slice 102 jT).rd w [.slice d3 x4.length dw] x4):=yD ⟨b2,hx.2.2.2.2.2.1⟩
 have ia:Hid ((kE.slice 105 kL).rd w [.slice d4 x5.length dr] x5):=yD ⟨da,hx.2.2.2.2.2.2.1⟩
 have hq:Hid ((kE.slice 43 jA).raw w [.slice cl x0.length b6] x0):=yD ac
 have fh:Hid (kM.rd w [.slice ff y0.length fd] y0):=yD ⟨e4,hy.2.1⟩
 have fc:xe.length≤16777215:=Nat.le_trans hB.2.1.2.1 bB8
 have fe:x3.length≤2000000:=Nat.le_trans hB.2.2.2.1.1 bB8
 clear hx hp hy hf ht hB h8 fk ac ay a3 a5 ba bg b2 da dd a4 dg ew fj e4 e5 gx gl fi fl gm
 go_enter func10,ntmps10
 go_upto_region 1 with fail
 generalize F:World.alloc (World.alloc (World.alloc (World.alloc w _) _) _) _=w1
 have X:Below w.heap.size w w1:=by rw [← F];exact bI
 have BX:w1.heap[w.heap.size]?=some (.cells #[.slice cl x0.length b6,.int .i64 xc,.slice c6 xe.length c5,.slice dq x2.length dp,.slice ee x3.length eb,.slice d3 x4.length dw,.slice d4 x5.length dr,.int .i64 x6] 33 (0,0)):=by rw [← F];exact jC (jC (jC (kG rfl)))
 have BT:w1.heap[w.heap.size + 1]?=some (.cells #[.slice fm p0.length fn,.slice fr p1.length fp,.slice ej p2.length ek,.slice ef p3.length d9] 38 (0,0)):=by rw [← F];exact jC (jC (kG bC0))
 have BD:w1.heap[w.heap.size + 2]?=some (.cells #[.slice ff y0.length fd,.slice h4 y1.length hw,.slice g7 y2.length g6,.int .i64 y3,.int .i64 y4] 43 (0,0)):=by rw [← F];exact jC (kG bC0)
 have BR:w1.heap[w.heap.size + 3]?=some (.cells #[.slice none 0 0,.int .i64 0,.slice none 0 0,.slice none 0 0,.slice none 0 0,.slice none 0 0,.slice none 0 0,.int .i64 0,.slice none 0 0] 52 (0,0)):=by rw [← F];exact kG bC0
 have bn:w.heap.size + 4≤w1.heap.size:=bA3
 clear F
 obtain ⟨aa,ab,an,ak,al,aj,am,ao⟩:=zt BX
 go_wp2_with fail
 refine (kTk (HX.out.below X)).mono ?_
 rintro e V ⟨cs,rfl,O,hb⟩
 have bo:=hb.size
 replace BX:=kD BX hb
 replace BT:=kD BT hb
 replace BD:=kD BD hb
 replace BR:=kD BR hb
 replace X:=(tQ X hb)
 clear aa ab an ak al aj am ao
 clear hb
 obtain ⟨ij,il,jp,jk,i7,i5,rfl,fv,gv,gu,gt,gj,gz,g4,h3,iz⟩:=zf O.raw
 obtain ⟨db,dc,rfl,ii⟩:=kE.sl fv
 obtain ⟨df,dn,rfl,i0⟩:=kE.sl gt
 obtain ⟨gb,gq,rfl,i8⟩:=kE.sl gj
 obtain ⟨fw,f4,rfl,js⟩:=kE.sl gz
 obtain ⟨de,dk,rfl,i6⟩:=kE.sl g4
 obtain ⟨eq,ex,rfl,i4⟩:=kE.sl h3
 clear fv gv gu gt gj gz g4 h3 iz
 go_upto_region 2 with fail
 have L:=yD O
 clear O
 replace L:=yD (L.out.wide (T:=(fun j=>w.heap.size + 4≤j∧j < V.heap.size∧j≠V.heap.size)) (fun j q=>⟨by have:=q.1;omega,by have:=q.2;omega,by have:=q.2;omega⟩))
 generalize F:World.alloc V _=w3
 have ap:Below V.heap.size V w3:=rX
 have I:w3.heap[V.heap.size]?=some (.cells #[.slice db x0.length dc,.int .i64 xc,.slice df xe.length dn,.slice gb x2.length gq,.slice fw x3.length f4,.slice de x4.length dk,.slice eq x5.length ex,.int .i64 x6,.slice none 0 0] 52 (0,0)):=tX
 have bp:V.heap.size + 1≤w3.heap.size:=bA3
 clear F
 replace BX:=kD BX ap
 replace BT:=kD BT ap
 replace BD:=kD BD ap
 obtain ⟨BR,L,X⟩:=D5
 clear ap
 obtain ⟨aa,ab,an,ak,al,aj,am,ao⟩:=zt BX
 obtain ⟨a8,az,a7,a6⟩:=kAh BT
 obtain ⟨bt,br,bv,bz,bw⟩:=jU BD
 go_wp2_with fail
 refine (kGu (HX.out.below X) (HP.out.below X) im.out (HY.out.below X) iv.out).mono ?_
 rintro e w4 ⟨rfl,hb⟩
 have b9:=hb.size
 replace BX:=kD BX hb
 replace BT:=kD BT hb
 replace BD:=kD BD hb
 obtain ⟨BR,I,L,X⟩:=qW
 clear aa ab an ak al aj am ao a8 az a7 a6 bt br bv bz bw
 clear hb
 cases hm:kBt (x0,(xc,xe),x2,x3,x4,x5,x6) (p0,p1,p2,p3) (y0,y1,y2,y3,y4) t
 · have U:=yD (procD_no (f:=f) hm)
   obtain ⟨H,G,Z,D,af,be,bc,bf,a9⟩:=kBi I
   obtain ⟨ah,ai,bj,bl,bq,ci,ce,b4,cc⟩:=kFw I
   go_upto_region 4 with fail
   generalize hc:wrap64 (x6 + 1)=y6
   have ic:Hid (-9223372036854775808≤y6∧y6≤9223372036854775807):=yD (by rw [← hc];exact wrap_rng _)
   have gf:=yD (show dropN (x0,(xc,xe),x2,x3,x4,x5,x6)=(x0,(xc,xe),x2,x3,x4,x5,y6) by rw [dropN_eq,hc])
   clear hc
   generalize F:World.setCell w4 _ _=w5
   have cz:Touch (fun k=>k=V.heap.size) w4 w5:=by rw [← F];exact kC w4 (V.heap.size) 7 _
   replace I:w5.heap[V.heap.size]?=some (.cells #[.slice db x0.length dc,.int .i64 xc,.slice df xe.length dn,.slice gb x2.length gq,.slice fw x3.length f4,.slice de x4.length dk,.slice eq x5.length ex,.int .i64 y6,.slice none 0 0] 52 (0,0)):=by rw [← F];exact kH I 7
   have cd:=cz.size
   clear F
   replace BX:=cz.kD BX bB9
   replace BT:=cz.kD BT bB9
   replace BD:=cz.kD BD bB9
   replace BR:=cz.kD BR bB9
   replace L:=yD (L.out.touch cz qB)
   replace X:=X.trans (cz.below X.size wB)
   clear H G Z D af be bc bf a9 ah ai bj bl bq ci ce b4 cc
   clear cz
   replace L:=yD (kWs L.out ic.out)
   obtain ⟨H,G,Z,D,af,be,bc,bf,a9⟩:=kBi I
   obtain ⟨ax,a1,cq,ck,cw,dv,dt,d2,dy⟩:=kBi BR
   obtain ⟨ar,aq,cj,co,cv,d5,d7,d6,d8⟩:=kFw BR
   go_wp2
   refine bodyPost_ret (v:=.agg #[.slice db x0.length dc,.int .i64 xc,.slice df xe.length dn,.slice gb x2.length gq,.slice fw x3.length f4,.slice de x4.length dk,.slice eq x5.length ex,.int .i64 y6,.slice none 0 0]) dB rfl ⟨[.slice db x0.length dc,.int .i64 xc,.slice df xe.length dn,.slice gb x2.length gq,.slice fw x3.length f4,.slice de x4.length dk,.slice eq x5.length ex,.int .i64 y6,.slice none 0 0],rfl,?_,?_⟩
   · rw [U.out,gf.out];exact kTu (B:=fun _=>False) (L.out.touch (((((((((kC _ _ _ _).trans (kC _ _ _ _)).trans (kC _ _ _ _)).trans (kC _ _ _ _)).trans (kC _ _ _ _)).trans (kC _ _ _ _)).trans (kC _ _ _ _)).trans (kC _ _ _ _)).trans (kC _ _ _ _)) rR) kE.jf fG (fun _ h=>h.elim) (fun _ _ h=>h)
   exact X.trans (Touch.below (((((((((kC _ _ _ _).trans (kC _ _ _ _)).trans (kC _ _ _ _)).trans (kC _ _ _ _)).trans (kC _ _ _ _)).trans (kC _ _ _ _)).trans (kC _ _ _ _)).trans (kC _ _ _ _)).trans (kC _ _ _ _)) X.size wB)
 have gp:=yD hm
 clear hm
 obtain ⟨aa,ab,an,ak,al,aj,am,ao⟩:=zt BX
 obtain ⟨bt,br,bv,bz,bw⟩:=jU BD
 go_wp2_with fail
 refine (kUk (it.out.below X) (cn:=[.slice ff y0.length fd]) (fh.out.below X)).mono ?_
 rintro e w5 ⟨v4,u4,rfl,O4,hb⟩
 have cd:=hb.size
 replace BX:=kD BX hb
 replace BT:=kD BT hb
 replace BD:=kD BD hb
 obtain ⟨BR,I,L,X⟩:=qW
 clear aa ab an ak al aj am ao bt br bv bz bw
 clear hb
 obtain ⟨P,hP⟩:∃ P,satP y0 x2=P:=⟨_,rfl⟩
 obtain ⟨R,hR⟩:∃ R,kFt y0 x2=R:=⟨_,rfl⟩
 rw [hP,hR] at O4
 have gs:=yD hP
 have fu:=yD hR
 clear hP hR
 obtain ⟨SA,SB,OA,OB,hr,hSB,_⟩:=kE.pair_own2 O4
 obtain ⟨pa,pc,rfl,_⟩:=kE.sl OA.raw
 obtain ⟨ra,rc,rfl,_⟩:=kE.sl OB.raw
 clear O4
 have hd:R.length≤16777216:=OB.2.1
 have c9:=yD (OB.wide (T:=fun j=>w.heap.size + 4≤j∧j < w5.heap.size∧j≠V.heap.size) (fun j q=>by have:=hSB j q;exact ⟨by have:=this.1;omega,this.2,by have:=this.1;omega⟩))
 clear OB hSB
 have ag:=yD ((kNo L.out OA (fun j h1 h2=>by have:=h1.2.1;have:=(hr j h2).1;omega)).wide (T:=(fun j=>w.heap.size + 4≤j∧j < w5.heap.size∧j≠V.heap.size)) (fun j q=>q.elim (fun q=>⟨q.1,by omega,q.2.2⟩) (fun q=>by have:=hr j q;exact ⟨by have:=this.1;omega,this.2,by have:=this.1;omega⟩)))
 clear L OA hr
 obtain ⟨H,G,Z,D,af,be,bc,bf,a9⟩:=kBi I
 obtain ⟨ah,ai,bj,bl,bq,ci,ce,b4,cc⟩:=kFw I
 go_upto_region 7 with fail
 generalize F:World.setCell w5 _ _=w6
 have N:Touch (fun k=>k=V.heap.size) w5 w6:=qA
 replace I:w6.heap[V.heap.size]?=some (.cells #[.slice db x0.length dc,.int .i64 xc,.slice df xe.length dn,.slice pa P.length pc,.slice fw x3.length f4,.slice de x4.length dk,.slice eq x5.length ex,.int .i64 x6,.slice none 0 0] 52 (0,0)):=by rw [← F];exact kH I 3
 have c8:=N.size
 clear F
 replace BX:=N.kD BX bB9
 replace BT:=N.kD BT bB9
 replace BD:=N.kD BD bB9
 replace BR:=N.kD BR bB9
 replace ag:=yD (ag.out.touch N qB)
 replace c9:=yD (c9.out.touch N qB)
 replace X:=X.trans (N.below X.size wB)
 clear H G Z D af be bc bf a9 ah ai bj bl bq ci ce b4 cc
 clear N
 have L:=yD (ag.out.wide (T:=(fun j=>w.heap.size + 4≤j∧j < w6.heap.size∧j≠V.heap.size)) (fun j q=>⟨q.1,by omega,q.2.2⟩))
 clear ag
 replace c9:=yD (c9.out.wide (T:=(fun j=>w.heap.size + 4≤j∧j < w6.heap.size∧j≠V.heap.size)) pO)
 go_wp2
 go_loopw [47] (fun i wr=>∃ (k:Nat) (ga sa:Option Addr) (gn gc sn sc:Nat) (S1:Nat→Prop),i=.int .i64 k∧k≤R.length∧Hid (kE.ku 81 ze wr (.slice ga gn gc) (kAd f (y0,y1,y2,y3,y4) (R.take k)) (fun j=>w6.heap.size≤j∧j < wr.heap.size∧¬ S1 j))∧Hid (yA.own wr [.slice db x0.length dc,.int .i64 xc,.slice df xe.length dn,.slice pa P.length pc,.slice sa sn sc,.slice de x4.length dk,.slice eq x5.length ex,.int .i64 x6] (x0,(xc,xe),P,(kGl y0 x3 (R.take k)),x4,x5,x6) (fun j=>w.heap.size + 4≤j∧j < wr.heap.size∧j≠V.heap.size∧S1 j))∧Hid ((kE.slice 73 jH).own wr [.slice ra R.length rc] R (fun j=>w.heap.size + 4≤j∧j < w6.heap.size∧j≠V.heap.size))∧wr.heap[w.heap.size]?=some (.cells #[.slice cl x0.length b6,.int .i64 xc,.slice c6 xe.length c5,.slice dq x2.length dp,.slice ee x3.length eb,.slice d3 x4.length dw,.slice d4 x5.length dr,.int .i64 x6] 33 (0,0))∧wr.heap[w.heap.size + 2]?=some (.cells #[.slice ff y0.length fd,.slice h4 y1.length hw,.slice g7 y2.length g6,.int .i64 y3,.int .i64 y4] 43 (0,0))∧wr.heap[w.heap.size + 3]?=some (.cells #[.slice none 0 0,.int .i64 0,.slice none 0 0,.slice none 0 0,.slice none 0 0,.slice none 0 0,.slice none 0 0,.int .i64 0,.slice none 0 0] 52 (0,0))∧wr.heap[V.heap.size]?=some (.cells #[.slice db x0.length dc,.int .i64 xc,.slice df xe.length dn,.slice pa P.length pc,.slice sa sn sc,.slice de x4.length dk,.slice eq x5.length ex,.int .i64 x6,.slice ga gn gc] 52 (0,0))∧w6.heap.size≤wr.heap.size∧Below w.heap.size w wr) (fun i _=>R.length - (intOf i).toNat)
 case atStart=>exact ⟨0,none,fw,0,0,x3.length,f4,fun j=>j < w6.heap.size,rfl,Nat.zero_le _,yD kE.ku.void,yD (L.out.wide (fun j q=>⟨q.1,q.2.1,q.2.2,q.2.1⟩)),c9,BX,BD,BR,I,Nat.le_refl _,X⟩
 rename World=>wq
 clear L c9 BX BD BR I BT X
 obtain ⟨k,ga,sa,gn,gc,sn,sc,S1,rfl,hk,HQ,L,c9,BX,BD,BR,I,hn,X⟩:=hrel
 have di:=Int.natCast_nonneg k
 by_cases hlt:k < R.length
 · have en:=Int.ofNat_lt.2 hlt
   obtain ⟨rb,ro,rfl,g0,g1,g2,gr,G0,G1,G2⟩:=kE.kDv c9.out.raw hlt rfl
   obtain ⟨_,i3,jj,hz,f6,_⟩:=kE.kHv c9.out bB9
   simp only [Option.some.injEq,Addr.mk.injEq,and_true] at hz
   obtain ⟨rfl,rfl⟩:=hz
   have i1:=f6.2.1
   have i2:=f6.2.2
   clear f6
   obtain ⟨ge,hv,h6,id⟩:=zP gr
   simp only [List.cons.injEq,and_true] at ge
   obtain ⟨rfl,rfl,rfl⟩:=ge
   have b1:=seenF_next (n:=y0) (s:=x3) hlt
   have hj:=fun q=>kVw (f:=f) (y:=(y0,y1,y2,y3,y4)) hlt q
   have e0:=fun q=>dataQ_no (f:=f) (y:=(y0,y1,y2,y3,y4)) hlt q
   obtain ⟨s,hs⟩:∃ s,kGl y0 x3 (R.take k)=s:=⟨_,rfl⟩
   rw [hs] at L b1
   have e7:s.length≤2000000:=by have:=seenF_len y0 x3 (R.take k);rw [hs] at this;omega
   clear hs
   obtain ⟨Q,fo⟩:∃ Q,kAd f (y0,y1,y2,y3,y4) (R.take k)=Q:=⟨_,rfl⟩
   have gh:Q.length≤16777216:=by rw [← fo];have h1:=kPq f (y0,y1,y2,y3,y4) (R.take k);have h2:(R.take k).length≤k:=List.length_take_le _ _;omega
   rw [fo] at HQ hj e0
   clear fo
   generalize R[k]=z at *
   obtain ⟨z0,z1,z2⟩:=z
   have bu:=yD b1
   have ie:=yD hj
   have ib:=yD e0
   have ip:Hid (-9223372036854775808≤z0∧z0≤9223372036854775807):=yD hv
   have h0:Hid (-9223372036854775808≤z1∧z1≤9223372036854775807):=yD h6
   clear b1 hj e0 gr hv h6 id
   obtain ⟨SX,gy⟩:∃ SX:Nat→Prop,∀ j,SX j↔(S1 j∧j < wq.heap.size):=⟨_,fun _=>Iff.rfl⟩
   replace L:=yD (L.out.wide (T:=(fun j=>w.heap.size + 4≤j∧j < wq.heap.size∧j≠V.heap.size∧SX j)) (fun j q=>⟨q.1,q.2.1,q.2.2.1,(gy j).2 ⟨q.2.2.2,q.2.1⟩⟩))
   replace HQ:=yD (HQ.out.wide (T:=(fun j=>w6.heap.size≤j∧j < wq.heap.size∧¬ SX j)) (fun j q=>⟨q.1,q.2.1,fun h=>q.2.2 ((gy j).1 h).1⟩))
   have g9:∀ j,SX j→j < wq.heap.size:=fun j h=>((gy j).1 h).2
   clear gy
   go_upto_region 10 with fail
   generalize F:World.alloc wq _=w8
   have c1:Below wq.heap.size wq w8:=rX
   have BQ:w8.heap[wq.heap.size]?=some (.cells #[.int .i64 z0,.int .i64 z1,.int .i64 z2] 73 (0,0)):=tX
   have eg:wq.heap.size + 1≤w8.heap.size:=bA3
   clear F
   replace BX:=kD BX c1
   replace BD:=kD BD c1
   replace BR:=kD BR c1
   replace I:=kD I c1
   replace G0:=cL c1 G0
   replace G1:=cL c1 G1
   replace G2:=cL c1 G2
   replace c9:=yD (c9.out.below c1)
   replace L:=yD (L.out.below c1)
   replace HQ:=yD (HQ.out.below c1)
   replace X:=(tQ X c1)
   clear c1
   obtain ⟨bx,b5,b8⟩:=rowC3 BQ
   by_cases hne:z0=f
   · clear bx b5 b8
     obtain ⟨H,G,Z,D,af,be,bc,bf,a9⟩:=kBi I
     obtain ⟨bt,br,bv,bz,bw⟩:=jU BD
     obtain ⟨bx,b5,b8⟩:=rowC3 BQ
     obtain ⟨ah,ai,bj,bl,bq,ci,ce,b4,cc⟩:=kFw I
     go_wp2_with fail
     refine (kFz (kVk L.out.rd) e7 (cn:=[.slice ff y0.length fd]) (fh.out.below X) h0.out).mono ?_
     rintro e w9 ⟨v9,rfl,O9,hb⟩
     have dm:=hb.size
     obtain ⟨BX,BD,BR,I⟩:=uR
     replace BQ:=kD BQ hb
     replace c9:=yD (c9.out.below hb)
     obtain ⟨L,HQ,X⟩:=xU
     clear H G Z D af be bc bf a9 bt br bv bz bw bx b5 b8 ah ai bj bl bq ci ce b4 cc
     clear hb
     obtain ⟨s2,c7⟩:∃ s2,zF s y0 z1=s2:=⟨_,rfl⟩
     rw [c7] at O9
     have c4:=yD (show kGl y0 x3 (R.take (k + 1))=s2 from bu.out.trans c7)
     clear c7
     obtain ⟨va,vc,rfl,_⟩:=kE.sl O9.raw
     obtain ⟨SN,ft⟩:∃ SN:Nat→Prop,∀ j,SN j↔(SX j∨(w8.heap.size≤j∧j < w9.heap.size)):=⟨_,fun _=>Iff.rfl⟩
     have ag:=yD ((kIu L.out O9 nP).wide (T:=(fun j=>w.heap.size + 4≤j∧j < w9.heap.size∧j≠V.heap.size∧SN j)) bH)
     replace HQ:=yD (HQ.out.wide (T:=(fun j=>w6.heap.size≤j∧j < w9.heap.size∧¬ SN j)) bZ)
     clear L O9
     obtain ⟨H,G,Z,D,af,be,bc,bf,a9⟩:=kBi I
     obtain ⟨ah,ai,bj,bl,bq,ci,ce,b4,cc⟩:=kFw I
     go_upto_region 13 with fail
     generalize F:World.setCell w9 _ _=b3
     have ae:Touch (fun k=>k=V.heap.size) w9 b3:=by rw [← F];exact kC w9 (V.heap.size) 4 _
     replace I:b3.heap[V.heap.size]?=some (.cells #[.slice db x0.length dc,.int .i64 xc,.slice df xe.length dn,.slice pa P.length pc,.slice va s2.length vc,.slice de x4.length dk,.slice eq x5.length ex,.int .i64 x6,.slice ga gn gc] 52 (0,0)):=vF
     have d0:=ae.size
     clear F
     replace BX:=ae.kD BX bB9
     replace BD:=ae.kD BD bB9
     replace BR:=ae.kD BR bB9
     replace BQ:=ae.kD BQ bB9
     replace c9:=yD (c9.out.touch ae qB)
     replace HQ:=yD (HQ.out.touch ae qB)
     replace ag:=yD (ag.out.touch ae qB)
     replace X:=X.trans (ae.below X.size wB)
     clear H G Z D af be bc bf a9 ah ai bj bl bq ci ce b4 cc
     clear ae
     go_wp2
     go_roundw
     case rel=>exact ⟨k + 1,ga,va,gn,gc,s2.length,vc,SN,by go_num,by omega,yD ((kE.ku.cast HQ.out (ib.out hne).symm).wide pO),yD dV,c9,BX,BD,BR,I,by omega,X⟩
     simp [intOf];omega
   clear bx b5 b8
   obtain ⟨H,G,Z,D,af,be,bc,bf,a9⟩:=kBi I
   obtain ⟨bt,br,bv,bz,bw⟩:=jU BD
   obtain ⟨bx,b5,b8⟩:=rowC3 BQ
   go_upto_region 11 with fail
   have FX:=yD (fun (W:World) (hW:Below w8.heap.size w8 W)=>cLs7 hW a9 bt br bv bz bw bx)
   refine jd (fun W=>Below w8.heap.size w8 W) [true,true,true,true,true,false,true,false] bB4 bB4 qD (bR.drew) ?_
   intro wS E
   iterate 5
    all_goals refine kS ?_
   all_goals first|(refine kK rfl E ?_)|(refine ko rfl (fun K J=>?_);go_simp;refine (kAj (HY.out.below (tQ X E))).mono ?_;rintro e wT ⟨tc,rfl,O,au⟩;obtain ⟨dh,el,eu,rfl,a2,bk,bm,b7,c2,dl,dj⟩:=jN O.raw;obtain ⟨av,bh,rfl,et⟩:=kE.sl bk;skip;obtain ⟨bd,cu,rfl,er⟩:=kE.sl bm;skip;obtain ⟨aw,bi,rfl,eo⟩:=kE.sl c2;skip;clear a2 bk bm b7 c2 dl dj;have ed:=yD O;have ha:=au.size;have em:=E.size;replace E:=(tQ E au);refine J _ _ E ?_;clear J K au O)
   all_goals refine kX ?_
   all_goals refine kS ?_
   all_goals first|(refine kK rfl E ?_)|(refine ko rfl (fun K J=>?_);go_simp;refine J _ _ (E.alloc E.size _) ?_;clear J K)
   all_goals refine kX ?_
   all_goals refine jq ?_
   have fg:=E.size
   go_wp2_with (at_builtin;refine kE.kAr rfl _ _ 50 rfl (r:=ze) (e:=81) underlying50 kQm rfl bB8 bB8 (w:=wT) (HQ.out.below E) bC1 bC1 rfl (out1_own ip.out ed.out) rfl nP bB9 ?_)
   intro v2 w9 hQ ch
   have hh:Touch (fun j=>w6.heap.size≤j∧j < wq.heap.size∧¬ SX j) w8 w9:=(Touch.of_below (E.alloc E.size _)).trans (ch.wide (fun j q=>q.2))
   have Y:Touch (fun j=>w6.heap.size≤j∧j < wq.heap.size) w8 w9:=hh.wide (fun j q=>⟨q.1,q.2.1⟩)
   have dm:=Y.size
   have ey:=ch.size
   have f0:wT.heap.size + 1≤w9.heap.size:=wZ
   clear ch ey
   replace L:=yD (L.out.touch hh (fun j h1 h2=>h2.2.2 h1.2.2.2))
   clear HQ ed hh
   obtain ⟨g3,n3,c3,rfl⟩:∃ a n c,v2=.slice a n c:=by obtain ⟨a,c,h⟩:=kE.ku.zL hQ;exact ⟨a,_,c,h⟩
   have HQ:=yD (kE.ku.wide (T:=(fun j=>w6.heap.size≤j∧j < w9.heap.size∧¬ SX j)) hQ (fun j q=>by rcases q with q | q | q;exact ⟨q.1,by have:=q.2.1;omega,q.2.2⟩;exact ⟨by have:=q.1;omega,by have:=q.2;omega,fun h=>by have:=g9 j h;have:=q.1;omega⟩;exact ⟨by have:=q.1;omega,q.2,fun h=>by have:=g9 j h;have:=q.1;omega⟩))
   clear hQ
   replace BX:=Y.kD BX bB9
   replace BD:=Y.kD BD bB9
   replace BR:=Y.kD BR bB9
   replace I:=Y.kD I bB9
   replace BQ:=Y.kD BQ bB9
   replace c9:=yD (c9.out.touch Y qB)
   replace X:=X.trans (Y.below X.size wB)
   clear H G Z D af be bc bf a9 bt br bv bz bw bx b5 b8
   clear Y E
   obtain ⟨H,G,Z,D,af,be,bc,bf,a9⟩:=kBi I
   obtain ⟨ah,ai,bj,bl,bq,ci,ce,b4,cc⟩:=kFw I
   go_upto_region 12 with fail
   generalize F:World.setCell w9 _ _=b3
   have ae:Touch (fun k=>k=V.heap.size) w9 b3:=by rw [← F];exact kC w9 (V.heap.size) 8 _
   replace I:b3.heap[V.heap.size]?=some (.cells #[.slice db x0.length dc,.int .i64 xc,.slice df xe.length dn,.slice pa P.length pc,.slice sa sn sc,.slice de x4.length dk,.slice eq x5.length ex,.int .i64 x6,.slice g3 n3 c3] 52 (0,0)):=by rw [← F];exact kH I 8
   have d0:=ae.size
   clear F
   replace BX:=ae.kD BX bB9
   replace BD:=ae.kD BD bB9
   replace BR:=ae.kD BR bB9
   replace BQ:=ae.kD BQ bB9
   replace c9:=yD (c9.out.touch ae qB)
   replace L:=yD (L.out.touch ae qB)
   replace HQ:=yD (HQ.out.touch ae qB)
   replace X:=X.trans (ae.below X.size wB)
   clear H G Z D af be bc bf a9 ah ai bj bl bq ci ce b4 cc
   clear ae
   obtain ⟨H,G,Z,D,af,be,bc,bf,a9⟩:=kBi I
   obtain ⟨bt,br,bv,bz,bw⟩:=jU BD
   obtain ⟨bx,b5,b8⟩:=rowC3 BQ
   obtain ⟨ah,ai,bj,bl,bq,ci,ce,b4,cc⟩:=kFw I
   go_wp2_with fail
   refine (kFz (kVk L.out.rd) e7 (cn:=[.slice ff y0.length fd]) (fh.out.below X) h0.out).mono ?_
   rintro e cf ⟨v9,rfl,O9,hb⟩
   have e6:=hb.size
   obtain ⟨BX,BD,BR,I⟩:=uR
   replace BQ:=kD BQ hb
   replace c9:=yD (c9.out.below hb)
   obtain ⟨L,HQ,X⟩:=xU
   clear H G Z D af be bc bf a9 bt br bv bz bw bx b5 b8 ah ai bj bl bq ci ce b4 cc
   clear hb
   obtain ⟨s2,c7⟩:∃ s2,zF s y0 z1=s2:=⟨_,rfl⟩
   rw [c7] at O9
   have c4:=yD (show kGl y0 x3 (R.take (k + 1))=s2 from bu.out.trans c7)
   clear c7
   obtain ⟨va,vc,rfl,_⟩:=kE.sl O9.raw
   obtain ⟨SN,ft⟩:∃ SN:Nat→Prop,∀ j,SN j↔(SX j∨(b3.heap.size≤j∧j < cf.heap.size)):=⟨_,fun _=>Iff.rfl⟩
   have ag:=yD ((kIu L.out O9 nP).wide (T:=(fun j=>w.heap.size + 4≤j∧j < cf.heap.size∧j≠V.heap.size∧SN j)) bH)
   replace HQ:=yD (HQ.out.wide (T:=(fun j=>w6.heap.size≤j∧j < cf.heap.size∧¬ SN j)) bZ)
   clear L O9
   obtain ⟨H,G,Z,D,af,be,bc,bf,a9⟩:=kBi I
   obtain ⟨ah,ai,bj,bl,bq,ci,ce,b4,cc⟩:=kFw I
   go_upto_region 13 with fail
   generalize F:World.setCell cf _ _=cg
   have b0:Touch (fun k=>k=V.heap.size) cf cg:=by rw [← F];exact kC cf (V.heap.size) 4 _
   replace I:cg.heap[V.heap.size]?=some (.cells #[.slice db x0.length dc,.int .i64 xc,.slice df xe.length dn,.slice pa P.length pc,.slice va s2.length vc,.slice de x4.length dk,.slice eq x5.length ex,.int .i64 x6,.slice g3 n3 c3] 52 (0,0)):=vF
   have e8:=b0.size
   clear F
   replace BX:=b0.kD BX bB9
   replace BD:=b0.kD BD bB9
   replace BR:=b0.kD BR bB9
   replace BQ:=b0.kD BQ bB9
   replace c9:=yD (c9.out.touch b0 qB)
   replace HQ:=yD (HQ.out.touch b0 qB)
   replace ag:=yD (ag.out.touch b0 qB)
   replace X:=X.trans (b0.below X.size wB)
   clear H G Z D af be bc bf a9 ah ai bj bl bq ci ce b4 cc
   clear b0
   go_wp2
   go_roundw
   case rel=>exact ⟨k + 1,g3,va,n3,c3,s2.length,vc,SN,by go_num,by omega,yD ((kE.ku.cast HQ.out (ie.out hne).symm).wide pO),yD dV,c9,BX,BD,BR,I,by omega,X⟩
   simp [intOf];omega
 obtain rfl:k=R.length:=bB9
 have g8:¬ ((R.length:Int) < R.length):=bB9
 rw [List.take_length] at HQ L
 obtain ⟨s,hs⟩:∃ s,kGl y0 x3 R=s:=⟨_,rfl⟩
 obtain ⟨Q,fo⟩:∃ Q,kAd f (y0,y1,y2,y3,y4) R=Q:=⟨_,rfl⟩
 have gh:Q.length≤Big:=by rw [← fo];exact Nat.le_trans (kPq _ _ _) hd
 rw [hs] at L
 rw [fo] at HQ
 have g5:=yD hs
 have e3:=yD fo
 clear hs fo c9
 obtain ⟨aa,ab,an,ak,al,aj,am,ao⟩:=zt BX
 obtain ⟨bt,br,bv,bz,bw⟩:=jU BD
 go_wp2_with fail
 refine (kLx (hq.out.below X) (cn:=[.slice ff y0.length fd]) (fh.out.1.below X)).mono ?_
 rintro e w8 ⟨rfl,hb⟩
 have eg:=hb.size
 obtain ⟨BX,BD,BR,I⟩:=uR
 obtain ⟨L,HQ,X⟩:=xU
 clear aa ab an ak al aj am ao bt br bv bz bw
 clear hb
 by_cases gw:idxOf (isD y0) x0 < 0
 · have aa:w8.cell? ⟨w.heap.size,0,none⟩=some (.slice cl x0.length b6):=kF BX rfl
   have ab:w8.cell? ⟨w.heap.size,1,none⟩=some (.int .i64 xc):=kF BX rfl
   have an:w8.cell? ⟨w.heap.size,2,none⟩=some (.slice c6 xe.length c5):=kF BX rfl
   have ak:w8.cell? ⟨w.heap.size,3,none⟩=some (.slice dq x2.length dp):=kF BX rfl
   have al:w8.cell? ⟨w.heap.size,4,none⟩=some (.slice ee x3.length eb):=kF BX rfl
   have aj:w8.cell? ⟨w.heap.size,5,none⟩=some (.slice d3 x4.length dw):=kF BX rfl
   have am:w8.cell? ⟨w.heap.size,6,none⟩=some (.slice d4 x5.length dr):=kF BX rfl
   have ao:w8.cell? ⟨w.heap.size,7,none⟩=some (.int .i64 x6):=kF BX rfl
   obtain ⟨bt,br,bv,bz,bw⟩:=jU BD
   go_wp2_with fail
   refine (kRh (ig.out.below X) (HY.out.below X) iu.out fc).mono ?_
   rintro e w9 ⟨ec,rfl,Oe,hb⟩
   have dm:=hb.size
   obtain ⟨BX,BD,BR,I⟩:=uR
   obtain ⟨L,HQ,X⟩:=xU
   clear aa ab an ak al aj am ao bt br bv bz bw
   clear hb
   obtain ⟨ev,he⟩:=cachePut_eq (y0,y1,y2,y3,y4) t xc xe
   rw [he] at Oe
   have fy:=yD ((cacheN_yes (t:=t) (x1:=(xc,xe)) (y:=(y0,y1,y2,y3,y4)) gw).trans he)
   clear he
   obtain ⟨sv,rfl,ei,h9⟩:=jQ Oe.raw
   obtain ⟨ea,ep,rfl,_⟩:=kE.sl h9
   clear ei h9
   obtain ⟨SC,hl⟩:∃ SN:Nat→Prop,∀ j,SN j↔((S1 j∧j < w8.heap.size)∨(w8.heap.size≤j∧j < w9.heap.size)):=⟨_,fun _=>Iff.rfl⟩
   have ag:=yD ((kLw L.out Oe nP).wide (T:=(fun j=>w.heap.size + 4≤j∧j < w9.heap.size∧j≠V.heap.size∧SC j)) (fun j q=>q.elim (fun q=>⟨q.1,by have:=q.2.1;omega,q.2.2.1,(hl j).2 (.inl ⟨q.2.2.2,by have:=q.2.1;omega⟩)⟩) (fun q=>⟨by have:=q.1;omega,q.2,by have:=q.1;omega,(hl j).2 (.inr ⟨q.1,q.2⟩)⟩)))
   replace HQ:=yD (HQ.out.wide (T:=(fun j=>w6.heap.size≤j∧j < w9.heap.size∧¬ SC j)) (fun j q=>⟨q.1,by have:=q.2.1;omega,fun h=>((hl j).1 h).elim (fun h2=>q.2.2 h2.1) qG⟩))
   clear L Oe
   obtain ⟨H,G,Z,D,af,be,bc,bf,a9⟩:=kBi I
   obtain ⟨ah,ai,bj,bl,bq,ci,ce,b4,cc⟩:=kFw I
   go_upto_region 16 with fail
   generalize F:World.setCell (World.setCell w9 _ _) _ _=b3
   have ae:Touch (fun k=>k=V.heap.size) w9 b3:=mO
   replace I:b3.heap[V.heap.size]?=some (.cells #[.slice db x0.length dc,.int .i64 xc,.slice ea ev.length ep,.slice pa P.length pc,.slice sa sn sc,.slice de x4.length dk,.slice eq x5.length ex,.int .i64 x6,.slice ga gn gc] 52 (0,0)):=by rw [← F];exact kH (kH (I) 1) 2
   have d0:=ae.size
   clear F
   replace BX:=ae.kD BX bB9
   replace BD:=ae.kD BD bB9
   replace BR:=ae.kD BR bB9
   replace HQ:=yD (HQ.out.touch ae qB)
   replace ag:=yD (ag.out.touch ae qB)
   replace X:=X.trans (ae.below X.size wB)
   clear H G Z D af be bc bf a9 ah ai bj bl bq ci ce b4 cc
   clear ae
   have L:=yD (ag.out.wide (T:=(fun j=>w.heap.size + 4≤j∧j < b3.heap.size∧j≠V.heap.size∧SC j)) pO)
   clear ag
   replace HQ:=yD (HQ.out.wide (T:=(fun j=>w6.heap.size≤j∧j < b3.heap.size∧¬ SC j)) pO)
   obtain ⟨aa,ab,an,ak,al,aj,am,ao⟩:=zt BX
   obtain ⟨bt,br,bv,bz,bw⟩:=jU BD
   go_wp2_with fail
   refine (kFa (h5.out.below X) (cn:=[.slice ff y0.length fd]) (fh.out.below X)).mono ?_
   rintro e cf ⟨mc,rfl,Om,hb⟩
   have e6:=hb.size
   obtain ⟨BX,BD,BR,I⟩:=uR
   replace HQ:=yD (HQ.out.below hb)
   replace L:=yD (L.out.below hb)
   replace X:=(tQ X hb)
   clear aa ab an ak al aj am ao bt br bv bz bw
   clear hb
   obtain ⟨M,hM⟩:∃ M,kNp y0 x4=M:=⟨_,rfl⟩
   rw [hM] at Om
   have ho:=yD hM
   clear hM
   obtain ⟨mv,rfl,fx⟩:=kU Om.raw
   obtain ⟨ma,mp,rfl,_⟩:=kE.sl fx
   clear fx
   have es:=yD Om
   clear Om
   obtain ⟨mk,fb⟩:∃ b,mOk y0 x4=b:=⟨_,rfl⟩
   rw [fb]
   have gi:=yD fb
   clear fb
   go_upto_region 17 with fail
   generalize F:World.alloc cf _=cg
   have du:Below cf.heap.size cf cg:=rX
   have BN:cg.heap[cf.heap.size]?=some (.cells #[.slice ma M.length mp] 41 (0,0)):=tX
   have e8:cf.heap.size + 1≤cg.heap.size:=bA3
   clear F
   replace BX:=kD BX du
   replace BD:=kD BD du
   replace BR:=kD BR du
   replace I:=kD I du
   replace HQ:=yD (HQ.out.below du)
   replace L:=yD (L.out.below du)
   replace es:=yD (es.out.below du)
   replace X:=(tQ X du)
   clear du
   cases mk
   · have fq:=yD (recN_no (f:=f) (x5:=x5) gi.out)
     clear es
     have U:=yD ((kHu (f:=f) gp.out).trans (show ((x0,kHl (y0,y1,y2,y3,y4) t x0 (xc,xe),satP y0 x2,kGl y0 x3 (kFt y0 x2),x4,recN f y0 x4 x5,x6),kAd f (y0,y1,y2,y3,y4) (kFt y0 x2))=((x0,(xc,ev),P,s,x4,x5,x6),Q) by rw [gs.out,fu.out,fy.out,g5.out,fq.out,e3.out]))
     obtain ⟨H,G,Z,D,af,be,bc,bf,a9⟩:=kBi I
     obtain ⟨ax,a1,cq,ck,cw,dv,dt,d2,dy⟩:=kBi BR
     obtain ⟨ar,aq,cj,co,cv,d5,d7,d6,d8⟩:=kFw BR
     go_wp2
     refine bodyPost_ret (v:=.agg #[.slice db x0.length dc,.int .i64 xc,.slice ea ev.length ep,.slice pa P.length pc,.slice sa sn sc,.slice de x4.length dk,.slice eq x5.length ex,.int .i64 x6,.slice ga gn gc]) dB rfl ⟨[.slice db x0.length dc,.int .i64 xc,.slice ea ev.length ep,.slice pa P.length pc,.slice sa sn sc,.slice de x4.length dk,.slice eq x5.length ex,.int .i64 x6,.slice ga gn gc],rfl,?_,?_⟩
     · rw [U.out];exact kTu (L.out.touch (((((((((kC _ _ _ _).trans (kC _ _ _ _)).trans (kC _ _ _ _)).trans (kC _ _ _ _)).trans (kC _ _ _ _)).trans (kC _ _ _ _)).trans (kC _ _ _ _)).trans (kC _ _ _ _)).trans (kC _ _ _ _)) rR) ((HQ.out.touch (((((((((kC _ _ _ _).trans (kC _ _ _ _)).trans (kC _ _ _ _)).trans (kC _ _ _ _)).trans (kC _ _ _ _)).trans (kC _ _ _ _)).trans (kC _ _ _ _)).trans (kC _ _ _ _)).trans (kC _ _ _ _)) rR).own gh) fG fG (fun j q r=>r.2.2 q.2.2.2)
     exact X.trans (Touch.below (((((((((kC _ _ _ _).trans (kC _ _ _ _)).trans (kC _ _ _ _)).trans (kC _ _ _ _)).trans (kC _ _ _ _)).trans (kC _ _ _ _)).trans (kC _ _ _ _)).trans (kC _ _ _ _)).trans (kC _ _ _ _)) X.size wB)
   have aa:cg.cell? ⟨w.heap.size,0,none⟩=some (.slice cl x0.length b6):=kF BX rfl
   have ab:cg.cell? ⟨w.heap.size,1,none⟩=some (.int .i64 xc):=kF BX rfl
   have an:cg.cell? ⟨w.heap.size,2,none⟩=some (.slice c6 xe.length c5):=kF BX rfl
   have ak:cg.cell? ⟨w.heap.size,3,none⟩=some (.slice dq x2.length dp):=kF BX rfl
   have al:cg.cell? ⟨w.heap.size,4,none⟩=some (.slice ee x3.length eb):=kF BX rfl
   have aj:cg.cell? ⟨w.heap.size,5,none⟩=some (.slice d3 x4.length dw):=kF BX rfl
   have am:cg.cell? ⟨w.heap.size,6,none⟩=some (.slice d4 x5.length dr):=kF BX rfl
   have ao:cg.cell? ⟨w.heap.size,7,none⟩=some (.int .i64 x6):=kF BX rfl
   have bb:cg.cell? ⟨cf.heap.size,0,none⟩=some (.slice ma M.length mp):=kF BN rfl
   go_wp2_with fail
   refine (kFh (ia.out.below X) (cn:=[.slice ma M.length mp]) es.out.rd HF.out).mono ?_
   rintro e dx ⟨v8,rfl,O8,hb⟩
   have gg:=hb.size
   obtain ⟨BX,BD,BR,I⟩:=uR
   replace BN:=kD BN hb
   replace HQ:=yD (HQ.out.below hb)
   replace L:=yD (L.out.below hb)
   replace es:=yD (es.out.below hb)
   replace X:=(tQ X hb)
   clear aa ab an ak al aj am ao bb
   clear hb
   obtain ⟨ms,fz⟩:∃ l,kKb M f x5=l:=⟨_,rfl⟩
   rw [fz] at O8
   have fq:=yD (show recN f y0 x4 x5=ms by rw [recN_yes gi.out,ho.out];exact fz)
   clear fz es
   obtain ⟨na,nc,rfl,_⟩:=kE.sl O8.raw
   obtain ⟨ST,hST⟩:∃ SN:Nat→Prop,∀ j,SN j↔((SC j∧j < cg.heap.size)∨(cg.heap.size≤j∧j < dx.heap.size)):=⟨_,fun _=>Iff.rfl⟩
   have ag:=yD ((kIv L.out O8 nP).wide (T:=(fun j=>w.heap.size + 4≤j∧j < dx.heap.size∧j≠V.heap.size∧ST j)) bA)
   replace HQ:=yD (HQ.out.wide (T:=(fun j=>w6.heap.size≤j∧j < dx.heap.size∧¬ ST j)) bP)
   clear L O8
   obtain ⟨H,G,Z,D,af,be,bc,bf,a9⟩:=kBi I
   obtain ⟨ah,ai,bj,bl,bq,ci,ce,b4,cc⟩:=kFw I
   go_upto_region 19 with fail
   generalize F:World.setCell dx _ _=eh
   have d1:Touch (fun k=>k=V.heap.size) dx eh:=by rw [← F];exact kC dx (V.heap.size) 6 _
   replace I:eh.heap[V.heap.size]?=some (.cells #[.slice db x0.length dc,.int .i64 xc,.slice ea ev.length ep,.slice pa P.length pc,.slice sa sn sc,.slice de x4.length dk,.slice na ms.length nc,.int .i64 x6,.slice ga gn gc] 52 (0,0)):=by rw [← F];exact kH I 6
   have hu:=d1.size
   clear F
   replace BX:=d1.kD BX bB9
   replace BD:=d1.kD BD bB9
   replace BR:=d1.kD BR bB9
   replace BN:=d1.kD BN bB9
   replace HQ:=yD (HQ.out.touch d1 qB)
   replace ag:=yD (ag.out.touch d1 qB)
   replace X:=X.trans (d1.below X.size wB)
   clear H G Z D af be bc bf a9 ah ai bj bl bq ci ce b4 cc
   clear d1
   have L:=yD (ag.out.wide (T:=(fun j=>w.heap.size + 4≤j∧j < eh.heap.size∧j≠V.heap.size∧ST j)) pO)
   clear ag
   replace HQ:=yD (HQ.out.wide (T:=(fun j=>w6.heap.size≤j∧j < eh.heap.size∧¬ ST j)) pO)
   have U:=yD ((kHu (f:=f) gp.out).trans (show ((x0,kHl (y0,y1,y2,y3,y4) t x0 (xc,xe),satP y0 x2,kGl y0 x3 (kFt y0 x2),x4,recN f y0 x4 x5,x6),kAd f (y0,y1,y2,y3,y4) (kFt y0 x2))=((x0,(xc,ev),P,s,x4,ms,x6),Q) by rw [gs.out,fu.out,fy.out,g5.out,fq.out,e3.out]))
   obtain ⟨H,G,Z,D,af,be,bc,bf,a9⟩:=kBi I
   obtain ⟨ax,a1,cq,ck,cw,dv,dt,d2,dy⟩:=kBi BR
   obtain ⟨ar,aq,cj,co,cv,d5,d7,d6,d8⟩:=kFw BR
   go_wp2
   refine bodyPost_ret (v:=.agg #[.slice db x0.length dc,.int .i64 xc,.slice ea ev.length ep,.slice pa P.length pc,.slice sa sn sc,.slice de x4.length dk,.slice na ms.length nc,.int .i64 x6,.slice ga gn gc]) dB rfl ⟨[.slice db x0.length dc,.int .i64 xc,.slice ea ev.length ep,.slice pa P.length pc,.slice sa sn sc,.slice de x4.length dk,.slice na ms.length nc,.int .i64 x6,.slice ga gn gc],rfl,?_,?_⟩
   · rw [U.out];exact kTu (L.out.touch (((((((((kC _ _ _ _).trans (kC _ _ _ _)).trans (kC _ _ _ _)).trans (kC _ _ _ _)).trans (kC _ _ _ _)).trans (kC _ _ _ _)).trans (kC _ _ _ _)).trans (kC _ _ _ _)).trans (kC _ _ _ _)) rR) ((HQ.out.touch (((((((((kC _ _ _ _).trans (kC _ _ _ _)).trans (kC _ _ _ _)).trans (kC _ _ _ _)).trans (kC _ _ _ _)).trans (kC _ _ _ _)).trans (kC _ _ _ _)).trans (kC _ _ _ _)).trans (kC _ _ _ _)) rR).own gh) fG fG (fun j q r=>r.2.2 q.2.2.2)
   exact X.trans (Touch.below (((((((((kC _ _ _ _).trans (kC _ _ _ _)).trans (kC _ _ _ _)).trans (kC _ _ _ _)).trans (kC _ _ _ _)).trans (kC _ _ _ _)).trans (kC _ _ _ _)).trans (kC _ _ _ _)).trans (kC _ _ _ _)) X.size wB)
 have fy:=yD (cacheN_no (t:=t) (x1:=(xc,xe)) (y:=(y0,y1,y2,y3,y4)) gw)
 obtain ⟨aa,ab,an,ak,al,aj,am,ao⟩:=zt BX
 obtain ⟨bt,br,bv,bz,bw⟩:=jU BD
 go_wp2_with fail
 refine (kFa (h5.out.below X) (cn:=[.slice ff y0.length fd]) (fh.out.below X)).mono ?_
 rintro e w9 ⟨mc,rfl,Om,hb⟩
 have dm:=hb.size
 obtain ⟨BX,BD,BR,I⟩:=uR
 obtain ⟨L,HQ,X⟩:=xU
 clear aa ab an ak al aj am ao bt br bv bz bw
 clear hb
 obtain ⟨M,hM⟩:∃ M,kNp y0 x4=M:=⟨_,rfl⟩
 rw [hM] at Om
 have ho:=yD hM
 clear hM
 obtain ⟨mv,rfl,fx⟩:=kU Om.raw
 obtain ⟨ma,mp,rfl,_⟩:=kE.sl fx
 clear fx
 have es:=yD Om
 clear Om
 obtain ⟨mk,fb⟩:∃ b,mOk y0 x4=b:=⟨_,rfl⟩
 rw [fb]
 have gi:=yD fb
 clear fb
 go_upto_region 17 with fail
 generalize F:World.alloc w9 _=b3
 have dz:Below w9.heap.size w9 b3:=rX
 have BN:b3.heap[w9.heap.size]?=some (.cells #[.slice ma M.length mp] 41 (0,0)):=tX
 have d0:w9.heap.size + 1≤b3.heap.size:=bA3
 clear F
 replace BX:=kD BX dz
 replace BD:=kD BD dz
 replace BR:=kD BR dz
 replace I:=kD I dz
 replace L:=yD (L.out.below dz)
 replace HQ:=yD (HQ.out.below dz)
 replace es:=yD (es.out.below dz)
 replace X:=(tQ X dz)
 clear dz
 cases mk
 · have fq:=yD (recN_no (f:=f) (x5:=x5) gi.out)
   clear es
   have U:=yD ((kHu (f:=f) gp.out).trans (show ((x0,kHl (y0,y1,y2,y3,y4) t x0 (xc,xe),satP y0 x2,kGl y0 x3 (kFt y0 x2),x4,recN f y0 x4 x5,x6),kAd f (y0,y1,y2,y3,y4) (kFt y0 x2))=((x0,(xc,xe),P,s,x4,x5,x6),Q) by rw [gs.out,fu.out,fy.out,g5.out,fq.out,e3.out]))
   obtain ⟨H,G,Z,D,af,be,bc,bf,a9⟩:=kBi I
   obtain ⟨ax,a1,cq,ck,cw,dv,dt,d2,dy⟩:=kBi BR
   obtain ⟨ar,aq,cj,co,cv,d5,d7,d6,d8⟩:=kFw BR
   go_wp2
   refine bodyPost_ret (v:=.agg #[.slice db x0.length dc,.int .i64 xc,.slice df xe.length dn,.slice pa P.length pc,.slice sa sn sc,.slice de x4.length dk,.slice eq x5.length ex,.int .i64 x6,.slice ga gn gc]) dB rfl ⟨[.slice db x0.length dc,.int .i64 xc,.slice df xe.length dn,.slice pa P.length pc,.slice sa sn sc,.slice de x4.length dk,.slice eq x5.length ex,.int .i64 x6,.slice ga gn gc],rfl,?_,?_⟩
   · rw [U.out];exact kTu (L.out.touch (((((((((kC _ _ _ _).trans (kC _ _ _ _)).trans (kC _ _ _ _)).trans (kC _ _ _ _)).trans (kC _ _ _ _)).trans (kC _ _ _ _)).trans (kC _ _ _ _)).trans (kC _ _ _ _)).trans (kC _ _ _ _)) rR) ((HQ.out.touch (((((((((kC _ _ _ _).trans (kC _ _ _ _)).trans (kC _ _ _ _)).trans (kC _ _ _ _)).trans (kC _ _ _ _)).trans (kC _ _ _ _)).trans (kC _ _ _ _)).trans (kC _ _ _ _)).trans (kC _ _ _ _)) rR).own gh) fG fG (fun j q r=>r.2.2 q.2.2.2)
   exact X.trans (Touch.below (((((((((kC _ _ _ _).trans (kC _ _ _ _)).trans (kC _ _ _ _)).trans (kC _ _ _ _)).trans (kC _ _ _ _)).trans (kC _ _ _ _)).trans (kC _ _ _ _)).trans (kC _ _ _ _)).trans (kC _ _ _ _)) X.size wB)
 have aa:b3.cell? ⟨w.heap.size,0,none⟩=some (.slice cl x0.length b6):=kF BX rfl
 have ab:b3.cell? ⟨w.heap.size,1,none⟩=some (.int .i64 xc):=kF BX rfl
 have an:b3.cell? ⟨w.heap.size,2,none⟩=some (.slice c6 xe.length c5):=kF BX rfl
 have ak:b3.cell? ⟨w.heap.size,3,none⟩=some (.slice dq x2.length dp):=kF BX rfl
 have al:b3.cell? ⟨w.heap.size,4,none⟩=some (.slice ee x3.length eb):=kF BX rfl
 have aj:b3.cell? ⟨w.heap.size,5,none⟩=some (.slice d3 x4.length dw):=kF BX rfl
 have am:b3.cell? ⟨w.heap.size,6,none⟩=some (.slice d4 x5.length dr):=kF BX rfl
 have ao:b3.cell? ⟨w.heap.size,7,none⟩=some (.int .i64 x6):=kF BX rfl
 have bb:b3.cell? ⟨w9.heap.size,0,none⟩=some (.slice ma M.length mp):=kF BN rfl
 go_wp2_with fail
 refine (kFh (ia.out.below X) (cn:=[.slice ma M.length mp]) es.out.rd HF.out).mono ?_
 rintro e cf ⟨v8,rfl,O8,hb⟩
 have e6:=hb.size
 obtain ⟨BX,BD,BR,I⟩:=uR
 replace BN:=kD BN hb
 replace L:=yD (L.out.below hb)
 replace HQ:=yD (HQ.out.below hb)
 replace es:=yD (es.out.below hb)
 replace X:=(tQ X hb)
 clear aa ab an ak al aj am ao bb
 clear hb
 obtain ⟨ms,fz⟩:∃ l,kKb M f x5=l:=⟨_,rfl⟩
 rw [fz] at O8
 have fq:=yD (show recN f y0 x4 x5=ms by rw [recN_yes gi.out,ho.out];exact fz)
 clear fz es
 obtain ⟨na,nc,rfl,_⟩:=kE.sl O8.raw
 obtain ⟨ST,hST⟩:∃ SN:Nat→Prop,∀ j,SN j↔((S1 j∧j < b3.heap.size)∨(b3.heap.size≤j∧j < cf.heap.size)):=⟨_,fun _=>Iff.rfl⟩
 have ag:=yD ((kIv L.out O8 nP).wide (T:=(fun j=>w.heap.size + 4≤j∧j < cf.heap.size∧j≠V.heap.size∧ST j)) bA)
 replace HQ:=yD (HQ.out.wide (T:=(fun j=>w6.heap.size≤j∧j < cf.heap.size∧¬ ST j)) bP)
 clear L O8
 obtain ⟨H,G,Z,D,af,be,bc,bf,a9⟩:=kBi I
 obtain ⟨ah,ai,bj,bl,bq,ci,ce,b4,cc⟩:=kFw I
 go_upto_region 19 with fail
 generalize F:World.setCell cf _ _=cg
 have b0:Touch (fun k=>k=V.heap.size) cf cg:=by rw [← F];exact kC cf (V.heap.size) 6 _
 replace I:cg.heap[V.heap.size]?=some (.cells #[.slice db x0.length dc,.int .i64 xc,.slice df xe.length dn,.slice pa P.length pc,.slice sa sn sc,.slice de x4.length dk,.slice na ms.length nc,.int .i64 x6,.slice ga gn gc] 52 (0,0)):=by rw [← F];exact kH I 6
 have e8:=b0.size
 clear F
 replace BX:=b0.kD BX bB9
 replace BD:=b0.kD BD bB9
 replace BR:=b0.kD BR bB9
 replace BN:=b0.kD BN bB9
 replace HQ:=yD (HQ.out.touch b0 qB)
 replace ag:=yD (ag.out.touch b0 qB)
 replace X:=X.trans (b0.below X.size wB)
 clear H G Z D af be bc bf a9 ah ai bj bl bq ci ce b4 cc
 clear b0
 have L:=yD (ag.out.wide (T:=(fun j=>w.heap.size + 4≤j∧j < cg.heap.size∧j≠V.heap.size∧ST j)) pO)
 clear ag
 replace HQ:=yD (HQ.out.wide (T:=(fun j=>w6.heap.size≤j∧j < cg.heap.size∧¬ ST j)) pO)
 have U:=yD ((kHu (f:=f) gp.out).trans (show ((x0,kHl (y0,y1,y2,y3,y4) t x0 (xc,xe),satP y0 x2,kGl y0 x3 (kFt y0 x2),x4,recN f y0 x4 x5,x6),kAd f (y0,y1,y2,y3,y4) (kFt y0 x2))=((x0,(xc,xe),P,s,x4,ms,x6),Q) by rw [gs.out,fu.out,fy.out,g5.out,fq.out,e3.out]))
 obtain ⟨H,G,Z,D,af,be,bc,bf,a9⟩:=kBi I
 obtain ⟨ax,a1,cq,ck,cw,dv,dt,d2,dy⟩:=kBi BR
 obtain ⟨ar,aq,cj,co,cv,d5,d7,d6,d8⟩:=kFw BR
 go_wp2
 refine bodyPost_ret (v:=.agg #[.slice db x0.length dc,.int .i64 xc,.slice df xe.length dn,.slice pa P.length pc,.slice sa sn sc,.slice de x4.length dk,.slice na ms.length nc,.int .i64 x6,.slice ga gn gc]) dB rfl ⟨[.slice db x0.length dc,.int .i64 xc,.slice df xe.length dn,.slice pa P.length pc,.slice sa sn sc,.slice de x4.length dk,.slice na ms.length nc,.int .i64 x6,.slice ga gn gc],rfl,?_,?_⟩
 · rw [U.out];exact kTu (L.out.touch (((((((((kC _ _ _ _).trans (kC _ _ _ _)).trans (kC _ _ _ _)).trans (kC _ _ _ _)).trans (kC _ _ _ _)).trans (kC _ _ _ _)).trans (kC _ _ _ _)).trans (kC _ _ _ _)).trans (kC _ _ _ _)) rR) ((HQ.out.touch (((((((((kC _ _ _ _).trans (kC _ _ _ _)).trans (kC _ _ _ _)).trans (kC _ _ _ _)).trans (kC _ _ _ _)).trans (kC _ _ _ _)).trans (kC _ _ _ _)).trans (kC _ _ _ _)).trans (kC _ _ _ _)) rR).own gh) fG fG (fun j q r=>r.2.2 q.2.2.2)
 exact X.trans (Touch.below (((((((((kC _ _ _ _).trans (kC _ _ _ _)).trans (kC _ _ _ _)).trans (kC _ _ _ _)).trans (kC _ _ _ _)).trans (kC _ _ _ _)).trans (kC _ _ _ _)).trans (kC _ _ _ _)).trans (kC _ _ _ _)) X.size wB)
end Go.Proofs.YtonmjkmaadgceaaGreat

/-
  What data brings about: spec.
-/
import Derived.Test.YtlfblpgkegeaeaaGreatPDat
set_option linter.unusedVariables false
set_option linter.unusedSimpArgs false
set_option linter.unnecessarySimpa false
set_option maxRecDepth 100000
set_option maxHeartbeats 8000000
namespace Go.Proofs.YtlfblpgkegeaeaaGreat
open Go.RowKit
theorem kAx {w:World} {cx:List Value} {x:kAf} (hx:jC.rd w cx x) {cp:List Value} {p:kz} (hp:kT.rd w cp p) {f:Int} (hf:-9223372036854775808≤f∧f≤9223372036854775807) {cy:List Value} {y:jJ} (hy:kP.rd w cy y) {t:Int} (ht:-9223372036854775808≤t∧t≤9223372036854775807) (hB:jC.bdd 1048576 x) (hpb:kT.bdd 1048576 p) (hyb:kP.bdd 1048576 y) :
    Calls Tryz.prog 16 #[.agg cx.toArray,.agg cp.toArray,.int .i64 f,.agg cy.toArray,.int .i64 t] w (yM yP (kRo x p f y t) w):=by
 obtain ⟨x0,⟨xc,xe⟩,x2,x3,x4,x5,x6⟩:=x
 obtain ⟨p0,p1,p2,p3⟩:=p
 obtain ⟨y0,y1,y2,y3,y4⟩:=y
 have HX:=yD hx
 have HP:=yD hp
 have HY:=yD hy
 have HF:=yD hf
 have HT_:=yD ht
 have HPB:=yD hpb
 have HYB:=yD hyb
 obtain ⟨av0,av2,av3,av4,av5,av6,rfl,a_0,a_1,a_2,a_3,a_4,a_5,a_6,a_7,a_8⟩:=jo hx.1
 obtain ⟨aa0,ap0,rfl,al0⟩:=Rep.sl a_0
 obtain ⟨aa2,ap2,rfl,al2⟩:=Rep.sl a_3
 obtain ⟨aa3,ap3,rfl,al3⟩:=Rep.sl a_4
 obtain ⟨aa4,ap4,rfl,al4⟩:=Rep.sl a_5
 obtain ⟨aa5,ap5,rfl,al5⟩:=Rep.sl a_6
 obtain ⟨aa6,ap6,rfl,al6⟩:=Rep.sl a_7
 obtain ⟨bv0,bv1,bv2,bv3,rfl,b_0,b_1,b_2,b_3⟩:=kw hp.1
 obtain ⟨ba0,bp0,rfl,bl0⟩:=Rep.sl b_0
 obtain ⟨ba1,bp1,rfl,bl1⟩:=Rep.sl b_1
 obtain ⟨ba2,bp2,rfl,bl2⟩:=Rep.sl b_2
 obtain ⟨ba3,bp3,rfl,bl3⟩:=Rep.sl b_3
 obtain ⟨cv0,cv1,cv2,rfl,c_0,c_1,c_2,c_3,c_4,c_5,c_6⟩:=kY hy.1
 obtain ⟨ca0,cp0,rfl,cl0⟩:=Rep.sl c_1
 obtain ⟨ca1,cp1,rfl,cl1⟩:=Rep.sl c_2
 obtain ⟨ca2,cp2,rfl,cl2⟩:=Rep.sl c_4
 have HPX:Hid ((Rep.slice 175 kE).rd w [.slice aa3 x2.length ap3] x2):=yD ⟨a_4,hx.2.2.2.1⟩
 have HCX:Hid (kI.rd w [.int .i64 xc,.slice aa2 xe.length ap2] (xc,xe)):=yD ⟨a_1,hx.2.2.1⟩
 have HRX:Hid ((Rep.slice 181 kX).rd w [.slice aa5 x4.length ap5] x4):=yD ⟨a_6,hx.2.2.2.2.2.1⟩
 have HMX:Hid ((Rep.slice 184 kF).rd w [.slice aa6 x5.length ap6] x5):=yD ⟨a_7,hx.2.2.2.2.2.2.1⟩
 have HLX:Hid ((Rep.slice 66 kP).raw w [.slice aa0 x0.length ap0] x0):=yD a_0
 have HNY:Hid (kL.rd w [.slice ca0 y0.length cp0] y0):=yD ⟨c_0,hy.2.1⟩
 have hl1:xe.length≤16777215:=Nat.le_trans hB.2.1.2.1 rM
 have hl3:x3.length≤2000000:=Nat.le_trans hB.2.2.2.1.1 rM
 clear hx hp hy hf ht hB hpb hyb a_0 a_1 a_2 a_3 a_4 a_5 a_6 a_7 a_8 b_0 b_1 b_2 b_3 c_0 c_1 c_2 c_3 c_4 c_5 c_6
 go_enter Tryz.func16,Tryz.ntmps16
 go_upto_region 1 with fail
 generalize hw_:World.alloc (World.alloc (World.alloc (World.alloc w _) _) _) _=w1
 have EE:Below w.heap.size w w1:=by rw [← hw_];exact bH
 have BX:w1.heap[w.heap.size]?=some (.cells #[.slice aa0 x0.length ap0,.int .i64 xc,.slice aa2 xe.length ap2,.slice aa3 x2.length ap3,.slice aa4 x3.length ap4,.slice aa5 x4.length ap5,.slice aa6 x5.length ap6,.int .i64 x6] 56 (0,0)):=by rw [← hw_];exact jD (jD (jD (kN rfl)))
 have BT:w1.heap[w.heap.size + 1]?=some (.cells #[.slice ba0 p0.length bp0,.slice ba1 p1.length bp1,.slice ba2 p2.length bp2,.slice ba3 p3.length bp3] 62 (0,0)):=by rw [← hw_];exact jD (jD (kN rQ))
 have BD:w1.heap[w.heap.size + 2]?=some (.cells #[.slice ca0 y0.length cp0,.slice ca1 y1.length cp1,.slice ca2 y2.length cp2,.int .i64 y3,.int .i64 y4] 66 (0,0)):=by rw [← hw_];exact jD (kN rQ)
 have BR:w1.heap[w.heap.size + 3]?=some (.cells #[.slice none 0 0,.int .i64 0,.slice none 0 0,.slice none 0 0,.slice none 0 0,.slice none 0 0,.slice none 0 0,.int .i64 0,.slice none 0 0] 74 (0,0)):=by rw [← hw_];exact kN rQ
 have z_w1:w.heap.size + 4≤w1.heap.size:=qJ
 clear hw_
 obtain ⟨KBX_0,KBX_1,KBX_2,KBX_3,KBX_4,KBX_5,KBX_6,KBX_7⟩:=kBj BX
 obtain ⟨KBT_0,KBT_1,KBT_2,KBT_3⟩:=kAm BT
 obtain ⟨KBD_0,KBD_1,KBD_2,KBD_3,KBD_4⟩:=jh BD
 go_wp2_with fail
 refine (kLn (HX.out.below EE) (HP.out.below EE) (HY.out.below EE) HT_.out HPB.out HYB.out).mono ?_
 rintro e w2 ⟨rfl,hb⟩
 have z_w2:=hb.size
 replace BX:=kD BX hb
 replace BT:=kD BT hb
 replace BD:=kD BD hb
 replace BR:=kD BR hb
 replace EE:=(tQ EE hb)
 clear KBX_0 KBX_1 KBX_2 KBX_3 KBX_4 KBX_5 KBX_6 KBX_7 KBT_0 KBT_1 KBT_2 KBT_3 KBD_0 KBD_1 KBD_2 KBD_3 KBD_4
 clear hb
 cases hso:zk (x0,(xc,xe),x2,x3,x4,x5,x6) (p0,p1,p2,p3) (y0,y1,y2,y3,y4) t
 · have HT:=yD (procD_no (f:=f) hso)
   obtain ⟨KBX_0,KBX_1,KBX_2,KBX_3,KBX_4,KBX_5,KBX_6,KBX_7⟩:=kBj BX
   go_wp2_with fail
   refine (kTf (HX.out.below EE)).mono ?_
   rintro e w3 ⟨ds,rfl,Od,hb⟩
   have z_w3:=hb.size
   replace BX:=kD BX hb
   replace BT:=kD BT hb
   replace BD:=kD BD hb
   replace BR:=kD BR hb
   replace EE:=(tQ EE hb)
   clear KBX_0 KBX_1 KBX_2 KBX_3 KBX_4 KBX_5 KBX_6 KBX_7
   clear hb
   obtain ⟨y6,hy6⟩:∃ y,wrap64 (x6 + 1)=y:=⟨_,rfl⟩
   have HDR:=yD (show kSn (x0,(xc,xe),x2,x3,x4,x5,x6)=(x0,(xc,xe),x2,x3,x4,x5,y6) by rw [kSm,hy6])
   clear hy6
   rw [HDR.out] at Od
   obtain ⟨ov0,ov2,ov3,ov4,ov5,ov6,ov8,rfl,o_0,o_1,o_2,o_3,o_4,o_5,o_6,o_7,o_8,o_9,o_10⟩:=yB Od.raw
   obtain ⟨oa0,op0,rfl,ol0⟩:=Rep.sl o_1
   obtain ⟨oa2,op2,rfl,ol2⟩:=Rep.sl o_4
   obtain ⟨oa3,op3,rfl,ol3⟩:=Rep.sl o_5
   obtain ⟨oa4,op4,rfl,ol4⟩:=Rep.sl o_6
   obtain ⟨oa5,op5,rfl,ol5⟩:=Rep.sl o_7
   obtain ⟨oa6,op6,rfl,ol6⟩:=Rep.sl o_8
   obtain ⟨oa8,op8,rfl,ol8⟩:=Rep.sl o_10
   clear o_0 o_1 o_2 o_3 o_4 o_5 o_6 o_7 o_8 o_9 o_10
   obtain ⟨KBR_0,KBR_1,KBR_2,KBR_3,KBR_4,KBR_5,KBR_6,KBR_7,KBR_8⟩:=ji BR
   obtain ⟨FBR_0,FBR_1,FBR_2,FBR_3,FBR_4,FBR_5,FBR_6,FBR_7,FBR_8⟩:=zJ BR
   go_wp2
   refine bodyPost_ret (v:=.agg #[.slice oa0 x0.length op0,.int .i64 xc,.slice oa2 xe.length op2,.slice oa3 x2.length op3,.slice oa4 x3.length op4,.slice oa5 x4.length op5,.slice oa6 x5.length op6,.int .i64 y6,.slice oa8 ([]:List jV).length op8]) bK rfl ⟨[.slice oa0 x0.length op0,.int .i64 xc,.slice oa2 xe.length op2,.slice oa3 x2.length op3,.slice oa4 x3.length op4,.slice oa5 x4.length op5,.slice oa6 x5.length op6,.int .i64 y6,.slice oa8 ([]:List jV).length op8],rfl,?_,?_⟩
   · rw [HT.out,HDR.out];exact (Od.touch (((((((((kC _ _ _ _).trans (kC _ _ _ _)).trans (kC _ _ _ _)).trans (kC _ _ _ _)).trans (kC _ _ _ _)).trans (kC _ _ _ _)).trans (kC _ _ _ _)).trans (kC _ _ _ _)).trans (kC _ _ _ _)) nJ).wide dQ
   exact EE.trans (Touch.below (((((((((kC _ _ _ _).trans (kC _ _ _ _)).trans (kC _ _ _ _)).trans (kC _ _ _ _)).trans (kC _ _ _ _)).trans (kC _ _ _ _)).trans (kC _ _ _ _)).trans (kC _ _ _ _)).trans (kC _ _ _ _)) EE.size qI)
 have HSO:=yD hso
 clear hso
 obtain ⟨KBX_0,KBX_1,KBX_2,KBX_3,KBX_4,KBX_5,KBX_6,KBX_7⟩:=kBj BX
 go_wp2_with fail
 refine (kIf (HX.out.below EE)).mono ?_
 rintro e w3 ⟨cs,rfl,O,hb⟩
 have z_w3:=hb.size
 replace BX:=kD BX hb
 replace BT:=kD BT hb
 replace BD:=kD BD hb
 replace BR:=kD BR hb
 replace EE:=(tQ EE hb)
 clear KBX_0 KBX_1 KBX_2 KBX_3 KBX_4 KBX_5 KBX_6 KBX_7
 clear hb
 obtain ⟨ov0,ov2,ov3,ov4,ov5,ov6,rfl,o_0,o_1,o_2,o_3,o_4,o_5,o_6,o_7,o_8⟩:=jo O.raw
 obtain ⟨oa0,op0,rfl,ol0⟩:=Rep.sl o_0
 obtain ⟨oa2,op2,rfl,ol2⟩:=Rep.sl o_3
 obtain ⟨oa3,op3,rfl,ol3⟩:=Rep.sl o_4
 obtain ⟨oa4,op4,rfl,ol4⟩:=Rep.sl o_5
 obtain ⟨oa5,op5,rfl,ol5⟩:=Rep.sl o_6
 obtain ⟨oa6,op6,rfl,ol6⟩:=Rep.sl o_7
 clear o_0 o_1 o_2 o_3 o_4 o_5 o_6 o_7 o_8
 go_upto_region 4 with fail
 have HO:=yD O
 clear O
 replace HO:=yD (HO.out.wide (T:=(fun j=>w.heap.size + 4≤j∧j < w3.heap.size∧j≠w3.heap.size + 1)) dS)
 generalize hw_:World.alloc (World.alloc w3 _) _=w4
 have E_w4:Below w3.heap.size w3 w4:=by rw [← hw_];exact (bR.alloc nL _).alloc rQ _
 have BO:w4.heap[w3.heap.size + 1]?=some (.cells #[.slice oa0 x0.length op0,.int .i64 xc,.slice oa2 xe.length op2,.slice oa3 x2.length op3,.slice oa4 x3.length op4,.slice oa5 x4.length op5,.slice oa6 x5.length op6,.int .i64 x6,.slice (some ⟨w3.heap.size,0,none⟩) 0 0] 74 (0,0)):=by rw [← hw_];exact kN rQ
 have z_w4:w3.heap.size + 2≤w4.heap.size:=qJ
 clear hw_
 replace BX:=kD BX E_w4
 replace BT:=kD BT E_w4
 replace BD:=kD BD E_w4
 replace BR:=kD BR E_w4
 replace HO:=yD (HO.out.below E_w4)
 replace EE:=(tQ EE E_w4)
 clear E_w4
 obtain ⟨KBX_0,KBX_1,KBX_2,KBX_3,KBX_4,KBX_5,KBX_6,KBX_7⟩:=kBj BX
 obtain ⟨KBD_0,KBD_1,KBD_2,KBD_3,KBD_4⟩:=jh BD
 go_wp2_with fail
 refine (kTk (HPX.out.below EE) (cn:=[.slice ca0 y0.length cp0]) (HNY.out.below EE)).mono ?_
 rintro e w5 ⟨v4,u4,rfl,O4,hb⟩
 have z_w5:=hb.size
 replace BX:=kD BX hb
 replace BT:=kD BT hb
 replace BD:=kD BD hb
 replace BR:=kD BR hb
 replace BO:=kD BO hb
 replace HO:=yD (HO.out.below hb)
 replace EE:=(tQ EE hb)
 clear KBX_0 KBX_1 KBX_2 KBX_3 KBX_4 KBX_5 KBX_6 KBX_7 KBD_0 KBD_1 KBD_2 KBD_3 KBD_4
 clear hb
 obtain ⟨P,hP⟩:∃ P,kHt y0 x2=P:=⟨_,rfl⟩
 obtain ⟨R,hR⟩:∃ R,kDs y0 x2=R:=⟨_,rfl⟩
 rw [hP,hR] at O4
 have HP2:=yD hP
 have HR2:=yD hR
 clear hP hR
 obtain ⟨SA,SB,OA,OB,hSA,hSB,_⟩:=Rep.kUu O4
 obtain ⟨pa,pc,rfl,_⟩:=Rep.sl OA.raw
 obtain ⟨ra,rc,rfl,_⟩:=Rep.sl OB.raw
 clear O4
 have hRl:R.length≤16777216:=OB.2.1
 have HRQ:=yD (OB.wide (T:=fun j=>w.heap.size + 4≤j∧j < w5.heap.size∧j≠w3.heap.size + 1) (fun j q=>by have:=hSB j q;exact ⟨by have:=this.1;omega,this.2,by have:=this.1;omega⟩))
 clear OB hSB
 have HO2:=yD ((kLv HO.out OA (fun j h1 h2=>by have:=h1.2.1;have:=(hSA j h2).1;omega)).wide (T:=(fun j=>w.heap.size + 4≤j∧j < w5.heap.size∧j≠w3.heap.size + 1)) (fun j q=>q.elim (fun q=>⟨q.1,by omega,q.2.2⟩) (fun q=>by have:=hSA j q;exact ⟨by have:=this.1;omega,this.2,by have:=this.1;omega⟩)))
 clear HO OA hSA
 obtain ⟨KBO_0,KBO_1,KBO_2,KBO_3,KBO_4,KBO_5,KBO_6,KBO_7,KBO_8⟩:=ji BO
 obtain ⟨FBO_0,FBO_1,FBO_2,FBO_3,FBO_4,FBO_5,FBO_6,FBO_7,FBO_8⟩:=zJ BO
 go_upto_region 6 with fail
 generalize hw_:World.setCell w5 _ _=w6
 have T_w6:Touch (fun k=>k=w3.heap.size + 1) w5 w6:=by rw [← hw_];exact kC w5 (w3.heap.size + 1) 3 _
 replace BO:w6.heap[w3.heap.size + 1]?=some (.cells #[.slice oa0 x0.length op0,.int .i64 xc,.slice oa2 xe.length op2,.slice pa P.length pc,.slice oa4 x3.length op4,.slice oa5 x4.length op5,.slice oa6 x5.length op6,.int .i64 x6,.slice (some ⟨w3.heap.size,0,none⟩) 0 0] 74 (0,0)):=by rw [← hw_];exact jF BO 3
 have z_w6:=T_w6.size
 clear hw_
 replace BX:=T_w6.kD BX rP
 replace BT:=T_w6.kD BT rP
 replace BD:=T_w6.kD BD rP
 replace BR:=T_w6.kD BR rP
 replace HO2:=yD (HO2.out.touch T_w6 gN)
 replace HRQ:=yD (HRQ.out.touch T_w6 gN)
 replace EE:=EE.trans (T_w6.below EE.size qI)
 clear KBO_0 KBO_1 KBO_2 KBO_3 KBO_4 KBO_5 KBO_6 KBO_7 KBO_8 FBO_0 FBO_1 FBO_2 FBO_3 FBO_4 FBO_5 FBO_6 FBO_7 FBO_8
 clear T_w6
 have HO:=yD (HO2.out.wide (T:=(fun j=>w.heap.size + 4≤j∧j < w6.heap.size∧j≠w3.heap.size + 1)) (fun j q=>⟨q.1,by omega,q.2.2⟩))
 clear HO2
 replace HRQ:=yD (HRQ.out.wide (T:=(fun j=>w.heap.size + 4≤j∧j < w6.heap.size∧j≠w3.heap.size + 1)) gL)
 go_wp2
 go_loopw [14] (fun i wr=>∃ (k:Nat) (ga sa:Option Addr) (gn gc sn sc:Nat) (S1:Nat→Prop),i=.int .i64 k∧k≤R.length∧Hid (Rep.kg 128 kR wr (.slice ga gn gc) (kBv f (y0,y1,y2,y3,y4) (R.take k)) (fun j=>w6.heap.size≤j∧j < wr.heap.size∧¬ S1 j))∧Hid (jC.own wr [.slice oa0 x0.length op0,.int .i64 xc,.slice oa2 xe.length op2,.slice pa P.length pc,.slice sa sn sc,.slice oa5 x4.length op5,.slice oa6 x5.length op6,.int .i64 x6] (x0,(xc,xe),P,(kBy y0 x3 (R.take k)),x4,x5,x6) (fun j=>w.heap.size + 4≤j∧j < wr.heap.size∧j≠w3.heap.size + 1∧S1 j))∧Hid ((Rep.slice 123 kQ).own wr [.slice ra R.length rc] R (fun j=>w.heap.size + 4≤j∧j < w6.heap.size∧j≠w3.heap.size + 1))∧wr.heap[w.heap.size]?=some (.cells #[.slice aa0 x0.length ap0,.int .i64 xc,.slice aa2 xe.length ap2,.slice aa3 x2.length ap3,.slice aa4 x3.length ap4,.slice aa5 x4.length ap5,.slice aa6 x5.length ap6,.int .i64 x6] 56 (0,0))∧wr.heap[w.heap.size + 2]?=some (.cells #[.slice ca0 y0.length cp0,.slice ca1 y1.length cp1,.slice ca2 y2.length cp2,.int .i64 y3,.int .i64 y4] 66 (0,0))∧wr.heap[w.heap.size + 3]?=some (.cells #[.slice none 0 0,.int .i64 0,.slice none 0 0,.slice none 0 0,.slice none 0 0,.slice none 0 0,.slice none 0 0,.int .i64 0,.slice none 0 0] 74 (0,0))∧wr.heap[w3.heap.size + 1]?=some (.cells #[.slice oa0 x0.length op0,.int .i64 xc,.slice oa2 xe.length op2,.slice pa P.length pc,.slice sa sn sc,.slice oa5 x4.length op5,.slice oa6 x5.length op6,.int .i64 x6,.slice ga gn gc] 74 (0,0))∧w6.heap.size≤wr.heap.size∧Below w.heap.size w wr) (fun i _=>R.length - (intOf i).toNat)
 case atStart=>exact ⟨0,(some ⟨w3.heap.size,0,none⟩),oa4,0,0,x3.length,op4,fun j=>j < w6.heap.size,rfl,Nat.zero_le _,yD Rep.kg.void,yD (HO.out.wide (fun j q=>⟨q.1,q.2.1,q.2.2,q.2.1⟩)),HRQ,BX,BD,BR,BO,Nat.le_refl _,EE⟩
 rename World=>wq
 clear HO HRQ BX BD BR BO BT EE
 obtain ⟨k,ga,sa,gn,gc,sn,sc,S1,rfl,hk,HQ,HO,HRQ,BX,BD,BR,BO,hzq,EE⟩:=hrel
 have hk0:=Int.natCast_nonneg k
 by_cases hlt:k < R.length
 · have hk2:=Int.ofNat_lt.2 hlt
   obtain ⟨rb,ro,rfl,g0,g1,g2,gr,G0,G1,G2⟩:=Rep.kBg HRQ.out.raw hlt rfl
   obtain ⟨_,rb_,ro_,hre,hrs,_⟩:=Rep.zw HRQ.out rP
   simp only [Option.some.injEq,Addr.mk.injEq,and_true] at hre
   obtain ⟨rfl,rfl⟩:=hre
   have hrs2:=hrs.2.1
   have hrs3:=hrs.2.2
   clear hrs
   obtain ⟨ge,gr0,gr1,gr2⟩:=kAa gr
   simp only [List.cons.injEq,and_true] at ge
   obtain ⟨rfl,rfl,rfl⟩:=ge
   have hsn:=kRh (n:=y0) (s:=x3) hlt
   have hdy:=fun q=>kVe (f:=f) (y:=(y0,y1,y2,y3,y4)) hlt q
   have hdn:=fun q=>dataQ_no (f:=f) (y:=(y0,y1,y2,y3,y4)) hlt q
   obtain ⟨s,hs⟩:∃ s,kBy y0 x3 (R.take k)=s:=⟨_,rfl⟩
   rw [hs] at HO hsn
   have hsl:s.length≤2000000:=by have:=kUl y0 x3 (R.take k);rw [hs] at this;omega
   clear hs
   obtain ⟨Q,hQe⟩:∃ Q,kBv f (y0,y1,y2,y3,y4) (R.take k)=Q:=⟨_,rfl⟩
   have hQl:Q.length≤16777216:=by rw [← hQe];have h1:=kJh f (y0,y1,y2,y3,y4) (R.take k);have h2:(R.take k).length≤k:=List.length_take_le _ _;omega
   rw [hQe] at HQ hdy hdn
   clear hQe
   generalize R[k]=z at *
   obtain ⟨z0,z1,z2⟩:=z
   have HSN:=yD hsn
   have HDY:=yD hdy
   have HDN:=yD hdn
   have HZ0:Hid (-9223372036854775808≤z0∧z0≤9223372036854775807):=yD gr0
   have HZ1:Hid (-9223372036854775808≤z1∧z1≤9223372036854775807):=yD gr1
   clear hsn hdy hdn gr gr0 gr1 gr2
   obtain ⟨SX,hSX⟩:∃ SX:Nat→Prop,∀ j,SX j↔(S1 j∧j < wq.heap.size):=⟨_,fun _=>Iff.rfl⟩
   replace HO:=yD (HO.out.wide (T:=(fun j=>w.heap.size + 4≤j∧j < wq.heap.size∧j≠w3.heap.size + 1∧SX j)) (fun j q=>⟨q.1,q.2.1,q.2.2.1,(hSX j).2 ⟨q.2.2.2,q.2.1⟩⟩))
   replace HQ:=yD (HQ.out.wide (T:=(fun j=>w6.heap.size≤j∧j < wq.heap.size∧¬ SX j)) (fun j q=>⟨q.1,q.2.1,fun h=>q.2.2 ((hSX j).1 h).1⟩))
   have hSXl:∀ j,SX j→j < wq.heap.size:=fun j h=>((hSX j).1 h).2
   clear hSX
   obtain ⟨KBO_0,KBO_1,KBO_2,KBO_3,KBO_4,KBO_5,KBO_6,KBO_7,KBO_8⟩:=ji BO
   by_cases hne:z0=f
   · clear KBO_0 KBO_1 KBO_2 KBO_3 KBO_4 KBO_5 KBO_6 KBO_7 KBO_8
     obtain ⟨KBO_0,KBO_1,KBO_2,KBO_3,KBO_4,KBO_5,KBO_6,KBO_7,KBO_8⟩:=ji BO
     obtain ⟨KBD_0,KBD_1,KBD_2,KBD_3,KBD_4⟩:=jh BD
     go_upto_region 12 with fail
     have FX:=yD (fun (W:World) (hW:Below wq.heap.size wq W)=>cLs3 hW KBO_4 KBD_0 G1)
     refine jT (fun W=>Below wq.heap.size wq W) [true,true,true,true,true,true,true,true,true,true] rF rF gX (bR.drew) ?_
     intro wS HS
     iterate 10
      all_goals refine wkR ?_
     all_goals refine jv ?_
     have z_wS2:=HS.size
     replace BX:=kD BX HS
     replace BD:=kD BD HS
     replace BR:=kD BR HS
     replace BO:=kD BO HS
     replace G0:=cL HS G0
     replace G1:=cL HS G1
     replace G2:=cL HS G2
     replace HRQ:=yD (HRQ.out.below HS)
     replace HO:=yD (HO.out.below HS)
     replace HQ:=yD (HQ.out.below HS)
     replace EE:=(tQ EE HS)
     clear KBO_0 KBO_1 KBO_2 KBO_3 KBO_4 KBO_5 KBO_6 KBO_7 KBO_8 KBD_0 KBD_1 KBD_2 KBD_3 KBD_4
     clear HS
     obtain ⟨w8,hwn_⟩:∃ u,u=wS:=⟨_,rfl⟩
     subst hwn_
     obtain ⟨KBO_0,KBO_1,KBO_2,KBO_3,KBO_4,KBO_5,KBO_6,KBO_7,KBO_8⟩:=ji BO
     obtain ⟨KBD_0,KBD_1,KBD_2,KBD_3,KBD_4⟩:=jh BD
     obtain ⟨FBO_0,FBO_1,FBO_2,FBO_3,FBO_4,FBO_5,FBO_6,FBO_7,FBO_8⟩:=zJ BO
     go_wp2_with fail
     refine (kFd (kJc HO.out.rd) hsl (cn:=[.slice ca0 y0.length cp0]) (HNY.out.below EE) HZ1.out).mono ?_
     rintro e w9 ⟨v9,rfl,O9,hb⟩
     have z_w9:=hb.size
     replace BX:=kD BX hb
     replace BD:=kD BD hb
     replace BR:=kD BR hb
     replace BO:=kD BO hb
     replace G0:=cL hb G0
     replace G1:=cL hb G1
     replace G2:=cL hb G2
     replace HRQ:=yD (HRQ.out.below hb)
     replace HO:=yD (HO.out.below hb)
     replace HQ:=yD (HQ.out.below hb)
     replace EE:=(tQ EE hb)
     clear KBO_0 KBO_1 KBO_2 KBO_3 KBO_4 KBO_5 KBO_6 KBO_7 KBO_8 KBD_0 KBD_1 KBD_2 KBD_3 KBD_4 FBO_0 FBO_1 FBO_2 FBO_3 FBO_4 FBO_5 FBO_6 FBO_7 FBO_8
     clear hb
     obtain ⟨s2,hs2⟩:∃ s2,zY s y0 z1=s2:=⟨_,rfl⟩
     rw [hs2] at O9
     have HS2:=yD (show kBy y0 x3 (R.take (k + 1))=s2 from HSN.out.trans hs2)
     clear hs2
     obtain ⟨va,vc,rfl,_⟩:=Rep.sl O9.raw
     obtain ⟨SN,hSN⟩:∃ SN:Nat→Prop,∀ j,SN j↔(SX j∨(w8.heap.size≤j∧j < w9.heap.size)):=⟨_,fun _=>Iff.rfl⟩
     have HO2:=yD ((kEr HO.out O9 fV).wide (T:=(fun j=>w.heap.size + 4≤j∧j < w9.heap.size∧j≠w3.heap.size + 1∧SN j)) bF)
     replace HQ:=yD (HQ.out.wide (T:=(fun j=>w6.heap.size≤j∧j < w9.heap.size∧¬ SN j)) cK)
     clear HO O9
     obtain ⟨KBO_0,KBO_1,KBO_2,KBO_3,KBO_4,KBO_5,KBO_6,KBO_7,KBO_8⟩:=ji BO
     obtain ⟨FBO_0,FBO_1,FBO_2,FBO_3,FBO_4,FBO_5,FBO_6,FBO_7,FBO_8⟩:=zJ BO
     go_upto_region 8 with fail
     generalize hw_:World.setCell w9 _ _=w10
     have T_w10:Touch (fun k=>k=w3.heap.size + 1) w9 w10:=by rw [← hw_];exact kC w9 (w3.heap.size + 1) 4 _
     replace BO:w10.heap[w3.heap.size + 1]?=some (.cells #[.slice oa0 x0.length op0,.int .i64 xc,.slice oa2 xe.length op2,.slice pa P.length pc,.slice va s2.length vc,.slice oa5 x4.length op5,.slice oa6 x5.length op6,.int .i64 x6,.slice ga gn gc] 74 (0,0)):=nZ
     have z_w10:=T_w10.size
     clear hw_
     replace BX:=T_w10.kD BX rP
     replace BD:=T_w10.kD BD rP
     replace BR:=T_w10.kD BR rP
     replace G0:=T_w10.cellT G0 rP
     replace G1:=T_w10.cellT G1 rP
     replace G2:=T_w10.cellT G2 rP
     replace HRQ:=yD (HRQ.out.touch T_w10 gN)
     replace HQ:=yD (HQ.out.touch T_w10 gN)
     replace HO2:=yD (HO2.out.touch T_w10 gN)
     replace EE:=EE.trans (T_w10.below EE.size qI)
     clear KBO_0 KBO_1 KBO_2 KBO_3 KBO_4 KBO_5 KBO_6 KBO_7 KBO_8 FBO_0 FBO_1 FBO_2 FBO_3 FBO_4 FBO_5 FBO_6 FBO_7 FBO_8
     clear T_w10
     go_wp2
     go_roundw
     case rel=>exact ⟨k + 1,ga,va,gn,gc,s2.length,vc,SN,by go_num,by omega,yD ((Rep.kg.cast HQ.out (HDN.out hne).symm).wide gL),yD dH,HRQ,BX,BD,BR,BO,by omega,EE⟩
     simp [intOf];omega
   clear KBO_0 KBO_1 KBO_2 KBO_3 KBO_4 KBO_5 KBO_6 KBO_7 KBO_8
   obtain ⟨KBD_0,KBD_1,KBD_2,KBD_3,KBD_4⟩:=jh BD
   go_wp2_with fail
   refine (kDj (HY.out.below EE)).mono ?_
   rintro e w8 ⟨tc,rfl,O,hb⟩
   have z_w8:=hb.size
   replace BX:=kD BX hb
   replace BD:=kD BD hb
   replace BR:=kD BR hb
   replace BO:=kD BO hb
   replace G0:=cL hb G0
   replace G1:=cL hb G1
   replace G2:=cL hb G2
   replace HRQ:=yD (HRQ.out.below hb)
   replace HO:=yD (HO.out.below hb)
   replace HQ:=yD (HQ.out.below hb)
   replace EE:=(tQ EE hb)
   clear KBD_0 KBD_1 KBD_2 KBD_3 KBD_4
   clear hb
   obtain ⟨tv0,tv1,tv2,rfl,t_0,t_1,t_2,t_3,t_4,t_5,t_6⟩:=kY O.raw
   obtain ⟨ta0,tp0,rfl,tl0⟩:=Rep.sl t_1
   obtain ⟨ta1,tp1,rfl,tl1⟩:=Rep.sl t_2
   obtain ⟨ta2,tp2,rfl,tl2⟩:=Rep.sl t_4
   clear t_0 t_1 t_2 t_3 t_4 t_5 t_6
   have HOT:=yD O
   clear O
   go_upto_region 11 with fail
   generalize hw_:World.alloc w8 _=w9
   have E_w9:Below w8.heap.size w8 w9:=nC
   have BC:w9.heap[w8.heap.size]?=some (.cells #[.slice ta0 y0.length tp0,.slice ta1 y1.length tp1,.slice ta2 y2.length tp2,.int .i64 y3,.int .i64 y4] 66 (0,0)):=pF
   have z_w9:w8.heap.size + 1≤w9.heap.size:=qJ
   clear hw_
   replace BX:=kD BX E_w9
   replace BD:=kD BD E_w9
   replace BR:=kD BR E_w9
   replace BO:=kD BO E_w9
   replace G0:=cL E_w9 G0
   replace G1:=cL E_w9 G1
   replace G2:=cL E_w9 G2
   replace HRQ:=yD (HRQ.out.below E_w9)
   replace HO:=yD (HO.out.below E_w9)
   replace HQ:=yD (HQ.out.below E_w9)
   replace HOT:=yD (HOT.out.below E_w9)
   replace EE:=(tQ EE E_w9)
   clear E_w9
   obtain ⟨KBO_0,KBO_1,KBO_2,KBO_3,KBO_4,KBO_5,KBO_6,KBO_7,KBO_8⟩:=ji BO
   obtain ⟨KBC_0,KBC_1,KBC_2,KBC_3,KBC_4⟩:=jh BC
   have FX:=yD (fun (W:World) (hW:Below w9.heap.size w9 W)=>cLs7 hW KBO_8 G0 KBC_0 KBC_1 KBC_2 KBC_3 KBC_4)
   refine jT (fun W=>Below w9.heap.size w9 W) [true,true,true,true,true,true,true,true,true,false] rF rF gX (bR.drew) ?_
   intro wS HS
   iterate 9
    all_goals refine wkR ?_
   all_goals first|(refine kU rfl HS ?_)|(refine ky rfl (fun K hK=>?_);go_simp;refine hK _ _ (HS.alloc HS.size _) ?_;clear hK K)
   all_goals refine wkP ?_
   all_goals refine jv ?_
   have hsW:=HS.size
   go_wp2_with (at_builtin;refine Rep.kAi rfl _ _ 72 rfl (r:=kR) (e:=128) Tryz.underlying72 kOx rfl rM rM (w:=wS) (HQ.out.below HS) rR rR rfl (out1_own HZ0.out (HOT.out.below HS)) rfl fV rP ?_)
   intro v2 w10 hQ hTQ
   have hTO:Touch (fun j=>w6.heap.size≤j∧j < wq.heap.size∧¬ SX j) w9 w10:=(Touch.of_below (HS.alloc HS.size _)).trans (hTQ.wide (fun j q=>q.2))
   have hT:Touch (fun j=>w6.heap.size≤j∧j < wq.heap.size) w9 w10:=hTO.wide (fun j q=>⟨q.1,q.2.1⟩)
   have z_w10:=hT.size
   have zT_:=hTQ.size
   have zT2_:wS.heap.size + 1≤w10.heap.size:=qM
   clear hTQ zT_
   replace HO:=yD (HO.out.touch hTO (fun j h1 h2=>h2.2.2 h1.2.2.2))
   clear HQ HOT hTO
   obtain ⟨g3,n3,c3,rfl⟩:∃ a n c,v2=.slice a n c:=by obtain ⟨a,c,h⟩:=Rep.kg.ym hQ;exact ⟨a,_,c,h⟩
   have HQ:=yD (Rep.kg.wide (T:=(fun j=>w6.heap.size≤j∧j < w10.heap.size∧¬ SX j)) hQ (fun j q=>by rcases q with q | q | q;exact ⟨q.1,by have:=q.2.1;omega,q.2.2⟩;exact ⟨by have:=q.1;omega,by have:=q.2;omega,fun h=>by have:=hSXl j h;have:=q.1;omega⟩;exact ⟨by have:=q.1;omega,q.2,fun h=>by have:=hSXl j h;have:=q.1;omega⟩))
   clear hQ
   clear BC
   clear G0 G2
   replace BX:=hT.kD BX rP
   replace BD:=hT.kD BD rP
   replace BR:=hT.kD BR rP
   replace BO:=hT.kD BO rP
   replace G1:=hT.cellT G1 rP
   replace HRQ:=yD (HRQ.out.touch hT gN)
   replace EE:=EE.trans (hT.below EE.size qI)
   clear KBO_0 KBO_1 KBO_2 KBO_3 KBO_4 KBO_5 KBO_6 KBO_7 KBO_8 KBC_0 KBC_1 KBC_2 KBC_3 KBC_4
   clear hT HS
   obtain ⟨KBO_0,KBO_1,KBO_2,KBO_3,KBO_4,KBO_5,KBO_6,KBO_7,KBO_8⟩:=ji BO
   obtain ⟨FBO_0,FBO_1,FBO_2,FBO_3,FBO_4,FBO_5,FBO_6,FBO_7,FBO_8⟩:=zJ BO
   go_upto_region 12 with fail
   generalize hw_:World.setCell w10 _ _=w11
   have T_w11:Touch (fun k=>k=w3.heap.size + 1) w10 w11:=by rw [← hw_];exact kC w10 (w3.heap.size + 1) 8 _
   replace BO:w11.heap[w3.heap.size + 1]?=some (.cells #[.slice oa0 x0.length op0,.int .i64 xc,.slice oa2 xe.length op2,.slice pa P.length pc,.slice sa sn sc,.slice oa5 x4.length op5,.slice oa6 x5.length op6,.int .i64 x6,.slice g3 n3 c3] 74 (0,0)):=by rw [← hw_];exact jF BO 8
   have z_w11:=T_w11.size
   clear hw_
   replace BX:=T_w11.kD BX rP
   replace BD:=T_w11.kD BD rP
   replace BR:=T_w11.kD BR rP
   replace G1:=T_w11.cellT G1 rP
   replace HRQ:=yD (HRQ.out.touch T_w11 gN)
   replace HO:=yD (HO.out.touch T_w11 gN)
   replace HQ:=yD (HQ.out.touch T_w11 gN)
   replace EE:=EE.trans (T_w11.below EE.size qI)
   clear KBO_0 KBO_1 KBO_2 KBO_3 KBO_4 KBO_5 KBO_6 KBO_7 KBO_8 FBO_0 FBO_1 FBO_2 FBO_3 FBO_4 FBO_5 FBO_6 FBO_7 FBO_8
   clear T_w11
   obtain ⟨KBO_0,KBO_1,KBO_2,KBO_3,KBO_4,KBO_5,KBO_6,KBO_7,KBO_8⟩:=ji BO
   obtain ⟨KBD_0,KBD_1,KBD_2,KBD_3,KBD_4⟩:=jh BD
   go_upto_region 12 with fail
   have FX:=yD (fun (W:World) (hW:Below w11.heap.size w11 W)=>cLs3 hW KBO_4 KBD_0 G1)
   refine jT (fun W=>Below w11.heap.size w11 W) [true,true,true,true,true,true,true,true,true,true] rF rF gX (bR.drew) ?_
   intro wS HS
   iterate 10
    all_goals refine wkR ?_
   all_goals refine jv ?_
   have z_wS2:=HS.size
   replace BX:=kD BX HS
   replace BD:=kD BD HS
   replace BR:=kD BR HS
   replace BO:=kD BO HS
   replace G1:=cL HS G1
   replace HRQ:=yD (HRQ.out.below HS)
   replace HO:=yD (HO.out.below HS)
   replace HQ:=yD (HQ.out.below HS)
   replace EE:=(tQ EE HS)
   clear KBO_0 KBO_1 KBO_2 KBO_3 KBO_4 KBO_5 KBO_6 KBO_7 KBO_8 KBD_0 KBD_1 KBD_2 KBD_3 KBD_4
   clear HS
   obtain ⟨w12,hwn_⟩:∃ u,u=wS:=⟨_,rfl⟩
   subst hwn_
   obtain ⟨KBO_0,KBO_1,KBO_2,KBO_3,KBO_4,KBO_5,KBO_6,KBO_7,KBO_8⟩:=ji BO
   obtain ⟨KBD_0,KBD_1,KBD_2,KBD_3,KBD_4⟩:=jh BD
   obtain ⟨FBO_0,FBO_1,FBO_2,FBO_3,FBO_4,FBO_5,FBO_6,FBO_7,FBO_8⟩:=zJ BO
   go_wp2_with fail
   refine (kFd (kJc HO.out.rd) hsl (cn:=[.slice ca0 y0.length cp0]) (HNY.out.below EE) HZ1.out).mono ?_
   rintro e w13 ⟨v9,rfl,O9,hb⟩
   have z_w13:=hb.size
   replace BX:=kD BX hb
   replace BD:=kD BD hb
   replace BR:=kD BR hb
   replace BO:=kD BO hb
   replace G1:=cL hb G1
   replace HRQ:=yD (HRQ.out.below hb)
   replace HO:=yD (HO.out.below hb)
   replace HQ:=yD (HQ.out.below hb)
   replace EE:=(tQ EE hb)
   clear KBO_0 KBO_1 KBO_2 KBO_3 KBO_4 KBO_5 KBO_6 KBO_7 KBO_8 KBD_0 KBD_1 KBD_2 KBD_3 KBD_4 FBO_0 FBO_1 FBO_2 FBO_3 FBO_4 FBO_5 FBO_6 FBO_7 FBO_8
   clear hb
   obtain ⟨s2,hs2⟩:∃ s2,zY s y0 z1=s2:=⟨_,rfl⟩
   rw [hs2] at O9
   have HS2:=yD (show kBy y0 x3 (R.take (k + 1))=s2 from HSN.out.trans hs2)
   clear hs2
   obtain ⟨va,vc,rfl,_⟩:=Rep.sl O9.raw
   obtain ⟨SN,hSN⟩:∃ SN:Nat→Prop,∀ j,SN j↔(SX j∨(w12.heap.size≤j∧j < w13.heap.size)):=⟨_,fun _=>Iff.rfl⟩
   have HO2:=yD ((kEr HO.out O9 fV).wide (T:=(fun j=>w.heap.size + 4≤j∧j < w13.heap.size∧j≠w3.heap.size + 1∧SN j)) bF)
   replace HQ:=yD (HQ.out.wide (T:=(fun j=>w6.heap.size≤j∧j < w13.heap.size∧¬ SN j)) cK)
   clear HO O9
   obtain ⟨KBO_0,KBO_1,KBO_2,KBO_3,KBO_4,KBO_5,KBO_6,KBO_7,KBO_8⟩:=ji BO
   obtain ⟨FBO_0,FBO_1,FBO_2,FBO_3,FBO_4,FBO_5,FBO_6,FBO_7,FBO_8⟩:=zJ BO
   go_upto_region 8 with fail
   generalize hw_:World.setCell w13 _ _=w14
   have T_w14:Touch (fun k=>k=w3.heap.size + 1) w13 w14:=by rw [← hw_];exact kC w13 (w3.heap.size + 1) 4 _
   replace BO:w14.heap[w3.heap.size + 1]?=some (.cells #[.slice oa0 x0.length op0,.int .i64 xc,.slice oa2 xe.length op2,.slice pa P.length pc,.slice va s2.length vc,.slice oa5 x4.length op5,.slice oa6 x5.length op6,.int .i64 x6,.slice g3 n3 c3] 74 (0,0)):=nZ
   have z_w14:=T_w14.size
   clear hw_
   replace BX:=T_w14.kD BX rP
   replace BD:=T_w14.kD BD rP
   replace BR:=T_w14.kD BR rP
   replace G1:=T_w14.cellT G1 rP
   replace HRQ:=yD (HRQ.out.touch T_w14 gN)
   replace HQ:=yD (HQ.out.touch T_w14 gN)
   replace HO2:=yD (HO2.out.touch T_w14 gN)
   replace EE:=EE.trans (T_w14.below EE.size qI)
   clear KBO_0 KBO_1 KBO_2 KBO_3 KBO_4 KBO_5 KBO_6 KBO_7 KBO_8 FBO_0 FBO_1 FBO_2 FBO_3 FBO_4 FBO_5 FBO_6 FBO_7 FBO_8
   clear T_w14
   go_wp2
   go_roundw
   case rel=>exact ⟨k + 1,g3,va,n3,c3,s2.length,vc,SN,by go_num,by omega,yD ((Rep.kg.cast HQ.out (HDY.out hne).symm).wide gL),yD dH,HRQ,BX,BD,BR,BO,by omega,EE⟩
   simp [intOf];omega
 obtain rfl:k=R.length:=rP
 have hk3:¬ ((R.length:Int) < R.length):=rP
 rw [List.take_length] at HQ HO
 obtain ⟨s,hs⟩:∃ s,kBy y0 x3 R=s:=⟨_,rfl⟩
 obtain ⟨Q,hQe⟩:∃ Q,kBv f (y0,y1,y2,y3,y4) R=Q:=⟨_,rfl⟩
 have hQl:Q.length≤Big:=by rw [← hQe];exact Nat.le_trans (kJh _ _ _) hRl
 rw [hs] at HO
 rw [hQe] at HQ
 have HSE:=yD hs
 have HQE:=yD hQe
 clear hs hQe HRQ
 obtain ⟨KBX_0,KBX_1,KBX_2,KBX_3,KBX_4,KBX_5,KBX_6,KBX_7⟩:=kBj BX
 obtain ⟨KBD_0,KBD_1,KBD_2,KBD_3,KBD_4⟩:=jh BD
 go_wp2_with fail
 refine (kTg (HLX.out.below EE) (cn:=[.slice ca0 y0.length cp0]) (HNY.out.1.below EE)).mono ?_
 rintro e w8 ⟨rfl,hb⟩
 have z_w8:=hb.size
 replace BX:=kD BX hb
 replace BD:=kD BD hb
 replace BR:=kD BR hb
 replace BO:=kD BO hb
 replace HO:=yD (HO.out.below hb)
 replace HQ:=yD (HQ.out.below hb)
 replace EE:=(tQ EE hb)
 clear KBX_0 KBX_1 KBX_2 KBX_3 KBX_4 KBX_5 KBX_6 KBX_7 KBD_0 KBD_1 KBD_2 KBD_3 KBD_4
 clear hb
 by_cases hfd:idxOf (isD y0) x0 < 0
 · have KBX_0:w8.cell? ⟨w.heap.size,0,none⟩=some (.slice aa0 x0.length ap0):=kK BX rfl
   have KBX_1:w8.cell? ⟨w.heap.size,1,none⟩=some (.int .i64 xc):=kK BX rfl
   have KBX_2:w8.cell? ⟨w.heap.size,2,none⟩=some (.slice aa2 xe.length ap2):=kK BX rfl
   have KBX_3:w8.cell? ⟨w.heap.size,3,none⟩=some (.slice aa3 x2.length ap3):=kK BX rfl
   have KBX_4:w8.cell? ⟨w.heap.size,4,none⟩=some (.slice aa4 x3.length ap4):=kK BX rfl
   have KBX_5:w8.cell? ⟨w.heap.size,5,none⟩=some (.slice aa5 x4.length ap5):=kK BX rfl
   have KBX_6:w8.cell? ⟨w.heap.size,6,none⟩=some (.slice aa6 x5.length ap6):=kK BX rfl
   have KBX_7:w8.cell? ⟨w.heap.size,7,none⟩=some (.int .i64 x6):=kK BX rfl
   obtain ⟨KBD_0,KBD_1,KBD_2,KBD_3,KBD_4⟩:=jh BD
   go_wp2_with fail
   refine (kPq (HCX.out.below EE) (HY.out.below EE) HT_.out hl1).mono ?_
   rintro e w9 ⟨ec,rfl,Oe,hb⟩
   have z_w9:=hb.size
   replace BX:=kD BX hb
   replace BD:=kD BD hb
   replace BR:=kD BR hb
   replace BO:=kD BO hb
   replace HO:=yD (HO.out.below hb)
   replace HQ:=yD (HQ.out.below hb)
   replace EE:=(tQ EE hb)
   clear KBX_0 KBX_1 KBX_2 KBX_3 KBX_4 KBX_5 KBX_6 KBX_7 KBD_0 KBD_1 KBD_2 KBD_3 KBD_4
   clear hb
   obtain ⟨ev,he⟩:=kPd (y0,y1,y2,y3,y4) t xc xe
   rw [he] at Oe
   have HCN:=yD ((kSr (t:=t) (x1:=(xc,xe)) (y:=(y0,y1,y2,y3,y4)) hfd).trans he)
   clear he
   obtain ⟨sv,rfl,s_r,s_l⟩:=jI Oe.raw
   obtain ⟨ea,ep,rfl,_⟩:=Rep.sl s_l
   clear s_r s_l
   obtain ⟨SC,hSC⟩:∃ SN:Nat→Prop,∀ j,SN j↔((S1 j∧j < w8.heap.size)∨(w8.heap.size≤j∧j < w9.heap.size)):=⟨_,fun _=>Iff.rfl⟩
   have HO2:=yD ((kKi HO.out Oe fV).wide (T:=(fun j=>w.heap.size + 4≤j∧j < w9.heap.size∧j≠w3.heap.size + 1∧SC j)) (fun j q=>q.elim (fun q=>⟨q.1,by have:=q.2.1;omega,q.2.2.1,(hSC j).2 (.inl ⟨q.2.2.2,by have:=q.2.1;omega⟩)⟩) (fun q=>⟨by have:=q.1;omega,q.2,by have:=q.1;omega,(hSC j).2 (.inr ⟨q.1,q.2⟩)⟩)))
   replace HQ:=yD (HQ.out.wide (T:=(fun j=>w6.heap.size≤j∧j < w9.heap.size∧¬ SC j)) (fun j q=>⟨q.1,by have:=q.2.1;omega,fun h=>((hSC j).1 h).elim (fun h2=>q.2.2 h2.1) gY⟩))
   clear HO Oe
   obtain ⟨KBO_0,KBO_1,KBO_2,KBO_3,KBO_4,KBO_5,KBO_6,KBO_7,KBO_8⟩:=ji BO
   obtain ⟨FBO_0,FBO_1,FBO_2,FBO_3,FBO_4,FBO_5,FBO_6,FBO_7,FBO_8⟩:=zJ BO
   go_upto_region 15 with fail
   generalize hw_:World.setCell (World.setCell w9 _ _) _ _=w10
   have T_w10:Touch (fun k=>k=w3.heap.size + 1) w9 w10:=by rw [← hw_];exact (kC _ _ _ _).trans (kC _ _ _ _)
   replace BO:w10.heap[w3.heap.size + 1]?=some (.cells #[.slice oa0 x0.length op0,.int .i64 xc,.slice ea ev.length ep,.slice pa P.length pc,.slice sa sn sc,.slice oa5 x4.length op5,.slice oa6 x5.length op6,.int .i64 x6,.slice ga gn gc] 74 (0,0)):=by rw [← hw_];exact jF (jF (BO) 1) 2
   have z_w10:=T_w10.size
   clear hw_
   replace BX:=T_w10.kD BX rP
   replace BD:=T_w10.kD BD rP
   replace BR:=T_w10.kD BR rP
   replace HQ:=yD (HQ.out.touch T_w10 gN)
   replace HO2:=yD (HO2.out.touch T_w10 gN)
   replace EE:=EE.trans (T_w10.below EE.size qI)
   clear KBO_0 KBO_1 KBO_2 KBO_3 KBO_4 KBO_5 KBO_6 KBO_7 KBO_8 FBO_0 FBO_1 FBO_2 FBO_3 FBO_4 FBO_5 FBO_6 FBO_7 FBO_8
   clear T_w10
   have HO:=yD (HO2.out.wide (T:=(fun j=>w.heap.size + 4≤j∧j < w10.heap.size∧j≠w3.heap.size + 1∧SC j)) gL)
   clear HO2
   replace HQ:=yD (HQ.out.wide (T:=(fun j=>w6.heap.size≤j∧j < w10.heap.size∧¬ SC j)) gL)
   obtain ⟨KBX_0,KBX_1,KBX_2,KBX_3,KBX_4,KBX_5,KBX_6,KBX_7⟩:=kBj BX
   obtain ⟨KBD_0,KBD_1,KBD_2,KBD_3,KBD_4⟩:=jh BD
   go_wp2_with fail
   refine (kEh (HRX.out.below EE) (cn:=[.slice ca0 y0.length cp0]) (HNY.out.below EE)).mono ?_
   rintro e w11 ⟨mc,rfl,Om,hb⟩
   have z_w11:=hb.size
   replace BX:=kD BX hb
   replace BD:=kD BD hb
   replace BR:=kD BR hb
   replace BO:=kD BO hb
   replace HQ:=yD (HQ.out.below hb)
   replace HO:=yD (HO.out.below hb)
   replace EE:=(tQ EE hb)
   clear KBX_0 KBX_1 KBX_2 KBX_3 KBX_4 KBX_5 KBX_6 KBX_7 KBD_0 KBD_1 KBD_2 KBD_3 KBD_4
   clear hb
   obtain ⟨M,hM⟩:∃ M,kHl y0 x4=M:=⟨_,rfl⟩
   rw [hM] at Om
   have HMN:=yD hM
   clear hM
   obtain ⟨mv,rfl,m_0⟩:=kM Om.raw
   obtain ⟨ma,mp,rfl,_⟩:=Rep.sl m_0
   clear m_0
   have HOM:=yD Om
   clear Om
   obtain ⟨mk,hmk⟩:∃ b,mOk y0 x4=b:=⟨_,rfl⟩
   rw [hmk]
   have HMK:=yD hmk
   clear hmk
   go_upto_region 16 with fail
   generalize hw_:World.alloc w11 _=w12
   have E_w12:Below w11.heap.size w11 w12:=nC
   have BN:w12.heap[w11.heap.size]?=some (.cells #[.slice ma M.length mp] 64 (0,0)):=pF
   have z_w12:w11.heap.size + 1≤w12.heap.size:=qJ
   clear hw_
   replace BX:=kD BX E_w12
   replace BD:=kD BD E_w12
   replace BR:=kD BR E_w12
   replace BO:=kD BO E_w12
   replace HQ:=yD (HQ.out.below E_w12)
   replace HO:=yD (HO.out.below E_w12)
   replace HOM:=yD (HOM.out.below E_w12)
   replace EE:=(tQ EE E_w12)
   clear E_w12
   cases mk
   · have HRC:=yD (kQm (f:=f) (x5:=x5) HMK.out)
     clear HOM
     have HT:=yD ((kDf (f:=f) HSO.out).trans (show ((x0,kDp (y0,y1,y2,y3,y4) t x0 (xc,xe),kHt y0 x2,kBy y0 x3 (kDs y0 x2),x4,kHu f y0 x4 x5,x6),kBv f (y0,y1,y2,y3,y4) (kDs y0 x2))=((x0,(xc,ev),P,s,x4,x5,x6),Q) by rw [HP2.out,HR2.out,HCN.out,HSE.out,HRC.out,HQE.out]))
     obtain ⟨KBO_0,KBO_1,KBO_2,KBO_3,KBO_4,KBO_5,KBO_6,KBO_7,KBO_8⟩:=ji BO
     obtain ⟨KBR_0,KBR_1,KBR_2,KBR_3,KBR_4,KBR_5,KBR_6,KBR_7,KBR_8⟩:=ji BR
     obtain ⟨FBR_0,FBR_1,FBR_2,FBR_3,FBR_4,FBR_5,FBR_6,FBR_7,FBR_8⟩:=zJ BR
     go_wp2
     refine bodyPost_ret (v:=.agg #[.slice oa0 x0.length op0,.int .i64 xc,.slice ea ev.length ep,.slice pa P.length pc,.slice sa sn sc,.slice oa5 x4.length op5,.slice oa6 x5.length op6,.int .i64 x6,.slice ga gn gc]) bK rfl ⟨[.slice oa0 x0.length op0,.int .i64 xc,.slice ea ev.length ep,.slice pa P.length pc,.slice sa sn sc,.slice oa5 x4.length op5,.slice oa6 x5.length op6,.int .i64 x6,.slice ga gn gc],rfl,?_,?_⟩
     · rw [HT.out];exact kGa (HO.out.touch (((((((((kC _ _ _ _).trans (kC _ _ _ _)).trans (kC _ _ _ _)).trans (kC _ _ _ _)).trans (kC _ _ _ _)).trans (kC _ _ _ _)).trans (kC _ _ _ _)).trans (kC _ _ _ _)).trans (kC _ _ _ _)) nJ) ((HQ.out.touch (((((((((kC _ _ _ _).trans (kC _ _ _ _)).trans (kC _ _ _ _)).trans (kC _ _ _ _)).trans (kC _ _ _ _)).trans (kC _ _ _ _)).trans (kC _ _ _ _)).trans (kC _ _ _ _)).trans (kC _ _ _ _)) nJ).own hQl) dO dO (fun j q r=>r.2.2 q.2.2.2)
     exact EE.trans (Touch.below (((((((((kC _ _ _ _).trans (kC _ _ _ _)).trans (kC _ _ _ _)).trans (kC _ _ _ _)).trans (kC _ _ _ _)).trans (kC _ _ _ _)).trans (kC _ _ _ _)).trans (kC _ _ _ _)).trans (kC _ _ _ _)) EE.size qI)
   have KBX_0:w12.cell? ⟨w.heap.size,0,none⟩=some (.slice aa0 x0.length ap0):=kK BX rfl
   have KBX_1:w12.cell? ⟨w.heap.size,1,none⟩=some (.int .i64 xc):=kK BX rfl
   have KBX_2:w12.cell? ⟨w.heap.size,2,none⟩=some (.slice aa2 xe.length ap2):=kK BX rfl
   have KBX_3:w12.cell? ⟨w.heap.size,3,none⟩=some (.slice aa3 x2.length ap3):=kK BX rfl
   have KBX_4:w12.cell? ⟨w.heap.size,4,none⟩=some (.slice aa4 x3.length ap4):=kK BX rfl
   have KBX_5:w12.cell? ⟨w.heap.size,5,none⟩=some (.slice aa5 x4.length ap5):=kK BX rfl
   have KBX_6:w12.cell? ⟨w.heap.size,6,none⟩=some (.slice aa6 x5.length ap6):=kK BX rfl
   have KBX_7:w12.cell? ⟨w.heap.size,7,none⟩=some (.int .i64 x6):=kK BX rfl
   have KBN_0:w12.cell? ⟨w11.heap.size,0,none⟩=some (.slice ma M.length mp):=kK BN rfl
   go_wp2_with fail
   refine (kEn (HMX.out.below EE) (cn:=[.slice ma M.length mp]) HOM.out.rd HF.out).mono ?_
   rintro e w13 ⟨v8,rfl,O8,hb⟩
   have z_w13:=hb.size
   replace BX:=kD BX hb
   replace BD:=kD BD hb
   replace BR:=kD BR hb
   replace BO:=kD BO hb
   replace BN:=kD BN hb
   replace HQ:=yD (HQ.out.below hb)
   replace HO:=yD (HO.out.below hb)
   replace HOM:=yD (HOM.out.below hb)
   replace EE:=(tQ EE hb)
   clear KBX_0 KBX_1 KBX_2 KBX_3 KBX_4 KBX_5 KBX_6 KBX_7 KBN_0
   clear hb
   obtain ⟨ms,hms⟩:∃ l,kJl M f x5=l:=⟨_,rfl⟩
   rw [hms] at O8
   have HRC:=yD (show kHu f y0 x4 x5=ms by rw [kLt HMK.out,HMN.out];exact hms)
   clear hms HOM
   obtain ⟨na,nc,rfl,_⟩:=Rep.sl O8.raw
   obtain ⟨ST,hST⟩:∃ SN:Nat→Prop,∀ j,SN j↔((SC j∧j < w12.heap.size)∨(w12.heap.size≤j∧j < w13.heap.size)):=⟨_,fun _=>Iff.rfl⟩
   have HO2:=yD ((kEs HO.out O8 fV).wide (T:=(fun j=>w.heap.size + 4≤j∧j < w13.heap.size∧j≠w3.heap.size + 1∧ST j)) bA)
   replace HQ:=yD (HQ.out.wide (T:=(fun j=>w6.heap.size≤j∧j < w13.heap.size∧¬ ST j)) bP)
   clear HO O8
   obtain ⟨KBO_0,KBO_1,KBO_2,KBO_3,KBO_4,KBO_5,KBO_6,KBO_7,KBO_8⟩:=ji BO
   obtain ⟨FBO_0,FBO_1,FBO_2,FBO_3,FBO_4,FBO_5,FBO_6,FBO_7,FBO_8⟩:=zJ BO
   go_upto_region 18 with fail
   generalize hw_:World.setCell w13 _ _=w14
   have T_w14:Touch (fun k=>k=w3.heap.size + 1) w13 w14:=by rw [← hw_];exact kC w13 (w3.heap.size + 1) 6 _
   replace BO:w14.heap[w3.heap.size + 1]?=some (.cells #[.slice oa0 x0.length op0,.int .i64 xc,.slice ea ev.length ep,.slice pa P.length pc,.slice sa sn sc,.slice oa5 x4.length op5,.slice na ms.length nc,.int .i64 x6,.slice ga gn gc] 74 (0,0)):=pE
   have z_w14:=T_w14.size
   clear hw_
   replace BX:=T_w14.kD BX rP
   replace BD:=T_w14.kD BD rP
   replace BR:=T_w14.kD BR rP
   replace BN:=T_w14.kD BN rP
   replace HQ:=yD (HQ.out.touch T_w14 gN)
   replace HO2:=yD (HO2.out.touch T_w14 gN)
   replace EE:=EE.trans (T_w14.below EE.size qI)
   clear KBO_0 KBO_1 KBO_2 KBO_3 KBO_4 KBO_5 KBO_6 KBO_7 KBO_8 FBO_0 FBO_1 FBO_2 FBO_3 FBO_4 FBO_5 FBO_6 FBO_7 FBO_8
   clear T_w14
   have HO:=yD (HO2.out.wide (T:=(fun j=>w.heap.size + 4≤j∧j < w14.heap.size∧j≠w3.heap.size + 1∧ST j)) gL)
   clear HO2
   replace HQ:=yD (HQ.out.wide (T:=(fun j=>w6.heap.size≤j∧j < w14.heap.size∧¬ ST j)) gL)
   have HT:=yD ((kDf (f:=f) HSO.out).trans (show ((x0,kDp (y0,y1,y2,y3,y4) t x0 (xc,xe),kHt y0 x2,kBy y0 x3 (kDs y0 x2),x4,kHu f y0 x4 x5,x6),kBv f (y0,y1,y2,y3,y4) (kDs y0 x2))=((x0,(xc,ev),P,s,x4,ms,x6),Q) by rw [HP2.out,HR2.out,HCN.out,HSE.out,HRC.out,HQE.out]))
   obtain ⟨KBO_0,KBO_1,KBO_2,KBO_3,KBO_4,KBO_5,KBO_6,KBO_7,KBO_8⟩:=ji BO
   obtain ⟨KBR_0,KBR_1,KBR_2,KBR_3,KBR_4,KBR_5,KBR_6,KBR_7,KBR_8⟩:=ji BR
   obtain ⟨FBR_0,FBR_1,FBR_2,FBR_3,FBR_4,FBR_5,FBR_6,FBR_7,FBR_8⟩:=zJ BR
   go_wp2
   refine bodyPost_ret (v:=.agg #[.slice oa0 x0.length op0,.int .i64 xc,.slice ea ev.length ep,.slice pa P.length pc,.slice sa sn sc,.slice oa5 x4.length op5,.slice na ms.length nc,.int .i64 x6,.slice ga gn gc]) bK rfl ⟨[.slice oa0 x0.length op0,.int .i64 xc,.slice ea ev.length ep,.slice pa P.length pc,.slice sa sn sc,.slice oa5 x4.length op5,.slice na ms.length nc,.int .i64 x6,.slice ga gn gc],rfl,?_,?_⟩
   · rw [HT.out];exact kGa (HO.out.touch (((((((((kC _ _ _ _).trans (kC _ _ _ _)).trans (kC _ _ _ _)).trans (kC _ _ _ _)).trans (kC _ _ _ _)).trans (kC _ _ _ _)).trans (kC _ _ _ _)).trans (kC _ _ _ _)).trans (kC _ _ _ _)) nJ) ((HQ.out.touch (((((((((kC _ _ _ _).trans (kC _ _ _ _)).trans (kC _ _ _ _)).trans (kC _ _ _ _)).trans (kC _ _ _ _)).trans (kC _ _ _ _)).trans (kC _ _ _ _)).trans (kC _ _ _ _)).trans (kC _ _ _ _)) nJ).own hQl) dO dO (fun j q r=>r.2.2 q.2.2.2)
   exact EE.trans (Touch.below (((((((((kC _ _ _ _).trans (kC _ _ _ _)).trans (kC _ _ _ _)).trans (kC _ _ _ _)).trans (kC _ _ _ _)).trans (kC _ _ _ _)).trans (kC _ _ _ _)).trans (kC _ _ _ _)).trans (kC _ _ _ _)) EE.size qI)
 have HCN:=yD (kVh (t:=t) (x1:=(xc,xe)) (y:=(y0,y1,y2,y3,y4)) hfd)
 obtain ⟨KBX_0,KBX_1,KBX_2,KBX_3,KBX_4,KBX_5,KBX_6,KBX_7⟩:=kBj BX
 obtain ⟨KBD_0,KBD_1,KBD_2,KBD_3,KBD_4⟩:=jh BD
 go_wp2_with fail
 refine (kEh (HRX.out.below EE) (cn:=[.slice ca0 y0.length cp0]) (HNY.out.below EE)).mono ?_
 rintro e w9 ⟨mc,rfl,Om,hb⟩
 have z_w9:=hb.size
 replace BX:=kD BX hb
 replace BD:=kD BD hb
 replace BR:=kD BR hb
 replace BO:=kD BO hb
 replace HO:=yD (HO.out.below hb)
 replace HQ:=yD (HQ.out.below hb)
 replace EE:=(tQ EE hb)
 clear KBX_0 KBX_1 KBX_2 KBX_3 KBX_4 KBX_5 KBX_6 KBX_7 KBD_0 KBD_1 KBD_2 KBD_3 KBD_4
 clear hb
 obtain ⟨M,hM⟩:∃ M,kHl y0 x4=M:=⟨_,rfl⟩
 rw [hM] at Om
 have HMN:=yD hM
 clear hM
 obtain ⟨mv,rfl,m_0⟩:=kM Om.raw
 obtain ⟨ma,mp,rfl,_⟩:=Rep.sl m_0
 clear m_0
 have HOM:=yD Om
 clear Om
 obtain ⟨mk,hmk⟩:∃ b,mOk y0 x4=b:=⟨_,rfl⟩
 rw [hmk]
 have HMK:=yD hmk
 clear hmk
 go_upto_region 16 with fail
 generalize hw_:World.alloc w9 _=w10
 have E_w10:Below w9.heap.size w9 w10:=nC
 have BN:w10.heap[w9.heap.size]?=some (.cells #[.slice ma M.length mp] 64 (0,0)):=pF
 have z_w10:w9.heap.size + 1≤w10.heap.size:=qJ
 clear hw_
 replace BX:=kD BX E_w10
 replace BD:=kD BD E_w10
 replace BR:=kD BR E_w10
 replace BO:=kD BO E_w10
 replace HO:=yD (HO.out.below E_w10)
 replace HQ:=yD (HQ.out.below E_w10)
 replace HOM:=yD (HOM.out.below E_w10)
 replace EE:=(tQ EE E_w10)
 clear E_w10
 cases mk
 · have HRC:=yD (kQm (f:=f) (x5:=x5) HMK.out)
   clear HOM
   have HT:=yD ((kDf (f:=f) HSO.out).trans (show ((x0,kDp (y0,y1,y2,y3,y4) t x0 (xc,xe),kHt y0 x2,kBy y0 x3 (kDs y0 x2),x4,kHu f y0 x4 x5,x6),kBv f (y0,y1,y2,y3,y4) (kDs y0 x2))=((x0,(xc,xe),P,s,x4,x5,x6),Q) by rw [HP2.out,HR2.out,HCN.out,HSE.out,HRC.out,HQE.out]))
   obtain ⟨KBO_0,KBO_1,KBO_2,KBO_3,KBO_4,KBO_5,KBO_6,KBO_7,KBO_8⟩:=ji BO
   obtain ⟨KBR_0,KBR_1,KBR_2,KBR_3,KBR_4,KBR_5,KBR_6,KBR_7,KBR_8⟩:=ji BR
   obtain ⟨FBR_0,FBR_1,FBR_2,FBR_3,FBR_4,FBR_5,FBR_6,FBR_7,FBR_8⟩:=zJ BR
   go_wp2
   refine bodyPost_ret (v:=.agg #[.slice oa0 x0.length op0,.int .i64 xc,.slice oa2 xe.length op2,.slice pa P.length pc,.slice sa sn sc,.slice oa5 x4.length op5,.slice oa6 x5.length op6,.int .i64 x6,.slice ga gn gc]) bK rfl ⟨[.slice oa0 x0.length op0,.int .i64 xc,.slice oa2 xe.length op2,.slice pa P.length pc,.slice sa sn sc,.slice oa5 x4.length op5,.slice oa6 x5.length op6,.int .i64 x6,.slice ga gn gc],rfl,?_,?_⟩
   · rw [HT.out];exact kGa (HO.out.touch (((((((((kC _ _ _ _).trans (kC _ _ _ _)).trans (kC _ _ _ _)).trans (kC _ _ _ _)).trans (kC _ _ _ _)).trans (kC _ _ _ _)).trans (kC _ _ _ _)).trans (kC _ _ _ _)).trans (kC _ _ _ _)) nJ) ((HQ.out.touch (((((((((kC _ _ _ _).trans (kC _ _ _ _)).trans (kC _ _ _ _)).trans (kC _ _ _ _)).trans (kC _ _ _ _)).trans (kC _ _ _ _)).trans (kC _ _ _ _)).trans (kC _ _ _ _)).trans (kC _ _ _ _)) nJ).own hQl) dO dO (fun j q r=>r.2.2 q.2.2.2)
   exact EE.trans (Touch.below (((((((((kC _ _ _ _).trans (kC _ _ _ _)).trans (kC _ _ _ _)).trans (kC _ _ _ _)).trans (kC _ _ _ _)).trans (kC _ _ _ _)).trans (kC _ _ _ _)).trans (kC _ _ _ _)).trans (kC _ _ _ _)) EE.size qI)
 have KBX_0:w10.cell? ⟨w.heap.size,0,none⟩=some (.slice aa0 x0.length ap0):=kK BX rfl
 have KBX_1:w10.cell? ⟨w.heap.size,1,none⟩=some (.int .i64 xc):=kK BX rfl
 have KBX_2:w10.cell? ⟨w.heap.size,2,none⟩=some (.slice aa2 xe.length ap2):=kK BX rfl
 have KBX_3:w10.cell? ⟨w.heap.size,3,none⟩=some (.slice aa3 x2.length ap3):=kK BX rfl
 have KBX_4:w10.cell? ⟨w.heap.size,4,none⟩=some (.slice aa4 x3.length ap4):=kK BX rfl
 have KBX_5:w10.cell? ⟨w.heap.size,5,none⟩=some (.slice aa5 x4.length ap5):=kK BX rfl
 have KBX_6:w10.cell? ⟨w.heap.size,6,none⟩=some (.slice aa6 x5.length ap6):=kK BX rfl
 have KBX_7:w10.cell? ⟨w.heap.size,7,none⟩=some (.int .i64 x6):=kK BX rfl
 have KBN_0:w10.cell? ⟨w9.heap.size,0,none⟩=some (.slice ma M.length mp):=kK BN rfl
 go_wp2_with fail
 refine (kEn (HMX.out.below EE) (cn:=[.slice ma M.length mp]) HOM.out.rd HF.out).mono ?_
 rintro e w11 ⟨v8,rfl,O8,hb⟩
 have z_w11:=hb.size
 replace BX:=kD BX hb
 replace BD:=kD BD hb
 replace BR:=kD BR hb
 replace BO:=kD BO hb
 replace BN:=kD BN hb
 replace HO:=yD (HO.out.below hb)
 replace HQ:=yD (HQ.out.below hb)
 replace HOM:=yD (HOM.out.below hb)
 replace EE:=(tQ EE hb)
 clear KBX_0 KBX_1 KBX_2 KBX_3 KBX_4 KBX_5 KBX_6 KBX_7 KBN_0
 clear hb
 obtain ⟨ms,hms⟩:∃ l,kJl M f x5=l:=⟨_,rfl⟩
 rw [hms] at O8
 have HRC:=yD (show kHu f y0 x4 x5=ms by rw [kLt HMK.out,HMN.out];exact hms)
 clear hms HOM
 obtain ⟨na,nc,rfl,_⟩:=Rep.sl O8.raw
 obtain ⟨ST,hST⟩:∃ SN:Nat→Prop,∀ j,SN j↔((S1 j∧j < w10.heap.size)∨(w10.heap.size≤j∧j < w11.heap.size)):=⟨_,fun _=>Iff.rfl⟩
 have HO2:=yD ((kEs HO.out O8 fV).wide (T:=(fun j=>w.heap.size + 4≤j∧j < w11.heap.size∧j≠w3.heap.size + 1∧ST j)) bA)
 replace HQ:=yD (HQ.out.wide (T:=(fun j=>w6.heap.size≤j∧j < w11.heap.size∧¬ ST j)) bP)
 clear HO O8
 obtain ⟨KBO_0,KBO_1,KBO_2,KBO_3,KBO_4,KBO_5,KBO_6,KBO_7,KBO_8⟩:=ji BO
 obtain ⟨FBO_0,FBO_1,FBO_2,FBO_3,FBO_4,FBO_5,FBO_6,FBO_7,FBO_8⟩:=zJ BO
 go_upto_region 18 with fail
 generalize hw_:World.setCell w11 _ _=w12
 have T_w12:Touch (fun k=>k=w3.heap.size + 1) w11 w12:=by rw [← hw_];exact kC w11 (w3.heap.size + 1) 6 _
 replace BO:w12.heap[w3.heap.size + 1]?=some (.cells #[.slice oa0 x0.length op0,.int .i64 xc,.slice oa2 xe.length op2,.slice pa P.length pc,.slice sa sn sc,.slice oa5 x4.length op5,.slice na ms.length nc,.int .i64 x6,.slice ga gn gc] 74 (0,0)):=pE
 have z_w12:=T_w12.size
 clear hw_
 replace BX:=T_w12.kD BX rP
 replace BD:=T_w12.kD BD rP
 replace BR:=T_w12.kD BR rP
 replace BN:=T_w12.kD BN rP
 replace HQ:=yD (HQ.out.touch T_w12 gN)
 replace HO2:=yD (HO2.out.touch T_w12 gN)
 replace EE:=EE.trans (T_w12.below EE.size qI)
 clear KBO_0 KBO_1 KBO_2 KBO_3 KBO_4 KBO_5 KBO_6 KBO_7 KBO_8 FBO_0 FBO_1 FBO_2 FBO_3 FBO_4 FBO_5 FBO_6 FBO_7 FBO_8
 clear T_w12
 have HO:=yD (HO2.out.wide (T:=(fun j=>w.heap.size + 4≤j∧j < w12.heap.size∧j≠w3.heap.size + 1∧ST j)) gL)
 clear HO2
 replace HQ:=yD (HQ.out.wide (T:=(fun j=>w6.heap.size≤j∧j < w12.heap.size∧¬ ST j)) gL)
 have HT:=yD ((kDf (f:=f) HSO.out).trans (show ((x0,kDp (y0,y1,y2,y3,y4) t x0 (xc,xe),kHt y0 x2,kBy y0 x3 (kDs y0 x2),x4,kHu f y0 x4 x5,x6),kBv f (y0,y1,y2,y3,y4) (kDs y0 x2))=((x0,(xc,xe),P,s,x4,ms,x6),Q) by rw [HP2.out,HR2.out,HCN.out,HSE.out,HRC.out,HQE.out]))
 obtain ⟨KBO_0,KBO_1,KBO_2,KBO_3,KBO_4,KBO_5,KBO_6,KBO_7,KBO_8⟩:=ji BO
 obtain ⟨KBR_0,KBR_1,KBR_2,KBR_3,KBR_4,KBR_5,KBR_6,KBR_7,KBR_8⟩:=ji BR
 obtain ⟨FBR_0,FBR_1,FBR_2,FBR_3,FBR_4,FBR_5,FBR_6,FBR_7,FBR_8⟩:=zJ BR
 go_wp2
 refine bodyPost_ret (v:=.agg #[.slice oa0 x0.length op0,.int .i64 xc,.slice oa2 xe.length op2,.slice pa P.length pc,.slice sa sn sc,.slice oa5 x4.length op5,.slice na ms.length nc,.int .i64 x6,.slice ga gn gc]) bK rfl ⟨[.slice oa0 x0.length op0,.int .i64 xc,.slice oa2 xe.length op2,.slice pa P.length pc,.slice sa sn sc,.slice oa5 x4.length op5,.slice na ms.length nc,.int .i64 x6,.slice ga gn gc],rfl,?_,?_⟩
 · rw [HT.out];exact kGa (HO.out.touch (((((((((kC _ _ _ _).trans (kC _ _ _ _)).trans (kC _ _ _ _)).trans (kC _ _ _ _)).trans (kC _ _ _ _)).trans (kC _ _ _ _)).trans (kC _ _ _ _)).trans (kC _ _ _ _)).trans (kC _ _ _ _)) nJ) ((HQ.out.touch (((((((((kC _ _ _ _).trans (kC _ _ _ _)).trans (kC _ _ _ _)).trans (kC _ _ _ _)).trans (kC _ _ _ _)).trans (kC _ _ _ _)).trans (kC _ _ _ _)).trans (kC _ _ _ _)).trans (kC _ _ _ _)) nJ).own hQl) dO dO (fun j q r=>r.2.2 q.2.2.2)
 exact EE.trans (Touch.below (((((((((kC _ _ _ _).trans (kC _ _ _ _)).trans (kC _ _ _ _)).trans (kC _ _ _ _)).trans (kC _ _ _ _)).trans (kC _ _ _ _)).trans (kC _ _ _ _)).trans (kC _ _ _ _)).trans (kC _ _ _ _)) EE.size qI)
end Go.Proofs.YtlfblpgkegeaeaaGreat

/-
  What an interest brings about: spec.
-/
import Derived.Test.YtomdenfcfbkfbaaGreatProcI
set_option linter.unusedVariables false
set_option linter.unusedSimpArgs false
set_option linter.unnecessarySimpa false
set_option maxRecDepth 100000
set_option maxHeartbeats 8000000
namespace Go.Proofs.YtomdenfcfbkfbaaGreat
open Go.RowKit
theorem zz {w:World} {cx:List Value} {x:yZ} (hx:jM.rd w cx x) {f:Int} (hf:-9223372036854775808≤f∧f≤9223372036854775807) {cq:List Value} {q:jF} (hq:kw.rd w cq q) {t:Int} (ht:-9223372036854775808≤t∧t≤9223372036854775807) (hB:jM.bdd 1048576 x) :
    Calls Tryz.prog 13 #[.agg cx.toArray,.int .i64 f,.agg cq.toArray,.int .i64 t] w (yK yP (kFr x f q t) w):=by
 obtain ⟨x0,⟨xc,xe⟩,x2,x3,x4,x5,x6⟩:=x
 have HX:=yD hx
 obtain ⟨q0,q1,q2,q3⟩:=q
 have HI:=yD hq
 have HF:=yD hf
 have HT_:=yD ht
 obtain ⟨av0,av2,av3,av4,av5,av6,rfl,a_0,a_1,a_2,a_3,a_4,a_5,a_6,a_7,a_8⟩:=jm hx.1
 obtain ⟨aa0,ap0,rfl,al0⟩:=Rep.sl a_0
 obtain ⟨aa2,ap2,rfl,al2⟩:=Rep.sl a_3
 obtain ⟨aa3,ap3,rfl,al3⟩:=Rep.sl a_4
 obtain ⟨aa4,ap4,rfl,al4⟩:=Rep.sl a_5
 obtain ⟨aa5,ap5,rfl,al5⟩:=Rep.sl a_6
 obtain ⟨aa6,ap6,rfl,al6⟩:=Rep.sl a_7
 obtain ⟨bv0,rfl,b_0,b_1,b_2,b_3,b_4⟩:=jA hq.1
 obtain ⟨ba0,bp0,rfl,bl0⟩:=Rep.sl b_1
 have HPX:Hid ((Rep.slice 77 kD).rd w [.slice aa3 x2.length ap3] x2):=yD ⟨a_4,hx.2.2.2.1⟩
 have HSX:Hid ((Rep.slice 157 kI).rd w [.slice aa4 x3.length ap4] x3):=yD ⟨a_5,hx.2.2.2.2.1⟩
 have HCX:Hid (kH.rd w [.int .i64 xc,.slice aa2 xe.length ap2] (xc,xe)):=yD ⟨a_1,hx.2.2.1⟩
 have HNQ:Hid (kZ.rd w [.slice ba0 q0.length bp0] q0):=yD ⟨b_0,hq.2.1⟩
 have HR1:Hid (-9223372036854775808≤q1∧q1≤9223372036854775807):=yD b_2
 have HSM:Hid ((Rep.slice 77 kD).bdd 1048576 x2):=yD hB.2.2.1
 have hl3:x3.length≤2000000:=Nat.le_trans hB.2.2.2.1.1 rG
 have hl4:x4.length≤1048576:=hB.2.2.2.2.1.1
 clear hx hq hf ht hB b_0 b_1 b_2 b_3 b_4
 clear a_0 a_1 a_2 a_3 a_4 a_5 a_6 a_7 a_8
 go_enter Tryz.func13,Tryz.ntmps13
 go_upto_region 1 with fail
 generalize hw_:World.alloc (World.alloc (World.alloc w _) _) _=w1
 have EE:Below w.heap.size w w1:=by rw [← hw_];exact bD
 have BX:w1.heap[w.heap.size]?=some (.cells #[.slice aa0 x0.length ap0,.int .i64 xc,.slice aa2 xe.length ap2,.slice aa3 x2.length ap3,.slice aa4 x3.length ap4,.slice aa5 x4.length ap5,.slice aa6 x5.length ap6,.int .i64 x6] 42 (0,0)):=gT
 have BQ:w1.heap[w.heap.size + 1]?=some (.cells #[.slice ba0 q0.length bp0,.int .i64 q1,.int .i64 q2,.int .i64 q3] 60 (0,0)):=by rw [← hw_];exact jb (kW rM)
 have BR:w1.heap[w.heap.size + 2]?=some (.cells #[.slice none 0 0,.int .i64 0,.slice none 0 0,.slice none 0 0,.slice none 0 0,.slice none 0 0,.slice none 0 0,.int .i64 0,.slice none 0 0] 56 (0,0)):=by rw [← hw_];exact kW rM
 have z_w1:w.heap.size + 3≤w1.heap.size:=qE
 clear hw_
 obtain ⟨KBX_0,KBX_1,KBX_2,KBX_3,KBX_4,KBX_5,KBX_6,KBX_7⟩:=kAa BX
 obtain ⟨KBQ_0,KBQ_1,KBQ_2,KBQ_3⟩:=yR BQ
 go_upto_region 1 with fail
 have FX:=yD (fun (W:World) (hW:Below w1.heap.size w1 W)=>kLb hW KBX_3 KBX_4 KBQ_0 KBQ_1 KBQ_2 KBQ_3)
 refine ku (fun W=>Below w1.heap.size w1 W) [true,false,true,true,true,false,true,true,true,true,true,true,true,true,false,true] bR ?_
 intro wS HS
 all_goals refine wkR ?_
 all_goals first | refine wkB (kBs (HI.out.1.below (tQ EE HS))) (fun wS1 HS=>?_) | refine wkR ?_
 all_goals refine wkR ?_
 all_goals (have hg3:=True.intro;first|(refine wkG (fun b hg3=>?_);cases b;all_goals first | exact Bool.noConfusion hg3 | simp only [zU,zV] at hg3 | skip) | refine wkR ?_)
 all_goals refine wkP ?_
 all_goals refine wkR ?_
 all_goals first | refine wkC (kAp) ?_ | refine wkR ?_
 all_goals refine wkR ?_
 all_goals refine wkR ?_
 all_goals (have hg8:=True.intro;first|(refine wkG (fun b hg8=>?_);cases b;all_goals first | exact Bool.noConfusion hg8 | simp only [zU,zV] at hg8 | skip) | refine wkR ?_)
 all_goals refine wkP ?_
 iterate 5
  all_goals refine wkR ?_
 all_goals first | refine wkB (kVz (HPX.out.below (tQ EE HS)) (HSX.out.below (tQ EE HS)) (HI.out.below (tQ EE HS))) (fun wS1 HS=>?_) | refine wkR ?_
 all_goals (have hg15:=True.intro;first|(refine wkG (fun b hg15=>?_);cases b;all_goals first | exact Bool.noConfusion hg15 | simp only [zU,zV] at hg15 | skip) | refine wkR ?_)
 all_goals refine wkP ?_
 all_goals refine ko ?_
 all_goals rename World=>w2
 all_goals have z_w2:=HS.size
 all_goals replace BX:=kE BX HS
 all_goals replace BQ:=kE BQ HS
 all_goals replace BR:=kE BR HS
 all_goals replace EE:=(tQ EE HS)
 all_goals clear KBX_0 KBX_1 KBX_2 KBX_3 KBX_4 KBX_5 KBX_6 KBX_7 KBQ_0 KBQ_1 KBQ_2 KBQ_3
 all_goals clear HS
 all_goals first
   | (have HT := yD (proc_bad (t := t) (show kBf (x0, (xc, xe), x2, x3, x4, x5, x6) f (q0, q1, q2, q3) = true by simp only [kBf, Bool.not_true, Bool.not_false, Bool.and_true, Bool.true_and, Bool.and_false, Bool.false_and, Bool.or_true, Bool.true_or, Bool.or_false, Bool.false_or, Bool.not_not, hg3, hg8, hg15]))
      obtain ⟨KBX_0,KBX_1,KBX_2,KBX_3,KBX_4,KBX_5,KBX_6,KBX_7⟩:=kAa BX
      go_wp2_with fail
      refine (kJt (HX.out.below EE)).mono ?_
      rintro e w3 ⟨ds,rfl,Od,hb⟩
      have z_w3:=hb.size
      replace BX:=kE BX hb
      replace BQ:=kE BQ hb
      replace BR:=kE BR hb
      replace EE:=(tQ EE hb)
      clear KBX_0 KBX_1 KBX_2 KBX_3 KBX_4 KBX_5 KBX_6 KBX_7
      clear hb
      obtain ⟨y6,hy6⟩:∃ y,wrap64 (x6 + 1)=y:=⟨_,rfl⟩
      have HDR:=yD (show kIj (x0,(xc,xe),x2,x3,x4,x5,x6)=(x0,(xc,xe),x2,x3,x4,x5,y6) by rw [kIi,hy6])
      clear hy6
      rw [HDR.out] at Od
      obtain ⟨ov0,ov2,ov3,ov4,ov5,ov6,ov8,rfl,o_0,o_1,o_2,o_3,o_4,o_5,o_6,o_7,o_8,o_9,o_10⟩:=yG Od.raw
      obtain ⟨oa0,op0,rfl,ol0⟩:=Rep.sl o_1
      obtain ⟨oa2,op2,rfl,ol2⟩:=Rep.sl o_4
      obtain ⟨oa3,op3,rfl,ol3⟩:=Rep.sl o_5
      obtain ⟨oa4,op4,rfl,ol4⟩:=Rep.sl o_6
      obtain ⟨oa5,op5,rfl,ol5⟩:=Rep.sl o_7
      obtain ⟨oa6,op6,rfl,ol6⟩:=Rep.sl o_8
      obtain ⟨oa8,op8,rfl,ol8⟩:=Rep.sl o_10
      clear o_0 o_1 o_2 o_3 o_4 o_5 o_6 o_7 o_8 o_9 o_10
      obtain ⟨KBR_0,KBR_1,KBR_2,KBR_3,KBR_4,KBR_5,KBR_6,KBR_7,KBR_8⟩:=yH BR
      obtain ⟨FBR_0,FBR_1,FBR_2,FBR_3,FBR_4,FBR_5,FBR_6,FBR_7,FBR_8⟩:=zg BR
      go_wp2
      refine bodyPost_ret (v:=.agg #[.slice oa0 x0.length op0,.int .i64 xc,.slice oa2 xe.length op2,.slice oa3 x2.length op3,.slice oa4 x3.length op4,.slice oa5 x4.length op5,.slice oa6 x5.length op6,.int .i64 y6,.slice oa8 ([]:List jQ).length op8]) bF rfl ⟨[.slice oa0 x0.length op0,.int .i64 xc,.slice oa2 xe.length op2,.slice oa3 x2.length op3,.slice oa4 x3.length op4,.slice oa5 x4.length op5,.slice oa6 x5.length op6,.int .i64 y6,.slice oa8 ([]:List jQ).length op8],rfl,?_,?_⟩
      · rw [HT.out,HDR.out];exact (Od.touch (((((((((kC _ _ _ _).trans (kC _ _ _ _)).trans (kC _ _ _ _)).trans (kC _ _ _ _)).trans (kC _ _ _ _)).trans (kC _ _ _ _)).trans (kC _ _ _ _)).trans (kC _ _ _ _)).trans (kC _ _ _ _)) mP).wide dA
      · exact EE.trans (Touch.below (((((((((kC _ _ _ _).trans (kC _ _ _ _)).trans (kC _ _ _ _)).trans (kC _ _ _ _)).trans (kC _ _ _ _)).trans (kC _ _ _ _)).trans (kC _ _ _ _)).trans (kC _ _ _ _)).trans (kC _ _ _ _)) EE.size qD))
   | skip
 have HBAD:=yD (show kBf (x0,(xc,xe),x2,x3,x4,x5,x6) f (q0,q1,q2,q3)=false by simp only [kBf,Bool.not_true,Bool.not_false,Bool.and_true,Bool.true_and,Bool.and_false,Bool.false_and,Bool.or_true,Bool.true_or,Bool.or_false,Bool.false_or,Bool.not_not,hg3,hg8,hg15])
 clear hg3 hg8 hg15
 obtain ⟨KBX_0,KBX_1,KBX_2,KBX_3,KBX_4,KBX_5,KBX_6,KBX_7⟩:=kAa BX
 go_wp2_with fail
 refine (kHo (HX.out.below EE)).mono ?_
 rintro e w3 ⟨cs,rfl,O,hb⟩
 have z_w3:=hb.size
 replace BX:=kE BX hb
 replace BQ:=kE BQ hb
 replace BR:=kE BR hb
 replace EE:=(tQ EE hb)
 clear KBX_0 KBX_1 KBX_2 KBX_3 KBX_4 KBX_5 KBX_6 KBX_7
 clear hb
 obtain ⟨ov0,ov2,ov3,ov4,ov5,ov6,rfl,o_0,o_1,o_2,o_3,o_4,o_5,o_6,o_7,o_8⟩:=jm O.raw
 obtain ⟨oa0,op0,rfl,ol0⟩:=Rep.sl o_0
 obtain ⟨oa2,op2,rfl,ol2⟩:=Rep.sl o_3
 obtain ⟨oa3,op3,rfl,ol3⟩:=Rep.sl o_4
 obtain ⟨oa4,op4,rfl,ol4⟩:=Rep.sl o_5
 obtain ⟨oa5,op5,rfl,ol5⟩:=Rep.sl o_6
 obtain ⟨oa6,op6,rfl,ol6⟩:=Rep.sl o_7
 clear o_0 o_1 o_2 o_3 o_4 o_5 o_6 o_7 o_8
 go_upto_region 4 with fail
 have HO:=yD O
 clear O
 replace HO:=yD (HO.out.wide (T:=(fun j=>w.heap.size + 3≤j∧j < w3.heap.size∧j≠w3.heap.size + 1)) dC)
 generalize hw_:World.alloc (World.alloc w3 _) _=w4
 have E_w4:Below w3.heap.size w3 w4:=by rw [← hw_];exact (bR.alloc nL _).alloc rM _
 have BO:w4.heap[w3.heap.size + 1]?=some (.cells #[.slice oa0 x0.length op0,.int .i64 xc,.slice oa2 xe.length op2,.slice oa3 x2.length op3,.slice oa4 x3.length op4,.slice oa5 x4.length op5,.slice oa6 x5.length op6,.int .i64 x6,.slice (some ⟨w3.heap.size,0,none⟩) 0 0] 56 (0,0)):=by rw [← hw_];exact kW rM
 have z_w4:w3.heap.size + 2≤w4.heap.size:=qE
 clear hw_
 replace BX:=kE BX E_w4
 replace BQ:=kE BQ E_w4
 replace BR:=kE BR E_w4
 replace HO:=yD (HO.out.below E_w4)
 replace EE:=(tQ EE E_w4)
 clear E_w4
 obtain ⟨KBX_0,KBX_1,KBX_2,KBX_3,KBX_4,KBX_5,KBX_6,KBX_7⟩:=kAa BX
 obtain ⟨KBQ_0,KBQ_1,KBQ_2,KBQ_3⟩:=yR BQ
 go_wp2_with fail
 refine (kRd (HX.out.below EE) (cn:=[.slice ba0 q0.length bp0]) (HNQ.out.below EE) HT_.out).mono ?_
 rintro e w5 ⟨ds,rfl,Od,hb⟩
 have z_w5:=hb.size
 replace BX:=kE BX hb
 replace BQ:=kE BQ hb
 replace BR:=kE BR hb
 replace BO:=kE BO hb
 replace HO:=yD (HO.out.below hb)
 replace EE:=(tQ EE hb)
 clear KBX_0 KBX_1 KBX_2 KBX_3 KBX_4 KBX_5 KBX_6 KBX_7 KBQ_0 KBQ_1 KBQ_2 KBQ_3
 clear hb
 obtain ⟨D,hD⟩:∃ D,fdD q0 t (x0,(xc,xe),x2,x3,x4,x5,x6)=D:=⟨_,rfl⟩
 rw [hD] at Od
 have HD:=yD hD
 clear hD
 obtain ⟨d0,d1,d2,d3,d4⟩:=D
 obtain ⟨dv0,dv1,dv2,rfl,d_0,d_1,d_2,d_3,d_4,d_5,d_6⟩:=jS Od.raw
 obtain ⟨da0,dp0,rfl,dl0⟩:=Rep.sl d_1
 obtain ⟨da1,dp1,rfl,dl1⟩:=Rep.sl d_2
 obtain ⟨da2,dp2,rfl,dl2⟩:=Rep.sl d_4
 clear d_0 d_1 d_2 d_3 d_4 d_5 d_6
 have HFD:=yD (Od)
 clear Od
 go_upto_region 5 with fail
 generalize hw_:World.alloc w5 _=w6
 have E_w6:Below w5.heap.size w5 w6:=mI
 have BF:w6.heap[w5.heap.size]?=some (.cells #[.slice da0 d0.length dp0,.slice da1 d1.length dp1,.slice da2 d2.length dp2,.int .i64 d3,.int .i64 d4] 113 (0,0)):=nT
 have z_w6:w5.heap.size + 1≤w6.heap.size:=qE
 clear hw_
 replace BX:=kE BX E_w6
 replace BQ:=kE BQ E_w6
 replace BR:=kE BR E_w6
 replace BO:=kE BO E_w6
 replace HO:=yD (HO.out.below E_w6)
 replace HFD:=yD (HFD.out.below E_w6)
 replace EE:=(tQ EE E_w6)
 clear E_w6
 cases hfo:fdOk q0 t (x0,(xc,xe),x2,x3,x4,x5,x6)
 · clear HFD BF
   obtain ⟨KBX_0,KBX_1,KBX_2,KBX_3,KBX_4,KBX_5,KBX_6,KBX_7⟩:=kAa BX
   obtain ⟨KBQ_0,KBQ_1,KBQ_2,KBQ_3⟩:=yR BQ
   go_wp2_with fail
   refine (kKi (HPX.out.below EE) (HI.out.below EE) HF.out HT_.out HSM.out).mono ?_
   rintro e w7 ⟨v4,rfl,O4,hb⟩
   have z_w7:=hb.size
   replace BX:=kE BX hb
   replace BQ:=kE BQ hb
   replace BR:=kE BR hb
   replace BO:=kE BO hb
   replace HO:=yD (HO.out.below hb)
   replace EE:=(tQ EE hb)
   clear KBX_0 KBX_1 KBX_2 KBX_3 KBX_4 KBX_5 KBX_6 KBX_7 KBQ_0 KBQ_1 KBQ_2 KBQ_3
   clear hb
   obtain ⟨P,hP⟩:∃ P,kEx (q0,q1,q2,q3) f t x2=P:=⟨_,rfl⟩
   rw [hP] at O4
   have HP:=yD hP
   clear hP
   obtain ⟨pa,pc,rfl,_⟩:=Rep.sl O4.raw
   cases hao:yV (q0,q1,q2,q3) f x2
   · have HT:=yD (kUr (t:=t) HBAD.out hfo hao)
     obtain ⟨KBX_0,KBX_1,KBX_2,KBX_3,KBX_4,KBX_5,KBX_6,KBX_7⟩:=kAa BX
     go_wp2_with fail
     refine (kJt (HX.out.below EE)).mono ?_
     rintro e w8 ⟨ds,rfl,Od,hb⟩
     have z_w8:=hb.size
     replace BX:=kE BX hb
     replace BQ:=kE BQ hb
     replace BR:=kE BR hb
     replace BO:=kE BO hb
     replace HO:=yD (HO.out.below hb)
     replace EE:=(tQ EE hb)
     clear KBX_0 KBX_1 KBX_2 KBX_3 KBX_4 KBX_5 KBX_6 KBX_7
     clear hb
     obtain ⟨y6,hy6⟩:∃ y,wrap64 (x6 + 1)=y:=⟨_,rfl⟩
     have HDR:=yD (show kIj (x0,(xc,xe),x2,x3,x4,x5,x6)=(x0,(xc,xe),x2,x3,x4,x5,y6) by rw [kIi,hy6])
     clear hy6
     rw [HDR.out] at Od
     obtain ⟨ov0,ov2,ov3,ov4,ov5,ov6,ov8,rfl,o_0,o_1,o_2,o_3,o_4,o_5,o_6,o_7,o_8,o_9,o_10⟩:=yG Od.raw
     obtain ⟨oa0,op0,rfl,ol0⟩:=Rep.sl o_1
     obtain ⟨oa2,op2,rfl,ol2⟩:=Rep.sl o_4
     obtain ⟨oa3,op3,rfl,ol3⟩:=Rep.sl o_5
     obtain ⟨oa4,op4,rfl,ol4⟩:=Rep.sl o_6
     obtain ⟨oa5,op5,rfl,ol5⟩:=Rep.sl o_7
     obtain ⟨oa6,op6,rfl,ol6⟩:=Rep.sl o_8
     obtain ⟨oa8,op8,rfl,ol8⟩:=Rep.sl o_10
     clear o_0 o_1 o_2 o_3 o_4 o_5 o_6 o_7 o_8 o_9 o_10
     obtain ⟨KBR_0,KBR_1,KBR_2,KBR_3,KBR_4,KBR_5,KBR_6,KBR_7,KBR_8⟩:=yH BR
     obtain ⟨FBR_0,FBR_1,FBR_2,FBR_3,FBR_4,FBR_5,FBR_6,FBR_7,FBR_8⟩:=zg BR
     go_wp2
     refine bodyPost_ret (v:=.agg #[.slice oa0 x0.length op0,.int .i64 xc,.slice oa2 xe.length op2,.slice oa3 x2.length op3,.slice oa4 x3.length op4,.slice oa5 x4.length op5,.slice oa6 x5.length op6,.int .i64 y6,.slice oa8 ([]:List jQ).length op8]) bF rfl ⟨[.slice oa0 x0.length op0,.int .i64 xc,.slice oa2 xe.length op2,.slice oa3 x2.length op3,.slice oa4 x3.length op4,.slice oa5 x4.length op5,.slice oa6 x5.length op6,.int .i64 y6,.slice oa8 ([]:List jQ).length op8],rfl,?_,?_⟩
     · rw [HT.out,HDR.out];exact (Od.touch (((((((((kC _ _ _ _).trans (kC _ _ _ _)).trans (kC _ _ _ _)).trans (kC _ _ _ _)).trans (kC _ _ _ _)).trans (kC _ _ _ _)).trans (kC _ _ _ _)).trans (kC _ _ _ _)).trans (kC _ _ _ _)) mP).wide dA
     exact EE.trans (Touch.below (((((((((kC _ _ _ _).trans (kC _ _ _ _)).trans (kC _ _ _ _)).trans (kC _ _ _ _)).trans (kC _ _ _ _)).trans (kC _ _ _ _)).trans (kC _ _ _ _)).trans (kC _ _ _ _)).trans (kC _ _ _ _)) EE.size qD)
   have HO2:=yD ((kDz HO.out O4 fC).wide (T:=(fun j=>w.heap.size + 3≤j∧j < w7.heap.size∧j≠w3.heap.size + 1)) bS)
   clear HO O4
   obtain ⟨KBO_0,KBO_1,KBO_2,KBO_3,KBO_4,KBO_5,KBO_6,KBO_7,KBO_8⟩:=yH BO
   obtain ⟨FBO_0,FBO_1,FBO_2,FBO_3,FBO_4,FBO_5,FBO_6,FBO_7,FBO_8⟩:=zg BO
   go_upto_region 14 with fail
   generalize hw_:World.setCell w7 _ _=w8
   have T_w8:Touch (fun k=>k=w3.heap.size + 1) w7 w8:=by rw [← hw_];exact kC w7 (w3.heap.size + 1) 3 _
   replace BO:w8.heap[w3.heap.size + 1]?=some (.cells #[.slice oa0 x0.length op0,.int .i64 xc,.slice oa2 xe.length op2,.slice pa P.length pc,.slice oa4 x3.length op4,.slice oa5 x4.length op5,.slice oa6 x5.length op6,.int .i64 x6,.slice (some ⟨w3.heap.size,0,none⟩) 0 0] 56 (0,0)):=nQ
   have z_w8:=T_w8.size
   clear hw_
   replace BX:=T_w8.kE BX rJ
   replace BQ:=T_w8.kE BQ rJ
   replace BR:=T_w8.kE BR rJ
   replace HO2:=yD (HO2.out.touch T_w8 fT)
   replace EE:=EE.trans (T_w8.below EE.size qD)
   clear KBO_0 KBO_1 KBO_2 KBO_3 KBO_4 KBO_5 KBO_6 KBO_7 KBO_8 FBO_0 FBO_1 FBO_2 FBO_3 FBO_4 FBO_5 FBO_6 FBO_7 FBO_8
   clear T_w8
   have HO:=yD (HO2.out.wide (T:=(fun j=>w.heap.size + 3≤j∧j < w8.heap.size∧j≠w3.heap.size + 1)) nA)
   clear HO2
   obtain ⟨KBX_0,KBX_1,KBX_2,KBX_3,KBX_4,KBX_5,KBX_6,KBX_7⟩:=kAa BX
   obtain ⟨KBQ_0,KBQ_1,KBQ_2,KBQ_3⟩:=yR BQ
   go_wp2_with fail
   refine (kGd (HPX.out.below EE) (cn:=[.slice ba0 q0.length bp0]) (HNQ.out.below EE) HF.out).mono ?_
   rintro e w9 ⟨rfl,hb⟩
   have z_w9:=hb.size
   replace BX:=kE BX hb
   replace BQ:=kE BQ hb
   replace BR:=kE BR hb
   replace BO:=kE BO hb
   replace HO:=yD (HO.out.below hb)
   replace EE:=(tQ EE hb)
   clear KBX_0 KBX_1 KBX_2 KBX_3 KBX_4 KBX_5 KBX_6 KBX_7 KBQ_0 KBQ_1 KBQ_2 KBQ_3
   clear hb
   obtain ⟨kn,hkn⟩:∃ b,retr x2 q0 f=b:=⟨_,rfl⟩
   rw [hkn]
   have HKN:=yD hkn
   clear hkn
   obtain ⟨KBQ_0,KBQ_1,KBQ_2,KBQ_3⟩:=yR BQ
   go_wp2_with fail
   refine (kJc (HI.out.below EE)).mono ?_
   rintro e w10 ⟨yc,rfl,Oy,hb⟩
   have z_w10:=hb.size
   replace BX:=kE BX hb
   replace BQ:=kE BQ hb
   replace BR:=kE BR hb
   replace BO:=kE BO hb
   replace HO:=yD (HO.out.below hb)
   replace EE:=(tQ EE hb)
   clear KBQ_0 KBQ_1 KBQ_2 KBQ_3
   clear hb
   obtain ⟨Y,hY⟩:∃ Y,kMm (q0,q1,q2,q3)=Y:=⟨_,rfl⟩
   rw [hY] at Oy
   have HYE:=yD hY
   clear hY
   obtain ⟨y0,y1,y2,y3⟩:=Y
   obtain ⟨yv0,rfl,y_0,y_1,y_2,y_3,y_4⟩:=jA Oy.raw
   obtain ⟨ya0,yp0,rfl,yl0⟩:=Rep.sl y_1
   clear y_0 y_1 y_2 y_3 y_4
   have HY:=yD (Oy)
   clear Oy
   go_upto_region 16 with fail
   generalize hw_:World.alloc w10 _=w11
   have E_w11:Below w10.heap.size w10 w11:=mI
   have BY:w11.heap[w10.heap.size]?=some (.cells #[.slice ya0 y0.length yp0,.int .i64 y1,.int .i64 y2,.int .i64 y3] 60 (0,0)):=nT
   have z_w11:w10.heap.size + 1≤w11.heap.size:=qE
   clear hw_
   replace BX:=kE BX E_w11
   replace BQ:=kE BQ E_w11
   replace BR:=kE BR E_w11
   replace BO:=kE BO E_w11
   replace HO:=yD (HO.out.below E_w11)
   replace HY:=yD (HY.out.below E_w11)
   replace EE:=(tQ EE E_w11)
   clear E_w11
   obtain ⟨KBX_0,KBX_1,KBX_2,KBX_3,KBX_4,KBX_5,KBX_6,KBX_7⟩:=kAa BX
   obtain ⟨KBQ_0,KBQ_1,KBQ_2,KBQ_3⟩:=yR BQ
   go_wp2_with fail
   refine (kJb (HX.out.below EE) (cn:=[.slice ba0 q0.length bp0]) (HNQ.out.below EE) HF.out).mono ?_
   rintro e w12 ⟨vf,rfl,Of,hb⟩
   have z_w12:=hb.size
   replace BX:=kE BX hb
   replace BQ:=kE BQ hb
   replace BR:=kE BR hb
   replace BO:=kE BO hb
   replace BY:=kE BY hb
   replace HO:=yD (HO.out.below hb)
   replace HY:=yD (HY.out.below hb)
   replace EE:=(tQ EE hb)
   clear KBX_0 KBX_1 KBX_2 KBX_3 KBX_4 KBX_5 KBX_6 KBX_7 KBQ_0 KBQ_1 KBQ_2 KBQ_3
   clear hb
   have hfl:=kLx (x:=(x0,(xc,xe),x2,x3,x4,x5,x6)) (n:=q0) (ex:=f)
   obtain ⟨fs,hfs⟩:∃ fs,kFh (x0,(xc,xe),x2,x3,x4,x5,x6) q0 f=fs:=⟨_,rfl⟩
   rw [hfs] at Of hfl
   have HFS:=yD hfs
   clear hfs
   replace hfl:fs.length≤x4.length:=hfl
   obtain ⟨fa,fc,rfl,_⟩:=Rep.sl Of.raw
   have HFF:=yD (Of)
   clear Of
   obtain ⟨KBX_0,KBX_1,KBX_2,KBX_3,KBX_4,KBX_5,KBX_6,KBX_7⟩:=kAa BX
   obtain ⟨KBQ_0,KBQ_1,KBQ_2,KBQ_3⟩:=yR BQ
   generalize hok:kFv (q0,q1,q2,q3)=ok
   have HOK:=yD hok
   clear hok
   go_upto_region 17 with fail
   have FX:=yD (fun (W:World) (hW:Below w12.heap.size w12 W)=>kIl hW KBX_3 KBQ_0)
   refine ku (fun W=>Below w12.heap.size w12 W) [true,true,true,true,false,true,true,true,true,true,true,false,true,true,true,true,true,true,true,true,true,true,true] bR ?_
   intro wS HS
   iterate 4
    all_goals refine wkR ?_
   all_goals first | refine wkB (kNh (HPX.out.1.below (tQ EE HS)) (cn:=[.slice ba0 q0.length bp0]) (HNQ.out.1.below (tQ EE HS))) (fun wS1 HS=>?_) | refine wkR ?_
   all_goals (have hg5:=True.intro;first|(refine wkG (fun b hg5=>?_);cases b;all_goals first | exact Bool.noConfusion hg5 | simp only [zU,zV] at hg5 | skip) | refine wkR ?_)
   all_goals refine wkP ?_
   iterate 5
    all_goals refine wkR ?_
   all_goals first | refine wkB (kNg (HPX.out.1.below (tQ EE HS)) (cn:=[.slice ba0 q0.length bp0]) (HNQ.out.1.below (tQ EE HS))) (fun wS1 HS=>?_) | refine wkR ?_
   all_goals refine wkR ?_
   all_goals refine wkR ?_
   all_goals (have hg14:=True.intro;first|(refine wkG (fun b hg14=>?_);cases b;all_goals first | exact Bool.noConfusion hg14 | simp only [zU,zV] at hg14 | skip) | refine wkR ?_)
   all_goals refine wkP ?_
   iterate 3
    all_goals refine wkR ?_
   all_goals (have hg18:=True.intro;first|(refine wkG (fun b hg18=>?_);cases b;all_goals first | exact Bool.noConfusion hg18 | simp only [zU,zV] at hg18 | skip) | refine wkR ?_)
   all_goals refine wkP ?_
   iterate 3
    all_goals refine wkR ?_
   all_goals (have hg22:=True.intro;first|(refine wkG (fun b hg22=>?_);cases b;all_goals first | exact Bool.noConfusion hg22 | simp only [zU,zV] at hg22 | skip) | refine wkR ?_)
   all_goals refine wkP ?_
   all_goals refine ko ?_
   all_goals rename World=>w13
   all_goals have z_w13:=HS.size
   all_goals replace BX:=kE BX HS
   all_goals replace BQ:=kE BQ HS
   all_goals replace BR:=kE BR HS
   all_goals replace BO:=kE BO HS
   all_goals replace BY:=kE BY HS
   all_goals replace HO:=yD (HO.out.below HS)
   all_goals replace HY:=yD (HY.out.below HS)
   all_goals replace HFF:=yD (HFF.out.below HS)
   all_goals replace EE:=(tQ EE HS)
   all_goals clear KBX_0 KBX_1 KBX_2 KBX_3 KBX_4 KBX_5 KBX_6 KBX_7 KBQ_0 KBQ_1 KBQ_2 KBQ_3
   all_goals clear HS
   all_goals first
     | (have HT := yD (kRi HBAD.out hfo hao (show zt (x0, (xc, xe), x2, x3, x4, x5, x6) f (q0, q1, q2, q3) t = true by simp only [zt, HOK.out, HFS.out, Bool.not_true, Bool.not_false, Bool.and_true, Bool.true_and, Bool.and_false, Bool.false_and, Bool.or_true, Bool.true_or, Bool.or_false, Bool.false_or, Bool.not_not, hg5, hg14, hg18, hg22]))
        obtain ⟨KBO_0,KBO_1,KBO_2,KBO_3,KBO_4,KBO_5,KBO_6,KBO_7,KBO_8⟩:=yH BO
        obtain ⟨KBR_0,KBR_1,KBR_2,KBR_3,KBR_4,KBR_5,KBR_6,KBR_7,KBR_8⟩:=yH BR
        obtain ⟨FBR_0,FBR_1,FBR_2,FBR_3,FBR_4,FBR_5,FBR_6,FBR_7,FBR_8⟩:=zg BR
        go_wp2
        refine bodyPost_ret (v:=.agg #[.slice oa0 x0.length op0,.int .i64 xc,.slice oa2 xe.length op2,.slice pa P.length pc,.slice oa4 x3.length op4,.slice oa5 x4.length op5,.slice oa6 x5.length op6,.int .i64 x6,.slice (some ⟨w3.heap.size,0,none⟩) 0 0]) bF rfl ⟨[.slice oa0 x0.length op0,.int .i64 xc,.slice oa2 xe.length op2,.slice pa P.length pc,.slice oa4 x3.length op4,.slice oa5 x4.length op5,.slice oa6 x5.length op6,.int .i64 x6,.slice (some ⟨w3.heap.size,0,none⟩) 0 0],rfl,?_,?_⟩
        · rw [HT.out];simp only [HP.out];exact kGt (B:=fun _=>False) (HO.out.touch (((((((((kC _ _ _ _).trans (kC _ _ _ _)).trans (kC _ _ _ _)).trans (kC _ _ _ _)).trans (kC _ _ _ _)).trans (kC _ _ _ _)).trans (kC _ _ _ _)).trans (kC _ _ _ _)).trans (kC _ _ _ _)) mP) Rep.kAs cO (fun _ h=>h.elim) (fun _ _ h=>h)
        · exact EE.trans (Touch.below (((((((((kC _ _ _ _).trans (kC _ _ _ _)).trans (kC _ _ _ _)).trans (kC _ _ _ _)).trans (kC _ _ _ _)).trans (kC _ _ _ _)).trans (kC _ _ _ _)).trans (kC _ _ _ _)).trans (kC _ _ _ _)) EE.size qD))
     | skip
   all_goals
     (have HST:=yD (show zt (x0,(xc,xe),x2,x3,x4,x5,x6) f (q0,q1,q2,q3) t=false by simp only [zt,HOK.out,HFS.out,Bool.not_true,Bool.not_false,Bool.and_true,Bool.true_and,Bool.and_false,Bool.false_and,Bool.or_true,Bool.true_or,Bool.or_false,Bool.false_or,Bool.not_not,hg5,hg14,hg18,hg22])
      have HT:=yD (kUq HBAD.out hfo hao HST.out)
      clear hg5 hg14 hg18 hg22
      obtain ⟨KBQ_0,KBQ_1,KBQ_2,KBQ_3⟩:=yR BQ
      go_wp2_with fail
      refine (kRc (kRt HO.out.rd) (cn:=[.slice ba0 q0.length bp0]) (HNQ.out.below EE) HT_.out).mono ?_
      rintro e w14 ⟨v6,rfl,O6,hb⟩
      have z_w14:=hb.size
      replace BX:=kE BX hb
      replace BQ:=kE BQ hb
      replace BR:=kE BR hb
      replace BO:=kE BO hb
      replace BY:=kE BY hb
      replace HO:=yD (HO.out.below hb)
      replace HY:=yD (HY.out.below hb)
      replace HFF:=yD (HFF.out.below hb)
      replace EE:=(tQ EE hb)
      clear KBQ_0 KBQ_1 KBQ_2 KBQ_3
      clear hb
      obtain ⟨P2,hP2⟩:∃ P2,kJy q0 t P=P2:=⟨_,rfl⟩
      rw [hP2] at O6
      have HP2:=yD hP2
      clear hP2
      obtain ⟨ra,rc,rfl,_⟩:=Rep.sl O6.raw
      have HO2:=yD ((kDz HO.out O6 fC).wide (T:=(fun j=>w.heap.size + 3≤j∧j < w14.heap.size∧j≠w3.heap.size + 1)) bS)
      clear HO O6
      obtain ⟨KBO_0,KBO_1,KBO_2,KBO_3,KBO_4,KBO_5,KBO_6,KBO_7,KBO_8⟩:=yH BO
      obtain ⟨FBO_0,FBO_1,FBO_2,FBO_3,FBO_4,FBO_5,FBO_6,FBO_7,FBO_8⟩:=zg BO
      go_upto_region 20 with fail
      generalize hw_:World.setCell w14 _ _=w15
      have T_w15:Touch (fun k=>k=w3.heap.size + 1) w14 w15:=by rw [← hw_];exact kC w14 (w3.heap.size + 1) 3 _
      replace BO:w15.heap[w3.heap.size + 1]?=some (.cells #[.slice oa0 x0.length op0,.int .i64 xc,.slice oa2 xe.length op2,.slice ra P2.length rc,.slice oa4 x3.length op4,.slice oa5 x4.length op5,.slice oa6 x5.length op6,.int .i64 x6,.slice (some ⟨w3.heap.size,0,none⟩) 0 0] 56 (0,0)):=nQ
      have z_w15:=T_w15.size
      clear hw_
      replace BX:=T_w15.kE BX rJ
      replace BQ:=T_w15.kE BQ rJ
      replace BR:=T_w15.kE BR rJ
      replace BY:=T_w15.kE BY rJ
      replace HY:=yD (HY.out.touch T_w15 fT)
      replace HFF:=yD (HFF.out.touch T_w15 fT)
      replace HO2:=yD (HO2.out.touch T_w15 fT)
      replace EE:=EE.trans (T_w15.below EE.size qD)
      clear KBO_0 KBO_1 KBO_2 KBO_3 KBO_4 KBO_5 KBO_6 KBO_7 KBO_8 FBO_0 FBO_1 FBO_2 FBO_3 FBO_4 FBO_5 FBO_6 FBO_7 FBO_8
      clear T_w15
      have HO:=yD (HO2.out.wide (T:=(fun j=>w.heap.size + 3≤j∧j < w15.heap.size∧j≠w3.heap.size + 1)) nA)
      clear HO2
      have hfp:0 < fs.length:=by have h:=kUk HST.out;rwa [show kFh (x0,(xc,xe),x2,x3,x4,x5,x6) ((q0,q1,q2,q3)).1 f=fs from HFS.out] at h
      obtain ⟨F,hF⟩:∃ F,kEf (x0,(xc,xe),x2,x3,x4,x5,x6) f (q0,q1,q2,q3)=F:=⟨_,rfl⟩
      have HPF:=yD hF
      have HFC:Hid (F=if kn then fs else fs.take 1):=yD (by rw [← hF];unfold kEf;rw [show retr ((x0,(xc,xe),x2,x3,x4,x5,x6)).2.2.1 ((q0,q1,q2,q3)).1 f=kn from HKN.out,show kFh (x0,(xc,xe),x2,x3,x4,x5,x6) ((q0,q1,q2,q3)).1 f=fs from HFS.out])
      clear hF
      have hcap:=(Rep.kEb HFF.out.raw).1
      have hc1:1≤fc:=rJ
      have hc2:(1:Int)≤fc:=rJ
      have hc3:¬ fc < 1:=rJ
      have hc4:¬ fc=0:=rJ
      clear hcap
      obtain ⟨fm,hFR⟩:=kVj HFC.out hfp HFF.out.raw
      have HFR:=yD hFR
      clear hFR
      have hFl:=kVl HFC.out
      obtain ⟨_,fb,fo,rfl,hfb,hfc⟩:=Rep.zk HFF.out hfp
      have hfb1:=hfb.1
      have hfb2:=hfb.2
      clear hfb
      replace HO:=yD (HO.out.wide (T:=(fun j=>w.heap.size + 3≤j∧j < w15.heap.size∧j≠w3.heap.size + 1)) fQ)
      replace HY:=yD (HY.out.wide (T:=(fun j=>w.heap.size + 3≤j∧j < w15.heap.size∧j≠w3.heap.size + 1)) (fun j q=>⟨by have:=q.1;omega,by have:=q.2;omega,by have:=q.1;omega⟩))
      clear HFF BX BQ
      go_wp2
      go_loopw [18] (fun i wr=>∃ (k:Nat) (ga:Option Addr) (gn gc:Nat),i=.int .i64 k∧k≤F.length∧Hid (Rep.kQ 117 kU wr (.slice ga gn gc) ((F.take k).map (kHs (y0,y1,y2,y3))) (fun j=>w15.heap.size≤j∧j < wr.heap.size))∧Hid (jM.own wr [.slice oa0 x0.length op0,.int .i64 xc,.slice oa2 xe.length op2,.slice ra P2.length rc,.slice oa4 x3.length op4,.slice oa5 x4.length op5,.slice oa6 x5.length op6,.int .i64 x6] (x0,(xc,xe),P2,x3,x4,x5,x6) (fun j=>w.heap.size + 3≤j∧j < w15.heap.size∧j≠w3.heap.size + 1))∧Hid (kw.own wr [.slice ya0 y0.length yp0,.int .i64 y1,.int .i64 y2,.int .i64 y3] (y0,y1,y2,y3) (fun j=>w.heap.size + 3≤j∧j < w15.heap.size∧j≠w3.heap.size + 1))∧wr.heap[w.heap.size + 2]?=some (.cells #[.slice none 0 0,.int .i64 0,.slice none 0 0,.slice none 0 0,.slice none 0 0,.slice none 0 0,.slice none 0 0,.int .i64 0,.slice none 0 0] 56 (0,0))∧wr.heap[w3.heap.size + 1]?=some (.cells #[.slice oa0 x0.length op0,.int .i64 xc,.slice oa2 xe.length op2,.slice ra P2.length rc,.slice oa4 x3.length op4,.slice oa5 x4.length op5,.slice oa6 x5.length op6,.int .i64 x6,.slice ga gn gc] 56 (0,0))∧wr.heap[w10.heap.size]?=some (.cells #[.slice ya0 y0.length yp0,.int .i64 y1,.int .i64 y2,.int .i64 y3] 60 (0,0))∧Touch (fun j=>j=w3.heap.size + 1∨w15.heap.size≤j) w15 wr∧Below w.heap.size w wr) (fun i _=>F.length - (intOf i).toNat)
      case atStart=>exact ⟨0,(some ⟨w3.heap.size,0,none⟩),0,0,rfl,Nat.zero_le _,yD Rep.kQ.void,HO,HY,BR,BO,BY,Touch.of_below bR,EE⟩
      case round =>
        rename World=>wq
        clear HO HY BR BO BY EE
        obtain ⟨k,ga,gn,gc,rfl,hk,HQ,HO,HY,BR,BO,BY,TL,EE⟩:=hrel
        have hk0:=Int.natCast_nonneg k
        have hzq:=TL.size
        have hlk:((F.take k).map (kHs (y0,y1,y2,y3))).length≤k:=rC
        go_upto_region 21 with fail
        refine ku (fun W=>Below wq.heap.size wq W) [true,true,true,true,true,true,true,true,true,true,true] bR ?_
        intro wS HS
        iterate 4
         all_goals refine wkR ?_
        all_goals (have hg4:=True.intro;first|(refine wkG (fun b hg4=>?_);cases b;all_goals first | exact Bool.noConfusion hg4 | simp only [zU,zV] at hg4 | skip) | refine wkR ?_)
        all_goals refine wkP ?_
        all_goals refine wkR ?_
        all_goals (have hg6:=True.intro;first|(refine wkG (fun b hg6=>?_);cases b;all_goals first | exact Bool.noConfusion hg6 | simp only [zU,zV] at hg6 | skip) | refine wkR ?_)
        all_goals refine wkP ?_
        iterate 3
         all_goals refine wkR ?_
        all_goals (have hg10:=True.intro;first|(refine wkG (fun b hg10=>?_);cases b;all_goals first | exact Bool.noConfusion hg10 | simp only [zU,zV] at hg10 | skip) | refine wkR ?_)
        all_goals refine wkP ?_
        all_goals refine ko ?_
        all_goals replace TL:=TL.trans (Touch.of_below HS)
        all_goals rename World=>w17
        all_goals have z_w17:=HS.size
        all_goals replace BR:=kE BR HS
        all_goals replace BO:=kE BO HS
        all_goals replace BY:=kE BY HS
        all_goals replace HQ:=yD (HQ.out.below HS)
        all_goals replace HO:=yD (HO.out.below HS)
        all_goals replace HY:=yD (HY.out.below HS)
        all_goals replace EE:=(tQ EE HS)
        all_goals clear HS
        all_goals first
          | (have hlt : ¬ k < F.length := by have hfc_ := faces_lt (k := k) HFC.out; simp only [Bool.not_true, Bool.not_false, Bool.and_true, Bool.true_and, Bool.and_false, Bool.false_and, Bool.or_true, Bool.true_or, Bool.or_false, Bool.false_or, Bool.not_not, hg4, hg6, hg10] at hfc_; simpa using hfc_
             obtain rfl:k=F.length:=rJ
             replace HQ:=yD (Rep.kQ.cast HQ.out (show _=F.map (kHs (y0,y1,y2,y3)) by rw [List.take_length]))
             have hk2:¬ ((F.length:Int) < F.length):=rJ
             obtain ⟨KBO_0,KBO_1,KBO_2,KBO_3,KBO_4,KBO_5,KBO_6,KBO_7,KBO_8⟩:=yH BO
             obtain ⟨KBR_0,KBR_1,KBR_2,KBR_3,KBR_4,KBR_5,KBR_6,KBR_7,KBR_8⟩:=yH BR
             obtain ⟨FBR_0,FBR_1,FBR_2,FBR_3,FBR_4,FBR_5,FBR_6,FBR_7,FBR_8⟩:=zg BR
             go_wp2
             refine bodyPost_ret (v:=.agg #[.slice oa0 x0.length op0,.int .i64 xc,.slice oa2 xe.length op2,.slice ra P2.length rc,.slice oa4 x3.length op4,.slice oa5 x4.length op5,.slice oa6 x5.length op6,.int .i64 x6,.slice ga gn gc]) bF rfl ⟨[.slice oa0 x0.length op0,.int .i64 xc,.slice oa2 xe.length op2,.slice ra P2.length rc,.slice oa4 x3.length op4,.slice oa5 x4.length op5,.slice oa6 x5.length op6,.int .i64 x6,.slice ga gn gc],rfl,?_,?_⟩
             · rw [HT.out];simp only [HP.out,HP2.out,HPF.out,HYE.out];exact kGt (HO.out.touch (((((((((kC _ _ _ _).trans (kC _ _ _ _)).trans (kC _ _ _ _)).trans (kC _ _ _ _)).trans (kC _ _ _ _)).trans (kC _ _ _ _)).trans (kC _ _ _ _)).trans (kC _ _ _ _)).trans (kC _ _ _ _)) mP) ((HQ.out.touch (((((((((kC _ _ _ _).trans (kC _ _ _ _)).trans (kC _ _ _ _)).trans (kC _ _ _ _)).trans (kC _ _ _ _)).trans (kC _ _ _ _)).trans (kC _ _ _ _)).trans (kC _ _ _ _)).trans (kC _ _ _ _)) mP).own (by simp;unfold Big;omega)) cO dA (fun j q r=>by have:=q.2.1;have:=r.1;omega)
             · exact EE.trans (Touch.below (((((((((kC _ _ _ _).trans (kC _ _ _ _)).trans (kC _ _ _ _)).trans (kC _ _ _ _)).trans (kC _ _ _ _)).trans (kC _ _ _ _)).trans (kC _ _ _ _)).trans (kC _ _ _ _)).trans (kC _ _ _ _)) EE.size qD))
          | skip
        all_goals
          (have hlt:k < F.length:=by have hfc_:=faces_lt (k:=k) HFC.out;simp only [Bool.not_true,Bool.not_false,Bool.and_true,Bool.true_and,Bool.and_false,Bool.false_and,Bool.or_true,Bool.true_or,Bool.or_false,Bool.false_or,Bool.not_not,hg4,hg6,hg10] at hfc_;simpa using hfc_
           try clear hg4
           try clear hg6
           try clear hg10
           obtain ⟨fb_,fo_,hfe_,g0,gr,G0⟩:=Rep.kEo HFR.out hlt rfl
           simp only [Option.some.injEq,Addr.mk.injEq,and_true] at hfe_
           obtain ⟨rfl,rfl⟩:=hfe_
           obtain ⟨ge,hgr⟩:=Rep.jX gr
           obtain rfl:g0=_:=by simpa using ge
           have hsn:=List.take_succ_eq_append_getElem hlt
           generalize F[k]=g at *
           have HSN:=yD hsn
           have HGR:Hid (-9223372036854775808≤g∧g≤9223372036854775807):=yD hgr
           clear hsn hgr ge gr
           have G1:=TL.cellT G0 rJ
           clear G0
           have hk2:(k:Int) < fs.length:=rJ
           obtain ⟨KBO_0,KBO_1,KBO_2,KBO_3,KBO_4,KBO_5,KBO_6,KBO_7,KBO_8⟩:=yH BO
           obtain ⟨KBY_0,KBY_1,KBY_2,KBY_3⟩:=yR BY
           go_upto_region 23 with fail
           have FX:=yD (fun (W:World) (hW:Below w17.heap.size w17 W)=>kLb hW KBO_8 KBY_0 KBY_1 KBY_2 KBY_3 G1)
           refine zN (fun W=>Below w17.heap.size w17 W) [true,true,true,true,true,true,true,false,true,false] rA rA gI (bR.drew) ?_
           intro wS HS
           iterate 7
            all_goals refine wkR ?_
           all_goals first|(refine kL rfl HS ?_)|(refine jE rfl (fun K hK=>?_);go_simp;refine (kLq (HY.out.rd.below HS)).mono ?_;rintro e wT ⟨tc,rfl,O,hbT⟩;obtain ⟨tv0,rfl,t_0,t_1,t_2,t_3,t_4⟩:=jA O.raw;obtain ⟨ta0,tp0,rfl,tl0⟩:=Rep.sl t_1;skip;clear t_0 t_1 t_2 t_3 t_4;have HC:=yD O;have hzT:=hbT.size;have hsT:=HS.size;replace HS:=(tQ HS hbT);refine hK _ _ HS ?_;clear hK K hbT O)
           all_goals refine wkP ?_
           all_goals refine wkR ?_
           all_goals first|(refine kL rfl HS ?_)|(refine jE rfl (fun K hK=>?_);go_simp;refine hK _ _ (HS.alloc HS.size _) ?_;clear hK K)
           all_goals refine wkP ?_
           all_goals refine yF ?_
           go_wp2_with (at_builtin;refine Rep.kDv rfl _ _ 54 rfl (r:=kU) (e:=117) Tryz.underlying54 kHy rfl rG rG (w:=wT) (HQ.out.below HS) rO rO rfl (out2_own HGR.out HC.out) rfl fJ rJ ?_)
           intro v2 w18 hQ hTQ
           have hT:Touch (fun j=>w15.heap.size≤j) w17 w18:=(Touch.of_below (HS.alloc HS.size _)).trans (hTQ.wide (fun j q=>by have:=q.2;omega))
           have z_w18:=hT.size
           have zT_:=hTQ.size
           have zT2_:wT.heap.size + 1≤w18.heap.size:=by simpa using zT_
           clear hTQ zT_ G1 HS
           obtain ⟨g2,n2,c2,rfl⟩:∃ a n c,v2=.slice a n c:=by obtain ⟨a,c,h⟩:=Rep.kQ.zR hQ;exact ⟨a,_,c,h⟩
           clear HQ
           have HQ:=yD ((Rep.kQ.cast hQ (show _=(F.take (k + 1)).map (kHs (y0,y1,y2,y3)) by rw [HSN.out,List.map_append,List.map_take];rfl)).wide (T:=fun j=>w15.heap.size≤j∧j < w18.heap.size) (fun j q=>by rcases q with q | q | q <;> (have:=q.1;have:=q.2;omega)))
           clear hQ
           replace TL:=TL.trans (hT.wide (fun j q=>.inr q))
           replace BR:=hT.kE BR rJ
           replace BO:=hT.kE BO rJ
           replace BY:=hT.kE BY rJ
           replace HO:=yD (HO.out.touch hT fT)
           replace HY:=yD (HY.out.touch hT fT)
           replace EE:=EE.trans (hT.below EE.size qD)
           clear KBO_0 KBO_1 KBO_2 KBO_3 KBO_4 KBO_5 KBO_6 KBO_7 KBO_8 KBY_0 KBY_1 KBY_2 KBY_3
           clear hT HC
           obtain ⟨KBO_0,KBO_1,KBO_2,KBO_3,KBO_4,KBO_5,KBO_6,KBO_7,KBO_8⟩:=yH BO
           obtain ⟨FBO_0,FBO_1,FBO_2,FBO_3,FBO_4,FBO_5,FBO_6,FBO_7,FBO_8⟩:=zg BO
           go_wp2
           generalize hw_:World.setCell w18 _ _=w19
           have T_w19:Touch (fun k=>k=w3.heap.size + 1) w18 w19:=by rw [← hw_];exact kC w18 (w3.heap.size + 1) 8 _
           replace BO:w19.heap[w3.heap.size + 1]?=some (.cells #[.slice oa0 x0.length op0,.int .i64 xc,.slice oa2 xe.length op2,.slice ra P2.length rc,.slice oa4 x3.length op4,.slice oa5 x4.length op5,.slice oa6 x5.length op6,.int .i64 x6,.slice g2 n2 c2] 56 (0,0)):=nR
           have z_w19:=T_w19.size
           clear hw_
           replace TL:=TL.trans (T_w19.wide (fun j q=>.inl q))
           replace BR:=T_w19.kE BR rJ
           replace BY:=T_w19.kE BY rJ
           replace HO:=yD (HO.out.touch T_w19 fT)
           replace HY:=yD (HY.out.touch T_w19 fT)
           replace HQ:=yD (HQ.out.touch T_w19 fT)
           replace EE:=EE.trans (T_w19.below EE.size qD)
           clear KBO_0 KBO_1 KBO_2 KBO_3 KBO_4 KBO_5 KBO_6 KBO_7 KBO_8 FBO_0 FBO_1 FBO_2 FBO_3 FBO_4 FBO_5 FBO_6 FBO_7 FBO_8
           clear T_w19
           replace HQ:=yD (HQ.out.wide (T:=fun j=>w15.heap.size≤j∧j < w19.heap.size) (fun j q=>⟨q.1,by omega⟩))
           go_wp2
           go_roundw
           case rel=>exact ⟨k + 1,g2,n2,c2,by go_num,by omega,HQ,HO,HY,BR,BO,BY,TL,EE⟩
           case measure=>simp [intOf];omega))
 have HT:=yD (kRj (t:=t) HBAD.out hfo)
 skip
 have HWA:Hid (w4.heap.size≤w6.heap.size):=yD rJ
 obtain ⟨KBO_0,KBO_1,KBO_2,KBO_3,KBO_4,KBO_5,KBO_6,KBO_7,KBO_8⟩:=yH BO
 obtain ⟨KBF_0,KBF_1,KBF_2,KBF_3,KBF_4⟩:=rowC5 BF
 obtain ⟨FBO_0,FBO_1,FBO_2,FBO_3,FBO_4,FBO_5,FBO_6,FBO_7,FBO_8⟩:=zg BO
 go_wp2_with (at_builtin;refine Rep.kDv rfl _ _ 54 rfl (r:=kU) (e:=117) Tryz.underlying54 kHy rfl rG rG (S:=fun _=>False) (w:=w6) Rep.kQ.void rO rO rfl (out1_own HF.out HFD.out) rfl (fun _ h=>h.elim) rM ?_)
 intro v5 w7 hQ hTQ
 have hb:Below w6.heap.size w6 w7:=(bR.alloc nL _).trans (hTQ.below rM (fun k hk=>by simp at hk))
 clear hTQ
 have z_w7:w6.heap.size≤w7.heap.size:=hb.size
 obtain ⟨ga,gc,rfl⟩:∃ a c,v5=.slice a 1 c:=by obtain ⟨a,c,h⟩:=Rep.kQ.zR hQ;exact ⟨a,c,h⟩
 clear HFD
 replace BX:=kE BX hb
 replace BQ:=kE BQ hb
 replace BR:=kE BR hb
 replace BO:=kE BO hb
 replace BF:=kE BF hb
 replace HO:=yD (HO.out.below hb)
 replace EE:=(tQ EE hb)
 clear KBO_0 KBO_1 KBO_2 KBO_3 KBO_4 KBO_5 KBO_6 KBO_7 KBO_8 KBF_0 KBF_1 KBF_2 KBF_3 KBF_4 FBO_0 FBO_1 FBO_2 FBO_3 FBO_4 FBO_5 FBO_6 FBO_7 FBO_8
 clear hb
 have HQ:=yD (Rep.kQ.wide (T:=fun j=>w4.heap.size≤j∧j < w7.heap.size) hQ (fun j q=>by rcases q with q | q <;> (have:=q.1;have:=q.2;omega)))
 clear hQ
 obtain ⟨KBO_0,KBO_1,KBO_2,KBO_3,KBO_4,KBO_5,KBO_6,KBO_7,KBO_8⟩:=yH BO
 obtain ⟨FBO_0,FBO_1,FBO_2,FBO_3,FBO_4,FBO_5,FBO_6,FBO_7,FBO_8⟩:=zg BO
 go_upto_region 7 with fail
 generalize hw_:World.setCell w7 _ _=w8
 have T_w8:Touch (fun k=>k=w3.heap.size + 1) w7 w8:=by rw [← hw_];exact kC w7 (w3.heap.size + 1) 8 _
 replace BO:w8.heap[w3.heap.size + 1]?=some (.cells #[.slice oa0 x0.length op0,.int .i64 xc,.slice oa2 xe.length op2,.slice oa3 x2.length op3,.slice oa4 x3.length op4,.slice oa5 x4.length op5,.slice oa6 x5.length op6,.int .i64 x6,.slice ga 1 gc] 56 (0,0)):=nR
 have z_w8:=T_w8.size
 clear hw_
 replace BX:=T_w8.kE BX rJ
 replace BQ:=T_w8.kE BQ rJ
 replace BR:=T_w8.kE BR rJ
 replace BF:=T_w8.kE BF rJ
 replace HO:=yD (HO.out.touch T_w8 fT)
 replace HQ:=yD (HQ.out.touch T_w8 fT)
 replace EE:=EE.trans (T_w8.below EE.size qD)
 clear KBO_0 KBO_1 KBO_2 KBO_3 KBO_4 KBO_5 KBO_6 KBO_7 KBO_8 FBO_0 FBO_1 FBO_2 FBO_3 FBO_4 FBO_5 FBO_6 FBO_7 FBO_8
 clear T_w8
 obtain ⟨KBX_0,KBX_1,KBX_2,KBX_3,KBX_4,KBX_5,KBX_6,KBX_7⟩:=kAa BX
 obtain ⟨KBQ_0,KBQ_1,KBQ_2,KBQ_3⟩:=yR BQ
 go_wp2_with fail
 refine (specTouch_c (HCX.out.below EE) (cn:=[.slice ba0 q0.length bp0]) (HNQ.out.below EE) HT_.out).mono ?_
 rintro e w9 ⟨ec,rfl,Oe,hb⟩
 have z_w9:=hb.size
 replace BX:=kE BX hb
 replace BQ:=kE BQ hb
 replace BR:=kE BR hb
 replace BO:=kE BO hb
 replace BF:=kE BF hb
 replace HO:=yD (HO.out.below hb)
 replace HQ:=yD (HQ.out.below hb)
 replace EE:=(tQ EE hb)
 clear KBX_0 KBX_1 KBX_2 KBX_3 KBX_4 KBX_5 KBX_6 KBX_7 KBQ_0 KBQ_1 KBQ_2 KBQ_3
 clear hb
 obtain ⟨ev,he⟩:∃ ev,kFe q0 t (xc,xe)=(xc,ev):=⟨_,rfl⟩
 rw [he] at Oe
 have HE:=yD he
 clear he
 obtain ⟨sv,rfl,s_r,s_l⟩:=jG Oe.raw
 obtain ⟨ea,ep,rfl,_⟩:=Rep.sl s_l
 clear s_r s_l
 have HO2:=yD ((kKa HO.out Oe fC).wide (T:=(fun j=>w.heap.size + 3≤j∧j < w9.heap.size∧j≠w3.heap.size + 1∧¬ (w4.heap.size≤j∧j < w7.heap.size))) (fun j q=>q.elim (fun q=>⟨q.1,by omega,q.2.2,by have:=q.2.1;omega⟩) bX))
 clear HO Oe
 obtain ⟨KBO_0,KBO_1,KBO_2,KBO_3,KBO_4,KBO_5,KBO_6,KBO_7,KBO_8⟩:=yH BO
 obtain ⟨FBO_0,FBO_1,FBO_2,FBO_3,FBO_4,FBO_5,FBO_6,FBO_7,FBO_8⟩:=zg BO
 go_upto_region 8 with fail
 generalize hw_:World.setCell (World.setCell w9 _ _) _ _=w10
 have T_w10:Touch (fun k=>k=w3.heap.size + 1) w9 w10:=by rw [← hw_];exact (kC _ _ _ _).trans (kC _ _ _ _)
 replace BO:w10.heap[w3.heap.size + 1]?=some (.cells #[.slice oa0 x0.length op0,.int .i64 xc,.slice ea ev.length ep,.slice oa3 x2.length op3,.slice oa4 x3.length op4,.slice oa5 x4.length op5,.slice oa6 x5.length op6,.int .i64 x6,.slice ga 1 gc] 56 (0,0)):=by rw [← hw_];exact jy (jy (BO) 1) 2
 have z_w10:=T_w10.size
 clear hw_
 replace BX:=T_w10.kE BX rJ
 replace BQ:=T_w10.kE BQ rJ
 replace BR:=T_w10.kE BR rJ
 replace BF:=T_w10.kE BF rJ
 replace HQ:=yD (HQ.out.touch T_w10 fT)
 replace HO2:=yD (HO2.out.touch T_w10 fT)
 replace EE:=EE.trans (T_w10.below EE.size qD)
 clear KBO_0 KBO_1 KBO_2 KBO_3 KBO_4 KBO_5 KBO_6 KBO_7 KBO_8 FBO_0 FBO_1 FBO_2 FBO_3 FBO_4 FBO_5 FBO_6 FBO_7 FBO_8
 clear T_w10
 have HO:=yD (HO2.out.wide (T:=(fun j=>w.heap.size + 3≤j∧j < w10.heap.size∧j≠w3.heap.size + 1∧¬ (w4.heap.size≤j∧j < w7.heap.size))) nA)
 clear HO2
 obtain ⟨KBX_0,KBX_1,KBX_2,KBX_3,KBX_4,KBX_5,KBX_6,KBX_7⟩:=kAa BX
 obtain ⟨KBQ_0,KBQ_1,KBQ_2,KBQ_3⟩:=yR BQ
 go_wp2_with fail
 refine (kKg (HSX.out.below EE) hl3 (cn:=[.slice ba0 q0.length bp0]) (HNQ.out.below EE) HR1.out).mono ?_
 rintro e w11 ⟨v9,rfl,O9,hb⟩
 have z_w11:=hb.size
 replace BX:=kE BX hb
 replace BQ:=kE BQ hb
 replace BR:=kE BR hb
 replace BO:=kE BO hb
 replace BF:=kE BF hb
 replace HQ:=yD (HQ.out.below hb)
 replace HO:=yD (HO.out.below hb)
 replace EE:=(tQ EE hb)
 clear KBX_0 KBX_1 KBX_2 KBX_3 KBX_4 KBX_5 KBX_6 KBX_7 KBQ_0 KBQ_1 KBQ_2 KBQ_3
 clear hb
 obtain ⟨sn,hsn⟩:∃ s,kBh x3 q0 q1=s:=⟨_,rfl⟩
 rw [hsn] at O9
 have HSN:=yD hsn
 clear hsn
 obtain ⟨sa,sc,rfl,_⟩:=Rep.sl O9.raw
 have HO2:=yD ((kLy HO.out O9 fC).wide (T:=(fun j=>w.heap.size + 3≤j∧j < w11.heap.size∧j≠w3.heap.size + 1∧¬ (w4.heap.size≤j∧j < w7.heap.size))) (fun j q=>q.elim nN bX))
 clear HO O9
 obtain ⟨KBO_0,KBO_1,KBO_2,KBO_3,KBO_4,KBO_5,KBO_6,KBO_7,KBO_8⟩:=yH BO
 obtain ⟨FBO_0,FBO_1,FBO_2,FBO_3,FBO_4,FBO_5,FBO_6,FBO_7,FBO_8⟩:=zg BO
 go_upto_region 9 with fail
 generalize hw_:World.setCell w11 _ _=w12
 have T_w12:Touch (fun k=>k=w3.heap.size + 1) w11 w12:=by rw [← hw_];exact kC w11 (w3.heap.size + 1) 4 _
 replace BO:w12.heap[w3.heap.size + 1]?=some (.cells #[.slice oa0 x0.length op0,.int .i64 xc,.slice ea ev.length ep,.slice oa3 x2.length op3,.slice sa sn.length sc,.slice oa5 x4.length op5,.slice oa6 x5.length op6,.int .i64 x6,.slice ga 1 gc] 56 (0,0)):=by rw [← hw_];exact jy BO 4
 have z_w12:=T_w12.size
 clear hw_
 replace BX:=T_w12.kE BX rJ
 replace BQ:=T_w12.kE BQ rJ
 replace BR:=T_w12.kE BR rJ
 replace BF:=T_w12.kE BF rJ
 replace HQ:=yD (HQ.out.touch T_w12 fT)
 replace HO2:=yD (HO2.out.touch T_w12 fT)
 replace EE:=EE.trans (T_w12.below EE.size qD)
 clear KBO_0 KBO_1 KBO_2 KBO_3 KBO_4 KBO_5 KBO_6 KBO_7 KBO_8 FBO_0 FBO_1 FBO_2 FBO_3 FBO_4 FBO_5 FBO_6 FBO_7 FBO_8
 clear T_w12
 have HO:=yD (HO2.out.wide (T:=(fun j=>w.heap.size + 3≤j∧j < w12.heap.size∧j≠w3.heap.size + 1∧¬ (w4.heap.size≤j∧j < w7.heap.size))) nA)
 clear HO2
 obtain ⟨KBO_0,KBO_1,KBO_2,KBO_3,KBO_4,KBO_5,KBO_6,KBO_7,KBO_8⟩:=yH BO
 obtain ⟨KBR_0,KBR_1,KBR_2,KBR_3,KBR_4,KBR_5,KBR_6,KBR_7,KBR_8⟩:=yH BR
 obtain ⟨FBR_0,FBR_1,FBR_2,FBR_3,FBR_4,FBR_5,FBR_6,FBR_7,FBR_8⟩:=zg BR
 go_wp2
 refine bodyPost_ret (v:=.agg #[.slice oa0 x0.length op0,.int .i64 xc,.slice ea ev.length ep,.slice oa3 x2.length op3,.slice sa sn.length sc,.slice oa5 x4.length op5,.slice oa6 x5.length op6,.int .i64 x6,.slice ga 1 gc]) bF rfl ⟨[.slice oa0 x0.length op0,.int .i64 xc,.slice ea ev.length ep,.slice oa3 x2.length op3,.slice sa sn.length sc,.slice oa5 x4.length op5,.slice oa6 x5.length op6,.int .i64 x6,.slice ga 1 gc],rfl,?_,?_⟩
 · rw [HT.out];simp only [HE.out,HSN.out,HD.out];exact kGt (HO.out.touch (((((((((kC _ _ _ _).trans (kC _ _ _ _)).trans (kC _ _ _ _)).trans (kC _ _ _ _)).trans (kC _ _ _ _)).trans (kC _ _ _ _)).trans (kC _ _ _ _)).trans (kC _ _ _ _)).trans (kC _ _ _ _)) mP) ((HQ.out.touch (((((((((kC _ _ _ _).trans (kC _ _ _ _)).trans (kC _ _ _ _)).trans (kC _ _ _ _)).trans (kC _ _ _ _)).trans (kC _ _ _ _)).trans (kC _ _ _ _)).trans (kC _ _ _ _)).trans (kC _ _ _ _)) (fun j h1 h2=>by omega)).own (show 1≤Big by unfold Big;omega)) cO (fun j q=>⟨by omega,by simp [World.setCell];omega⟩) (fun j q r=>by have:=q.2.1;have:=q.2.2.1;have:=q.2.2.2;omega)
 exact EE.trans (Touch.below (((((((((kC _ _ _ _).trans (kC _ _ _ _)).trans (kC _ _ _ _)).trans (kC _ _ _ _)).trans (kC _ _ _ _)).trans (kC _ _ _ _)).trans (kC _ _ _ _)).trans (kC _ _ _ _)).trans (kC _ _ _ _)) EE.size qD)
end Go.Proofs.YtomdenfcfbkfbaaGreat

/-
  A node over time: impl.
-/
import Derived.Test.YtomdenfcfbkfbaaGreatBase
import Derived.Test.YtomdenfcfbkfbaaGreatTick
import Derived.IntWalk
import Derived.Deep.Cut
import Derived.WalkSpells
import Derived.WalkLawsBesides
namespace Go.Proofs.YtomdenfcfbkfbaaGreat
open Go.RowKit
set_option linter.unusedVariables false
set_option linter.unusedSimpArgs false
set_option linter.unnecessarySimpa false
set_option maxRecDepth 100000 in
set_option maxHeartbeats 8000000 in
theorem implTickNode_c {w:World} {cx:List Value} {x:LNode} (hx:RNode.rd w cx x) {now:Int} (_:-9223372036854775808≤now∧now≤9223372036854775807) (hB:RNode.bdd 1048576 x) :
    Calls Tryz.prog 8 #[.agg cx.toArray,.int .i64 now] w (MadeAgg RNode (tickN now x) w):=by
 obtain ⟨x0,⟨xc,xe⟩,x2,x3,x4,x5,x6⟩:=x
 have HX:=hD hx
 have HB:=hD hB
 obtain ⟨av0,av2,av3,av4,av5,av6,rfl,a_0,a_1,a_2,a_3,a_4,a_5,a_6,a_7,a_8⟩:=RNode_raw hx.1
 obtain ⟨aa0,ap0,ah0,al0⟩:=Rep.kR a_0;obtain rfl:av0=_:=by simpa using ah0
 clear ah0
 obtain ⟨aa2,ap2,ah2,al2⟩:=Rep.kR a_3;obtain rfl:av2=_:=by simpa using ah2
 clear ah2
 obtain ⟨aa3,ap3,ah3,al3⟩:=Rep.kR a_4;obtain rfl:av3=_:=by simpa using ah3
 clear ah3
 obtain ⟨aa4,ap4,ah4,al4⟩:=Rep.kR a_5;obtain rfl:av4=_:=by simpa using ah4
 clear ah4
 obtain ⟨aa5,ap5,ah5,al5⟩:=Rep.kR a_6;obtain rfl:av5=_:=by simpa using ah5
 clear ah5
 obtain ⟨aa6,ap6,ah6,al6⟩:=Rep.kR a_7;obtain rfl:av6=_:=by simpa using ah6
 clear ah6
 have HPX:Hid ((Rep.slice 77 kH).rd w [.slice aa3 x2.length ap3] x2):=hD ⟨a_4,hx.2.2.2.1⟩
 have HCX:Hid (kJ.rd w [.int .i64 xc,.slice aa2 xe.length ap2] (xc,xe)):=hD ⟨a_1,hx.2.2.1⟩
 have hl2:x2.length≤2000000:=Nat.le_trans hB.2.2.1.1 (by decide)
 have HRN:=hD (show ∀ y∈x2,y.2.1.length≤2000000 from fun y hy=>Nat.le_trans (hB.2.2.1.2 y hy).2.1.1 (by decide))
 have hl3:x3.length≤1048576:=hB.2.2.2.1.1
 have hcp2:=Rep.cap_raw a_4
 clear hx hB a_0 a_1 a_2 a_3 a_4 a_5 a_6 a_7 a_8
 go_enter Tryz.func8,Tryz.ntmps8
 go_upto_region 1 with fail
 generalize hw_:World.alloc (World.alloc w _) _=w1
 have EE:Below w.heap.size w w1:=by rw [← hw_];exact (by repeat (first|(with_reducible exact Below.refl _ _) | refine Below.alloc ?_ (by simp;try omega) _ | refine Below.drew ?_ | refine Below.setCell ?_ (by simp;try omega) _))
 have BX:w1.heap[w.heap.size]?=some (.cells #[.slice aa0 x0.length ap0,.int .i64 xc,.slice aa2 xe.length ap2,.slice aa3 x2.length ap3,.slice aa4 x3.length ap4,.slice aa5 x4.length ap5,.slice aa6 x5.length ap6,.int .i64 x6] 42 (0,0)):=by rw [← hw_];exact heap_keep (heap_new_at rfl)
 have BR:w1.heap[w.heap.size + 1]?=some (.cells #[.slice none 0 0,.int .i64 0,.slice none 0 0,.slice none 0 0,.slice none 0 0,.slice none 0 0,.slice none 0 0,.int .i64 0] 42 (0,0)):=by rw [← hw_];exact heap_new_at (by simp)
 have z_w1:w.heap.size + 2≤w1.heap.size:=by rw [← hw_];simp
 clear hw_
 have KBX_0:w1.cell? ⟨w.heap.size,0,none⟩=some (.slice aa0 x0.length ap0):=kG BX rfl
 have KBX_1:w1.cell? ⟨w.heap.size,1,none⟩=some (.int .i64 xc):=kG BX rfl
 have KBX_2:w1.cell? ⟨w.heap.size,2,none⟩=some (.slice aa2 xe.length ap2):=kG BX rfl
 have KBX_3:w1.cell? ⟨w.heap.size,3,none⟩=some (.slice aa3 x2.length ap3):=kG BX rfl
 have KBX_4:w1.cell? ⟨w.heap.size,4,none⟩=some (.slice aa4 x3.length ap4):=kG BX rfl
 have KBX_5:w1.cell? ⟨w.heap.size,5,none⟩=some (.slice aa5 x4.length ap5):=kG BX rfl
 have KBX_6:w1.cell? ⟨w.heap.size,6,none⟩=some (.slice aa6 x5.length ap6):=kG BX rfl
 have KBX_7:w1.cell? ⟨w.heap.size,7,none⟩=some (.int .i64 x6):=kG BX rfl
 go_wp2_with fail
 refine (implCopyNode_c (HX.out.below EE)).mono ?_
 rintro e w2 ⟨cs,rfl,O,hb⟩
 have z_w2:=hb.size
 replace BX:=kN BX hb
 replace BR:=kN BR hb
 replace EE:=EE.trans (hb.mono EE.size)
 clear KBX_0 KBX_1 KBX_2 KBX_3 KBX_4 KBX_5 KBX_6 KBX_7
 clear hb
 obtain ⟨ov0,ov2,ov3,ov4,ov5,ov6,rfl,o_0,o_1,o_2,o_3,o_4,o_5,o_6,o_7,o_8⟩:=RNode_raw O.raw
 obtain ⟨oa0,op0,oh0,ol0⟩:=Rep.kR o_0;obtain rfl:ov0=_:=by simpa using oh0
 clear oh0
 obtain ⟨oa2,op2,oh2,ol2⟩:=Rep.kR o_3;obtain rfl:ov2=_:=by simpa using oh2
 clear oh2
 obtain ⟨oa3,op3,oh3,ol3⟩:=Rep.kR o_4;obtain rfl:ov3=_:=by simpa using oh3
 clear oh3
 obtain ⟨oa4,op4,oh4,ol4⟩:=Rep.kR o_5;obtain rfl:ov4=_:=by simpa using oh4
 clear oh4
 obtain ⟨oa5,op5,oh5,ol5⟩:=Rep.kR o_6;obtain rfl:ov5=_:=by simpa using oh5
 clear oh5
 obtain ⟨oa6,op6,oh6,ol6⟩:=Rep.kR o_7;obtain rfl:ov6=_:=by simpa using oh6
 clear oh6
 clear o_0 o_1 o_2 o_3 o_4 o_5 o_6 o_7 o_8
 have HO:=hD (O.wide (T:=(fun j=>w.heap.size + 2≤j∧j < w2.heap.size∧j≠w2.heap.size)) (fun j q=>⟨by have:=q.1;omega,q.2,by have:=q.2;omega⟩))
 clear O
 go_upto_region 2 with fail
 generalize hw_:World.alloc w2 _=w3
 have E_w3:Below w2.heap.size w2 w3:=by rw [← hw_];exact (Below.refl _ _).alloc (Nat.le_refl _) _
 have BO:w3.heap[w2.heap.size]?=some (.cells #[.slice oa0 x0.length op0,.int .i64 xc,.slice oa2 xe.length op2,.slice oa3 x2.length op3,.slice oa4 x3.length op4,.slice oa5 x4.length op5,.slice oa6 x5.length op6,.int .i64 x6] 42 (0,0)):=by rw [← hw_];exact heap_new_at rfl
 have z_w3:w2.heap.size + 1≤w3.heap.size:=by rw [← hw_];simp
 clear hw_
 replace BX:=kN BX E_w3
 replace BR:=kN BR E_w3
 replace HO:=hD (HO.out.below E_w3)
 replace EE:=EE.trans (E_w3.mono EE.size)
 clear E_w3
 have KBX_0:w3.cell? ⟨w.heap.size,0,none⟩=some (.slice aa0 x0.length ap0):=kG BX rfl
 have KBX_1:w3.cell? ⟨w.heap.size,1,none⟩=some (.int .i64 xc):=kG BX rfl
 have KBX_2:w3.cell? ⟨w.heap.size,2,none⟩=some (.slice aa2 xe.length ap2):=kG BX rfl
 have KBX_3:w3.cell? ⟨w.heap.size,3,none⟩=some (.slice aa3 x2.length ap3):=kG BX rfl
 have KBX_4:w3.cell? ⟨w.heap.size,4,none⟩=some (.slice aa4 x3.length ap4):=kG BX rfl
 have KBX_5:w3.cell? ⟨w.heap.size,5,none⟩=some (.slice aa5 x4.length ap5):=kG BX rfl
 have KBX_6:w3.cell? ⟨w.heap.size,6,none⟩=some (.slice aa6 x5.length ap6):=kG BX rfl
 have KBX_7:w3.cell? ⟨w.heap.size,7,none⟩=some (.int .i64 x6):=kG BX rfl
 have KBO_0:w3.cell? ⟨w2.heap.size,0,none⟩=some (.slice oa0 x0.length op0):=kG BO rfl
 have KBO_1:w3.cell? ⟨w2.heap.size,1,none⟩=some (.int .i64 xc):=kG BO rfl
 have KBO_2:w3.cell? ⟨w2.heap.size,2,none⟩=some (.slice oa2 xe.length op2):=kG BO rfl
 have KBO_3:w3.cell? ⟨w2.heap.size,3,none⟩=some (.slice oa3 x2.length op3):=kG BO rfl
 have KBO_4:w3.cell? ⟨w2.heap.size,4,none⟩=some (.slice oa4 x3.length op4):=kG BO rfl
 have KBO_5:w3.cell? ⟨w2.heap.size,5,none⟩=some (.slice oa5 x4.length op5):=kG BO rfl
 have KBO_6:w3.cell? ⟨w2.heap.size,6,none⟩=some (.slice oa6 x5.length op6):=kG BO rfl
 have KBO_7:w3.cell? ⟨w2.heap.size,7,none⟩=some (.int .i64 x6):=kG BO rfl
 have FBO_0:w3.frozen? ⟨w2.heap.size,0,none⟩=false:=frozen_of_row w3 (w2.heap.size) 0 _ _ BO
 have FBO_1:w3.frozen? ⟨w2.heap.size,1,none⟩=false:=frozen_of_row w3 (w2.heap.size) 1 _ _ BO
 have FBO_2:w3.frozen? ⟨w2.heap.size,2,none⟩=false:=frozen_of_row w3 (w2.heap.size) 2 _ _ BO
 have FBO_3:w3.frozen? ⟨w2.heap.size,3,none⟩=false:=frozen_of_row w3 (w2.heap.size) 3 _ _ BO
 have FBO_4:w3.frozen? ⟨w2.heap.size,4,none⟩=false:=frozen_of_row w3 (w2.heap.size) 4 _ _ BO
 have FBO_5:w3.frozen? ⟨w2.heap.size,5,none⟩=false:=frozen_of_row w3 (w2.heap.size) 5 _ _ BO
 have FBO_6:w3.frozen? ⟨w2.heap.size,6,none⟩=false:=frozen_of_row w3 (w2.heap.size) 6 _ _ BO
 have FBO_7:w3.frozen? ⟨w2.heap.size,7,none⟩=false:=frozen_of_row w3 (w2.heap.size) 7 _ _ BO
 go_wp2_with fail
 refine (implExpirePending_c (HPX.out.below EE) hl2 HRN.out).mono ?_
 rintro e w4 ⟨v4,rfl,O4,hb⟩
 have z_w4:=hb.size
 replace BX:=kN BX hb
 replace BR:=kN BR hb
 replace BO:=kN BO hb
 replace HO:=hD (HO.out.below hb)
 replace EE:=EE.trans (hb.mono EE.size)
 clear KBX_0 KBX_1 KBX_2 KBX_3 KBX_4 KBX_5 KBX_6 KBX_7 KBO_0 KBO_1 KBO_2 KBO_3 KBO_4 KBO_5 KBO_6 KBO_7 FBO_0 FBO_1 FBO_2 FBO_3 FBO_4 FBO_5 FBO_6 FBO_7
 clear hb
 have KBX_0:w4.cell? ⟨w.heap.size,0,none⟩=some (.slice aa0 x0.length ap0):=kG BX rfl
 have KBX_1:w4.cell? ⟨w.heap.size,1,none⟩=some (.int .i64 xc):=kG BX rfl
 have KBX_2:w4.cell? ⟨w.heap.size,2,none⟩=some (.slice aa2 xe.length ap2):=kG BX rfl
 have KBX_3:w4.cell? ⟨w.heap.size,3,none⟩=some (.slice aa3 x2.length ap3):=kG BX rfl
 have KBX_4:w4.cell? ⟨w.heap.size,4,none⟩=some (.slice aa4 x3.length ap4):=kG BX rfl
 have KBX_5:w4.cell? ⟨w.heap.size,5,none⟩=some (.slice aa5 x4.length ap5):=kG BX rfl
 have KBX_6:w4.cell? ⟨w.heap.size,6,none⟩=some (.slice aa6 x5.length ap6):=kG BX rfl
 have KBX_7:w4.cell? ⟨w.heap.size,7,none⟩=some (.int .i64 x6):=kG BX rfl
 have KBO_0:w4.cell? ⟨w2.heap.size,0,none⟩=some (.slice oa0 x0.length op0):=kG BO rfl
 have KBO_1:w4.cell? ⟨w2.heap.size,1,none⟩=some (.int .i64 xc):=kG BO rfl
 have KBO_2:w4.cell? ⟨w2.heap.size,2,none⟩=some (.slice oa2 xe.length op2):=kG BO rfl
 have KBO_3:w4.cell? ⟨w2.heap.size,3,none⟩=some (.slice oa3 x2.length op3):=kG BO rfl
 have KBO_4:w4.cell? ⟨w2.heap.size,4,none⟩=some (.slice oa4 x3.length op4):=kG BO rfl
 have KBO_5:w4.cell? ⟨w2.heap.size,5,none⟩=some (.slice oa5 x4.length op5):=kG BO rfl
 have KBO_6:w4.cell? ⟨w2.heap.size,6,none⟩=some (.slice oa6 x5.length op6):=kG BO rfl
 have KBO_7:w4.cell? ⟨w2.heap.size,7,none⟩=some (.int .i64 x6):=kG BO rfl
 have FBO_0:w4.frozen? ⟨w2.heap.size,0,none⟩=false:=frozen_of_row w4 (w2.heap.size) 0 _ _ BO
 have FBO_1:w4.frozen? ⟨w2.heap.size,1,none⟩=false:=frozen_of_row w4 (w2.heap.size) 1 _ _ BO
 have FBO_2:w4.frozen? ⟨w2.heap.size,2,none⟩=false:=frozen_of_row w4 (w2.heap.size) 2 _ _ BO
 have FBO_3:w4.frozen? ⟨w2.heap.size,3,none⟩=false:=frozen_of_row w4 (w2.heap.size) 3 _ _ BO
 have FBO_4:w4.frozen? ⟨w2.heap.size,4,none⟩=false:=frozen_of_row w4 (w2.heap.size) 4 _ _ BO
 have FBO_5:w4.frozen? ⟨w2.heap.size,5,none⟩=false:=frozen_of_row w4 (w2.heap.size) 5 _ _ BO
 have FBO_6:w4.frozen? ⟨w2.heap.size,6,none⟩=false:=frozen_of_row w4 (w2.heap.size) 6 _ _ BO
 have FBO_7:w4.frozen? ⟨w2.heap.size,7,none⟩=false:=frozen_of_row w4 (w2.heap.size) 7 _ _ BO
 have hPl:=expP_len now x2
 obtain ⟨P,hP⟩:∃ P,expP now x2=P:=⟨_,rfl⟩
 rw [hP] at O4 hPl
 have HP:=hD hP
 clear hP
 obtain ⟨pa,pc,hv4,_⟩:=Rep.kR O4.raw;obtain rfl:v4=_:=by simpa using hv4
 clear hv4
 have HO2:=hD ((node_setPend HO.out O4 (fun j h1 h2=>by have:=h1.2.1;have:=h2.1;omega)).wide (T:=(fun j=>w.heap.size + 2≤j∧j < w4.heap.size∧j≠w2.heap.size)) (fun j q=>q.elim (fun q=>⟨q.1,by omega,q.2.2⟩) (fun q=>⟨by have:=q.1;omega,q.2,by have:=q.1;omega⟩)))
 clear HO O4
 go_upto_region 3 with fail
 generalize hw_:World.setCell w4 _ _=w5
 have T_w5:Touch (fun k=>k=w2.heap.size) w4 w5:=by rw [← hw_];exact kV w4 (w2.heap.size) 3 _
 replace BO:w5.heap[w2.heap.size]?=some (.cells #[.slice oa0 x0.length op0,.int .i64 xc,.slice oa2 xe.length op2,.slice pa P.length pc,.slice oa4 x3.length op4,.slice oa5 x4.length op5,.slice oa6 x5.length op6,.int .i64 x6] 42 (0,0)):=by rw [← hw_];exact setCell_row BO 3
 have z_w5:=T_w5.size
 clear hw_
 replace BX:=T_w5.kN BX (by omega)
 replace BR:=T_w5.kN BR (by omega)
 replace HO2:=hD (HO2.out.touch T_w5 (fun k hk=>by have:=hk.1;have:=hk.2;omega))
 replace EE:=EE.trans (T_w5.below EE.size (fun k hk=>by omega))
 clear KBX_0 KBX_1 KBX_2 KBX_3 KBX_4 KBX_5 KBX_6 KBX_7 KBO_0 KBO_1 KBO_2 KBO_3 KBO_4 KBO_5 KBO_6 KBO_7 FBO_0 FBO_1 FBO_2 FBO_3 FBO_4 FBO_5 FBO_6 FBO_7
 clear T_w5
 have HO:=hD (HO2.out.wide (T:=(fun j=>w.heap.size + 2≤j∧j < w5.heap.size∧j≠w2.heap.size)) (fun j q=>⟨q.1,by omega,q.2.2⟩))
 clear HO2
 have KBX_0:w5.cell? ⟨w.heap.size,0,none⟩=some (.slice aa0 x0.length ap0):=kG BX rfl
 have KBX_1:w5.cell? ⟨w.heap.size,1,none⟩=some (.int .i64 xc):=kG BX rfl
 have KBX_2:w5.cell? ⟨w.heap.size,2,none⟩=some (.slice aa2 xe.length ap2):=kG BX rfl
 have KBX_3:w5.cell? ⟨w.heap.size,3,none⟩=some (.slice aa3 x2.length ap3):=kG BX rfl
 have KBX_4:w5.cell? ⟨w.heap.size,4,none⟩=some (.slice aa4 x3.length ap4):=kG BX rfl
 have KBX_5:w5.cell? ⟨w.heap.size,5,none⟩=some (.slice aa5 x4.length ap5):=kG BX rfl
 have KBX_6:w5.cell? ⟨w.heap.size,6,none⟩=some (.slice aa6 x5.length ap6):=kG BX rfl
 have KBX_7:w5.cell? ⟨w.heap.size,7,none⟩=some (.int .i64 x6):=kG BX rfl
 go_wp2
 go_loopw [23] (fun i wr=>∃ (k:Nat) (sa ma:Option Addr) (sc mc:Nat) (s:List LSeenNonce) (m:List kQ),i=.int .i64 k∧k≤x2.length∧Hid ((s,m)=tickK now (x0,(xc,xe),x2,x3,x4,x5,x6) k)∧Hid (RNode.own wr [.slice oa0 x0.length op0,.int .i64 xc,.slice oa2 xe.length op2,.slice pa P.length pc,.slice sa s.length sc,.slice oa5 x4.length op5,.slice ma m.length mc,.int .i64 x6] (x0,(xc,xe),P,s,x4,m,x6) (fun j=>w.heap.size + 2≤j∧j < wr.heap.size∧j≠w2.heap.size))∧wr.heap[w.heap.size]?=some (.cells #[.slice aa0 x0.length ap0,.int .i64 xc,.slice aa2 xe.length ap2,.slice aa3 x2.length ap3,.slice aa4 x3.length ap4,.slice aa5 x4.length ap5,.slice aa6 x5.length ap6,.int .i64 x6] 42 (0,0))∧wr.heap[w.heap.size + 1]?=some (.cells #[.slice none 0 0,.int .i64 0,.slice none 0 0,.slice none 0 0,.slice none 0 0,.slice none 0 0,.slice none 0 0,.int .i64 0] 42 (0,0))∧wr.heap[w2.heap.size]?=some (.cells #[.slice oa0 x0.length op0,.int .i64 xc,.slice oa2 xe.length op2,.slice pa P.length pc,.slice sa s.length sc,.slice oa5 x4.length op5,.slice ma m.length mc,.int .i64 x6] 42 (0,0))∧w5.heap.size≤wr.heap.size∧Below w.heap.size w wr) (fun i _=>x2.length - (intOf i).toNat)
 case atStart=>exact ⟨0,oa4,oa6,op4,op6,x3,x5,rfl,Nat.zero_le _,hD rfl,HO,BX,BR,BO,Nat.le_refl _,EE⟩
 rename World=>wq
 clear EE BX BR BO HO
 obtain ⟨k,sa,ma,sc,mc,s,m,rfl,hk,HT,HO,BX,BR,BO,hzr,EE⟩:=hrel
 have hk0:=Int.natCast_nonneg k
 have hsl:s.length≤2000000:=by have h1:=tickK_len (now:=now) (x:=(x0,(xc,xe),x2,x3,x4,x5,x6)) (k:=k);rw [← HT.out] at h1;simp only at h1;omega
 by_cases hlt:k < x2.length
 · have hk2:=Int.ofNat_lt.2 hlt
   have hnx:tickK now (x0,(xc,xe),x2,x3,x4,x5,x6) (k + 1)=tickStep (x0,(xc,xe),x2,x3,x4,x5,x6) P (s,m) x2[k]:=by have h_:=tickK_next (now:=now) (x:=(x0,(xc,xe),x2,x3,x4,x5,x6)) (k:=k) hlt;rw [← HT.out] at h_;rw [← HP.out];exact h_
   have hrl:=HRN.out _ (List.getElem_mem hlt)
   obtain ⟨qb,qo,hqa,c0,c1,c2,qr,A0w,A1w,A2w⟩:=Rep.get3 HPX.out.1 hlt rfl
   have hbd:=Rep.raw_bdd HPX.out hlt
   generalize x2[k]=y at *
   have HNX:=hD hnx
   clear hnx
   obtain ⟨y0,y1,y2⟩:=y
   try simp only at hrl
   obtain ⟨qv0,qv1,qhe,q_0,q_1,q_2,q_3⟩:=RPendingInterest_raw qr
   simp only [List.cons.injEq,and_true] at qhe
   obtain ⟨rfl,rfl,rfl⟩:=qhe
   obtain ⟨na,np,nh,_⟩:=Rep.kR q_1;obtain rfl:c0=_:=by simpa using nh
   obtain ⟨ra,rp,rh,_⟩:=Rep.kR q_2;obtain rfl:c1=_:=by simpa using rh
   have HNM:Hid (RName.rd w [.slice na y0.length np] y0):=hD ⟨q_0,hbd.1⟩
   have HQ:=hD q_2
   try simp only at A0w A1w A2w
   clear nh rh qr q_0 q_1 q_2 q_3 hbd
   subst hqa
   have KBX_0:wq.cell? ⟨w.heap.size,0,none⟩=some (.slice aa0 x0.length ap0):=kG BX rfl
   have KBX_1:wq.cell? ⟨w.heap.size,1,none⟩=some (.int .i64 xc):=kG BX rfl
   have KBX_2:wq.cell? ⟨w.heap.size,2,none⟩=some (.slice aa2 xe.length ap2):=kG BX rfl
   have KBX_3:wq.cell? ⟨w.heap.size,3,none⟩=some (.slice (some ⟨qb,qo,none⟩) x2.length ap3):=kG BX rfl
   have KBX_4:wq.cell? ⟨w.heap.size,4,none⟩=some (.slice aa4 x3.length ap4):=kG BX rfl
   have KBX_5:wq.cell? ⟨w.heap.size,5,none⟩=some (.slice aa5 x4.length ap5):=kG BX rfl
   have KBX_6:wq.cell? ⟨w.heap.size,6,none⟩=some (.slice aa6 x5.length ap6):=kG BX rfl
   have KBX_7:wq.cell? ⟨w.heap.size,7,none⟩=some (.int .i64 x6):=kG BX rfl
   have A0:=cL EE A0w
   have A1:=cL EE A1w
   have A2:=cL EE A2w
   go_upto_region 6 with fail
   generalize hw_:World.alloc wq _=w6
   have E_w6:Below wq.heap.size wq w6:=by rw [← hw_];exact (Below.refl _ _).alloc (Nat.le_refl _) _
   have BT:w6.heap[wq.heap.size]?=some (.cells #[.slice na y0.length np,.slice ra y1.length rp,.int .i64 y2] 77 (0,0)):=by rw [← hw_];exact heap_new_at rfl
   have z_w6:wq.heap.size + 1≤w6.heap.size:=by rw [← hw_];simp
   clear hw_
   replace BX:=kN BX E_w6
   replace BR:=kN BR E_w6
   replace BO:=kN BO E_w6
   replace HO:=hD (HO.out.below E_w6)
   replace EE:=EE.trans (E_w6.mono EE.size)
   clear KBX_0 KBX_1 KBX_2 KBX_3 KBX_4 KBX_5 KBX_6 KBX_7 A0 A1 A2
   clear E_w6
   by_cases hr0:y1.length=0
   · have HT2:=hD (show tickK now (x0,(xc,xe),x2,x3,x4,x5,x6) (k + 1)=(s,m) by rw [HNX.out];unfold tickStep;rw [if_pos hr0])
     have hr0I:(y1.length:Int)=0:=by omega
     have hr0B:((y1.length:Int)==0)=true:=by rw [beq_iff_eq];omega
     have KBO_0:w6.cell? ⟨w2.heap.size,0,none⟩=some (.slice oa0 x0.length op0):=kG BO rfl
     have KBO_1:w6.cell? ⟨w2.heap.size,1,none⟩=some (.int .i64 xc):=kG BO rfl
     have KBO_2:w6.cell? ⟨w2.heap.size,2,none⟩=some (.slice oa2 xe.length op2):=kG BO rfl
     have KBO_3:w6.cell? ⟨w2.heap.size,3,none⟩=some (.slice pa P.length pc):=kG BO rfl
     have KBO_4:w6.cell? ⟨w2.heap.size,4,none⟩=some (.slice sa s.length sc):=kG BO rfl
     have KBO_5:w6.cell? ⟨w2.heap.size,5,none⟩=some (.slice oa5 x4.length op5):=kG BO rfl
     have KBO_6:w6.cell? ⟨w2.heap.size,6,none⟩=some (.slice ma m.length mc):=kG BO rfl
     have KBO_7:w6.cell? ⟨w2.heap.size,7,none⟩=some (.int .i64 x6):=kG BO rfl
     have KBT_0:w6.cell? ⟨wq.heap.size,0,none⟩=some (.slice na y0.length np):=kG BT rfl
     have KBT_1:w6.cell? ⟨wq.heap.size,1,none⟩=some (.slice ra y1.length rp):=kG BT rfl
     have KBT_2:w6.cell? ⟨wq.heap.size,2,none⟩=some (.int .i64 y2):=kG BT rfl
     go_wp2
     go_roundw
     case rel=>exact ⟨k + 1,sa,ma,sc,mc,s,m,by go_num,by omega,hD (by rw [HT2.out]),hD (HO.out.wide (fun j q=>⟨q.1,by omega,q.2.2⟩)),BX,BR,BO,by omega,EE⟩
     simp [intOf];omega
   have hr0I:¬ (y1.length:Int)=0:=by omega
   have hr0B:((y1.length:Int)==0)=false:=by rw [beq_eq_false_iff_ne];omega
   have KBO_0:w6.cell? ⟨w2.heap.size,0,none⟩=some (.slice oa0 x0.length op0):=kG BO rfl
   have KBO_1:w6.cell? ⟨w2.heap.size,1,none⟩=some (.int .i64 xc):=kG BO rfl
   have KBO_2:w6.cell? ⟨w2.heap.size,2,none⟩=some (.slice oa2 xe.length op2):=kG BO rfl
   have KBO_3:w6.cell? ⟨w2.heap.size,3,none⟩=some (.slice pa P.length pc):=kG BO rfl
   have KBO_4:w6.cell? ⟨w2.heap.size,4,none⟩=some (.slice sa s.length sc):=kG BO rfl
   have KBO_5:w6.cell? ⟨w2.heap.size,5,none⟩=some (.slice oa5 x4.length op5):=kG BO rfl
   have KBO_6:w6.cell? ⟨w2.heap.size,6,none⟩=some (.slice ma m.length mc):=kG BO rfl
   have KBO_7:w6.cell? ⟨w2.heap.size,7,none⟩=some (.int .i64 x6):=kG BO rfl
   have KBT_0:w6.cell? ⟨wq.heap.size,0,none⟩=some (.slice na y0.length np):=kG BT rfl
   have KBT_1:w6.cell? ⟨wq.heap.size,1,none⟩=some (.slice ra y1.length rp):=kG BT rfl
   have KBT_2:w6.cell? ⟨wq.heap.size,2,none⟩=some (.int .i64 y2):=kG BT rfl
   go_wp2_with fail
   refine (implHasPending_c (vl:=.slice pa P.length pc) (l:=P) (node_pend HO.out.raw) (cn:=[.slice na y0.length np]) (HNM.out.1.below EE)).mono ?_
   rintro e w7 ⟨rfl,hb⟩
   have z_w7:=hb.size
   replace BX:=kN BX hb
   replace BR:=kN BR hb
   replace BO:=kN BO hb
   replace BT:=kN BT hb
   replace HO:=hD (HO.out.below hb)
   replace EE:=EE.trans (hb.mono EE.size)
   clear KBO_0 KBO_1 KBO_2 KBO_3 KBO_4 KBO_5 KBO_6 KBO_7 KBT_0 KBT_1 KBT_2
   clear hb
   by_cases hhp:0≤idxOf (isPend y0) P
   · have HT2:=hD (show tickK now (x0,(xc,xe),x2,x3,x4,x5,x6) (k + 1)=(s,m) by rw [HNX.out];unfold tickStep;rw [if_neg hr0,if_pos hhp])
     have hhpB:decide (0≤idxOf (isPend y0) P)=true:=by simpa using hhp
     generalize idxOf (isPend y0) P=ip at *
     go_wp2
     go_roundw
     case rel=>exact ⟨k + 1,sa,ma,sc,mc,s,m,by go_num,by omega,hD (by rw [HT2.out]),hD (HO.out.wide (fun j q=>⟨q.1,by omega,q.2.2⟩)),BX,BR,BO,by omega,EE⟩
     simp [intOf];omega
   have HT1:=hD (show tickK now (x0,(xc,xe),x2,x3,x4,x5,x6) (k + 1)=((y1.foldl (fun s r=>addSeen s y0 r.2.1) s),if mOk y0 x4 then tickM (outF (x0,(xc,xe),P,(y1.foldl (fun s r=>addSeen s y0 r.2.1) s),x4,m,x6) y0 0) (mName y0 x4) m else m) by rw [HNX.out];unfold tickStep;rw [if_neg hr0,if_neg hhp])
   have hhpB:decide (0≤idxOf (isPend y0) P)=false:=by simpa using hhp
   generalize idxOf (isPend y0) P=ip at *
   clear HNX
   have KBT_0:w7.cell? ⟨wq.heap.size,0,none⟩=some (.slice na y0.length np):=kG BT rfl
   have KBT_1:w7.cell? ⟨wq.heap.size,1,none⟩=some (.slice ra y1.length rp):=kG BT rfl
   have KBT_2:w7.cell? ⟨wq.heap.size,2,none⟩=some (.int .i64 y2):=kG BT rfl
   go_wp2
   go_loopw [41] (fun i wr=>∃ (j:Nat) (ta:Option Addr) (tc:Nat) (u:List LSeenNonce),i=.int .i64 j∧j≤y1.length∧u.length≤2000000∧Hid (u=(y1.take j).foldl (fun s r=>addSeen s y0 r.2.1) s)∧Hid (RNode.own wr [.slice oa0 x0.length op0,.int .i64 xc,.slice oa2 xe.length op2,.slice pa P.length pc,.slice ta u.length tc,.slice oa5 x4.length op5,.slice ma m.length mc,.int .i64 x6] (x0,(xc,xe),P,u,x4,m,x6) (fun j=>w.heap.size + 2≤j∧j < wr.heap.size∧j≠w2.heap.size))∧wr.heap[w.heap.size]?=some (.cells #[.slice aa0 x0.length ap0,.int .i64 xc,.slice aa2 xe.length ap2,.slice (some ⟨qb,qo,none⟩) x2.length ap3,.slice aa4 x3.length ap4,.slice aa5 x4.length ap5,.slice aa6 x5.length ap6,.int .i64 x6] 42 (0,0))∧wr.heap[w.heap.size + 1]?=some (.cells #[.slice none 0 0,.int .i64 0,.slice none 0 0,.slice none 0 0,.slice none 0 0,.slice none 0 0,.slice none 0 0,.int .i64 0] 42 (0,0))∧wr.heap[w2.heap.size]?=some (.cells #[.slice oa0 x0.length op0,.int .i64 xc,.slice oa2 xe.length op2,.slice pa P.length pc,.slice ta u.length tc,.slice oa5 x4.length op5,.slice ma m.length mc,.int .i64 x6] 42 (0,0))∧wr.heap[wq.heap.size]?=some (.cells #[.slice na y0.length np,.slice ra y1.length rp,.int .i64 y2] 77 (0,0))∧w7.heap.size≤wr.heap.size∧Below w.heap.size w wr) (fun i _=>y1.length - (intOf i).toNat)
   case atStart=>exact ⟨0,sa,sc,s,rfl,Nat.zero_le _,hsl,hD rfl,hD (HO.out.wide (fun j q=>⟨q.1,by omega,q.2.2⟩)),BX,BR,BO,BT,Nat.le_refl _,EE⟩
   rename World=>wp
   clear EE BX BR BO BT HO
   obtain ⟨j,ta,tc,u,rfl,hj,hul,HU,HO,BX,BR,BO,BT,hzp,EE⟩:=hrel
   have hj0:=Int.natCast_nonneg j
   by_cases hjt:j < y1.length
   · have hj2:=Int.ofNat_lt.2 hjt
     have hun:=seenFold_next (n:=y0) (s:=s) hjt
     rw [← HU.out] at hun
     obtain ⟨rb,ro,hra,r0,r1,r2,rr,R0w,R1w,R2w⟩:=Rep.get3 HQ.out hjt rfl
     generalize y1[j]=z at *
     have HUN:=hD hun
     clear hun
     obtain ⟨z0,z1,z2⟩:=z
     obtain ⟨rhe,s_0,s_1,s_2⟩:=RRequester_raw rr
     simp only [List.cons.injEq,and_true] at rhe
     obtain ⟨rfl,rfl,rfl⟩:=rhe
     try simp only at R0w R1w R2w
     subst hra
     have HZ:=hD s_1
     clear s_0 s_1 s_2 rr
     have KBO_0:wp.cell? ⟨w2.heap.size,0,none⟩=some (.slice oa0 x0.length op0):=kG BO rfl
     have KBO_1:wp.cell? ⟨w2.heap.size,1,none⟩=some (.int .i64 xc):=kG BO rfl
     have KBO_2:wp.cell? ⟨w2.heap.size,2,none⟩=some (.slice oa2 xe.length op2):=kG BO rfl
     have KBO_3:wp.cell? ⟨w2.heap.size,3,none⟩=some (.slice pa P.length pc):=kG BO rfl
     have KBO_4:wp.cell? ⟨w2.heap.size,4,none⟩=some (.slice ta u.length tc):=kG BO rfl
     have KBO_5:wp.cell? ⟨w2.heap.size,5,none⟩=some (.slice oa5 x4.length op5):=kG BO rfl
     have KBO_6:wp.cell? ⟨w2.heap.size,6,none⟩=some (.slice ma m.length mc):=kG BO rfl
     have KBO_7:wp.cell? ⟨w2.heap.size,7,none⟩=some (.int .i64 x6):=kG BO rfl
     have KBT_0:wp.cell? ⟨wq.heap.size,0,none⟩=some (.slice na y0.length np):=kG BT rfl
     have KBT_1:wp.cell? ⟨wq.heap.size,1,none⟩=some (.slice (some ⟨rb,ro,none⟩) y1.length rp):=kG BT rfl
     have KBT_2:wp.cell? ⟨wq.heap.size,2,none⟩=some (.int .i64 y2):=kG BT rfl
     have R0:=cL EE R0w
     have R1:=cL EE R1w
     have R2:=cL EE R2w
     go_upto_region 10 with fail
     generalize hw_:World.alloc wp _=w9
     have E_w9:Below wp.heap.size wp w9:=by rw [← hw_];exact (Below.refl _ _).alloc (Nat.le_refl _) _
     have BQ:w9.heap[wp.heap.size]?=some (.cells #[.int .i64 z0,.int .i64 z1,.int .i64 z2] 81 (0,0)):=by rw [← hw_];exact heap_new_at rfl
     have z_w9:wp.heap.size + 1≤w9.heap.size:=by rw [← hw_];simp
     clear hw_
     replace BX:=kN BX E_w9
     replace BR:=kN BR E_w9
     replace BO:=kN BO E_w9
     replace BT:=kN BT E_w9
     replace HO:=hD (HO.out.below E_w9)
     replace EE:=EE.trans (E_w9.mono EE.size)
     clear KBO_0 KBO_1 KBO_2 KBO_3 KBO_4 KBO_5 KBO_6 KBO_7 KBT_0 KBT_1 KBT_2 R0 R1 R2
     clear E_w9
     have KBO_0:w9.cell? ⟨w2.heap.size,0,none⟩=some (.slice oa0 x0.length op0):=kG BO rfl
     have KBO_1:w9.cell? ⟨w2.heap.size,1,none⟩=some (.int .i64 xc):=kG BO rfl
     have KBO_2:w9.cell? ⟨w2.heap.size,2,none⟩=some (.slice oa2 xe.length op2):=kG BO rfl
     have KBO_3:w9.cell? ⟨w2.heap.size,3,none⟩=some (.slice pa P.length pc):=kG BO rfl
     have KBO_4:w9.cell? ⟨w2.heap.size,4,none⟩=some (.slice ta u.length tc):=kG BO rfl
     have KBO_5:w9.cell? ⟨w2.heap.size,5,none⟩=some (.slice oa5 x4.length op5):=kG BO rfl
     have KBO_6:w9.cell? ⟨w2.heap.size,6,none⟩=some (.slice ma m.length mc):=kG BO rfl
     have KBO_7:w9.cell? ⟨w2.heap.size,7,none⟩=some (.int .i64 x6):=kG BO rfl
     have KBT_0:w9.cell? ⟨wq.heap.size,0,none⟩=some (.slice na y0.length np):=kG BT rfl
     have KBT_1:w9.cell? ⟨wq.heap.size,1,none⟩=some (.slice (some ⟨rb,ro,none⟩) y1.length rp):=kG BT rfl
     have KBT_2:w9.cell? ⟨wq.heap.size,2,none⟩=some (.int .i64 y2):=kG BT rfl
     have KBQ_0:w9.cell? ⟨wp.heap.size,0,none⟩=some (.int .i64 z0):=kG BQ rfl
     have KBQ_1:w9.cell? ⟨wp.heap.size,1,none⟩=some (.int .i64 z1):=kG BQ rfl
     have KBQ_2:w9.cell? ⟨wp.heap.size,2,none⟩=some (.int .i64 z2):=kG BQ rfl
     go_wp2_with fail
     refine (implAddSeenNonce_c (node_seen HO.out.rd) hul (cn:=[.slice na y0.length np]) (HNM.out.below EE) HZ.out).mono ?_
     rintro e w10 ⟨v9,rfl,O9,hb⟩
     have z_w10:=hb.size
     replace BX:=kN BX hb
     replace BR:=kN BR hb
     replace BO:=kN BO hb
     replace BT:=kN BT hb
     replace BQ:=kN BQ hb
     replace HO:=hD (HO.out.below hb)
     replace EE:=EE.trans (hb.mono EE.size)
     clear KBO_0 KBO_1 KBO_2 KBO_3 KBO_4 KBO_5 KBO_6 KBO_7 KBT_0 KBT_1 KBT_2 KBQ_0 KBQ_1 KBQ_2
     clear hb
     have hvl:=addSeen_len2 (l:=u) (n:=y0) (x:=z1)
     obtain ⟨u2,hu2⟩:∃ u2,addSeen u y0 z1=u2:=⟨_,rfl⟩
     rw [hu2] at O9 hvl
     have HU2:=hD (show u2=(y1.take (j + 1)).foldl (fun s r=>addSeen s y0 r.2.1) s by rw [HUN.out];exact hu2.symm)
     clear hu2
     obtain ⟨va,vc,hv9,_⟩:=Rep.kR O9.raw;obtain rfl:v9=_:=by simpa using hv9
     clear hv9
     have HO2:=hD ((node_setSeen HO.out O9 (fun j h1 h2=>by have:=h1.2.1;have:=h2.1;omega)).wide (T:=(fun j=>w.heap.size + 2≤j∧j < w10.heap.size∧j≠w2.heap.size)) (fun j q=>q.elim (fun q=>⟨q.1,by omega,q.2.2⟩) (fun q=>⟨by have:=q.1;omega,q.2,by have:=q.1;omega⟩)))
     clear HO O9
     have KBO_0:w10.cell? ⟨w2.heap.size,0,none⟩=some (.slice oa0 x0.length op0):=kG BO rfl
     have KBO_1:w10.cell? ⟨w2.heap.size,1,none⟩=some (.int .i64 xc):=kG BO rfl
     have KBO_2:w10.cell? ⟨w2.heap.size,2,none⟩=some (.slice oa2 xe.length op2):=kG BO rfl
     have KBO_3:w10.cell? ⟨w2.heap.size,3,none⟩=some (.slice pa P.length pc):=kG BO rfl
     have KBO_4:w10.cell? ⟨w2.heap.size,4,none⟩=some (.slice ta u.length tc):=kG BO rfl
     have KBO_5:w10.cell? ⟨w2.heap.size,5,none⟩=some (.slice oa5 x4.length op5):=kG BO rfl
     have KBO_6:w10.cell? ⟨w2.heap.size,6,none⟩=some (.slice ma m.length mc):=kG BO rfl
     have KBO_7:w10.cell? ⟨w2.heap.size,7,none⟩=some (.int .i64 x6):=kG BO rfl
     have FBO_0:w10.frozen? ⟨w2.heap.size,0,none⟩=false:=frozen_of_row w10 (w2.heap.size) 0 _ _ BO
     have FBO_1:w10.frozen? ⟨w2.heap.size,1,none⟩=false:=frozen_of_row w10 (w2.heap.size) 1 _ _ BO
     have FBO_2:w10.frozen? ⟨w2.heap.size,2,none⟩=false:=frozen_of_row w10 (w2.heap.size) 2 _ _ BO
     have FBO_3:w10.frozen? ⟨w2.heap.size,3,none⟩=false:=frozen_of_row w10 (w2.heap.size) 3 _ _ BO
     have FBO_4:w10.frozen? ⟨w2.heap.size,4,none⟩=false:=frozen_of_row w10 (w2.heap.size) 4 _ _ BO
     have FBO_5:w10.frozen? ⟨w2.heap.size,5,none⟩=false:=frozen_of_row w10 (w2.heap.size) 5 _ _ BO
     have FBO_6:w10.frozen? ⟨w2.heap.size,6,none⟩=false:=frozen_of_row w10 (w2.heap.size) 6 _ _ BO
     have FBO_7:w10.frozen? ⟨w2.heap.size,7,none⟩=false:=frozen_of_row w10 (w2.heap.size) 7 _ _ BO
     go_upto_region 11 with fail
     generalize hw_:World.setCell w10 _ _=w11
     have T_w11:Touch (fun k=>k=w2.heap.size) w10 w11:=by rw [← hw_];exact kV w10 (w2.heap.size) 4 _
     replace BO:w11.heap[w2.heap.size]?=some (.cells #[.slice oa0 x0.length op0,.int .i64 xc,.slice oa2 xe.length op2,.slice pa P.length pc,.slice va u2.length vc,.slice oa5 x4.length op5,.slice ma m.length mc,.int .i64 x6] 42 (0,0)):=by rw [← hw_];exact setCell_row BO 4
     have z_w11:=T_w11.size
     clear hw_
     replace BX:=T_w11.kN BX (by omega)
     replace BR:=T_w11.kN BR (by omega)
     replace BT:=T_w11.kN BT (by omega)
     replace BQ:=T_w11.kN BQ (by omega)
     replace HO2:=hD (HO2.out.touch T_w11 (fun k hk=>by have:=hk.1;have:=hk.2;omega))
     replace EE:=EE.trans (T_w11.below EE.size (fun k hk=>by omega))
     clear KBO_0 KBO_1 KBO_2 KBO_3 KBO_4 KBO_5 KBO_6 KBO_7 FBO_0 FBO_1 FBO_2 FBO_3 FBO_4 FBO_5 FBO_6 FBO_7
     clear T_w11
     have HO:=hD (HO2.out.wide (T:=(fun j=>w.heap.size + 2≤j∧j < w11.heap.size∧j≠w2.heap.size)) (fun j q=>⟨q.1,by omega,q.2.2⟩))
     clear HO2
     go_wp2
     go_roundw
     case rel=>exact ⟨j + 1,va,vc,u2,by go_num,by omega,by omega,HU2,HO,BX,BR,BO,BT,by omega,EE⟩
     simp [intOf];omega
   have hj3:¬ ((j:Int) < y1.length):=by omega
   obtain rfl:j=y1.length:=by omega
   have HUF:=hD (show u=y1.foldl (fun s r=>addSeen s y0 r.2.1) s by have h_:=HU.out;rwa [List.take_length] at h_)
   replace HT1:=hD (show tickK now (x0,(xc,xe),x2,x3,x4,x5,x6) (k + 1)=(u,if mOk y0 x4 then tickM (outF (x0,(xc,xe),P,u,x4,m,x6) y0 0) (mName y0 x4) m else m) by rw [HT1.out,← HUF.out])
   clear HU HUF
   have KBO_0:wp.cell? ⟨w2.heap.size,0,none⟩=some (.slice oa0 x0.length op0):=kG BO rfl
   have KBO_1:wp.cell? ⟨w2.heap.size,1,none⟩=some (.int .i64 xc):=kG BO rfl
   have KBO_2:wp.cell? ⟨w2.heap.size,2,none⟩=some (.slice oa2 xe.length op2):=kG BO rfl
   have KBO_3:wp.cell? ⟨w2.heap.size,3,none⟩=some (.slice pa P.length pc):=kG BO rfl
   have KBO_4:wp.cell? ⟨w2.heap.size,4,none⟩=some (.slice ta u.length tc):=kG BO rfl
   have KBO_5:wp.cell? ⟨w2.heap.size,5,none⟩=some (.slice oa5 x4.length op5):=kG BO rfl
   have KBO_6:wp.cell? ⟨w2.heap.size,6,none⟩=some (.slice ma m.length mc):=kG BO rfl
   have KBO_7:wp.cell? ⟨w2.heap.size,7,none⟩=some (.int .i64 x6):=kG BO rfl
   have KBT_0:wp.cell? ⟨wq.heap.size,0,none⟩=some (.slice na y0.length np):=kG BT rfl
   have KBT_1:wp.cell? ⟨wq.heap.size,1,none⟩=some (.slice ra y1.length rp):=kG BT rfl
   have KBT_2:wp.cell? ⟨wq.heap.size,2,none⟩=some (.int .i64 y2):=kG BT rfl
   go_wp2_with fail
   refine (implMatchingPrefix_c (node_routes HO.out.rd) (cn:=[.slice na y0.length np]) (HNM.out.below EE)).mono ?_
   rintro e w9 ⟨cq,rfl,Oq,hb⟩
   have z_w9:=hb.size
   replace BX:=kN BX hb
   replace BR:=kN BR hb
   replace BO:=kN BO hb
   replace BT:=kN BT hb
   replace HO:=hD (HO.out.below hb)
   replace EE:=EE.trans (hb.mono EE.size)
   clear KBO_0 KBO_1 KBO_2 KBO_3 KBO_4 KBO_5 KBO_6 KBO_7 KBT_0 KBT_1 KBT_2
   clear hb
   obtain ⟨qv,rfl,k_0⟩:=RName_raw Oq.raw
   obtain ⟨ka,kp,kh,_⟩:=Rep.kR k_0;obtain rfl:qv=_:=(by simpa using kh)
   clear kh k_0
   have HK:=hD (Oq)
   clear Oq
   go_upto_region 13 with fail
   generalize hw_:World.alloc w9 _=w10
   have E_w10:Below w9.heap.size w9 w10:=by rw [← hw_];exact (Below.refl _ _).alloc (Nat.le_refl _) _
   have BK:w10.heap[w9.heap.size]?=some (.cells #[.slice ka (mName y0 x4).length kp] 58 (0,0)):=by rw [← hw_];exact heap_new_at rfl
   have z_w10:w9.heap.size + 1≤w10.heap.size:=by rw [← hw_];simp
   clear hw_
   replace BX:=kN BX E_w10
   replace BR:=kN BR E_w10
   replace BO:=kN BO E_w10
   replace BT:=kN BT E_w10
   replace HO:=hD (HO.out.below E_w10)
   replace HK:=hD (HK.out.below E_w10)
   replace EE:=EE.trans (E_w10.mono EE.size)
   clear E_w10
   have KBO_0:w10.cell? ⟨w2.heap.size,0,none⟩=some (.slice oa0 x0.length op0):=kG BO rfl
   have KBO_1:w10.cell? ⟨w2.heap.size,1,none⟩=some (.int .i64 xc):=kG BO rfl
   have KBO_2:w10.cell? ⟨w2.heap.size,2,none⟩=some (.slice oa2 xe.length op2):=kG BO rfl
   have KBO_3:w10.cell? ⟨w2.heap.size,3,none⟩=some (.slice pa P.length pc):=kG BO rfl
   have KBO_4:w10.cell? ⟨w2.heap.size,4,none⟩=some (.slice ta u.length tc):=kG BO rfl
   have KBO_5:w10.cell? ⟨w2.heap.size,5,none⟩=some (.slice oa5 x4.length op5):=kG BO rfl
   have KBO_6:w10.cell? ⟨w2.heap.size,6,none⟩=some (.slice ma m.length mc):=kG BO rfl
   have KBO_7:w10.cell? ⟨w2.heap.size,7,none⟩=some (.int .i64 x6):=kG BO rfl
   have KBT_0:w10.cell? ⟨wq.heap.size,0,none⟩=some (.slice na y0.length np):=kG BT rfl
   have KBT_1:w10.cell? ⟨wq.heap.size,1,none⟩=some (.slice ra y1.length rp):=kG BT rfl
   have KBT_2:w10.cell? ⟨wq.heap.size,2,none⟩=some (.int .i64 y2):=kG BT rfl
   go_wp2_with fail
   refine (implOutgoingFaces_c HO.out.rd (cn:=[.slice na y0.length np]) (HNM.out.below EE) (ex:=0) (by omega)).mono ?_
   rintro e w11 ⟨vf,rfl,Of,hb⟩
   have z_w11:=hb.size
   replace BX:=kN BX hb
   replace BR:=kN BR hb
   replace BO:=kN BO hb
   replace BT:=kN BT hb
   replace BK:=kN BK hb
   replace HO:=hD (HO.out.below hb)
   replace HK:=hD (HK.out.below hb)
   replace EE:=EE.trans (hb.mono EE.size)
   clear KBO_0 KBO_1 KBO_2 KBO_3 KBO_4 KBO_5 KBO_6 KBO_7 KBT_0 KBT_1 KBT_2
   clear hb
   obtain ⟨fs,hfs⟩:∃ fs,outF (x0,(xc,xe),P,u,x4,m,x6) y0 0=fs:=⟨_,rfl⟩
   rw [hfs] at Of
   replace HT1:=hD (show tickK now (x0,(xc,xe),x2,x3,x4,x5,x6) (k + 1)=(u,if mOk y0 x4 then tickM fs (mName y0 x4) m else m) by rw [HT1.out,hfs])
   clear hfs
   obtain ⟨fa,fc,hvf,_⟩:=Rep.kR Of.raw;obtain rfl:vf=_:=by simpa using hvf
   clear hvf
   have HF:=hD (Of)
   clear Of
   cases hok:mOk y0 x4
   · have HT2:=hD (show tickK now (x0,(xc,xe),x2,x3,x4,x5,x6) (k + 1)=(u,m) by rw [HT1.out,hok];rfl)
     go_wp2
     go_roundw
     case rel=>exact ⟨k + 1,ta,ma,tc,mc,u,m,by go_num,by omega,hD HT2.out.symm,hD (HO.out.wide (fun j q=>⟨q.1,by omega,q.2.2⟩)),BX,BR,BO,by omega,EE⟩
     simp [intOf];omega
   cases fs with
   | nil =>
     have HT2:=hD (show tickK now (x0,(xc,xe),x2,x3,x4,x5,x6) (k + 1)=(u,m) by rw [HT1.out,hok];rfl)
     have hf0:¬ (0:Int) < ([]:List Int).length:=by simp
     go_wp2
     go_roundw
     case rel=>exact ⟨k + 1,ta,ma,tc,mc,u,m,by go_num,by omega,hD HT2.out.symm,hD (HO.out.wide (fun j q=>⟨q.1,by omega,q.2.2⟩)),BX,BR,BO,by omega,EE⟩
     case measure=>simp [intOf];omega
   | cons f0 fr =>
     obtain ⟨fb,fo,rfl,g0,gr,G0⟩:=Rep.get1 HF.out.raw (i:=0) (by simp) rfl
     obtain ⟨ge,hgr⟩:=Rep.int_raw gr
     obtain rfl:g0=_:=by simpa using ge
     have hgr2:-9223372036854775808≤f0∧f0≤9223372036854775807:=hgr
     have G1:w11.cell? ⟨fb,fo,none⟩=some (.int .i64 f0):=by simpa using G0
     clear ge gr G0 hgr
     have HT2:=hD (show tickK now (x0,(xc,xe),x2,x3,x4,x5,x6) (k + 1)=(u,recF (mName y0 x4) f0 m) by rw [HT1.out,hok];rfl)
     have hfl:(0:Int) < (f0 :: fr).length:=by first|(simp;done)|(simp;omega)
     have hfn:(f0 :: fr).length=fr.length + 1:=by simp
     generalize (f0 :: fr).length=fl at *
     clear hfn
     have KBO_0:w11.cell? ⟨w2.heap.size,0,none⟩=some (.slice oa0 x0.length op0):=kG BO rfl
     have KBO_1:w11.cell? ⟨w2.heap.size,1,none⟩=some (.int .i64 xc):=kG BO rfl
     have KBO_2:w11.cell? ⟨w2.heap.size,2,none⟩=some (.slice oa2 xe.length op2):=kG BO rfl
     have KBO_3:w11.cell? ⟨w2.heap.size,3,none⟩=some (.slice pa P.length pc):=kG BO rfl
     have KBO_4:w11.cell? ⟨w2.heap.size,4,none⟩=some (.slice ta u.length tc):=kG BO rfl
     have KBO_5:w11.cell? ⟨w2.heap.size,5,none⟩=some (.slice oa5 x4.length op5):=kG BO rfl
     have KBO_6:w11.cell? ⟨w2.heap.size,6,none⟩=some (.slice ma m.length mc):=kG BO rfl
     have KBO_7:w11.cell? ⟨w2.heap.size,7,none⟩=some (.int .i64 x6):=kG BO rfl
     have KBK_0:w11.cell? ⟨w9.heap.size,0,none⟩=some (.slice ka (mName y0 x4).length kp):=kG BK rfl
     go_upto_region 15 with fail
     refine wp_region_soft_tail (fun W=>Below w11.heap.size w11 W) [true,true,true,true,true,true] (by kernel_rfl) (by kernel_rfl) (fun c a d v w h=>by cases d <;> exact h) ((Below.refl _ _).drew) ?_
     intro wS HS
     all_goals first|(refine kC rfl HS ?_)|(refine kD (v:=?_) rfl (fun W hW=>?_) ?_;rotate_left;(· go_simp;try with_reducible rfl))
     iterate 2
      all_goals try simp only [Act.put,zA,zB,zC]
      all_goals first|(refine kC rfl HS ?_)|(refine kD (v:=?_) rfl (fun W hW=>?_) ?_;rotate_left;(· have A_KBO_0:=cL hW KBO_0;have A_KBO_1:=cL hW KBO_1;have A_KBO_2:=cL hW KBO_2;have A_KBO_3:=cL hW KBO_3;have A_KBO_4:=cL hW KBO_4;have A_KBO_5:=cL hW KBO_5;have A_KBO_6:=cL hW KBO_6;have A_KBO_7:=cL hW KBO_7;have A_KBK_0:=cL hW KBK_0;have A_G1:=cL hW G1;clear hW;go_simp;try with_reducible rfl))
     iterate 2
      all_goals try simp only [Act.put,zA,zB,zC]
      all_goals first|(refine kC rfl HS ?_)|(refine kD (v:=?_) rfl (fun W hW=>?_) ?_;rotate_left;(· go_simp;try with_reducible rfl))
     all_goals try simp only [Act.put,zA,zB,zC]
     all_goals first|(refine kC rfl HS ?_)|(refine kD (v:=?_) rfl (fun W hW=>?_) ?_;rotate_left;(· have A_KBO_0:=cL hW KBO_0;have A_KBO_1:=cL hW KBO_1;have A_KBO_2:=cL hW KBO_2;have A_KBO_3:=cL hW KBO_3;have A_KBO_4:=cL hW KBO_4;have A_KBO_5:=cL hW KBO_5;have A_KBO_6:=cL hW KBO_6;have A_KBO_7:=cL hW KBO_7;have A_KBK_0:=cL hW KBK_0;have A_G1:=cL hW G1;clear hW;go_simp;try with_reducible rfl))
     all_goals try simp only [Act.put,zA,zB,zC]
     all_goals refine soft_rest ?_
     clear G1
     have z_wT:=HS.size
     replace BX:=kN BX HS
     replace BR:=kN BR HS
     replace BO:=kN BO HS
     replace BT:=kN BT HS
     replace BK:=kN BK HS
     replace HO:=hD (HO.out.below HS)
     replace HK:=hD (HK.out.below HS)
     replace HF:=hD (HF.out.below HS)
     replace EE:=EE.trans (HS.mono EE.size)
     clear KBO_0 KBO_1 KBO_2 KBO_3 KBO_4 KBO_5 KBO_6 KBO_7 KBK_0
     clear HS
     have KBO_0:wS.cell? ⟨w2.heap.size,0,none⟩=some (.slice oa0 x0.length op0):=kG BO rfl
     have KBO_1:wS.cell? ⟨w2.heap.size,1,none⟩=some (.int .i64 xc):=kG BO rfl
     have KBO_2:wS.cell? ⟨w2.heap.size,2,none⟩=some (.slice oa2 xe.length op2):=kG BO rfl
     have KBO_3:wS.cell? ⟨w2.heap.size,3,none⟩=some (.slice pa P.length pc):=kG BO rfl
     have KBO_4:wS.cell? ⟨w2.heap.size,4,none⟩=some (.slice ta u.length tc):=kG BO rfl
     have KBO_5:wS.cell? ⟨w2.heap.size,5,none⟩=some (.slice oa5 x4.length op5):=kG BO rfl
     have KBO_6:wS.cell? ⟨w2.heap.size,6,none⟩=some (.slice ma m.length mc):=kG BO rfl
     have KBO_7:wS.cell? ⟨w2.heap.size,7,none⟩=some (.int .i64 x6):=kG BO rfl
     have KBK_0:wS.cell? ⟨w9.heap.size,0,none⟩=some (.slice ka (mName y0 x4).length kp):=kG BK rfl
     have FBO_0:wS.frozen? ⟨w2.heap.size,0,none⟩=false:=frozen_of_row wS (w2.heap.size) 0 _ _ BO
     have FBO_1:wS.frozen? ⟨w2.heap.size,1,none⟩=false:=frozen_of_row wS (w2.heap.size) 1 _ _ BO
     have FBO_2:wS.frozen? ⟨w2.heap.size,2,none⟩=false:=frozen_of_row wS (w2.heap.size) 2 _ _ BO
     have FBO_3:wS.frozen? ⟨w2.heap.size,3,none⟩=false:=frozen_of_row wS (w2.heap.size) 3 _ _ BO
     have FBO_4:wS.frozen? ⟨w2.heap.size,4,none⟩=false:=frozen_of_row wS (w2.heap.size) 4 _ _ BO
     have FBO_5:wS.frozen? ⟨w2.heap.size,5,none⟩=false:=frozen_of_row wS (w2.heap.size) 5 _ _ BO
     have FBO_6:wS.frozen? ⟨w2.heap.size,6,none⟩=false:=frozen_of_row wS (w2.heap.size) 6 _ _ BO
     have FBO_7:wS.frozen? ⟨w2.heap.size,7,none⟩=false:=frozen_of_row wS (w2.heap.size) 7 _ _ BO
     go_wp2_with fail
     refine (implRecordFailure_c (node_meas HO.out.rd) (cn:=[.slice ka (mName y0 x4).length kp]) HK.out.rd hgr2).mono ?_
     rintro e w12 ⟨v9,rfl,O9,hb⟩
     have z_w12:=hb.size
     replace BX:=kN BX hb
     replace BR:=kN BR hb
     replace BO:=kN BO hb
     replace BT:=kN BT hb
     replace BK:=kN BK hb
     replace HO:=hD (HO.out.below hb)
     replace HK:=hD (HK.out.below hb)
     replace HF:=hD (HF.out.below hb)
     replace EE:=EE.trans (hb.mono EE.size)
     clear KBO_0 KBO_1 KBO_2 KBO_3 KBO_4 KBO_5 KBO_6 KBO_7 KBK_0 FBO_0 FBO_1 FBO_2 FBO_3 FBO_4 FBO_5 FBO_6 FBO_7
     clear hb
     obtain ⟨m2,hm2⟩:∃ m2,recF (mName y0 x4) f0 m=m2:=⟨_,rfl⟩
     rw [hm2] at O9
     replace HT2:=hD (HT2.out.trans (by rw [hm2]))
     clear hm2
     obtain ⟨va,vc,hv9,_⟩:=Rep.kR O9.raw;obtain rfl:v9=_:=by simpa using hv9
     clear hv9
     have HO2:=hD ((node_setMeas HO.out O9 (fun j h1 h2=>by have:=h1.2.1;have:=h2.1;omega)).wide (T:=(fun j=>w.heap.size + 2≤j∧j < w12.heap.size∧j≠w2.heap.size)) (fun j q=>q.elim (fun q=>⟨q.1,by omega,q.2.2⟩) (fun q=>⟨by have:=q.1;omega,q.2,by have:=q.1;omega⟩)))
     clear HO O9
     have KBO_0:w12.cell? ⟨w2.heap.size,0,none⟩=some (.slice oa0 x0.length op0):=kG BO rfl
     have KBO_1:w12.cell? ⟨w2.heap.size,1,none⟩=some (.int .i64 xc):=kG BO rfl
     have KBO_2:w12.cell? ⟨w2.heap.size,2,none⟩=some (.slice oa2 xe.length op2):=kG BO rfl
     have KBO_3:w12.cell? ⟨w2.heap.size,3,none⟩=some (.slice pa P.length pc):=kG BO rfl
     have KBO_4:w12.cell? ⟨w2.heap.size,4,none⟩=some (.slice ta u.length tc):=kG BO rfl
     have KBO_5:w12.cell? ⟨w2.heap.size,5,none⟩=some (.slice oa5 x4.length op5):=kG BO rfl
     have KBO_6:w12.cell? ⟨w2.heap.size,6,none⟩=some (.slice ma m.length mc):=kG BO rfl
     have KBO_7:w12.cell? ⟨w2.heap.size,7,none⟩=some (.int .i64 x6):=kG BO rfl
     have FBO_0:w12.frozen? ⟨w2.heap.size,0,none⟩=false:=frozen_of_row w12 (w2.heap.size) 0 _ _ BO
     have FBO_1:w12.frozen? ⟨w2.heap.size,1,none⟩=false:=frozen_of_row w12 (w2.heap.size) 1 _ _ BO
     have FBO_2:w12.frozen? ⟨w2.heap.size,2,none⟩=false:=frozen_of_row w12 (w2.heap.size) 2 _ _ BO
     have FBO_3:w12.frozen? ⟨w2.heap.size,3,none⟩=false:=frozen_of_row w12 (w2.heap.size) 3 _ _ BO
     have FBO_4:w12.frozen? ⟨w2.heap.size,4,none⟩=false:=frozen_of_row w12 (w2.heap.size) 4 _ _ BO
     have FBO_5:w12.frozen? ⟨w2.heap.size,5,none⟩=false:=frozen_of_row w12 (w2.heap.size) 5 _ _ BO
     have FBO_6:w12.frozen? ⟨w2.heap.size,6,none⟩=false:=frozen_of_row w12 (w2.heap.size) 6 _ _ BO
     have FBO_7:w12.frozen? ⟨w2.heap.size,7,none⟩=false:=frozen_of_row w12 (w2.heap.size) 7 _ _ BO
     go_wp2
     generalize hw_:World.setCell w12 _ _=w13
     have T_w13:Touch (fun k=>k=w2.heap.size) w12 w13:=by rw [← hw_];exact kV w12 (w2.heap.size) 6 _
     replace BO:w13.heap[w2.heap.size]?=some (.cells #[.slice oa0 x0.length op0,.int .i64 xc,.slice oa2 xe.length op2,.slice pa P.length pc,.slice ta u.length tc,.slice oa5 x4.length op5,.slice va m2.length vc,.int .i64 x6] 42 (0,0)):=by rw [← hw_];exact setCell_row BO 6
     have z_w13:=T_w13.size
     clear hw_
     replace BX:=T_w13.kN BX (by omega)
     replace BR:=T_w13.kN BR (by omega)
     replace BT:=T_w13.kN BT (by omega)
     replace BK:=T_w13.kN BK (by omega)
     replace HO2:=hD (HO2.out.touch T_w13 (fun k hk=>by have:=hk.1;have:=hk.2;omega))
     replace EE:=EE.trans (T_w13.below EE.size (fun k hk=>by omega))
     clear KBO_0 KBO_1 KBO_2 KBO_3 KBO_4 KBO_5 KBO_6 KBO_7 FBO_0 FBO_1 FBO_2 FBO_3 FBO_4 FBO_5 FBO_6 FBO_7
     clear T_w13
     have HO:=hD (HO2.out.wide (T:=(fun j=>w.heap.size + 2≤j∧j < w13.heap.size∧j≠w2.heap.size)) (fun j q=>⟨q.1,by omega,q.2.2⟩))
     clear HO2
     go_wp2
     go_roundw
     case rel=>exact ⟨k + 1,ta,va,tc,vc,u,m2,by go_num,by omega,hD HT2.out.symm,hD (HO.out.wide (fun j q=>⟨q.1,by omega,q.2.2⟩)),BX,BR,BO,by omega,EE⟩
     case measure=>simp [intOf];omega
 have hk3:¬ ((k:Int) < x2.length):=by omega
 obtain rfl:k=x2.length:=by omega
 have KBX_0:wq.cell? ⟨w.heap.size,0,none⟩=some (.slice aa0 x0.length ap0):=kG BX rfl
 have KBX_1:wq.cell? ⟨w.heap.size,1,none⟩=some (.int .i64 xc):=kG BX rfl
 have KBX_2:wq.cell? ⟨w.heap.size,2,none⟩=some (.slice aa2 xe.length ap2):=kG BX rfl
 have KBX_3:wq.cell? ⟨w.heap.size,3,none⟩=some (.slice aa3 x2.length ap3):=kG BX rfl
 have KBX_4:wq.cell? ⟨w.heap.size,4,none⟩=some (.slice aa4 x3.length ap4):=kG BX rfl
 have KBX_5:wq.cell? ⟨w.heap.size,5,none⟩=some (.slice aa5 x4.length ap5):=kG BX rfl
 have KBX_6:wq.cell? ⟨w.heap.size,6,none⟩=some (.slice aa6 x5.length ap6):=kG BX rfl
 have KBX_7:wq.cell? ⟨w.heap.size,7,none⟩=some (.int .i64 x6):=kG BX rfl
 have KBO_0:wq.cell? ⟨w2.heap.size,0,none⟩=some (.slice oa0 x0.length op0):=kG BO rfl
 have KBO_1:wq.cell? ⟨w2.heap.size,1,none⟩=some (.int .i64 xc):=kG BO rfl
 have KBO_2:wq.cell? ⟨w2.heap.size,2,none⟩=some (.slice oa2 xe.length op2):=kG BO rfl
 have KBO_3:wq.cell? ⟨w2.heap.size,3,none⟩=some (.slice pa P.length pc):=kG BO rfl
 have KBO_4:wq.cell? ⟨w2.heap.size,4,none⟩=some (.slice sa s.length sc):=kG BO rfl
 have KBO_5:wq.cell? ⟨w2.heap.size,5,none⟩=some (.slice oa5 x4.length op5):=kG BO rfl
 have KBO_6:wq.cell? ⟨w2.heap.size,6,none⟩=some (.slice ma m.length mc):=kG BO rfl
 have KBO_7:wq.cell? ⟨w2.heap.size,7,none⟩=some (.int .i64 x6):=kG BO rfl
 go_wp2_with fail
 refine (implEvictStale_c (now:=now) (node_cache HO.out.rd)).mono ?_
 rintro e w6 ⟨ec,rfl,Oe,hb⟩
 have z_w6:=hb.size
 replace BX:=kN BX hb
 replace BR:=kN BR hb
 replace BO:=kN BO hb
 replace HO:=hD (HO.out.below hb)
 replace EE:=EE.trans (hb.mono EE.size)
 clear KBX_0 KBX_1 KBX_2 KBX_3 KBX_4 KBX_5 KBX_6 KBX_7 KBO_0 KBO_1 KBO_2 KBO_3 KBO_4 KBO_5 KBO_6 KBO_7
 clear hb
 obtain ⟨ev,he⟩:∃ ev,evict now (xc,xe)=(xc,ev):=⟨_,rfl⟩
 rw [he] at Oe
 have HE:=hD he
 clear he
 obtain ⟨sv,rfl,s_r,s_l⟩:=RContentStore_raw Oe.raw
 obtain ⟨ea,ep,hsv,_⟩:=Rep.kR s_l;obtain rfl:sv=_:=by simpa using hsv
 clear hsv s_r s_l
 have HO2:=hD ((node_setCache HO.out Oe (fun j h1 h2=>by have:=h1.2.1;have:=h2.1;omega)).wide (T:=(fun j=>w.heap.size + 2≤j∧j < w6.heap.size∧j≠w2.heap.size)) (fun j q=>q.elim (fun q=>⟨q.1,by omega,q.2.2⟩) (fun q=>⟨by have:=q.1;omega,q.2,by have:=q.1;omega⟩)))
 clear HO Oe
 have KBO_0:w6.cell? ⟨w2.heap.size,0,none⟩=some (.slice oa0 x0.length op0):=kG BO rfl
 have KBO_1:w6.cell? ⟨w2.heap.size,1,none⟩=some (.int .i64 xc):=kG BO rfl
 have KBO_2:w6.cell? ⟨w2.heap.size,2,none⟩=some (.slice oa2 xe.length op2):=kG BO rfl
 have KBO_3:w6.cell? ⟨w2.heap.size,3,none⟩=some (.slice pa P.length pc):=kG BO rfl
 have KBO_4:w6.cell? ⟨w2.heap.size,4,none⟩=some (.slice sa s.length sc):=kG BO rfl
 have KBO_5:w6.cell? ⟨w2.heap.size,5,none⟩=some (.slice oa5 x4.length op5):=kG BO rfl
 have KBO_6:w6.cell? ⟨w2.heap.size,6,none⟩=some (.slice ma m.length mc):=kG BO rfl
 have KBO_7:w6.cell? ⟨w2.heap.size,7,none⟩=some (.int .i64 x6):=kG BO rfl
 have KBR_0:w6.cell? ⟨w.heap.size + 1,0,none⟩=some (.slice none 0 0):=kG BR rfl
 have KBR_1:w6.cell? ⟨w.heap.size + 1,1,none⟩=some (.int .i64 0):=kG BR rfl
 have KBR_2:w6.cell? ⟨w.heap.size + 1,2,none⟩=some (.slice none 0 0):=kG BR rfl
 have KBR_3:w6.cell? ⟨w.heap.size + 1,3,none⟩=some (.slice none 0 0):=kG BR rfl
 have KBR_4:w6.cell? ⟨w.heap.size + 1,4,none⟩=some (.slice none 0 0):=kG BR rfl
 have KBR_5:w6.cell? ⟨w.heap.size + 1,5,none⟩=some (.slice none 0 0):=kG BR rfl
 have KBR_6:w6.cell? ⟨w.heap.size + 1,6,none⟩=some (.slice none 0 0):=kG BR rfl
 have KBR_7:w6.cell? ⟨w.heap.size + 1,7,none⟩=some (.int .i64 0):=kG BR rfl
 have FBO_0:w6.frozen? ⟨w2.heap.size,0,none⟩=false:=frozen_of_row w6 (w2.heap.size) 0 _ _ BO
 have FBO_1:w6.frozen? ⟨w2.heap.size,1,none⟩=false:=frozen_of_row w6 (w2.heap.size) 1 _ _ BO
 have FBO_2:w6.frozen? ⟨w2.heap.size,2,none⟩=false:=frozen_of_row w6 (w2.heap.size) 2 _ _ BO
 have FBO_3:w6.frozen? ⟨w2.heap.size,3,none⟩=false:=frozen_of_row w6 (w2.heap.size) 3 _ _ BO
 have FBO_4:w6.frozen? ⟨w2.heap.size,4,none⟩=false:=frozen_of_row w6 (w2.heap.size) 4 _ _ BO
 have FBO_5:w6.frozen? ⟨w2.heap.size,5,none⟩=false:=frozen_of_row w6 (w2.heap.size) 5 _ _ BO
 have FBO_6:w6.frozen? ⟨w2.heap.size,6,none⟩=false:=frozen_of_row w6 (w2.heap.size) 6 _ _ BO
 have FBO_7:w6.frozen? ⟨w2.heap.size,7,none⟩=false:=frozen_of_row w6 (w2.heap.size) 7 _ _ BO
 have FBR_0:w6.frozen? ⟨w.heap.size + 1,0,none⟩=false:=frozen_of_row w6 (w.heap.size + 1) 0 _ _ BR
 have FBR_1:w6.frozen? ⟨w.heap.size + 1,1,none⟩=false:=frozen_of_row w6 (w.heap.size + 1) 1 _ _ BR
 have FBR_2:w6.frozen? ⟨w.heap.size + 1,2,none⟩=false:=frozen_of_row w6 (w.heap.size + 1) 2 _ _ BR
 have FBR_3:w6.frozen? ⟨w.heap.size + 1,3,none⟩=false:=frozen_of_row w6 (w.heap.size + 1) 3 _ _ BR
 have FBR_4:w6.frozen? ⟨w.heap.size + 1,4,none⟩=false:=frozen_of_row w6 (w.heap.size + 1) 4 _ _ BR
 have FBR_5:w6.frozen? ⟨w.heap.size + 1,5,none⟩=false:=frozen_of_row w6 (w.heap.size + 1) 5 _ _ BR
 have FBR_6:w6.frozen? ⟨w.heap.size + 1,6,none⟩=false:=frozen_of_row w6 (w.heap.size + 1) 6 _ _ BR
 have FBR_7:w6.frozen? ⟨w.heap.size + 1,7,none⟩=false:=frozen_of_row w6 (w.heap.size + 1) 7 _ _ BR
 have HTN:=hD (show tickN now (x0,(xc,xe),x2,x3,x4,x5,x6)=(x0,(xc,ev),P,s,x4,m,x6) by unfold tickN;simp only [HE.out,HP.out,← HT.out])
 go_upto_region 18 with fail
 generalize hw_:World.setCell (World.setCell w6 _ _) _ _=w7
 have T_w7:Touch (fun k=>k=w2.heap.size) w6 w7:=by rw [← hw_];exact (kV _ _ _ _).trans (kV _ _ _ _)
 replace BO:w7.heap[w2.heap.size]?=some (.cells #[.slice oa0 x0.length op0,.int .i64 xc,.slice ea ev.length ep,.slice pa P.length pc,.slice sa s.length sc,.slice oa5 x4.length op5,.slice ma m.length mc,.int .i64 x6] 42 (0,0)):=by rw [← hw_];exact setCell_row (setCell_row (BO) 1) 2
 have z_w7:=T_w7.size
 clear hw_
 replace BX:=T_w7.kN BX (by omega)
 replace BR:=T_w7.kN BR (by omega)
 replace HO2:=hD (HO2.out.touch T_w7 (fun k hk=>by have:=hk.1;have:=hk.2;omega))
 replace EE:=EE.trans (T_w7.below EE.size (fun k hk=>by omega))
 clear KBO_0 KBO_1 KBO_2 KBO_3 KBO_4 KBO_5 KBO_6 KBO_7 KBR_0 KBR_1 KBR_2 KBR_3 KBR_4 KBR_5 KBR_6 KBR_7 FBO_0 FBO_1 FBO_2 FBO_3 FBO_4 FBO_5 FBO_6 FBO_7 FBR_0 FBR_1 FBR_2 FBR_3 FBR_4 FBR_5 FBR_6 FBR_7
 clear T_w7
 have KBO_0:w7.cell? ⟨w2.heap.size,0,none⟩=some (.slice oa0 x0.length op0):=kG BO rfl
 have KBO_1:w7.cell? ⟨w2.heap.size,1,none⟩=some (.int .i64 xc):=kG BO rfl
 have KBO_2:w7.cell? ⟨w2.heap.size,2,none⟩=some (.slice ea ev.length ep):=kG BO rfl
 have KBO_3:w7.cell? ⟨w2.heap.size,3,none⟩=some (.slice pa P.length pc):=kG BO rfl
 have KBO_4:w7.cell? ⟨w2.heap.size,4,none⟩=some (.slice sa s.length sc):=kG BO rfl
 have KBO_5:w7.cell? ⟨w2.heap.size,5,none⟩=some (.slice oa5 x4.length op5):=kG BO rfl
 have KBO_6:w7.cell? ⟨w2.heap.size,6,none⟩=some (.slice ma m.length mc):=kG BO rfl
 have KBO_7:w7.cell? ⟨w2.heap.size,7,none⟩=some (.int .i64 x6):=kG BO rfl
 have KBR_0:w7.cell? ⟨w.heap.size + 1,0,none⟩=some (.slice none 0 0):=kG BR rfl
 have KBR_1:w7.cell? ⟨w.heap.size + 1,1,none⟩=some (.int .i64 0):=kG BR rfl
 have KBR_2:w7.cell? ⟨w.heap.size + 1,2,none⟩=some (.slice none 0 0):=kG BR rfl
 have KBR_3:w7.cell? ⟨w.heap.size + 1,3,none⟩=some (.slice none 0 0):=kG BR rfl
 have KBR_4:w7.cell? ⟨w.heap.size + 1,4,none⟩=some (.slice none 0 0):=kG BR rfl
 have KBR_5:w7.cell? ⟨w.heap.size + 1,5,none⟩=some (.slice none 0 0):=kG BR rfl
 have KBR_6:w7.cell? ⟨w.heap.size + 1,6,none⟩=some (.slice none 0 0):=kG BR rfl
 have KBR_7:w7.cell? ⟨w.heap.size + 1,7,none⟩=some (.int .i64 0):=kG BR rfl
 have FBR_0:w7.frozen? ⟨w.heap.size + 1,0,none⟩=false:=frozen_of_row w7 (w.heap.size + 1) 0 _ _ BR
 have FBR_1:w7.frozen? ⟨w.heap.size + 1,1,none⟩=false:=frozen_of_row w7 (w.heap.size + 1) 1 _ _ BR
 have FBR_2:w7.frozen? ⟨w.heap.size + 1,2,none⟩=false:=frozen_of_row w7 (w.heap.size + 1) 2 _ _ BR
 have FBR_3:w7.frozen? ⟨w.heap.size + 1,3,none⟩=false:=frozen_of_row w7 (w.heap.size + 1) 3 _ _ BR
 have FBR_4:w7.frozen? ⟨w.heap.size + 1,4,none⟩=false:=frozen_of_row w7 (w.heap.size + 1) 4 _ _ BR
 have FBR_5:w7.frozen? ⟨w.heap.size + 1,5,none⟩=false:=frozen_of_row w7 (w.heap.size + 1) 5 _ _ BR
 have FBR_6:w7.frozen? ⟨w.heap.size + 1,6,none⟩=false:=frozen_of_row w7 (w.heap.size + 1) 6 _ _ BR
 have FBR_7:w7.frozen? ⟨w.heap.size + 1,7,none⟩=false:=frozen_of_row w7 (w.heap.size + 1) 7 _ _ BR
 go_wp2
 refine bodyPost_ret (v:=.agg #[.slice oa0 x0.length op0,.int .i64 xc,.slice ea ev.length ep,.slice pa P.length pc,.slice sa s.length sc,.slice oa5 x4.length op5,.slice ma m.length mc,.int .i64 x6]) (by simp [results,Tryz.results8,go_sem,KBR_0,FBR_0,KBR_1,FBR_1,KBR_2,FBR_2,KBR_3,FBR_3,KBR_4,FBR_4,KBR_5,FBR_5,KBR_6,FBR_6,KBR_7,FBR_7]) rfl ⟨[.slice oa0 x0.length op0,.int .i64 xc,.slice ea ev.length ep,.slice pa P.length pc,.slice sa s.length sc,.slice oa5 x4.length op5,.slice ma m.length mc,.int .i64 x6],rfl,?_,?_⟩
 · rw [HTN.out];exact (HO2.out.touch ((((((((kV _ _ _ _).trans (kV _ _ _ _)).trans (kV _ _ _ _)).trans (kV _ _ _ _)).trans (kV _ _ _ _)).trans (kV _ _ _ _)).trans (kV _ _ _ _)).trans (kV _ _ _ _)) (fun j h1 h2=>by have:=h1.1;omega)).wide (fun j q=>⟨by have:=q.1;omega,by have:=q.2.1;simp [World.setCell];omega⟩)
 exact EE.trans (Touch.below ((((((((kV _ _ _ _).trans (kV _ _ _ _)).trans (kV _ _ _ _)).trans (kV _ _ _ _)).trans (kV _ _ _ _)).trans (kV _ _ _ _)).trans (kV _ _ _ _)).trans (kV _ _ _ _)) EE.size (fun k hk=>by omega))
end Go.Proofs.YtomdenfcfbkfbaaGreat

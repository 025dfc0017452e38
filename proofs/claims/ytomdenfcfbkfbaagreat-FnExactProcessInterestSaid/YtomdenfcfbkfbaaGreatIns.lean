/-
  An interest one hop on.
  Entries of a store found by their names; lists of data likewise.
  A cache entry used now.
  slices.Insert over an owned slice of flat data.
-/
import Derived.Test.YtomdenfcfbkfbaaGreatLook
import Derived.Test.YtomdenfcfbkfbaaGreatDelF
import Derived.Shelf.Spec.SlicesInsertGrow
import Derived.Laws.CopyRow
set_option linter.unusedVariables false
set_option linter.unusedSimpArgs false
set_option linter.unnecessarySimpa false
set_option maxRecDepth 100000
set_option maxHeartbeats 4000000
namespace Go.Proofs.YtomdenfcfbkfbaaGreat
open Go.RowKit
def kMm (x:jF):jF:=if x.2.2.1 < 1 then x else kJw x (x.2.2.1 - 1)
def kFv (x:jF):Bool:=!decide (x.2.2.1 < 1)
theorem kKb {w:World} {c0 c1 c2 c3:Value} {x0:ky} {x1 x2 x3 h:Int} {S:Nat→Prop} (k:kw.own w [c0,c1,c2,c3] (x0,x1,x2,x3) S) (hh:-9223372036854775808≤h∧h≤9223372036854775807):kw.own w [c0,c1,.int .i64 h,c3] (x0,x1,h,x3) S :=
  ⟨kTc h hh k.1,k.2⟩
theorem kJc {w:World} {cx:List Value} {x:jF} (hx:kw.rd w cx x) :
    Calls Tryz.prog 76 #[.agg cx.toArray] w fun e w'=>∃ ds,e=.returned (.tuple #[.agg ds.toArray,.bool (kFv x)])∧kw.own w' ds (kMm x) (Btw w.heap.size w'.heap.size)∧Below w.heap.size w w':=by
 obtain ⟨x0,x1,x2,x3⟩:=x
 have HX:=yD hx
 obtain ⟨xv0,rfl,x_0,x_1,x_2,x_3,x_4⟩:=jA hx.1
 obtain ⟨xa0,xp0,rfl,xl0⟩:=Rep.sl x_1
 have hxr:-9223372036854775808≤x2∧x2≤9223372036854775807:=x_3
 clear hx x_0 x_1 x_2 x_3 x_4
 go_enter Tryz.func76,Tryz.ntmps76
 go_upto_region 1 with fail
 generalize hw_:World.alloc (World.alloc w _) _=w1
 have EE:Below w.heap.size w w1:=by rw [← hw_];exact bD
 have BX:w1.heap[w.heap.size]?=some (.cells #[.slice xa0 x0.length xp0,.int .i64 x1,.int .i64 x2,.int .i64 x3] 60 (0,0)):=mV
 have BR:w1.heap[w.heap.size + 1]?=some (.cells #[.slice none 0 0,.int .i64 0,.int .i64 0,.int .i64 0] 60 (0,0)):=by rw [← hw_];exact kW rM
 have z_w1:w.heap.size + 2≤w1.heap.size:=qE
 clear hw_
 obtain ⟨KBX_0,KBX_1,KBX_2,KBX_3⟩:=yR BX
 go_wp2_with fail
 refine (kLq (HX.out.below EE)).mono ?_
 rintro e w2 ⟨cs,rfl,O,hb⟩
 have z_w2:=hb.size
 replace BX:=kE BX hb
 replace BR:=kE BR hb
 replace EE:=(tQ EE hb)
 clear KBX_0 KBX_1 KBX_2 KBX_3
 clear hb
 obtain ⟨ov0,rfl,o_0,o_1,o_2,o_3,o_4⟩:=jA O.raw
 obtain ⟨oa0,op0,rfl,ol0⟩:=Rep.sl o_1
 clear o_0 o_1 o_2 o_3 o_4
 have HO:=yD (O.wide (T:=(fun j=>w.heap.size + 2≤j∧j < w2.heap.size)) mM)
 clear O
 go_upto_region 2 with fail
 generalize hw_:World.alloc w2 _=w3
 have E_w3:Below w2.heap.size w2 w3:=mI
 have BO:w3.heap[w2.heap.size]?=some (.cells #[.slice oa0 x0.length op0,.int .i64 x1,.int .i64 x2,.int .i64 x3] 60 (0,0)):=nT
 have z_w3:w2.heap.size + 1≤w3.heap.size:=qE
 clear hw_
 replace BX:=kE BX E_w3
 replace BR:=kE BR E_w3
 replace HO:=yD (HO.out.below E_w3)
 replace EE:=(tQ EE E_w3)
 clear E_w3
 by_cases hh:x2 < 1
 · have HD:=yD (show kMm (x0,x1,x2,x3)=(x0,x1,x2,x3) by unfold kMm;rw [if_pos hh])
   have HK:=yD (show kFv (x0,x1,x2,x3)=false by unfold kFv;simp only;rw [decide_eq_true hh];rfl)
   obtain ⟨KBX_0,KBX_1,KBX_2,KBX_3⟩:=yR BX
   go_upto_region 3 with fail
   clear KBX_0 KBX_1 KBX_2 KBX_3
   obtain ⟨KBO_0,KBO_1,KBO_2,KBO_3⟩:=yR BO
   obtain ⟨KBR_0,KBR_1,KBR_2,KBR_3⟩:=yR BR
   obtain ⟨FBR_0,FBR_1,FBR_2,FBR_3⟩:=rowF4 BR
   go_wp2
   refine bodyPost_ret (v:=.tuple #[.agg #[.slice oa0 x0.length op0,.int .i64 x1,.int .i64 x2,.int .i64 x3],.bool false]) (by simp [results,Tryz.results76,go_sem,KBR_0,FBR_0,KBR_1,FBR_1,KBR_2,FBR_2,KBR_3,FBR_3]) rfl ⟨[.slice oa0 x0.length op0,.int .i64 x1,.int .i64 x2,.int .i64 x3],by rw [HK.out],?_,?_⟩
   · rw [HD.out];exact (HO.out.touch ((((kC _ _ _ _).trans (kC _ _ _ _)).trans (kC _ _ _ _)).trans (kC _ _ _ _)) mP).wide dA
   exact EE.trans (Touch.below ((((kC _ _ _ _).trans (kC _ _ _ _)).trans (kC _ _ _ _)).trans (kC _ _ _ _)) EE.size qD)
 have HD:=yD (show kMm (x0,x1,x2,x3)=(x0,x1,x2 - 1,x3) by unfold kMm;rw [if_neg hh];rfl)
 have HK:=yD (show kFv (x0,x1,x2,x3)=true by unfold kFv;simp only;rw [decide_eq_false hh];rfl)
 obtain ⟨KBX_0,KBX_1,KBX_2,KBX_3⟩:=yR BX
 go_upto_region 4 with fail
 clear KBX_0 KBX_1 KBX_2 KBX_3
 obtain ⟨KBX_0,KBX_1,KBX_2,KBX_3⟩:=yR BX
 obtain ⟨KBO_0,KBO_1,KBO_2,KBO_3⟩:=yR BO
 obtain ⟨FBO_0,FBO_1,FBO_2,FBO_3⟩:=rowF4 BO
 go_upto_region 5 with fail
 generalize hw_:World.setCell w3 _ _=w4
 have T_w4:Touch (fun k=>k=w2.heap.size) w3 w4:=by rw [← hw_];exact kC w3 (w2.heap.size) 2 _
 replace BO:w4.heap[w2.heap.size]?=some (.cells #[.slice oa0 x0.length op0,.int .i64 x1,.int .i64 (x2 - 1),.int .i64 x3] 60 (0,0)):=by rw [← hw_];exact jy BO 2
 have z_w4:=T_w4.size
 clear hw_
 replace BX:=T_w4.kE BX rJ
 replace BR:=T_w4.kE BR rJ
 replace HO:=yD (HO.out.touch T_w4 fT)
 replace EE:=EE.trans (T_w4.below EE.size qD)
 clear KBX_0 KBX_1 KBX_2 KBX_3 KBO_0 KBO_1 KBO_2 KBO_3 FBO_0 FBO_1 FBO_2 FBO_3
 clear T_w4
 replace HO:=yD (kKb HO.out (h:=x2 - 1) rJ)
 obtain ⟨KBO_0,KBO_1,KBO_2,KBO_3⟩:=yR BO
 obtain ⟨KBR_0,KBR_1,KBR_2,KBR_3⟩:=yR BR
 obtain ⟨FBR_0,FBR_1,FBR_2,FBR_3⟩:=rowF4 BR
 go_wp2
 refine bodyPost_ret (v:=.tuple #[.agg #[.slice oa0 x0.length op0,.int .i64 x1,.int .i64 (x2 - 1),.int .i64 x3],.bool true]) (by simp [results,Tryz.results76,go_sem,KBR_0,FBR_0,KBR_1,FBR_1,KBR_2,FBR_2,KBR_3,FBR_3]) rfl ⟨[.slice oa0 x0.length op0,.int .i64 x1,.int .i64 (x2 - 1),.int .i64 x3],by rw [HK.out],?_,?_⟩
 · rw [HD.out];exact (HO.out.touch ((((kC _ _ _ _).trans (kC _ _ _ _)).trans (kC _ _ _ _)).trans (kC _ _ _ _)) mP).wide dA
 exact EE.trans (Touch.below ((((kC _ _ _ _).trans (kC _ _ _ _)).trans (kC _ _ _ _)).trans (kC _ _ _ _)) EE.size qD)
theorem kJf {w:World} {cx:List Value} {x:jF} (hx:kw.rd w cx x) :
    Calls Tryz.prog 87 #[.agg cx.toArray] w fun e w'=>∃ ds,e=.returned (.tuple #[.agg ds.toArray,.bool (kFv x)])∧kw.own w' ds (kMm x) (Btw w.heap.size w'.heap.size)∧Below w.heap.size w w':=by
 obtain ⟨x0,x1,x2,x3⟩:=x
 have HX:=yD hx
 obtain ⟨xv0,rfl,x_0,x_1,x_2,x_3,x_4⟩:=jA hx.1
 obtain ⟨xa0,xp0,rfl,xl0⟩:=Rep.sl x_1
 have hxr:-9223372036854775808≤x2∧x2≤9223372036854775807:=x_3
 clear hx x_0 x_1 x_2 x_3 x_4
 go_enter Tryz.func87,Tryz.ntmps87
 go_upto_region 1 with fail
 generalize hw_:World.alloc (World.alloc w _) _=w1
 have EE:Below w.heap.size w w1:=by rw [← hw_];exact bD
 have BX:w1.heap[w.heap.size]?=some (.cells #[.slice xa0 x0.length xp0,.int .i64 x1,.int .i64 x2,.int .i64 x3] 60 (0,0)):=mV
 have BR:w1.heap[w.heap.size + 1]?=some (.cells #[.slice none 0 0,.int .i64 0,.int .i64 0,.int .i64 0] 60 (0,0)):=by rw [← hw_];exact kW rM
 have z_w1:w.heap.size + 2≤w1.heap.size:=qE
 clear hw_
 obtain ⟨KBX_0,KBX_1,KBX_2,KBX_3⟩:=yR BX
 go_wp2_with fail
 refine (kEn (HX.out.below EE)).mono ?_
 rintro e w2 ⟨cs,rfl,O,hb⟩
 have z_w2:=hb.size
 replace BX:=kE BX hb
 replace BR:=kE BR hb
 replace EE:=(tQ EE hb)
 clear KBX_0 KBX_1 KBX_2 KBX_3
 clear hb
 obtain ⟨ov0,rfl,o_0,o_1,o_2,o_3,o_4⟩:=jA O.raw
 obtain ⟨oa0,op0,rfl,ol0⟩:=Rep.sl o_1
 clear o_0 o_1 o_2 o_3 o_4
 have HO:=yD (O.wide (T:=(fun j=>w.heap.size + 2≤j∧j < w2.heap.size)) mM)
 clear O
 go_upto_region 2 with fail
 generalize hw_:World.alloc w2 _=w3
 have E_w3:Below w2.heap.size w2 w3:=mI
 have BO:w3.heap[w2.heap.size]?=some (.cells #[.slice oa0 x0.length op0,.int .i64 x1,.int .i64 x2,.int .i64 x3] 60 (0,0)):=nT
 have z_w3:w2.heap.size + 1≤w3.heap.size:=qE
 clear hw_
 replace BX:=kE BX E_w3
 replace BR:=kE BR E_w3
 replace HO:=yD (HO.out.below E_w3)
 replace EE:=(tQ EE E_w3)
 clear E_w3
 by_cases hh:x2 < 1
 · have HD:=yD (show kMm (x0,x1,x2,x3)=(x0,x1,x2,x3) by unfold kMm;rw [if_pos hh])
   have HK:=yD (show kFv (x0,x1,x2,x3)=false by unfold kFv;simp only;rw [decide_eq_true hh];rfl)
   obtain ⟨KBX_0,KBX_1,KBX_2,KBX_3⟩:=yR BX
   go_upto_region 3 with fail
   clear KBX_0 KBX_1 KBX_2 KBX_3
   obtain ⟨KBO_0,KBO_1,KBO_2,KBO_3⟩:=yR BO
   obtain ⟨KBR_0,KBR_1,KBR_2,KBR_3⟩:=yR BR
   obtain ⟨FBR_0,FBR_1,FBR_2,FBR_3⟩:=rowF4 BR
   go_wp2
   refine bodyPost_ret (v:=.tuple #[.agg #[.slice oa0 x0.length op0,.int .i64 x1,.int .i64 x2,.int .i64 x3],.bool false]) (by simp [results,Tryz.results87,go_sem,KBR_0,FBR_0,KBR_1,FBR_1,KBR_2,FBR_2,KBR_3,FBR_3]) rfl ⟨[.slice oa0 x0.length op0,.int .i64 x1,.int .i64 x2,.int .i64 x3],by rw [HK.out],?_,?_⟩
   · rw [HD.out];exact (HO.out.touch ((((kC _ _ _ _).trans (kC _ _ _ _)).trans (kC _ _ _ _)).trans (kC _ _ _ _)) mP).wide dA
   exact EE.trans (Touch.below ((((kC _ _ _ _).trans (kC _ _ _ _)).trans (kC _ _ _ _)).trans (kC _ _ _ _)) EE.size qD)
 have HD:=yD (show kMm (x0,x1,x2,x3)=(x0,x1,x2 - 1,x3) by unfold kMm;rw [if_neg hh];rfl)
 have HK:=yD (show kFv (x0,x1,x2,x3)=true by unfold kFv;simp only;rw [decide_eq_false hh];rfl)
 obtain ⟨KBX_0,KBX_1,KBX_2,KBX_3⟩:=yR BX
 go_upto_region 4 with fail
 clear KBX_0 KBX_1 KBX_2 KBX_3
 obtain ⟨KBX_0,KBX_1,KBX_2,KBX_3⟩:=yR BX
 obtain ⟨KBO_0,KBO_1,KBO_2,KBO_3⟩:=yR BO
 obtain ⟨FBO_0,FBO_1,FBO_2,FBO_3⟩:=rowF4 BO
 go_upto_region 5 with fail
 generalize hw_:World.setCell w3 _ _=w4
 have T_w4:Touch (fun k=>k=w2.heap.size) w3 w4:=by rw [← hw_];exact kC w3 (w2.heap.size) 2 _
 replace BO:w4.heap[w2.heap.size]?=some (.cells #[.slice oa0 x0.length op0,.int .i64 x1,.int .i64 (x2 - 1),.int .i64 x3] 60 (0,0)):=by rw [← hw_];exact jy BO 2
 have z_w4:=T_w4.size
 clear hw_
 replace BX:=T_w4.kE BX rJ
 replace BR:=T_w4.kE BR rJ
 replace HO:=yD (HO.out.touch T_w4 fT)
 replace EE:=EE.trans (T_w4.below EE.size qD)
 clear KBX_0 KBX_1 KBX_2 KBX_3 KBO_0 KBO_1 KBO_2 KBO_3 FBO_0 FBO_1 FBO_2 FBO_3
 clear T_w4
 replace HO:=yD (kKb HO.out (h:=x2 - 1) rJ)
 obtain ⟨KBO_0,KBO_1,KBO_2,KBO_3⟩:=yR BO
 obtain ⟨KBR_0,KBR_1,KBR_2,KBR_3⟩:=yR BR
 obtain ⟨FBR_0,FBR_1,FBR_2,FBR_3⟩:=rowF4 BR
 go_wp2
 refine bodyPost_ret (v:=.tuple #[.agg #[.slice oa0 x0.length op0,.int .i64 x1,.int .i64 (x2 - 1),.int .i64 x3],.bool true]) (by simp [results,Tryz.results87,go_sem,KBR_0,FBR_0,KBR_1,FBR_1,KBR_2,FBR_2,KBR_3,FBR_3]) rfl ⟨[.slice oa0 x0.length op0,.int .i64 x1,.int .i64 (x2 - 1),.int .i64 x3],by rw [HK.out],?_,?_⟩
 · rw [HD.out];exact (HO.out.touch ((((kC _ _ _ _).trans (kC _ _ _ _)).trans (kC _ _ _ _)).trans (kC _ _ _ _)) mP).wide dA
 exact EE.trans (Touch.below ((((kC _ _ _ _).trans (kC _ _ _ _)).trans (kC _ _ _ _)).trans (kC _ _ _ _)) EE.size qD)
def isC (n:ky) (x:jJ):Bool:=eqN x.1.1 n
theorem kTo {w:World} {vl:Value} {l:(List jJ)} (hl:(Rep.slice 169 kK).raw w [vl] l) {cn:List Value} {n:ky} (hn:kZ.raw w cn n) :
    Calls Tryz.prog 163 #[vl,.agg cn.toArray] w fun e w'=>e=.returned (.int .i64 (idxOf (isC n) l))∧Below w.heap.size w w':=by
 obtain ⟨al,pl,rfl,ll⟩:=Rep.sl hl
 have Hn:=yD hn
 obtain ⟨fnv0,rfl,fn_0⟩:=kR hn
 obtain ⟨fna0,fnp0,rfl,fnl0⟩:=Rep.sl fn_0
 go_enter Tryz.func163,Tryz.ntmps163
 go_wp2
 generalize hwB:World.alloc w _=wB
 have EB:Below w.heap.size w wB:=by rw [← hwB];exact bD
 have K3_0:wB.cell? ⟨w.heap.size,0,none⟩=some (.slice fna0 (n).length fnp0):=nJ
 clear hwB
 replace hl:=hl.below EB
 go_loopw [5] (fun i wr=>∃ k:Nat,k≤l.length∧i=.int .i64 k∧Hid (∀ j,(h:j < k)→(h2:j < l.length)→(isC n) l[j]=false)∧Below wB.heap.size wB wr) (fun i _=>l.length - (intOf i).toNat)
 case atStart=>exact ⟨0,Nat.zero_le _,rfl,yD (fun _ h=>by omega),bR⟩
 obtain ⟨k,hk,rfl,HN,hbel⟩:=hrel
 replace K3_0:=cL hbel K3_0
 by_cases hlt:k < l.length
 · obtain ⟨qb,qo,rfl,qc0,qc1,qc2,qc3,qc4,qc5,qr,Aq0,Aq1,Aq2,Aq3,Aq4,Aq5⟩:=Rep.get6 (hl.below hbel) (i:=k) rJ rfl
   have hhit:=fun q=>idxOf_hit hlt q HN.out
   have hmis:=fun q=>kAl hlt q HN.out
   generalize l[k]=x at *
   have HD:=yD hhit;have HX:=yD hmis;clear hhit hmis
   obtain ⟨x0,x1⟩:=x
   obtain ⟨qv0,qv1,qv2,qhe,q_0,q_1,q_2,q_3,q_4,q_5,q_6,q_7,q_8⟩:=jW qr
   simp only [List.cons.injEq,and_true] at qhe
   obtain ⟨rfl,rfl,rfl,rfl,rfl,rfl⟩:=qhe
   obtain ⟨qa0,qp0,rfl,ql0⟩:=Rep.sl q_2
   obtain ⟨qa1,qp1,rfl,ql1⟩:=Rep.sl q_3
   obtain ⟨qa2,qp2,rfl,ql2⟩:=Rep.sl q_5
   go_upto_region 4 with fail
   have FX:=yD (fun (W:World) (hW:Below wr.heap.size wr W)=>cLs7 hW K3_0 Aq0 Aq1 Aq2 Aq3 Aq4 Aq5)
   refine kV (fun W=>Below wr.heap.size wr W) [true,true,true,true,true,true,true,false] rA rA gI (bR.drew) ?_
   intro wS HS
   iterate 7
    all_goals refine wkR ?_
   all_goals first | refine wkB (je (Rep.raw.below q_1 HS) (Rep.raw.below Hn.out ((tQ EB (tQ hbel HS))))) (fun wS1 HS=>?_) | refine wkR ?_
   all_goals refine ko ?_
   all_goals cases hg7:eqN x0.1 n
   all_goals have EG:=(tQ hbel HS)
   all_goals first
     | (have HT:=yD (HD.out (show _=true by simp only [isC,Bool.not_true,Bool.not_false,Bool.and_true,Bool.true_and,Bool.and_false,Bool.false_and,Bool.or_true,Bool.true_or,Bool.or_false,Bool.false_or,Bool.not_not,hg7]));clear HD HX;go_wp2;go_ret;exact ⟨jI HT.out.symm,(tQ EB EG)⟩)
     | (have HT:=yD (HX.out (show _=false by simp only [isC,Bool.not_true,Bool.not_false,Bool.and_true,Bool.true_and,Bool.and_false,Bool.false_and,Bool.or_true,Bool.true_or,Bool.or_false,Bool.false_or,Bool.not_not,hg7]));clear HD HX;go_wp2;go_roundw;(case rel=>exact ⟨k + 1,by omega,by go_num,HT,EG⟩);(case measure=>simp [intOf];omega))
 have HT:=yD (idxOf_miss hlt HN.out)
 go_wp2
 go_ret
 exact ⟨jI HT.out.symm,(tQ EB hbel)⟩
def kFe (n:ky) (t:Int) (x:jH):jH:=(x.1,if idxOf (isC n) x.2 < 0 then x.2 else x.2.modify (idxOf (isC n) x.2).toNat (fun y=>jo y t))
theorem kUi {n:ky} {t c:Int} {l:List jJ} (h:idxOf (isC n) l < 0):kFe n t (c,l)=(c,l):=by unfold kFe;simp only;rw [if_pos h]
theorem kQq {n:ky} {t c:Int} {l:List jJ} {k:Nat} (h:idxOf (isC n) l=k) (hk:k < l.length):kFe n t (c,l)=(c,l.set k (jo l[k] t)):=by
 unfold kFe
 simp only [h,Int.toNat_natCast]
 rw [if_neg rJ]
 congr 1
 apply List.ext_getElem rM
 intro i h1 h2
 rw [List.getElem_modify,List.getElem_set]
 by_cases e:k=i
 · subst e;simp
 simp [e]
theorem kUj {w:World} {c:Int} {v:Value} {l:List jJ} {S:Nat→Prop} (h:kH.own w [.int .i64 c,v] (c,l) S):(Rep.slice 169 kK).own w [v] l S:=by
 obtain ⟨a,d,A,B,he,h1,h2,hA,hB,hd⟩:=Rep.kRo h
 obtain ⟨rfl,_⟩:=Rep.jX h1.raw
 simp only [List.singleton_append,List.cons.injEq,true_and] at he
 subst he
 exact h2.wide hB
theorem kLo {w:World} {c:Int} {v:Value} {l:List jJ} {S:Nat→Prop} (hc:-9223372036854775808≤c∧c≤9223372036854775807) (h:(Rep.slice 169 kK).own w [v] l S):kH.own w [.int .i64 c,v] (c,l) S :=
  Rep.kCu (cs:=[.int .i64 c]) (Rep.kr hc) h
theorem specTouch_c {w:World} {cx:List Value} {x:jH} (hx:kH.rd w cx x) {cn:List Value} {n:ky} (hn:kZ.rd w cn n) {t:Int} (ht:-9223372036854775808≤t∧t≤9223372036854775807) :
    Calls Tryz.prog 73 #[.agg cx.toArray,.agg cn.toArray,.int .i64 t] w (yK kH (kFe n t x) w):=by
 obtain ⟨xc,xe⟩:=x
 have HX:=yD hx
 have HN:=yD hn
 have HF:=yD ht
 obtain ⟨xv1,rfl,x_r,x_l⟩:=jG hx.1
 obtain ⟨xa1,xp1,rfl,xl⟩:=Rep.sl x_l
 obtain ⟨av,rfl,a_0⟩:=kR hn.1
 obtain ⟨na,np,rfl,_⟩:=Rep.sl a_0
 have HXL:Hid ((Rep.slice 169 kK).raw w [.slice xa1 xe.length xp1] xe):=yD x_l
 have hxr:-9223372036854775808≤xc∧xc≤9223372036854775807:=x_r
 replace xl:xe.length≤9223372036854775807:=xl
 clear hx hn ht x_r x_l a_0
 go_enter Tryz.func73,Tryz.ntmps73
 go_upto_region 1 with fail
 generalize hw_:World.alloc (World.alloc (World.alloc w _) _) _=w1
 have EE:Below w.heap.size w w1:=by rw [← hw_];exact bD
 have BX:w1.heap[w.heap.size]?=some (.cells #[.int .i64 xc,.slice xa1 xe.length xp1] 36 (0,0)):=gT
 have BN:w1.heap[w.heap.size + 1]?=some (.cells #[.slice na n.length np] 58 (0,0)):=by rw [← hw_];exact jb (kW rM)
 have BR:w1.heap[w.heap.size + 2]?=some (.cells #[.int .i64 0,.slice none 0 0] 36 (0,0)):=by rw [← hw_];exact kW rM
 have z_w1:w.heap.size + 3≤w1.heap.size:=qE
 clear hw_
 obtain ⟨KBX_0,KBX_1⟩:=kEy BX
 go_wp2_with fail
 refine (kJv (HX.out.below EE)).mono ?_
 rintro e w2 ⟨cs,rfl,O,hb⟩
 have z_w2:=hb.size
 replace BX:=kE BX hb
 replace BN:=kE BN hb
 replace BR:=kE BR hb
 replace EE:=(tQ EE hb)
 clear KBX_0 KBX_1
 clear hb
 obtain ⟨ov1,rfl,o_r,o_l⟩:=jG O.raw
 obtain ⟨oa,op,rfl,_⟩:=Rep.sl o_l
 clear o_r o_l
 have HO:=yD ((kUj O).wide (T:=(fun j=>w.heap.size + 3≤j∧j < w2.heap.size)) mM)
 clear O
 go_upto_region 2 with fail
 generalize hw_:World.alloc w2 _=w3
 have E_w3:Below w2.heap.size w2 w3:=mI
 have BO:w3.heap[w2.heap.size]?=some (.cells #[.int .i64 xc,.slice oa xe.length op] 36 (0,0)):=nT
 have z_w3:w2.heap.size + 1≤w3.heap.size:=qE
 clear hw_
 replace BX:=kE BX E_w3
 replace BN:=kE BN E_w3
 replace BR:=kE BR E_w3
 replace HO:=yD (HO.out.below E_w3)
 replace EE:=(tQ EE E_w3)
 clear E_w3
 obtain ⟨KBX_0,KBX_1⟩:=kEy BX
 have KBN_0:w3.cell? ⟨w.heap.size + 1,0,none⟩=some (.slice na n.length np):=kN BN rfl
 go_wp2_with fail
 refine (kTo (HXL.out.below EE) (cn:=[.slice na n.length np]) (HN.out.1.below EE)).mono ?_
 rintro e w4 ⟨rfl,hb⟩
 have z_w4:=hb.size
 replace BX:=kE BX hb
 replace BN:=kE BN hb
 replace BR:=kE BR hb
 replace BO:=kE BO hb
 replace HO:=yD (HO.out.below hb)
 replace EE:=(tQ EE hb)
 clear KBX_0 KBX_1 KBN_0
 clear hb
 by_cases hf:idxOf (isC n) xe < 0
 · have HT:=yD (kUi (t:=t) (c:=xc) hf)
   have hf2:¬ (0≤idxOf (isC n) xe):=rJ
   generalize idxOf (isC n) xe=q at *
   go_upto_region 5 with fail
   obtain ⟨KBO_0,KBO_1⟩:=kEy BO
   obtain ⟨KBR_0,KBR_1⟩:=kEy BR
   obtain ⟨FBR_0,FBR_1⟩:=rowF2 BR
   go_wp2
   refine bodyPost_ret (v:=.agg #[.int .i64 xc,.slice oa xe.length op]) (by simp [results,Tryz.results73,go_sem,KBR_0,FBR_0,KBR_1,FBR_1]) rfl ⟨[.int .i64 xc,.slice oa xe.length op],rfl,?_,?_⟩
   · rw [HT.out];exact kLo hxr ((HO.out.touch ((kC _ _ _ _).trans (kC _ _ _ _)) mP).wide dA)
   exact EE.trans (Touch.below ((kC _ _ _ _).trans (kC _ _ _ _)) EE.size qD)
 obtain ⟨k,hlt,hki⟩:=kCs hf
 have HT:=yD (kQq (t:=t) (c:=xc) hki hlt)
 rw [hki]
 clear hf hki
 obtain ⟨qb,qo,rfl,c0,c1,c2,c3,c4,c5,hr,A0,A1,A2,A3,A4,A5⟩:=Rep.get6 HO.out.raw hlt rfl
 obtain ⟨_,qb_,qo_,hqe,hqs,hql⟩:=Rep.zk HO.out rJ
 simp only [Option.some.injEq,Addr.mk.injEq,and_true] at hqe
 obtain ⟨rfl,rfl⟩:=hqe
 have hfz:=Rep.zw HO.out rJ (qo + k * 6 + 5)
 clear hr A0 A1 A2 A3 A4
 have hkI:(0:Int)≤k:=rJ
 have hkI2:(k:Int) < xe.length:=rJ
 obtain ⟨KBO_0,KBO_1⟩:=kEy BO
 obtain ⟨O2,T2⟩:(Rep.slice 169 kK).own (World.setCell w4 ⟨qb,qo + k * 6 + 5,none⟩ (.int .i64 t)) [.slice (some ⟨qb,qo,none⟩) xe.length op] (xe.set k (jo xe[k] t)) (fun j=>w.heap.size + 3≤j∧j < w2.heap.size)∧Touch (fun j=>j=qb) w4 (World.setCell w4 ⟨qb,qo + k * 6 + 5,none⟩ (.int .i64 t)):=Rep.kEz (i:=k) (j:=5) HO.out hlt rG (fun h=>kDf _ HF.out h) (show kK.bdd Big (jo xe[k] t) from Rep.jq HO.out.rd hlt)
 go_upto_region 5 with fail
 generalize hw_:World.setCell w4 _ _=w5 at O2 T2 ⊢
 clear hw_
 clear HO
 have HO:=yD O2
 clear O2
 have z_w5:=T2.size
 replace BX:=T2.kE BX rJ
 replace BN:=T2.kE BN rJ
 replace BR:=T2.kE BR rJ
 replace BO:=T2.kE BO rJ
 replace EE:=EE.trans (T2.below EE.size qD)
 clear KBO_0 KBO_1
 clear T2
 obtain ⟨KBO_0,KBO_1⟩:=kEy BO
 obtain ⟨KBR_0,KBR_1⟩:=kEy BR
 obtain ⟨FBR_0,FBR_1⟩:=rowF2 BR
 go_wp2
 refine bodyPost_ret (v:=.agg #[.int .i64 xc,.slice (some ⟨qb,qo,none⟩) xe.length op]) (by simp [results,Tryz.results73,go_sem,KBR_0,FBR_0,KBR_1,FBR_1]) rfl ⟨[.int .i64 xc,.slice (some ⟨qb,qo,none⟩) xe.length op],rfl,?_,?_⟩
 · rw [HT.out];exact kLo hxr ((HO.out.touch ((kC _ _ _ _).trans (kC _ _ _ _)) mP).wide dA)
 exact EE.trans (Touch.below ((kC _ _ _ _).trans (kC _ _ _ _)) EE.size qD)
theorem implTouch_c {w:World} {cx:List Value} {x:jH} (hx:kH.rd w cx x) {cn:List Value} {n:ky} (hn:kZ.rd w cn n) {t:Int} (ht:-9223372036854775808≤t∧t≤9223372036854775807) :
    Calls Tryz.prog 85 #[.agg cx.toArray,.agg cn.toArray,.int .i64 t] w (yK kH (kFe n t x) w):=by
 obtain ⟨xc,xe⟩:=x
 have HX:=yD hx
 have HN:=yD hn
 have HF:=yD ht
 obtain ⟨xv1,rfl,x_r,x_l⟩:=jG hx.1
 obtain ⟨xa1,xp1,rfl,xl⟩:=Rep.sl x_l
 obtain ⟨av,rfl,a_0⟩:=kR hn.1
 obtain ⟨na,np,rfl,_⟩:=Rep.sl a_0
 have HXL:Hid ((Rep.slice 169 kK).raw w [.slice xa1 xe.length xp1] xe):=yD x_l
 have hxr:-9223372036854775808≤xc∧xc≤9223372036854775807:=x_r
 replace xl:xe.length≤9223372036854775807:=xl
 clear hx hn ht x_r x_l a_0
 go_enter Tryz.func85,Tryz.ntmps85
 go_upto_region 1 with fail
 generalize hw_:World.alloc (World.alloc (World.alloc w _) _) _=w1
 have EE:Below w.heap.size w w1:=by rw [← hw_];exact bD
 have BX:w1.heap[w.heap.size]?=some (.cells #[.int .i64 xc,.slice xa1 xe.length xp1] 36 (0,0)):=gT
 have BN:w1.heap[w.heap.size + 1]?=some (.cells #[.slice na n.length np] 58 (0,0)):=by rw [← hw_];exact jb (kW rM)
 have BR:w1.heap[w.heap.size + 2]?=some (.cells #[.int .i64 0,.slice none 0 0] 36 (0,0)):=by rw [← hw_];exact kW rM
 have z_w1:w.heap.size + 3≤w1.heap.size:=qE
 clear hw_
 obtain ⟨KBX_0,KBX_1⟩:=kEy BX
 go_wp2_with fail
 refine (kHb (HX.out.below EE)).mono ?_
 rintro e w2 ⟨cs,rfl,O,hb⟩
 have z_w2:=hb.size
 replace BX:=kE BX hb
 replace BN:=kE BN hb
 replace BR:=kE BR hb
 replace EE:=(tQ EE hb)
 clear KBX_0 KBX_1
 clear hb
 obtain ⟨ov1,rfl,o_r,o_l⟩:=jG O.raw
 obtain ⟨oa,op,rfl,_⟩:=Rep.sl o_l
 clear o_r o_l
 have HO:=yD ((kUj O).wide (T:=(fun j=>w.heap.size + 3≤j∧j < w2.heap.size)) mM)
 clear O
 go_upto_region 2 with fail
 generalize hw_:World.alloc w2 _=w3
 have E_w3:Below w2.heap.size w2 w3:=mI
 have BO:w3.heap[w2.heap.size]?=some (.cells #[.int .i64 xc,.slice oa xe.length op] 36 (0,0)):=nT
 have z_w3:w2.heap.size + 1≤w3.heap.size:=qE
 clear hw_
 replace BX:=kE BX E_w3
 replace BN:=kE BN E_w3
 replace BR:=kE BR E_w3
 replace HO:=yD (HO.out.below E_w3)
 replace EE:=(tQ EE E_w3)
 clear E_w3
 obtain ⟨KBO_0,KBO_1⟩:=kEy BO
 go_wp2
 go_loopw [15] (fun i wr=>∃ k:Nat,i=.int .i64 k∧k≤xe.length∧Hid (∀ j,(h:j < k)→(h2:j < xe.length)→isC n xe[j]=false)∧Hid ((Rep.slice 169 kK).own wr [.slice oa xe.length op] xe (fun j=>w.heap.size + 3≤j∧j < w2.heap.size))∧wr.heap[w.heap.size + 1]?=some (.cells #[.slice na n.length np] 58 (0,0))∧wr.heap[w.heap.size + 2]?=some (.cells #[.int .i64 0,.slice none 0 0] 36 (0,0))∧wr.heap[w2.heap.size]?=some (.cells #[.int .i64 xc,.slice oa xe.length op] 36 (0,0))∧w3.heap.size≤wr.heap.size∧Below w.heap.size w wr) (fun i _=>xe.length - (intOf i).toNat)
 case atStart=>exact ⟨0,rfl,Nat.zero_le _,yD (fun _ h=>by omega),HO,BN,BR,BO,Nat.le_refl _,EE⟩
 rename World=>wq
 clear EE BX BN BR BO HO
 obtain ⟨k,rfl,hk,HA,HO,BN,BR,BO,hzq,EE⟩:=hrel
 have hk0:=Int.natCast_nonneg k
 by_cases hlt:k < xe.length
 · have hk2:=Int.ofNat_lt.2 hlt
   obtain ⟨qb,qo,rfl,c0,c1,c2,c3,c4,c5,hr,A0,A1,A2,A3,A4,A5⟩:=Rep.get6 HO.out.raw hlt rfl
   obtain ⟨_,qb_,qo_,hqe,hqs,hql⟩:=Rep.zk HO.out rJ
   simp only [Option.some.injEq,Addr.mk.injEq,and_true] at hqe
   obtain ⟨rfl,rfl⟩:=hqe
   obtain ⟨y,hy⟩:∃ y,xe[k]=y:=⟨_,rfl⟩
   rw [hy] at hr
   have HY:=yD hy
   clear hy
   obtain ⟨u0,u1,u2,hce,r_0,r_1,r_2,r_3,r_4,r_5,r_6,r_7,r_8⟩:=jW hr
   simp only [List.cons.injEq,and_true] at hce
   obtain ⟨rfl,rfl,rfl,rfl,rfl,rfl⟩:=hce
   obtain ⟨ma,mp,rfl,_⟩:=Rep.sl r_2
   obtain ⟨sa,sp,rfl,_⟩:=Rep.sl r_3
   obtain ⟨da,dp,rfl,_⟩:=Rep.sl r_5
   have HM:Hid (kZ.raw wq [.slice ma y.1.1.length mp] y.1.1):=yD r_1
   clear hr r_0 r_1 r_2 r_3 r_4 r_5 r_6 r_7 r_8
   skip
   go_upto_region 5 with fail
   generalize hw_:World.alloc wq _=w5
   have E_w5:Below wq.heap.size wq w5:=mI
   have BT:w5.heap[wq.heap.size]?=some (.cells #[.slice ma y.1.1.length mp,.slice sa y.1.2.1.length sp,.slice da y.1.2.2.1.length dp,.int .i64 y.1.2.2.2.1,.int .i64 y.1.2.2.2.2,.int .i64 y.2] 169 (0,0)):=nT
   have z_w5:wq.heap.size + 1≤w5.heap.size:=qE
   clear hw_
   replace BN:=kE BN E_w5
   replace BR:=kE BR E_w5
   replace BO:=kE BO E_w5
   replace A5:=cL E_w5 A5
   replace HO:=yD (HO.out.below E_w5)
   replace HM:=yD (HM.out.below E_w5)
   replace EE:=(tQ EE E_w5)
   clear E_w5
   have KBN_0:w5.cell? ⟨w.heap.size + 1,0,none⟩=some (.slice na n.length np):=kN BN rfl
   obtain ⟨KBT_0,KBT_1,KBT_2,KBT_3,KBT_4,KBT_5⟩:=rowC6 BT
   go_wp2_with fail
   refine (yz HM.out (HN.out.1.below EE)).mono ?_
   rintro e w6 ⟨rfl,hb⟩
   have z_w6:=hb.size
   replace BN:=kE BN hb
   replace BR:=kE BR hb
   replace BO:=kE BO hb
   replace BT:=kE BT hb
   replace A5:=cL hb A5
   replace HO:=yD (HO.out.below hb)
   replace HM:=yD (HM.out.below hb)
   replace EE:=(tQ EE hb)
   clear KBN_0 KBT_0 KBT_1 KBT_2 KBT_3 KBT_4 KBT_5
   clear hb
   cases he:eqN y.1.1 n
   · have HB:=yD (kAl (p:=isC n) hlt (by rw [HY.out];exact he) HA.out)
     go_wp2
     go_roundw
     case rel=>exact ⟨k + 1,by go_num,by omega,HB,HO,BN,BR,BO,by omega,EE⟩
     simp [intOf];omega
   have HT:=yD (kQq (t:=t) (c:=xc) (idxOf_hit (p:=isC n) hlt (by rw [HY.out];exact he) HA.out) hlt)
   have hfz:=Rep.zw HO.out rJ (qo + k * 6 + 5)
   obtain ⟨KBO_0,KBO_1⟩:=kEy BO
   obtain ⟨O2,T2⟩:(Rep.slice 169 kK).own (World.setCell w6 ⟨qb,qo + k * 6 + 5,none⟩ (.int .i64 t)) [.slice (some ⟨qb,qo,none⟩) xe.length op] (xe.set k (jo xe[k] t)) (fun j=>w.heap.size + 3≤j∧j < w2.heap.size)∧Touch (fun j=>j=qb) w6 (World.setCell w6 ⟨qb,qo + k * 6 + 5,none⟩ (.int .i64 t)):=Rep.kEz (i:=k) (j:=5) HO.out hlt rG (fun h=>kDf _ HF.out h) (show kK.bdd Big (jo xe[k] t) from Rep.jq HO.out.rd hlt)
   go_upto_region 8 with fail
   generalize hw_:World.setCell w6 _ _=w7 at O2 T2 ⊢
   clear hw_
   clear HO
   have HO:=yD O2
   clear O2
   have z_w7:=T2.size
   replace BN:=T2.kE BN rJ
   replace BR:=T2.kE BR rJ
   replace BO:=T2.kE BO rJ
   replace BT:=T2.kE BT rJ
   replace EE:=EE.trans (T2.below EE.size qD)
   clear KBO_0 KBO_1
   clear T2
   obtain ⟨KBO_0,KBO_1⟩:=kEy BO
   obtain ⟨KBR_0,KBR_1⟩:=kEy BR
   obtain ⟨FBR_0,FBR_1⟩:=rowF2 BR
   go_wp2
   refine bodyPost_ret (v:=.agg #[.int .i64 xc,.slice (some ⟨qb,qo,none⟩) xe.length op]) (by simp [results,Tryz.results85,go_sem,KBR_0,FBR_0,KBR_1,FBR_1]) rfl ⟨[.int .i64 xc,.slice (some ⟨qb,qo,none⟩) xe.length op],rfl,?_,?_⟩
   · rw [HT.out];exact kLo hxr ((HO.out.touch ((kC _ _ _ _).trans (kC _ _ _ _)) mP).wide dA)
   exact EE.trans (Touch.below ((kC _ _ _ _).trans (kC _ _ _ _)) EE.size qD)
 have hk3:¬ ((k:Int) < xe.length):=rJ
 have HT:=yD (kUi (n:=n) (t:=t) (c:=xc) (by rw [idxOf_miss (p:=isC n) hlt HA.out];decide))
 go_upto_region 8 with fail
 obtain ⟨KBO_0,KBO_1⟩:=kEy BO
 obtain ⟨KBR_0,KBR_1⟩:=kEy BR
 obtain ⟨FBR_0,FBR_1⟩:=rowF2 BR
 go_wp2
 refine bodyPost_ret (v:=.agg #[.int .i64 xc,.slice oa xe.length op]) (by simp [results,Tryz.results85,go_sem,KBR_0,FBR_0,KBR_1,FBR_1]) rfl ⟨[.int .i64 xc,.slice oa xe.length op],rfl,?_,?_⟩
 · rw [HT.out];exact kLo hxr ((HO.out.touch ((kC _ _ _ _).trans (kC _ _ _ _)) mP).wide dA)
 exact EE.trans (Touch.below ((kC _ _ _ _).trans (kC _ _ _ _)) EE.size qD)
namespace Rep
section
variable {α:Type} {r:Rep α} {e:TypeId} {w w':World} {v:Value} {b cap n:Nat} {xs l:List α} {i:Nat} {x:α} {S T:Nat→Prop}
theorem kIt {P:Program} (w:World) (dT sT ty elem:TypeId) (g o dLen dCap:Nat) (a:Addr) (sLen sCap n:Nat) (cur:Array Value) (t:TypeId) (cs:List Value)
    (hu:P.underlying dT=some (.slice elem)) (hs:(P.info? elem).map (·.size)=some n)
    (hg:w.heap[g]?=some (.cells cur t (0,0))) (hn:cs.length=Nat.min sLen dLen * n)
    (hsrc:∀ j v,cs[j]?=some v→w.cell? (a.add j)=some v) (hfit:o + cs.length≤cur.size) (h1:∀ v∈cs,v.oneCell'=true) :
    (Builtin.copy_ #[dT,sT] ty #[.slice (some ⟨g,o,none⟩) dLen dCap,.slice (some a) sLen sCap]).run P w =
      .ok (goInt (Nat.min sLen dLen)) (w.setRow g (cur.toList.take o++cs++cur.toList.drop (o + cs.length)).toArray):=by
 have hl:=run_loadCells_list (P:=P) w a cs hsrc
 have hst:=run_storeCells_at P g o t cs 0 cur w hg (by simpa using hfit) h1
 cases hq:P.info? elem with
 | none=>simp [hq] at hs
 | some i =>
   have hi:i.size=n:=by simpa [hq] using hs
   simp [Builtin.copy_,run_underlying hu,Builtin.lenOf,Builtin.firstCells,sizeOf,typeInfo,hq,hi,← hn,hl,hst]
theorem row_ins (hf:r.kCy) {cells cx:List Value} (h:row r true w cells l S) (hi:i≤l.length) (hx:r.is true w cx x T) :
    row r true w' (cells.take (i * r.n)++(cx++cells.drop (i * r.n))) (l.take i++x :: l.drop i) (fun _=>False):=by
 have hl:l=l.take i++l.drop i:=(List.take_append_drop i l).symm
 rw [hl] at h
 obtain ⟨d1,d2,A,B,rfl,r1,r2,hA,hB,hd⟩:=kEe (l.take i) h
 have hlen:d1.length=i * r.n:=by rw [zl r1,List.length_take];congr 1;omega
 rw [List.take_append_of_le_length rJ,List.take_of_length_le rJ,List.drop_append_of_le_length rJ,List.drop_of_length_le rJ,List.nil_append]
 refine zu (kLu hf r1) ?_ (fun _ h=>h) (fun _ h=>h) (fun _ _ h _=>h)
 exact ⟨cx,d2,_,_,rfl,hf hx,kLu hf r2,fun _ h=>h,fun _ h=>h,fun _ _ h _=>h⟩
theorem ins_list {cells cx tl:List Value} {k m:Nat} (hk:k≤cells.length) (hm:cx.length=m) (ht:m≤tl.length) :
    let X:=cells++tl
    let Y:=X.take (k + m)++cells.drop k++X.drop (k + m + (cells.length - k))
    Y.take k++cx++Y.drop (k + m)=(cells.take k++(cx++cells.drop k))++tl.drop m:=by
 intro X Y
 have hXl:(X.take (k + m)).length=k + m:=by simp [X];omega
 have hY1:Y.take k=cells.take k:=by
  show (X.take (k + m)++cells.drop k++X.drop (k + m + (cells.length - k))).take k=_
  rw [List.append_assoc,List.take_append_of_le_length rJ,List.take_take,Nat.min_eq_left rJ]
  show (cells++tl).take k=_
  rw [List.take_append_of_le_length hk]
 have hY2:Y.drop (k + m)=cells.drop k++tl.drop m:=by
  show (X.take (k + m)++cells.drop k++X.drop (k + m + (cells.length - k))).drop (k + m)=_
  rw [List.append_assoc,List.drop_append_of_le_length rJ,List.drop_of_length_le rJ,List.nil_append]
  congr 1
  show (cells++tl).drop _=_
  rw [List.drop_append]
  rw [List.drop_of_length_le rJ,List.nil_append]
  congr 1;omega
 rw [hY1,hY2];simp
theorem ins_new {A cx B tl:List Value} {k m n:Nat} (hk:A.length=k) (hm:cx.length=m) (hB:B.length=n) {Z:List Value} (hz:Z.length=m + n) :
    let X:=A++Z++tl
    let Y:=X.take k++cx++X.drop (k + m)
    Y.take (k + m)++B++Y.drop (k + m + n)=(A++(cx++B))++tl:=by
 intro X Y
 have hX:X.take k=A:=by show (A++Z++tl).take k=_;rw [List.append_assoc,List.take_append_of_le_length rJ,List.take_of_length_le rJ]
 have hXd:X.drop (k + m)=Z.drop m++tl:=by
  show (A++Z++tl).drop (k + m)=_
  rw [List.append_assoc,List.drop_append,List.drop_of_length_le rJ,List.nil_append,show k + m - A.length=m by omega,List.drop_append_of_le_length rJ]
 have hY:Y=A++cx++(Z.drop m++tl):=by show X.take k++cx++X.drop (k + m)=_;rw [hX,hXd]
 rw [hY,List.take_append_of_le_length rC,List.take_of_length_le rC,List.drop_append,List.drop_of_length_le rC,List.nil_append,List.drop_append,List.drop_of_length_le rC,List.nil_append]
 rw [show k + m + n - (A++cx).length - (Z.drop m).length=0 by simp;omega,List.drop_zero]
 simp
theorem own0_at (hb:∀ y∈xs,r.bdd Big y) {cs tl:List Value} (hn:n=xs.length) (hc:n≤cap) (hm:cap≤maxLen) (hh:w.heap[b]?=some (.cells (cs++tl).toArray e (0,0))) (hs:(cs++tl).length=cap * r.n) (hS:S b) (hr:row r true w cs xs (fun _=>False)) :
    kQ e r w (.slice (some ⟨b,0,none⟩) n cap) xs S:=by
 subst hn
 exact ⟨hb,.inr ⟨b,cap,_,cs,tl,rfl,hc,hm,hh,by simp,by simpa using hs,hS,yM hr (fun _ h=>h.elim)⟩⟩
theorem mem_ins {P:α→Prop} (h:∀ y∈l,P y) (hx:P x):∀ y∈l.take i++x :: l.drop i,P y:=by
 intro y hy
 rcases List.mem_append.1 hy with q | q
 · exact h y (List.mem_of_mem_take q)
 rcases List.mem_cons.1 q with q | q
 · rw [q];exact hx
 exact h y (List.mem_of_mem_drop q)
theorem len_ins {i:Nat}:(l.take i++x :: l.drop i).length=l.length + 1:=by simp;omega
end
end Rep
theorem kIo {w:World} {v:Value} {l:List kS} {i vb:Nat} {cx:List Value} {x:kS} {S:Nat→Prop} (hl:Rep.kQ 81 kF w v l S) (hlen:l.length≤16777216) (hvb:w.heap[vb]?=some (.cells cx.toArray 81 (0,0))) (hvS:¬ S vb) (hx:kF.is true w cx x (fun _=>False)) (hbx:kF.bdd Big x) (hi:i=l.length) :
    Calls Tryz.prog 177 #[v,.int .i64 i,.slice (some ⟨vb,0,none⟩) 1 1] w fun e w'=>∃ v',e=.returned v'∧Rep.kQ 81 kF w' v' (l.take i++x :: l.drop i) (fun k=>S k∨(w.heap.size≤k∧k < w'.heap.size))∧Touch S w w':=by
 obtain ⟨a,cap,hv⟩:=hl.zR
 have HO:=yD hl
 have HSRC:Hid (Rep.Src w (.slice (some ⟨vb,0,none⟩) 1 1) 1 cx):=yD (.inr ⟨_,1,rfl,fun j u hj=>by
   rw [Addr.add_lit,Nat.zero_add,cell_of_row w vb _ _ 81 (0,0) hvb];simpa using hj⟩)
 have HROW:Hid (Rep.row kF true w cx [x] (fun _=>False)):=yD ⟨cx,[],_,_,by simp,hx,rfl,fun _ h=>h,fun _ h=>h,fun _ _ h _=>h⟩
 have HR:=yD hvb
 have HX:=yD hx
 subst hi
 have HB:=yD hbx
 have HE:Hid (l.take l.length++x :: l.drop l.length=l++[x]):=yD rM
 obtain ⟨inf0,hinf0,hz0,hs0,hby0⟩:=info_parts yO
 clear hl hvb hx hbx
 subst hv
 go_enter Tryz.func177,Tryz.ntmps177
 go_wp2_with (at_builtin;refine Rep.kOl rfl _ _ 75 rfl (r:=kF) (e:=81) (ys:=[x]) (T:=fun _=>False) (m:=1) (cells:=cx) Tryz.underlying75 hinf0 hz0 hs0 rfl rG rJ HO.out rfl rfl HSRC.out HROW.out rfl (fun _ _ h=>h) (by intro y hy;simp only [List.mem_singleton] at hy;rw [hy];exact HB.out) rC ?_)
 all_goals
   intro v' w2 ho2 hb2
   obtain ⟨va,vn,vc,hv2,HV2⟩:=ho2.parts;obtain rfl:=hv2
   go_wp2
   go_ret
   refine ⟨_,rfl,ho2.cast HE.out.symm,⟨hb2.os,hb2.tape,hb2.output,hb2.size,fun k hk q=>hb2.block k hk (fun a=>q a.2)⟩⟩
theorem kGw {w:World} {b cap:Nat} {l:List kS} {i vb:Nat} {cx:List Value} {x:kS} {S:Nat→Prop} (hl:Rep.kQ 81 kF w (.slice (some ⟨b,0,none⟩) l.length cap) l S) (hlen:l.length≤16777216) (hvb:w.heap[vb]?=some (.cells cx.toArray 81 (0,0))) (hvS:¬ S vb) (hx:kF.is true w cx x (fun _=>False)) (hbx:kF.bdd Big x) (hi:i < l.length) (hroom:l.length + 1≤cap) :
    Calls Tryz.prog 177 #[.slice (some ⟨b,0,none⟩) l.length cap,.int .i64 i,.slice (some ⟨vb,0,none⟩) 1 1] w fun e w'=>∃ v',e=.returned v'∧Rep.kQ 81 kF w' v' (l.take i++x :: l.drop i) (fun k=>S k∨(w.heap.size≤k∧k < w'.heap.size))∧Touch S w w':=by
 obtain ⟨hb0,h⟩:=hl
 rcases h with ⟨⟨a,h0⟩,h1⟩|⟨b',cap',cur,cs,tl,h0,h1,h2,h3,h4,h5,h6,h7⟩
 · rw [h1] at hi;simp at hi
 simp only [Value.slice.injEq,Option.some.injEq,Addr.mk.injEq,and_true,true_and] at h0
 obtain ⟨rfl,rfl⟩:=h0
 obtain rfl:cur=(cs++tl).toArray:=by rw [← h4]
 have hn3:kF.n=3:=rfl
 have hcl:=Rep.zl h7
 have h1c:=Rep.row_one h7
 have hxl:=kF.len hx
 have h1x:=kF.one hx
 rw [hn3] at hcl hxl h5
 have hbv:b≠vb:=fun q=>hvS (q ▸ h6)
 have htl:cs.length + tl.length=cap * 3:=by simpa using h5
 have hcap63:cap≤9223372036854775807:=h2
 have hfrow:Hid (∀ (W:World),Rep.row kF true W (cs.take (i * 3)++(cx++cs.drop (i * 3))) (l.take i++x :: l.drop i) (fun _=>False)):=yD (fun W=>Rep.row_ins (w':=W) kBw h7 (Nat.le_of_lt hi) hx)
 have HBD:Hid (∀ y∈l.take i++x :: l.drop i,kF.bdd Big y):=yD (Rep.mem_ins hb0 hbx)
 have hsz:(Tryz.prog.info? 81).map (·.size)=some 3:=by
  obtain ⟨inf0,hinf0,hz0,hs0,hby0⟩:=info_parts yO
  rw [hinf0];simp [hs0]
 have hcc:∀ j u,cs[j]?=some u→w.cell? ⟨b,j,none⟩=some u:=fun j u hj=>by
   have hjl:=(List.getElem?_eq_some_iff.1 hj).1
   rw [cell_of_row w b j _ 81 (0,0) h3];simp only [List.getElem?_toArray];rw [List.getElem?_append_left hjl];exact hj
 have hvc:∀ j u,cx[j]?=some u→w.cell? ⟨vb,j,none⟩=some u:=fun j u hj=>by
   rw [cell_of_row w vb j _ 81 (0,0) hvb];simpa using hj
 have hov:∀ lb cb,(callFunc 222 #[.slice (some ⟨vb,0,none⟩) 1 1,.slice (some ⟨b,(i + 1) * 3,none⟩) lb cb]).run Tryz.prog w=.ok (.value (.bool false)) w:=fun lb cb=>by
   rw [run_callFunc_extern Tryz.func222 rA rA rA (e:=Extern.SlicesOverlaps.overlaps #[75,75] #[4]) rA,
     Lib.run_overlaps_apart w 75 4 81 Tryz.underlying75 3 (fun W=>by
       obtain ⟨inf0,hinf0,hz0,hs0,hby0⟩:=info_parts yO
       simp [sizeOf,typeInfo,hinf0,hs0]) ⟨vb,0,none⟩ ⟨b,(i + 1) * 3,none⟩ 1 1 lb cb (fun q=>hbv q.symm) 81 81 3 (cap * 3) (by simp [World.shape?,hvb,hxl]) (by simp only [World.shape?,h3];simp [h5]) rJ (frozen_of_row w vb _ _ _ hvb) (frozen_of_row w vb _ _ _ hvb)]
   rfl
 have hdl:(cs.drop (i * 3)).length=(l.length - i) * 3:=by rw [List.length_drop,hcl];omega
 have hmin1:Nat.min (l.length + 1 - i) (l.length - i)=l.length - i:=fM
 have hmin2:Nat.min 1 (l.length + 1 - i)=1:=fM
 obtain ⟨R1,hR1⟩:∃ R1:List Value,R1=(cs++tl).take (i * 3 + 3)++cs.drop (i * 3)++(cs++tl).drop (i * 3 + 3 + (cs.length - i * 3)):=⟨_,rfl⟩
 have hfin:R1.take (i * 3)++cx++R1.drop (i * 3 + 3)=(cs.take (i * 3)++(cx++cs.drop (i * 3)))++tl.drop 3:=by
  rw [hR1];exact Rep.ins_list rJ hxl rJ
 have hR1l:R1.length=cap * 3:=by
  rw [hR1];simp only [List.length_append,List.length_take,List.length_drop];omega
 have hcp1:∀ ty dc sc,(Builtin.copy_ #[75,75] ty #[.slice (some ⟨b,(i + 1) * 3,none⟩) (l.length - i) dc,.slice (some ⟨b,i * 3,none⟩) (l.length + 1 - i) sc]).run Tryz.prog w.drew=.ok (goInt ((l.length - i:Nat):Int)) (w.drew.setRow b R1.toArray):=fun ty dc sc=>by
   have q:=Rep.kIt (P:=Tryz.prog) w.drew 75 75 ty 81 b (i * 3 + 3) (l.length - i) dc ⟨b,i * 3,none⟩ (l.length + 1 - i) sc 3 _ 81 (cs.drop (i * 3)) Tryz.underlying75 hsz h3 (by rw [hmin1];exact hdl)
     (fun j u hj=>by rw [Addr.add_lit];exact hcc (i * 3 + j) u (by rwa [List.getElem?_drop] at hj)) (by simp only [List.size_toArray,List.length_append];omega) (fun u hu=>h1c u (List.mem_of_mem_drop hu))
   rw [hmin1,List.length_drop] at q
   rw [show (i + 1) * 3=i * 3 + 3 by omega,hR1]
   exact q
 have hz:(w.drew.setRow b R1.toArray).heap[b]?=some (.cells R1.toArray 81 (0,0)):=setRow_heap w.drew b _ R1.toArray 81 (0,0) h3
 have hcp2:∀ ty dc,(Builtin.copy_ #[75,75] ty #[.slice (some ⟨b,i * 3,none⟩) (l.length + 1 - i) dc,.slice (some ⟨vb,0,none⟩) 1 1]).run Tryz.prog (w.drew.setRow b R1.toArray)=.ok (goInt ((1:Nat):Int)) ((w.drew.setRow b R1.toArray).setRow b ((cs.take (i * 3)++(cx++cs.drop (i * 3)))++tl.drop 3).toArray):=fun ty dc=>by
   have q:=Rep.kIt (P:=Tryz.prog) (w.drew.setRow b R1.toArray) 75 75 ty 81 b (i * 3) (l.length + 1 - i) dc ⟨vb,0,none⟩ 1 1 3 _ 81 cx Tryz.underlying75 hsz hz (by rw [hmin2,hxl])
     (fun j u hj=>by
       rw [Addr.add_lit,Nat.zero_add,cell_of_row _ vb j _ 81 (0,0) ((setRow_other w.drew b vb _ (fun q=>hbv q.symm)).trans hvb)];simpa using hj) (by simp only [List.size_toArray];omega) h1x
   rw [hmin2,hxl] at q
   rw [← hfin]
   exact q
 have hend:Rep.kQ 81 kF ((w.drew.setRow b R1.toArray).setRow b ((cs.take (i * 3)++(cx++cs.drop (i * 3)))++tl.drop 3).toArray) (.slice (some ⟨b,0,none⟩) (l.length + 1) cap) (l.take i++x :: l.drop i) (fun k=>S k∨(w.heap.size≤k∧k < ((w.drew.setRow b R1.toArray).setRow b ((cs.take (i * 3)++(cx++cs.drop (i * 3)))++tl.drop 3).toArray).heap.size)):=by
  refine Rep.own0_at HBD.out Rep.len_ins.symm hroom h2 (setRow_heap _ b _ _ 81 (0,0) hz) ?_ (.inl h6) (hfrow.out _)
  simp only [List.length_append,List.length_take,List.length_drop];rw [hn3];omega
 have HE:=yD hend
 have HT:Hid (Touch S w ((w.drew.setRow b R1.toArray).setRow b ((cs.take (i * 3)++(cx++cs.drop (i * 3)))++tl.drop 3).toArray)):=yD ⟨rfl,rfl,rfl,by simp,fun k hk q=>by
   have hkb:k≠b:=fun hq=>q (hq ▸ h6)
   rw [setRow_other _ b k _ hkb,setRow_other _ b k _ hkb];rfl⟩
 generalize hW1:w.drew.setRow b R1.toArray=W1 at *
 generalize hW2:W1.setRow b _=W2 at *
 have hil:i≤l.length:=Nat.le_of_lt hi
 have hz1:¬ ((i:Int)=(l.length:Int)):=rJ
 have hw1:IntKind.i64.wrap ((i:Int) + 1)=(i:Int) + 1:=mX
 have hw2:IntKind.i64.wrap ((l.length:Int) + 1)=(l.length:Int) + 1:=mX
 have mixed:Tryz.prog.follows Departure.mixedOrders=true:=rA
 have hb1:(0:Int)≤(i:Int) + 1:=rJ
 have htn:((i:Int) + 1).toNat=i + 1:=rJ
 have hb2:¬ (cap=i + 1):=rJ
 have hb3:(i:Int)≤(l.length:Int) + 1:=rJ
 have hb4:¬ (cap=i):=rJ
 have hb5:(i:Int) + 1≤(l.length:Int) + 1:=rJ
 have hb6:i + 1≤l.length + 1:=rJ
 have hb7:(i:Int)≤(l.length:Int):=rJ
 clear h7 h5 h3 hcc hvc hvb hx h1x h1c hfrow hend HBD hfin hz hR1 hR1l
 go_enter Tryz.func177,Tryz.ntmps177
 go_wp2_with (simp only [hov])
 go_region_law_o (refine step_copy_runI rfl _ _ 75 75 rfl _ _ nW nW (hcp1 _ _ _) ?_)
 go_wp2_with (at_builtin;refine wpList_copy_runI _ rfl _ _ 75 75 rfl _ _ rfl rfl (hcp2 _ _) ?_)
 go_ret
 exact ⟨_,rfl,HE.out,HT.out⟩
theorem kHh {w:World} {b cap:Nat} {l:List kS} {i vb:Nat} {cx:List Value} {x:kS} {S:Nat→Prop} (hl:Rep.kQ 81 kF w (.slice (some ⟨b,0,none⟩) l.length cap) l S) (hlen:l.length≤16777216) (hvb:w.heap[vb]?=some (.cells cx.toArray 81 (0,0))) (hvS:¬ S vb) (hx:kF.is true w cx x (fun _=>False)) (hbx:kF.bdd Big x) (hi:i < l.length) (hroom:cap < l.length + 1) :
    Calls Tryz.prog 177 #[.slice (some ⟨b,0,none⟩) l.length cap,.int .i64 i,.slice (some ⟨vb,0,none⟩) 1 1] w fun e w'=>∃ v',e=.returned v'∧Rep.kQ 81 kF w' v' (l.take i++x :: l.drop i) (fun k=>S k∨(w.heap.size≤k∧k < w'.heap.size))∧Touch S w w':=by
 obtain ⟨hb0,h⟩:=hl
 rcases h with ⟨⟨a,h0⟩,h1⟩|⟨b',cap',cur,cs,tl,h0,h1,h2,h3,h4,h5,h6,h7⟩
 · rw [h1] at hi;simp at hi
 simp only [Value.slice.injEq,Option.some.injEq,Addr.mk.injEq,and_true,true_and] at h0
 obtain ⟨rfl,rfl⟩:=h0
 obtain rfl:cur=(cs++tl).toArray:=by rw [← h4]
 have hn3:kF.n=3:=rfl
 have hcl:=Rep.zl h7
 have h1c:=Rep.row_one h7
 have hxl:=kF.len hx
 have h1x:=kF.one hx
 rw [hn3] at hcl hxl h5
 have hbv:b≠vb:=fun q=>hvS (q ▸ h6)
 have htl:cs.length + tl.length=cap * 3:=by simpa using h5
 have hcap63:cap≤9223372036854775807:=h2
 have hfrow:Hid (∀ (W:World),Rep.row kF true W (cs.take (i * 3)++(cx++cs.drop (i * 3))) (l.take i++x :: l.drop i) (fun _=>False)):=yD (fun W=>Rep.row_ins (w':=W) kBw h7 (Nat.le_of_lt hi) hx)
 have HBD:Hid (∀ y∈l.take i++x :: l.drop i,kF.bdd Big y):=yD (Rep.mem_ins hb0 hbx)
 have hsz:(Tryz.prog.info? 81).map (·.size)=some 3:=by
  obtain ⟨inf0,hinf0,hz0,hs0,hby0⟩:=info_parts yO
  rw [hinf0];simp [hs0]
 have hcc:∀ j u,cs[j]?=some u→w.cell? ⟨b,j,none⟩=some u:=fun j u hj=>by
   have hjl:=(List.getElem?_eq_some_iff.1 hj).1
   rw [cell_of_row w b j _ 81 (0,0) h3];simp only [List.getElem?_toArray];rw [List.getElem?_append_left hjl];exact hj
 have hvc:∀ j u,cx[j]?=some u→w.cell? ⟨vb,j,none⟩=some u:=fun j u hj=>by
   rw [cell_of_row w vb j _ 81 (0,0) hvb];simpa using hj
 have hlc:l.length≤cap:=h1
 obtain ⟨inf0,hinf0,hz0,hs0,hby0⟩:=info_parts yO
 have hbw:b < w.heap.size:=(Array.getElem?_eq_some_iff.1 h3).1
 have hvw:vb < w.heap.size:=(Array.getElem?_eq_some_iff.1 hvb).1
 have hdl:(cs.drop (i * 3)).length=(l.length - i) * 3:=by rw [List.length_drop,hcl];omega
 have htk:(cs.take (i * 3)).length=i * 3:=by rw [List.length_take];omega
 obtain ⟨ZV,hZV⟩:∃ ZV:Value,inf0.zero=some ZV∧ZV.cells.size=3:=⟨_,hz0,rfl⟩
 have hold:(Builtin.firstCells inf0.size i (.slice (some ⟨b,0,none⟩) i cap)).run Tryz.prog w.drew=.ok (cs.take (i * 3)).toArray w.drew:=by
  rw [hs0]
  exact run_firstCells_some w.drew 3 i ⟨b,0,none⟩ i cap (cs.take (i * 3)) htk (fun j u hj=>by
    rw [Addr.add_lit,Nat.zero_add]
    rw [List.getElem?_take] at hj
    split at hj
    · exact hcc j u hj
    · cases hj)
 have hik:i + (l.length + 1 - i)=l.length + 1:=rJ
 have hrz:∀ ty,(Builtin.append_ #[75,3] ty #[.slice (some ⟨b,0,none⟩) i cap,.int .i64 ((l.length:Int) + 1 - (i:Int))]).run Tryz.prog w =
     .ok (.slice (some ⟨w.heap.size,0,none⟩) (l.length + 1) (grownCap w (l.length + 1) cap 81)) (w.drew.alloc (.cells ((cs.take (i * 3)).toArray++Builtin.zeroCells ZV.cells (l.length + 1 - i)++Builtin.zeroCells ZV.cells (grownCap w (l.length + 1) cap 81 - (l.length + 1))) 81)):=fun ty=>by
   have h:=Lib.run_append_grow_zeros (P:=Tryz.prog) w 75 3 ty 81 inf0 ZV .i64 .i64 Tryz.underlying75 Tryz.underlying3 hinf0 hZV.1 (some ⟨b,0,none⟩) i cap (cs.take (i * 3)) hold (l.length + 1 - i) rJ rJ rJ rJ (by rw [hby0];omega) (by rw [hby0,hik];exact growslice_fits hroom rJ)
   rw [hik] at h
   rw [show ((l.length:Int) + 1 - (i:Int))=((l.length + 1 - i:Nat):Int) by omega]
   exact h
 have hGn:l.length + 1≤grownCap w (l.length + 1) cap 81:=grownCap_ge w _ _ _
 have hG63:grownCap w (l.length + 1) cap 81≤maxLen:=grownCap_le_maxLen w (l.length + 1) cap 81 pJ
 generalize grownCap w (l.length + 1) cap 81=G at *
 obtain ⟨Z,hZ,hZl⟩:∃ Z:List Value,Builtin.zeroCells ZV.cells (l.length + 1 - i)=Z.toArray∧Z.length=3 + (l.length - i) * 3:=⟨(Builtin.zeroCells ZV.cells (l.length + 1 - i)).toList,by simp,by
   rw [Array.length_toList,size_zeroCells,hZV.2];omega⟩
 obtain ⟨TL,hTL,hTLl⟩:∃ TL:List Value,Builtin.zeroCells ZV.cells (G - (l.length + 1))=TL.toArray∧TL.length=(G - (l.length + 1)) * 3:=⟨(Builtin.zeroCells ZV.cells (G - (l.length + 1))).toList,by simp,by
   rw [Array.length_toList,size_zeroCells,hZV.2]⟩
 have hrow0:(cs.take (i * 3)).toArray++Builtin.zeroCells ZV.cells (l.length + 1 - i)++Builtin.zeroCells ZV.cells (G - (l.length + 1))=(cs.take (i * 3)++Z++TL).toArray:=by rw [hZ,hTL];simp
 rw [hrow0] at hrz
 clear hrow0 hZ hTL hold
 obtain ⟨R1,hR1⟩:∃ R1:List Value,R1=(cs.take (i * 3)++Z++TL).take (i * 3)++cx++(cs.take (i * 3)++Z++TL).drop (i * 3 + 3):=⟨_,rfl⟩
 have hfin:R1.take (i * 3 + 3)++cs.drop (i * 3)++R1.drop (i * 3 + 3 + (l.length - i) * 3)=(cs.take (i * 3)++(cx++cs.drop (i * 3)))++TL:=by
  rw [hR1];exact Rep.ins_new htk hxl hdl hZl
 have hR1l:R1.length=G * 3:=by
  rw [hR1];simp only [List.length_append,List.length_take,List.length_drop];omega
 have hmin2:Nat.min 1 (l.length + 1 - i)=1:=fM
 have hmin1:Nat.min (l.length - i) (l.length - i)=l.length - i:=Nat.min_self _
 have hcp1:∀ (W:World),W.heap=(w.drew.alloc (.cells (cs.take (i * 3)++Z++TL).toArray 81)).heap→∀ ty dc,(Builtin.copy_ #[75,75] ty #[.slice (some ⟨w.heap.size,i * 3,none⟩) (l.length + 1 - i) dc,.slice (some ⟨vb,0,none⟩) 1 1]).run Tryz.prog W=.ok (goInt ((1:Nat):Int)) (W.setRow w.heap.size R1.toArray):=fun W hW ty dc=>by
   have q:=Rep.kIt (P:=Tryz.prog) W 75 75 ty 81 w.heap.size (i * 3) (l.length + 1 - i) dc ⟨vb,0,none⟩ 1 1 3 (cs.take (i * 3)++Z++TL).toArray 81 cx Tryz.underlying75 hsz (by rw [hW];exact heap_alloc_new w.drew _) (by rw [hmin2,hxl])
     (fun j u hj=>by
       rw [Addr.add_lit,Nat.zero_add,cell_of_row W vb j _ 81 (0,0) (by rw [hW];exact (heap_alloc_old w.drew _ hvw).trans hvb)];simpa using hj) (by simp only [List.size_toArray,List.length_append];omega) h1x
   rw [hmin2,hxl] at q
   rw [hR1]
   exact q
 have hcp2:∀ (W:World),W.heap=((w.drew.alloc (.cells (cs.take (i * 3)++Z++TL).toArray 81)).setRow w.heap.size R1.toArray).heap→∀ ty dc sc,(Builtin.copy_ #[75,75] ty #[.slice (some ⟨w.heap.size,(i + 1) * 3,none⟩) (l.length - i) dc,.slice (some ⟨b,i * 3,none⟩) (l.length - i) sc]).run Tryz.prog W=.ok (goInt ((l.length - i:Nat):Int)) (W.setRow w.heap.size ((cs.take (i * 3)++(cx++cs.drop (i * 3)))++TL).toArray):=fun W hW ty dc sc=>by
   have q:=Rep.kIt (P:=Tryz.prog) W 75 75 ty 81 w.heap.size (i * 3 + 3) (l.length - i) dc ⟨b,i * 3,none⟩ (l.length - i) sc 3 R1.toArray 81 (cs.drop (i * 3)) Tryz.underlying75 hsz (by rw [hW];exact setRow_heap _ w.heap.size _ _ 81 (0,0) (heap_alloc_new w.drew _)) (by rw [hmin1];exact hdl)
     (fun j u hj=>by
       rw [Addr.add_lit,cell_of_row W b _ _ 81 (0,0) (by rw [hW];exact ((setRow_other _ w.heap.size b _ rJ).trans (heap_alloc_old w.drew _ hbw)).trans h3)]
       have hq:cs[i * 3 + j]?=some u:=by rwa [List.getElem?_drop] at hj
       simp only [List.getElem?_toArray]
       rw [List.getElem?_append_left (List.getElem?_eq_some_iff.1 hq).1];exact hq) (by simp only [List.size_toArray];omega) (fun u hu=>h1c u (List.mem_of_mem_drop hu))
   rw [hmin1,hdl] at q
   rw [show (i + 1) * 3=i * 3 + 3 by omega]
   rw [← hfin]
   exact q
 have hend:∀ (W:World),W.heap=(((w.drew.alloc (.cells (cs.take (i * 3)++Z++TL).toArray 81)).setRow w.heap.size R1.toArray).setRow w.heap.size ((cs.take (i * 3)++(cx++cs.drop (i * 3)))++TL).toArray).heap→Rep.kQ 81 kF W (.slice (some ⟨w.heap.size,0,none⟩) (l.length + 1) G) (l.take i++x :: l.drop i) (fun k=>S k∨(w.heap.size≤k∧k < W.heap.size)):=fun W hW=>by
   refine Rep.own0_at HBD.out Rep.len_ins.symm hGn hG63 (by rw [hW];exact setRow_heap _ w.heap.size _ _ 81 (0,0) (setRow_heap _ w.heap.size _ _ 81 (0,0) (heap_alloc_new w.drew _))) ?_ (.inr ⟨Nat.le_refl _,by rw [hW];simp⟩) (hfrow.out _)
   simp only [List.length_append,List.length_take,List.length_drop];rw [hn3];omega
 have htch:∀ (W:World),W.heap=(((w.drew.alloc (.cells (cs.take (i * 3)++Z++TL).toArray 81)).setRow w.heap.size R1.toArray).setRow w.heap.size ((cs.take (i * 3)++(cx++cs.drop (i * 3)))++TL).toArray).heap→W.os=w.os→W.tape=w.tape→W.output=w.output→Touch S w W:=fun W hW h1 h2 h3=>⟨h1,h2,h3,by rw [hW];simp,fun k hk q=>by
   rw [hW,setRow_other _ _ k _ rJ,setRow_other _ _ k _ rJ];exact heap_alloc_old w.drew _ hk⟩
 have HE:=yD hend
 have HT:=yD htch
 clear hend htch hfin
 generalize hROW:(cs.take (i * 3)++Z++TL).toArray=ROW at *
 generalize hROW2:((cs.take (i * 3)++(cx++cs.drop (i * 3)))++TL).toArray=ROW2 at *
 generalize hRR:R1.toArray=RR at *
 have hG64:G≤9223372036854775807:=hG63
 have hcp1':=hcp1 ((w.alloc (.cells ROW 81)).drew) rfl
 have hcp2':=hcp2 (((w.alloc (.cells ROW 81)).drew.setRow w.heap.size RR).drew) rfl
 have hGi:¬ (G=i):=rJ
 have hGi1:¬ (G=i + 1):=rJ
 have hGi2:i≤G:=rJ
 have hil:i≤l.length:=Nat.le_of_lt hi
 have hz1:¬ ((i:Int)=(l.length:Int)):=rJ
 have hz3:(cap:Int) < (l.length:Int) + 1:=rJ
 have hw1:IntKind.i64.wrap ((i:Int) + 1)=(i:Int) + 1:=mX
 have hw2:IntKind.i64.wrap ((l.length:Int) + 1)=(l.length:Int) + 1:=mX
 have hw3:IntKind.i64.wrap ((l.length:Int) + 1 - (i:Int))=(l.length:Int) + 1 - (i:Int):=mX
 have mixed:Tryz.prog.follows Departure.mixedOrders=true:=rA
 have hb1:(0:Int)≤(i:Int) + 1:=rJ
 have htn:((i:Int) + 1).toNat=i + 1:=rJ
 have hb3:(i:Int)≤(l.length:Int) + 1:=rJ
 have hb4:¬ (cap=i):=rJ
 have hb5:(i:Int) + 1≤(l.length:Int) + 1:=rJ
 have hb6:i + 1≤l.length + 1:=rJ
 have hb7:(i:Int)≤(l.length:Int):=rJ
 have hb8:(i:Int)≤(cap:Int):=rJ
 have hb9:i≤cap:=rJ
 clear h7 h5 h3 hcc hvc hvb hx h1x h1c hfrow HBD hR1 hR1l hROW hROW2 hRR hZV hinf0 hz0 hs0 hby0 hsz
 go_enter Tryz.func177,Tryz.ntmps177
 go_wp2_with (first
   | (at_builtin;refine Lib.wpList_append_run _ rfl _ _ _ _ rfl _ _ rfl rfl _ _ (hrz _) ?_)
   | (simp only [hcp1']))
 go_region_law_o (refine step_copy_runI rfl _ _ 75 75 rfl _ _ nW nW (hcp2' _ _ _) ?_)
 go_wp2
 go_ret
 exact ⟨_,rfl,HE.out _ rfl,HT.out _ rfl rfl rfl rfl⟩
theorem kEu {w:World} {v:Value} {l:List kS} {i vb:Nat} {cx:List Value} {x:kS} {S:Nat→Prop} (hl:Rep.kQ 81 kF w v l S) (hlen:l.length≤16777216) (hvb:w.heap[vb]?=some (.cells cx.toArray 81 (0,0))) (hvS:¬ S vb) (hx:kF.is true w cx x (fun _=>False)) (hbx:kF.bdd Big x) (hi:i≤l.length) :
    Calls Tryz.prog 177 #[v,.int .i64 i,.slice (some ⟨vb,0,none⟩) 1 1] w fun e w'=>∃ v',e=.returned v'∧Rep.kQ 81 kF w' v' (l.take i++x :: l.drop i) (fun k=>S k∨(w.heap.size≤k∧k < w'.heap.size))∧Touch S w w':=by
 by_cases he:i=l.length
 · exact kIo hl hlen hvb hvS hx hbx he
 obtain ⟨b,cap,rfl,h1,h2,h3,h4⟩:=Rep.kCj hl (i:=i) rJ
 by_cases hr:l.length + 1≤cap
 · exact kGw hl hlen hvb hvS hx hbx rJ hr
 exact kHh hl hlen hvb hvS hx hbx rJ rJ
end Go.Proofs.YtomdenfcfbkfbaaGreat

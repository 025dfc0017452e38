/-
  Pending interests, equal.
  Texts, names and numbers compared by the laws.
  Pending interests compared by the laws.
-/
import Derived.Test.YtpgnbablhdknnaaLibEq
set_option linter.unusedVariables false
set_option linter.unusedSimpArgs false
set_option linter.unnecessarySimpa false
set_option maxRecDepth 100000
set_option maxHeartbeats 4000000
namespace Go.Proofs.Ytpgnbablhdknnaa
open Go.RowKit
def kAo (x y:kD):Bool:=!((x.2.2 != y.2.2) || (!eqN x.1 y.1 || ((x.2.1.length:Int) != y.2.1.length)))
theorem vPendS_no {x y:kD} (h:kAo x y=false):x≠y:=by
 rintro rfl
 simp [kAo,eqN] at h
theorem kGs {x y:kD} (h:kAo x y=true):x.2.1.length=y.2.1.length∧(x.2.1=y.2.1→x=y):=by
 obtain ⟨x0,x1,x2⟩:=x
 obtain ⟨y0,y1,y2⟩:=y
 simp [kAo,eqN] at h
 obtain ⟨h0,h1,h2⟩:=h
 subst h0 h1
 exact ⟨by show x1.length=y1.length;omega,fun q=>by simp at q;rw [q]⟩
def kGt (x y:kD):Bool:=(eqN x.1 y.1 && decide (x.2.1=y.2.1)) && (x.2.2==y.2.2)
theorem vPend_eq (x y:kD):kGt x y=decide (x=y):=by
 obtain ⟨x0,x1,x2⟩:=x
 obtain ⟨y0,y1,y2⟩:=y
 rw [Bool.eq_iff_iff]
 simp [kGt,eqN,and_assoc]
theorem kDe {w:World} {cx:List Value} {x:kD} (hx:kE.raw w cx x) {cy:List Value} {y:kD} (hy:kE.raw w cy y) :
    Calls Try.prog 57 #[.agg cx.toArray,.agg cy.toArray] w fun e w'=>e=.returned (.bool (kGt x y))∧Below w.heap.size w w':=by
 have Hx:=yD hx
 obtain ⟨fxv0,fxv1,rfl,fx_0,fx_1,fx_2,fx_3⟩:=kM hx
 obtain ⟨fxa0,fxp0,rfl,fxl0⟩:=Rep.sl fx_1
 obtain ⟨fxa1,fxp1,rfl,fxl1⟩:=Rep.sl fx_2
 have Hy:=yD hy
 obtain ⟨fyv0,fyv1,rfl,fy_0,fy_1,fy_2,fy_3⟩:=kM hy
 obtain ⟨fya0,fyp0,rfl,fyl0⟩:=Rep.sl fy_1
 obtain ⟨fya1,fyp1,rfl,fyl1⟩:=Rep.sl fy_2
 go_enter Try.func57,Try.ntmps57
 go_upto_region 1 with fail
 generalize hwB:World.alloc (World.alloc w _) _=wB
 have EB:Below w.heap.size w wB:=by rw [← hwB];exact bB
 have K2_0:wB.cell? ⟨w.heap.size,0,none⟩=some (.slice fxa0 (x.1).length fxp0):=dX
 have K2_1:wB.cell? ⟨w.heap.size,1,none⟩=some (.slice fxa1 (x.2.1).length fxp1):=dX
 have K2_2:wB.cell? ⟨w.heap.size,2,none⟩=some (.int .i64 x.2.2):=dX
 have K3_0:wB.cell? ⟨w.heap.size + 1,0,none⟩=some (.slice fya0 (y.1).length fyp0):=dX
 have K3_1:wB.cell? ⟨w.heap.size + 1,1,none⟩=some (.slice fya1 (y.2.1).length fyp1):=dX
 have K3_2:wB.cell? ⟨w.heap.size + 1,2,none⟩=some (.int .i64 y.2.2):=dX
 clear hwB
 have FX:=yD (fun (W:World) (hW:Below wB.heap.size wB W)=>cLs6 hW K2_0 K2_1 K2_2 K3_0 K3_1 K3_2)
 refine kS (fun W=>Below wB.heap.size wB W) [true,true,true,true,false,true,true,true,true,true,false,true,true,true,true,true,true,true,true,true] bR ?_
 intro wS HS
 iterate 4
  all_goals refine wkR ?_
 all_goals first | refine wkB (yN (Rep.raw.below fx_0 (tQ EB HS)) (Rep.raw.below fy_0 (tQ EB HS))) (fun wS1 HS=>?_) | refine wkR ?_
 all_goals (have hg5:=True.intro;first|(refine wkG (fun b hg5=>?_);cases b;all_goals first | exact Bool.noConfusion hg5 | simp only [zU,zV] at hg5 | skip) | refine wkR ?_)
 all_goals refine wkP ?_
 iterate 4
  all_goals refine wkR ?_
 all_goals first | refine wkB (kEv (Rep.raw.below fx_2 (tQ EB HS)) (Rep.raw.below fy_2 (tQ EB HS))) (fun wS1 HS=>?_) | refine wkR ?_
 all_goals refine wkR ?_
 all_goals (have hg12:=True.intro;first|(refine wkG (fun b hg12=>?_);cases b;all_goals first | exact Bool.noConfusion hg12 | simp only [zU,zV] at hg12 | skip) | refine wkR ?_)
 all_goals refine wkP ?_
 iterate 6
  all_goals refine wkR ?_
 all_goals (have hg19:=True.intro;first|(refine wkG (fun b hg19=>?_);cases b;all_goals first | exact Bool.noConfusion hg19 | simp only [zU,zV] at hg19 | skip) | refine wkR ?_)
 all_goals refine wkP ?_
 all_goals refine kN ?_
 all_goals have EG:=(tQ EB HS)
 all_goals first
   | (have HT:=yD (show (kGt x y)=false by simp only [kGt,Bool.not_true,Bool.not_false,Bool.and_true,Bool.true_and,Bool.and_false,Bool.false_and,Bool.or_true,Bool.true_or,Bool.or_false,Bool.false_or,Bool.not_not,hg5,hg12,hg19]);go_wp2;go_ret;exact ⟨kP HT.out.symm,EG⟩)
   | (have HT:=yD (show (kGt x y)=true by simp only [kGt,Bool.not_true,Bool.not_false,Bool.and_true,Bool.true_and,Bool.and_false,Bool.false_and,Bool.or_true,Bool.true_or,Bool.or_false,Bool.false_or,Bool.not_not,hg5,hg12,hg19]);go_wp2;go_ret;exact ⟨kP HT.out.symm,EG⟩)
theorem zW:jG Try.prog 57:=jr Try.func57 gP gP
theorem kDy {w:World} {va vb:Value} {a b:List kD} (a_0:(Rep.slice 67 kE).raw w [va] a) (b_0:(Rep.slice 67 kE).raw w [vb] b) :
    Calls Try.prog 19 #[va,vb] w fun e w'=>e=.returned (.bool (decide (a=b)))∧Below w.heap.size w w':=by
 go_enter Try.func19,Try.ntmps19
 go_wp2_with fail
 refine (zl zW a_0 b_0 ?_).mono ?_
 · intro wr hb cs ds x y hx hy
   have:=kDe hx hy
   rw [vPend_eq] at this
   exact this
 rintro e w1 ⟨rfl,hb1⟩
 go_wp2
 go_ret
 exact ⟨rfl,hb1⟩
theorem kGf {w:World} {va vb:Value} {a b:List ByteArray} (a_0:(Rep.slice 9 Rep.str).raw w [va] a) (b_0:(Rep.slice 9 Rep.str).raw w [vb] b) :
    Calls Try.prog 84 #[va,vb] w fun e w'=>e=.returned (.bool (eqN a b))∧Below w.heap.size w w':=by
 obtain ⟨aa,capa,rfl,la⟩:=Rep.sl a_0
 obtain ⟨ab,capb,rfl,lb⟩:=Rep.sl b_0
 go_enter Try.func84,Try.ntmps84
 by_cases hl:a.length=b.length
 case neg =>
  have HT:=yD (show eqN a b=false by unfold eqN;simp;rintro rfl;exact hl rfl)
  have hz:((a.length:Int) != b.length)=true:=gQ
  have hzn:(a.length != b.length)=true:=gB
  go_wp2
  go_ret
  exact ⟨kP HT.out.symm,bR⟩
 have hz:((a.length:Int) != b.length)=false:=gQ
 have hzn:(a.length != b.length)=false:=gB
 have HL:=yD hl;clear hl
 go_wp2
 go_loopw [5] (fun i wr=>∃ k:Nat,k≤a.length∧i=.int .i64 k∧Hid (a.take k=b.take k)∧Below w.heap.size w wr) (fun i _=>a.length - (intOf i).toNat)
 case atStart=>exact ⟨0,Nat.zero_le _,rfl,yD rfl,bR⟩
 obtain ⟨k,hk,rfl,HN,hbel⟩:=hrel
 by_cases hlt:k < a.length
 · have hlt2:k < b.length:=fP
   obtain ⟨ba,offa,rfl,c0,hr,A0⟩:=Rep.get1 (a_0.below hbel) hlt rfl
   obtain ⟨bb,offb,rfl,d0,hr2,B0⟩:=Rep.get1 (b_0.below hbel) hlt2 rfl
   obtain ⟨he,_⟩:=Rep.yY hr
   obtain rfl:c0=_:=by simpa using he
   obtain ⟨he2,_⟩:=Rep.yY hr2
   obtain rfl:d0=_:=by simpa using he2
   clear he he2 hr hr2
   have hne:=fun q=>zn hlt hlt2 q
   have hnx:=fun q=>jw HN.out hlt hlt2 q
   generalize a[k]=x at *
   generalize b[k]=y at *
   have HD:=yD hne
   have HX:=yD hnx
   clear hne hnx
   go_wp2_with fail
   have FX:=yD (fun (W:World) (hW:Below wr.heap.size wr W)=>cLs2 hW A0 B0)
   refine kK (fun W=>Below wr.heap.size wr W) [true,true,true,true,true,true,true,true,true] gP gP bX (bR.drew) ?_
   intro wS HS
   iterate 9
    all_goals refine wkR ?_
   all_goals refine kN ?_
   have EG:=(tQ hbel HS)
   cases hz:(x.toList==y.toList)
   · have HT:=yD (show eqN a b=false by
       rw [kFp] at hz;simp at hz;unfold eqN;simp;exact HD.out hz)
     clear HD HX
     go_wp2
     go_ret
     exact ⟨kP HT.out.symm,EG⟩
   have HT:=yD (HX.out (by rw [kFp] at hz;simpa using hz))
   clear HD HX
   go_wp2
   go_roundw
   case rel=>exact ⟨k + 1,by omega,by go_num,HT,EG⟩
   simp [intOf];omega
 have HT:=yD (show eqN a b=true by unfold eqN;simp;exact zF HN.out hlt HL.out)
 go_wp2
 go_ret
 exact ⟨kP HT.out.symm,hbel⟩
theorem kHi {w:World} {ca:List Value} {a:kw} (ha:kZ.raw w ca a) {cb:List Value} {b:kw} (hb:kZ.raw w cb b) :
    Calls Try.prog 54 #[.agg ca.toArray,.agg cb.toArray] w fun e w'=>e=.returned (.bool (eqN a b))∧Below w.heap.size w w':=by
 obtain ⟨av,rfl,a_0⟩:=kY ha
 obtain ⟨bv,rfl,b_0⟩:=kY hb
 obtain ⟨aa,capa,rfl,la⟩:=Rep.sl a_0
 obtain ⟨ab,capb,rfl,lb⟩:=Rep.sl b_0
 go_enter Try.func54,Try.ntmps54
 go_wp2_with fail
 refine (kGf (a_0.below bB) (b_0.below bB)).mono ?_
 rintro e w1 ⟨rfl,hb1⟩
 have EF:Below w.heap.size w w1:=Below.trans bB (hb1.mono gQ)
 clear hb1
 go_wp2
 go_ret
 exact ⟨rfl,EF⟩
theorem jg {w:World} {va vb:Value} {a b:List kD} (a_0:(Rep.slice 67 kE).raw w [va] a) (b_0:(Rep.slice 67 kE).raw w [vb] b) :
    Calls Try.prog 16 #[va,vb] w fun e w'=>e=.returned (.bool (decide (a=b)))∧Below w.heap.size w w':=by
 obtain ⟨aa,capa,rfl,la⟩:=Rep.sl a_0
 obtain ⟨ab,capb,rfl,lb⟩:=Rep.sl b_0
 go_enter Try.func16,Try.ntmps16
 by_cases hl:a.length=b.length
 case neg =>
  have HT:=yD (show decide (a=b)=false by simp;rintro rfl;exact hl rfl)
  have hz:((a.length:Int) != b.length)=true:=gQ
  have hzn:(a.length != b.length)=true:=gB
  go_wp2
  go_ret
  exact ⟨kP HT.out.symm,bR⟩
 have hz:((a.length:Int) != b.length)=false:=gQ
 have hzn:(a.length != b.length)=false:=gB
 have HL:=yD hl;clear hl
 go_wp2
 go_loopw [5] (fun i wr=>∃ k:Nat,k≤a.length∧i=.int .i64 k∧Hid (a.take k=b.take k)∧Below w.heap.size w wr) (fun i _=>a.length - (intOf i).toNat)
 case atStart=>exact ⟨0,Nat.zero_le _,rfl,yD rfl,bR⟩
 obtain ⟨k,hk,rfl,HN,hbel⟩:=hrel
 by_cases hlt:k < a.length
 · have hlt2:k < b.length:=fP
   obtain ⟨pb,po,rfl,pc0,pc1,pc2,pr,Ap0,Ap1,Ap2⟩:=Rep.yP (a_0.below hbel) (i:=k) gV rfl
   obtain ⟨qb,qo,rfl,qc0,qc1,qc2,qr,Aq0,Aq1,Aq2⟩:=Rep.yP (b_0.below hbel) (i:=k) gV rfl
   have hne:=fun q=>zn hlt hlt2 q
   have hnx:=fun q=>jw HN.out hlt hlt2 q
   have hkI:=Int.ofNat_lt.2 hlt
   have hkJ:=Int.ofNat_lt.2 hlt2
   have hk0:=Int.natCast_nonneg k
   generalize a[k]=x at *
   generalize b[k]=y at *
   have HD:Hid (kAo x y=false→decide (a=b)=false):=yD (fun q=>by simpa using hne (vPendS_no q))
   have HE:Hid (¬ x.2.1=y.2.1→decide (a=b)=false):=yD (fun q=>by simpa using hne (fun e=>q (by rw [e])))
   have HX:Hid (kAo x y=true→x.2.1.length=y.2.1.length∧(x.2.1=y.2.1→a.take (k + 1)=b.take (k + 1))):=yD (fun q=>⟨(kGs q).1,fun e=>hnx ((kGs q).2 e)⟩)
   clear hne hnx
   obtain ⟨pv0,pv1,phe,p_0,p_1,p_2,p_3⟩:=kM pr
   simp only [List.cons.injEq,and_true] at phe
   obtain ⟨rfl,rfl,rfl⟩:=phe
   obtain ⟨pa0,pp0,rfl,pl0⟩:=Rep.sl p_1
   obtain ⟨pa1,pp1,rfl,pl1⟩:=Rep.sl p_2
   obtain ⟨qv0,qv1,qhe,q_0,q_1,q_2,q_3⟩:=kM qr
   simp only [List.cons.injEq,and_true] at qhe
   obtain ⟨rfl,rfl,rfl⟩:=qhe
   obtain ⟨qa0,qp0,rfl,ql0⟩:=Rep.sl q_1
   obtain ⟨qa1,qp1,rfl,ql1⟩:=Rep.sl q_2
   go_upto_region 6 with fail
   have FX:=yD (fun (W:World) (hW:Below wr.heap.size wr W)=>cLs6 hW Ap0 Ap1 Ap2 Aq0 Aq1 Aq2)
   refine kK (fun W=>Below wr.heap.size wr W) [true,true,true,true,true,true,true,true,true,true,true,true,true,true,true,true,true,true,true,true,true,true,false,true,true,true,true,true,true,true,true,true,true,true,true,true,true,true,true,true] gP gP bX (bR.drew) ?_
   intro wS HS
   iterate 11
    all_goals refine wkR ?_
   all_goals (have hg11:=True.intro;first|(refine wkG (fun b hg11=>?_);cases b;all_goals first | exact Bool.noConfusion hg11 | simp only [zU,zV] at hg11 | skip) | refine wkR ?_)
   all_goals refine wkP ?_
   iterate 10
    all_goals refine wkR ?_
   all_goals first | refine wkB (kHi (Rep.raw.below p_0 HS) (Rep.raw.below q_0 HS)) (fun wS1 HS=>?_) | refine wkR ?_
   all_goals refine wkR ?_
   all_goals refine wkR ?_
   all_goals (have hg25:=True.intro;first|(refine wkG (fun b hg25=>?_);cases b;all_goals first | exact Bool.noConfusion hg25 | simp only [zU,zV] at hg25 | skip) | refine wkR ?_)
   all_goals refine wkP ?_
   iterate 13
    all_goals refine wkR ?_
   all_goals (have hg39:=True.intro;first|(refine wkG (fun b hg39=>?_);cases b;all_goals first | exact Bool.noConfusion hg39 | simp only [zU,zV] at hg39 | skip) | refine wkR ?_)
   all_goals refine wkP ?_
   all_goals refine kN ?_
   all_goals have EG:=(tQ hbel HS)
   all_goals first
     | (have HT:=yD (HD.out (show kAo x y=false by simp only [kAo,Bool.not_true,Bool.not_false,Bool.and_true,Bool.true_and,Bool.and_false,Bool.false_and,Bool.or_true,Bool.true_or,Bool.or_false,Bool.false_or,Bool.not_not,hg11,hg25,hg39]));clear HD HE HX;go_wp2;go_ret;exact ⟨kP HT.out.symm,EG⟩)
     | have HT:=yD (HX.out (show kAo x y=true by simp only [kAo,Bool.not_true,Bool.not_false,Bool.and_true,Bool.true_and,Bool.and_false,Bool.false_and,Bool.or_true,Bool.true_or,Bool.or_false,Bool.false_or,Bool.not_not,hg11,hg25,hg39]))
   all_goals try clear HD HX
   have Cp3:=Ap1
   have Cq3:=Aq1
   have pn:=p_2
   have qn:=q_2
   have HLEN:=yD HT.out.1
   clear hg11 hg25 hg39
   have HTN:=yD HT.out.2
   clear HT
   generalize x.2.1=P at *
   generalize y.2.1=Q at *
   clear HN
   go_wp2
   go_loopw [6] (fun i wq=>∃ j:Nat,j≤P.length∧i=.int .i64 j∧Hid (P.take j=Q.take j)∧Below wr.heap.size wr wq) (fun i _=>P.length - (intOf i).toNat)
   case atStart=>exact ⟨0,Nat.zero_le _,rfl,yD rfl,HS⟩
   obtain ⟨j,hj,rfl,HM,hq⟩:=hrel
   have B3:=cL hq Cp3
   have D3:=cL hq Cq3
   by_cases hjl:j < P.length
   · have hj2:j < Q.length:=by have:=HLEN.out;omega
     obtain ⟨nb,no,rfl,nc0,nc1,nc2,nr,An0,An1,An2⟩:=Rep.yP (pn.below hq) hjl rfl
     obtain ⟨mb,mo,rfl,mc0,mc1,mc2,mr,Am0,Am1,Am2⟩:=Rep.yP (qn.below hq) hj2 rfl
     obtain ⟨nhe,_⟩:=ko nr
     obtain ⟨mhe,_⟩:=ko mr
     simp only [List.cons.injEq,and_true] at nhe mhe
     obtain ⟨rfl,rfl,rfl⟩:=nhe
     obtain ⟨rfl,rfl,rfl⟩:=mhe
     clear nr mr
     have hjI:=Int.ofNat_lt.2 hjl
     have hjJ:=Int.ofNat_lt.2 hj2
     have hj0:=Int.natCast_nonneg j
     have hne:=fun q=>zn hjl hj2 q
     have hnx:=fun q=>jw HM.out hjl hj2 q
     generalize P[j]=u at *
     generalize Q[j]=v at *
     have HD2:Hid (vReq u v=false→decide (a=b)=false):=yD (fun q=>HE.out (hne (by rw [kJa] at q;simpa using q)))
     have HX2:Hid (vReq u v=true→P.take (j + 1)=Q.take (j + 1)):=yD (fun q=>hnx (by rw [kJa] at q;simpa using q))
     clear hne hnx
     obtain ⟨u0,u1,u2⟩:=u
     obtain ⟨v0,v1,v2⟩:=v
     have hcase:(u0=v0∧u1=v1∧u2=v2)∨(u0≠v0)∨(u0=v0∧u1≠v1)∨(u0=v0∧u1=v1∧u2≠v2):=gV
     rcases hcase with ⟨rfl,rfl,rfl⟩ | e|⟨rfl,e⟩|⟨rfl,rfl,e⟩
     all_goals go_upto_region 11 with fail
     all_goals refine kK (fun W=>Below wr.heap.size wr W) [true,true,true,true,true,true,true,true,true,true,true,true,true,true,true,true,true] gP gP bX (bR.drew) ?_
     all_goals intro wS HS
     iterate 4
      all_goals refine wkR ?_
     iterate 2
      all_goals first|(refine kG rfl HS ?_)|(refine kJ (v:=?_) rfl (fun W hW=>?_) ?_;rotate_left;(· have A_B3:=cL hW B3;have A_D3:=cL hW D3;have A_An0:=cL hW An0;have A_An1:=cL hW An1;have A_An2:=cL hW An2;have A_Am0:=cL hW Am0;have A_Am1:=cL hW Am1;have A_Am2:=cL hW Am2;clear hW;go_simp;try with_reducible rfl))
      all_goals refine wkP ?_
      all_goals refine wkR ?_
      all_goals refine wkR ?_
     iterate 2
      all_goals refine wkR ?_
      all_goals refine wkR ?_
      all_goals first|(refine kG rfl HS ?_)|(refine kJ (v:=?_) rfl (fun W hW=>?_) ?_;rotate_left;(· have A_B3:=cL hW B3;have A_D3:=cL hW D3;have A_An0:=cL hW An0;have A_An1:=cL hW An1;have A_An2:=cL hW An2;have A_Am0:=cL hW Am0;have A_Am1:=cL hW Am1;have A_Am2:=cL hW Am2;clear hW;go_simp;try with_reducible rfl))
      all_goals refine wkP ?_
     all_goals (have hg16:=True.intro;first|(refine wkG (fun b hg16=>?_);cases b;all_goals first | exact Bool.noConfusion hg16 | simp only [zU,zV] at hg16 | skip) | refine wkR ?_)
     all_goals refine wkP ?_
     all_goals refine kN ?_
     all_goals have EQ:=(tQ hq HS)
     all_goals first
       | (have HT:=yD (HD2.out (by first|(simp [vReq,e];done)|(simp [vReq];done)));clear HD2 HX2;have EG:=(tQ hbel EQ);go_wp2;go_ret;exact ⟨kP HT.out.symm,EG⟩)
       | (have HT:=yD (HX2.out (by first|(simp [vReq];done)));clear HD2 HX2;go_wp2;go_roundw;(case rel=>exact ⟨j + 1,by omega,by go_num,HT,EQ⟩);(case measure=>simp [intOf];omega))
   have HT:=yD (HTN.out (zF HM.out hjl HLEN.out))
   have EG:=(tQ hbel hq)
   go_wp2
   go_roundw
   case rel=>exact ⟨k + 1,by omega,by go_num,HT,EG⟩
   simp [intOf];omega
 have HT:=yD (show decide (a=b)=true by simp;exact zF HN.out hlt HL.out)
 go_wp2
 go_ret
 exact ⟨kP HT.out.symm,hbel⟩
end Go.Proofs.Ytpgnbablhdknnaa

/-
  Whether a name is pending.
  Lists of pending interests that are valid: the program.
-/
import Derived.Test.YtpgnbablhdknnaaVPend
set_option linter.unusedVariables false
set_option linter.unusedSimpArgs false
set_option linter.unnecessarySimpa false
set_option maxRecDepth 100000
set_option maxHeartbeats 4000000
namespace Go.Proofs.Ytpgnbablhdknnaa
open Go.RowKit
theorem kFb {w:World} {vl:Value} {l:List kD} (hl:(Rep.slice 67 kE).raw w [vl] l) {cn:List Value} {n:kw} (hn:kZ.raw w cn n) :
    Calls Try.prog 23 #[vl,.agg cn.toArray] w fun e w'=>e=.returned (.bool (decide (0≤idxOf (kR n) l)))∧Below w.heap.size w w':=by
 have HL:=yD hl
 have HN:=yD hn
 obtain ⟨la,lp,rfl,ll⟩:=Rep.sl hl
 obtain ⟨av,rfl,a_0⟩:=kY hn
 obtain ⟨na,np,rfl,_⟩:=Rep.sl a_0
 clear hl hn a_0
 go_enter Try.func23,Try.ntmps23
 go_wp2_with fail
 refine (yA (HL.out.below bB) (HN.out.below bB)).mono ?_
 rintro e w1 ⟨rfl,hb1⟩
 have EF:Below w.heap.size w w1:=Below.trans bB (hb1.mono gW)
 clear hb1
 go_wp2
 go_ret
 exact ⟨kP gW,EF⟩
theorem zD {w:World} {vl:Value} {l:List kD} (hl:(Rep.slice 67 kE).raw w [vl] l) {cn:List Value} {n:kw} (hn:kZ.raw w cn n) :
    Calls Try.prog 22 #[vl,.agg cn.toArray] w fun e w'=>e=.returned (.bool (decide (0≤idxOf (kR n) l)))∧Below w.heap.size w w':=by
 have HL:=yD hl
 have HN:=yD hn
 obtain ⟨la,lp,rfl,ll⟩:=Rep.sl hl
 obtain ⟨av,rfl,a_0⟩:=kY hn
 obtain ⟨na,np,rfl,_⟩:=Rep.sl a_0
 clear hl hn a_0
 go_enter Try.func22,Try.ntmps22
 go_wp2_with fail
 refine (ji (HL.out.below bB) (HN.out.below bB)).mono ?_
 rintro e w1 ⟨rfl,hb1⟩
 have EF:Below w.heap.size w w1:=Below.trans bB (hb1.mono gW)
 clear hb1
 go_wp2
 go_ret
 exact ⟨kP gW,EF⟩
def zK (l:List kD) (k:Nat) (x:kD):Bool:=!((((!yX x.1 || ((x.1.length:Int)==0)) || ((x.2.1.length:Int)==0)) || !inR x.2.2 0 100000) || decide (idxOf (kR x.1) (l.take k) ≥ 0))
theorem okPendI_no {l:List kD} {k:Nat} {x:kD} (h:zK l k x=false):yC l k x=false:=by
 unfold zK at h;unfold yC
 cases hz:((x.2.1.length:Int)==0)
 · rw [hz] at h
   generalize yX x.1=b1 at *;generalize ((x.1.length:Int)==0)=b2 at *;generalize inR x.2.2 0 100000=b3 at *;generalize decide (idxOf (kR x.1) (l.take k) ≥ 0)=b4 at *;generalize kCa x.2.1=b5 at *
   revert h;cases b1 <;> cases b2 <;> cases b3 <;> cases b4 <;> cases b5 <;> decide
 have e:kCa x.2.1=false:=by
  have h0:x.2.1.length=0:=by have:=eq_of_beq hz;omega
  unfold kCa;rw [h0];rfl
 rw [e]
 generalize yX x.1=b1 at *;generalize ((x.1.length:Int)==0)=b2 at *;generalize inR x.2.2 0 100000=b3 at *;generalize decide (idxOf (kR x.1) (l.take k) ≥ 0)=b4 at *
 cases b1 <;> cases b2 <;> cases b3 <;> cases b4 <;> decide
theorem kCo {l:List kD} {k:Nat} {x:kD} (h:zK l k x=true):yC l k x=kCa x.2.1∧0 < x.2.1.length:=by
 unfold zK at h;unfold yC
 have hz:0 < x.2.1.length:=by
  cases hz:((x.2.1.length:Int)==0)
  · simp at hz;exact List.length_pos_iff.2 hz
  rw [hz] at h;simp at h
 refine ⟨?_,hz⟩
 generalize yX x.1=b1 at *;generalize ((x.1.length:Int)==0)=b2 at *;generalize inR x.2.2 0 100000=b3 at *;generalize decide (idxOf (kR x.1) (l.take k) ≥ 0)=b4 at *;generalize kCa x.2.1=b5 at *;generalize ((x.2.1.length:Int)==0)=b6 at *
 revert h;cases b1 <;> cases b2 <;> cases b3 <;> cases b4 <;> cases b5 <;> cases b6 <;> decide
theorem vPends_yes {l:List kD} {k:Nat} (q:yH (fun j=>yC l j (l.getD j ([],[],0))) k=true) (h:¬ k < l.length) (hk:k≤l.length):yR l=decide ((l.length:Int)≤12):=by
 rw [kFs q h hk,Bool.eq_iff_iff];simp;omega
theorem yS {w:World} {vl:Value} {l:List kD} (hl:(Rep.slice 67 kE).raw w [vl] l) :
    Calls Try.prog 28 #[vl] w fun e w'=>e=.returned (.bool (yR l))∧Below w.heap.size w w':=by
 obtain ⟨al,pl,rfl,ll⟩:=Rep.sl hl
 have hcap:=Rep.kGn hl
 go_enter Try.func28,Try.ntmps28
 go_wp2
 go_loopw [9] (fun i wr=>∃ k:Nat,k≤l.length∧i=.int .i64 k∧Hid (yH (fun j=>yC l j (l.getD j ([],[],0))) k=true)∧Below w.heap.size w wr) (fun i _=>l.length - (intOf i).toNat)
 case atStart=>exact ⟨0,Nat.zero_le _,rfl,yD rfl,bR⟩
 obtain ⟨k,hk,rfl,HN,hbel⟩:=hrel
 by_cases hlt:k < l.length
 · have HTK:=yD (Rep.take_raw (hl.below hbel) hk)
   have hb:=fun q=>kGr hlt q
   have hxx:=fun q=>kFr hlt q HN.out
   obtain ⟨qb,qo,rfl,qc0,qc1,qc2,qr,Aq0,Aq1,Aq2⟩:=Rep.yP (hl.below hbel) (i:=k) gV rfl
   generalize l[k]=x at *
   have HB:Hid (zK l k x=false→yR l=false):=yD (fun q=>hb (okPendI_no q))
   have HX:Hid (zK l k x=true→0 < x.2.1.length∧(kCa x.2.1=false→yR l=false)∧(kCa x.2.1=true→yH (fun j=>yC l j (l.getD j ([],[],0))) (k + 1)=true)):=yD (fun q=>⟨(kCo q).2,fun p=>hb ((kCo q).1.trans p),fun p=>hxx ((kCo q).1.trans p)⟩)
   clear hb hxx
   obtain ⟨qv0,qv1,qhe,q_0,q_1,q_2,q_3⟩:=kM qr
   simp only [List.cons.injEq,and_true] at qhe
   obtain ⟨rfl,rfl,rfl⟩:=qhe
   obtain ⟨qa0,qp0,rfl,ql0⟩:=Rep.sl q_1
   obtain ⟨qa1,qp1,rfl,ql1⟩:=Rep.sl q_2
   have hkI:=Int.ofNat_lt.2 hlt
   have hk0:=Int.natCast_nonneg k
   have hkc:(k:Int)≤(pl:Int):=gV
   have hkd:k≤pl:=gV
   go_upto_region 4 with fail
   generalize hwC:World.alloc wr _=wC
   have EC:Below wr.heap.size wr wC:=dI
   have M0:wC.cell? ⟨wr.heap.size,0,none⟩=some (.slice qa0 x.1.length qp0):=dY
   have M1:wC.cell? ⟨wr.heap.size,1,none⟩=some (.slice qa1 x.2.1.length qp1):=dY
   have M2:wC.cell? ⟨wr.heap.size,2,none⟩=some (.int .i64 x.2.2):=dY
   clear hwC
   have FX:=yD (fun (W:World) (hW:Below wC.heap.size wC W)=>cLs3 hW M0 M1 M2)
   refine kK (fun W=>Below wC.heap.size wC W) [true,true,false,true,true,true,true,true,true,true,true,true,true,true,true,true,true,true,true,true,false,true,true,true,true,true,true,true,true,false,true,true] gP gP bX (bR.drew) ?_
   intro wS HS
   all_goals refine wkR ?_
   all_goals refine wkR ?_
   all_goals first | refine wkB (kBz (Rep.raw.below q_0 (tQ EC HS))) (fun wS1 HS=>?_) | refine wkR ?_
   all_goals refine wkR ?_
   all_goals (have hg4:=True.intro;first|(refine wkG (fun b hg4=>?_);cases b;all_goals first | exact Bool.noConfusion hg4 | simp only [zU,zV] at hg4 | skip) | refine wkR ?_)
   all_goals refine wkP ?_
   iterate 6
    all_goals refine wkR ?_
   all_goals (have hg11:=True.intro;first|(refine wkG (fun b hg11=>?_);cases b;all_goals first | exact Bool.noConfusion hg11 | simp only [zU,zV] at hg11 | skip) | refine wkR ?_)
   all_goals refine wkP ?_
   iterate 5
    all_goals refine wkR ?_
   all_goals (have hg17:=True.intro;first|(refine wkG (fun b hg17=>?_);cases b;all_goals first | exact Bool.noConfusion hg17 | simp only [zU,zV] at hg17 | skip) | refine wkR ?_)
   all_goals refine wkP ?_
   all_goals refine wkR ?_
   all_goals refine wkR ?_
   all_goals first | refine wkC (jM) ?_ | refine wkR ?_
   all_goals refine wkR ?_
   all_goals refine wkR ?_
   all_goals (have hg23:=True.intro;first|(refine wkG (fun b hg23=>?_);cases b;all_goals first | exact Bool.noConfusion hg23 | simp only [zU,zV] at hg23 | skip) | refine wkR ?_)
   all_goals refine wkP ?_
   iterate 5
    all_goals refine wkR ?_
   all_goals first | refine wkB (ji (Rep.raw.below HTK.out (tQ EC HS)) (Rep.raw.below q_0 (tQ EC HS))) (fun wS1 HS=>?_) | refine wkR ?_
   all_goals refine wkR ?_
   all_goals (have hg31:=True.intro;first|(refine wkG (fun b hg31=>?_);cases b;all_goals first | exact Bool.noConfusion hg31 | simp only [zU,zV] at hg31 | skip) | refine wkR ?_)
   all_goals refine wkP ?_
   all_goals refine kN ?_
   all_goals have EG:=(tQ hbel (tQ EC HS))
   all_goals first
     | (have HT:=yD (HB.out (show zK l k x=false by simp only [zK,Bool.not_true,Bool.not_false,Bool.and_true,Bool.true_and,Bool.and_false,Bool.false_and,Bool.or_true,Bool.true_or,Bool.or_false,Bool.false_or,Bool.not_not,ge_iff_le,hg4,hg11,hg17,hg23,hg31]));clear HB HX HN HTK;go_wp2;go_ret;exact ⟨kP HT.out.symm,EG⟩)
     | have HT:=yD (HX.out (show zK l k x=true by simp only [zK,Bool.not_true,Bool.not_false,Bool.and_true,Bool.true_and,Bool.and_false,Bool.false_and,Bool.or_true,Bool.true_or,Bool.or_false,Bool.false_or,Bool.not_not,ge_iff_le,hg4,hg11,hg17,hg23,hg31]))
   all_goals try clear HB HX
   have C1:=M1
   have pn:=yD q_2
   have HLP:=yD HT.out.1
   have HNO:=yD HT.out.2.1
   have HYES:=yD HT.out.2.2
   clear HT hg4 hg11 hg17 hg23 hg31 HN HTK
   generalize x.2.1=P at *
   have M1:=cL HS C1
   go_wp2
   clear M1
   go_loopw [49] (fun i wq=>∃ j:Nat,j≤P.length∧i=.int .i64 j∧Hid (yH (fun j=>kBy P j (P.getD j (0,0,0))) j=true)∧Below wC.heap.size wC wq) (fun i _=>P.length - (intOf i).toNat)
   case atStart=>exact ⟨0,Nat.zero_le _,rfl,yD rfl,HS⟩
   obtain ⟨j,hj,rfl,HM,hq⟩:=hrel
   replace C1:=cL hq C1
   by_cases hjl:j < P.length
   · have hjI:=Int.ofNat_lt.2 hjl
     have hj0:=Int.natCast_nonneg j
     obtain ⟨pb,po,rfl,pc0,pc1,pc2,pr,Ap0,Ap1,Ap2⟩:=Rep.yP (pn.out.below (tQ EC hq)) (i:=j) gV rfl
     have hb:=fun q=>HNO.out (vAsk_bad hjl q)
     have hxx:=fun q=>kIh hjl q HM.out
     by_cases h0:0 < j
     · obtain ⟨i,hi⟩:∃ i,j - 1=i:=⟨_,rfl⟩
       have hil:i < P.length:=gV
       have HO:=yD (kCv (l:=P) (x:=P[j]) h0 hi hil)
       have hsub:(j:Int) - 1=(i:Int):=gV
       obtain ⟨yb,yo,yE,yc0,yc1,yc2,yr,Ay0,Ay1,Ay2⟩:=Rep.yP (pn.out.below (tQ EC hq)) hil rfl
       simp only [Option.some.injEq,Addr.mk.injEq,and_true] at yE
       obtain ⟨rfl,rfl⟩:=yE
       generalize P[i]=u at *
       obtain ⟨yhe,y_0,y_1,y_2⟩:=ko yr
       simp only [List.cons.injEq,and_true] at yhe
       obtain ⟨rfl,rfl,rfl⟩:=yhe
       clear yr
       have hw:IntKind.i64.wrap (i:Int)=i:=IntWalk.i64_in _ gV
       have hi0:=Int.natCast_nonneg i
       have hi2:=Int.ofNat_lt.2 hil
       clear hi
       have hp:decide ((j:Int) > 0)=true:=gQ
       have hp2:decide (0 < j)=true:=gJ
       have hp3:(0:Int) < j:=gV
       generalize P[j]=y at *
       have HB:=yD hb;have HX:=yD hxx;clear hb hxx
       obtain ⟨phe,p_0,p_1,p_2⟩:=ko pr
       simp only [List.cons.injEq,and_true] at phe
       obtain ⟨rfl,rfl,rfl⟩:=phe
       go_upto_region 9 with fail
       generalize hwD:World.alloc wr _=wD
       have ED:Below wr.heap.size wr wD:=dM
       have N0:wD.cell? ⟨wr.heap.size,0,none⟩=some (.int .i64 y.1):=fA
       have N1:wD.cell? ⟨wr.heap.size,1,none⟩=some (.int .i64 y.2.1):=fA
       have N2:wD.cell? ⟨wr.heap.size,2,none⟩=some (.int .i64 y.2.2):=fA
       have D1:=cL ED C1
       replace Ay0:=cL ED Ay0
       clear hwD
       have FX:=yD (fun (W:World) (hW:Below wD.heap.size wD W)=>cLs5 hW D1 N0 N1 N2 Ay0)
       refine kK (fun W=>Below wD.heap.size wD W) [true,true,false,true,true,true,true,false,true,true,true,true,true,true,true,true,true,true,true,true,true,true,true,true,true,true] gP gP bX (bR.drew) ?_
       intro wS HS
       all_goals refine wkR ?_
       all_goals refine wkR ?_
       all_goals first | refine wkC (jM) ?_ | refine wkR ?_
       all_goals refine wkR ?_
       all_goals (have hg4:=True.intro;first|(refine wkG (fun b hg4=>?_);cases b;all_goals first | exact Bool.noConfusion hg4 | simp only [zU,zV] at hg4 | skip) | refine wkR ?_)
       all_goals refine wkP ?_
       all_goals refine wkR ?_
       all_goals refine wkR ?_
       all_goals first | refine wkC (jM) ?_ | refine wkR ?_
       all_goals refine wkR ?_
       all_goals refine wkR ?_
       all_goals (have hg10:=True.intro;first|(refine wkG (fun b hg10=>?_);cases b;all_goals first | exact Bool.noConfusion hg10 | simp only [zU,zV] at hg10 | skip) | refine wkR ?_)
       all_goals refine wkP ?_
       all_goals refine wkR ?_
       all_goals refine wkR ?_
       all_goals (have hg13:=True.intro;first|(refine wkG (fun b hg13=>?_);cases b;all_goals first | exact Bool.noConfusion hg13 | simp only [zU,zV] at hg13 | skip) | refine wkR ?_)
       all_goals refine wkP ?_
       iterate 11
        all_goals refine wkR ?_
       all_goals (have hg25:=True.intro;first|(refine wkG (fun b hg25=>?_);cases b;all_goals first | exact Bool.noConfusion hg25 | simp only [zU,zV] at hg25 | skip) | refine wkR ?_)
       all_goals refine wkP ?_
       all_goals refine kN ?_
       all_goals have EQ:=(tQ hq (tQ ED HS))
       all_goals first
         | (have HT:=yD (HB.out (show _=false by rw [HO.out];simp only [okA,Bool.not_true,Bool.not_false,Bool.and_true,Bool.true_and,Bool.and_false,Bool.false_and,Bool.or_true,Bool.true_or,Bool.or_false,Bool.false_or,Bool.not_not,ge_iff_le,hg4,hg10,hg13,hg25]));clear HB HX HM HO;have EG:=(tQ hbel (tQ EC EQ));go_wp2;go_ret;exact ⟨kP HT.out.symm,EG⟩)
         | (have HT:=yD (HX.out (show _=true by rw [HO.out];simp only [okA,Bool.not_true,Bool.not_false,Bool.and_true,Bool.true_and,Bool.and_false,Bool.false_and,Bool.or_true,Bool.true_or,Bool.or_false,Bool.false_or,Bool.not_not,ge_iff_le,hg4,hg10,hg13,hg25]));clear HB HX HM HO;go_wp2;go_roundw;(case rel=>exact ⟨j + 1,by omega,by go_num,HT,EQ⟩);(case measure=>simp [intOf];omega))
     have HO:=yD (kBo (l:=P) (x:=P[j]) h0)
     have hp:decide ((j:Int) > 0)=false:=gQ
     have hp2:decide (0 < j)=false:=gJ
     have hp3:¬ (0:Int) < j:=gV
     generalize P[j]=y at *
     have HB:=yD hb;have HX:=yD hxx;clear hb hxx
     obtain ⟨phe,p_0,p_1,p_2⟩:=ko pr
     simp only [List.cons.injEq,and_true] at phe
     obtain ⟨rfl,rfl,rfl⟩:=phe
     go_upto_region 9 with fail
     generalize hwD:World.alloc wr _=wD
     have ED:Below wr.heap.size wr wD:=dM
     have N0:wD.cell? ⟨wr.heap.size,0,none⟩=some (.int .i64 y.1):=fA
     have N1:wD.cell? ⟨wr.heap.size,1,none⟩=some (.int .i64 y.2.1):=fA
     have N2:wD.cell? ⟨wr.heap.size,2,none⟩=some (.int .i64 y.2.2):=fA
     have D1:=cL ED C1
     clear hwD
     have FX:=yD (fun (W:World) (hW:Below wD.heap.size wD W)=>zi hW D1 N0 N1 N2)
     refine kK (fun W=>Below wD.heap.size wD W) [true,true,false,true,true,true,true,false,true,true,true,true,true,true,true,true,true,true,true,true,true,true,true,true,true,true] gP gP bX (bR.drew) ?_
     intro wS HS
     all_goals refine wkR ?_
     all_goals refine wkR ?_
     all_goals first | refine wkC (jM) ?_ | refine wkR ?_
     all_goals refine wkR ?_
     all_goals (have hg4:=True.intro;first|(refine wkG (fun b hg4=>?_);cases b;all_goals first | exact Bool.noConfusion hg4 | simp only [zU,zV] at hg4 | skip) | refine wkR ?_)
     all_goals refine wkP ?_
     all_goals refine wkR ?_
     all_goals refine wkR ?_
     all_goals first | refine wkC (jM) ?_ | refine wkR ?_
     all_goals refine wkR ?_
     all_goals refine wkR ?_
     all_goals (have hg10:=True.intro;first|(refine wkG (fun b hg10=>?_);cases b;all_goals first | exact Bool.noConfusion hg10 | simp only [zU,zV] at hg10 | skip) | refine wkR ?_)
     all_goals refine wkP ?_
     all_goals refine wkR ?_
     all_goals refine wkR ?_
     all_goals (have hg13:=True.intro;first|(refine wkG (fun b hg13=>?_);cases b;all_goals first | exact Bool.noConfusion hg13 | simp only [zU,zV] at hg13 | skip) | refine wkR ?_)
     all_goals refine wkP ?_
     iterate 11
      all_goals refine wkR ?_
     all_goals (have hg25:=True.intro;first|(refine wkG (fun b hg25=>?_);cases b;all_goals first | exact Bool.noConfusion hg25 | simp only [zU,zV] at hg25 | skip) | refine wkR ?_)
     all_goals refine wkP ?_
     all_goals refine kN ?_
     all_goals have EQ:=(tQ hq (tQ ED HS))
     all_goals first
       | (have HT:=yD (HB.out (show _=false by rw [HO.out];simp only [okA0,Bool.not_true,Bool.not_false,Bool.and_true,Bool.true_and,Bool.and_false,Bool.false_and,Bool.or_true,Bool.true_or,Bool.or_false,Bool.false_or,Bool.not_not,ge_iff_le,hg4,hg10,hg13,hg25]));clear HB HX HM HO;have EG:=(tQ hbel (tQ EC EQ));go_wp2;go_ret;exact ⟨kP HT.out.symm,EG⟩)
       | (have HT:=yD (HX.out (show _=true by rw [HO.out];simp only [okA0,Bool.not_true,Bool.not_false,Bool.and_true,Bool.true_and,Bool.and_false,Bool.false_and,Bool.or_true,Bool.true_or,Bool.or_false,Bool.false_or,Bool.not_not,ge_iff_le,hg4,hg10,hg13,hg25]));clear HB HX HM HO;go_wp2;go_roundw;(case rel=>exact ⟨j + 1,by omega,by go_num,HT,EQ⟩);(case measure=>simp [intOf];omega))
   have HT:=yD (HYES.out ((kIi HM.out hjl hj).trans (by have:=HLP.out;simpa using this)))
   have EG:=(tQ hbel (tQ EC hq))
   have hjn:¬ (j:Int) < P.length:=gV
   go_wp2
   go_roundw
   case rel=>exact ⟨k + 1,by omega,by go_num,HT,EG⟩
   simp [intOf];omega
 have HT:=yD (vPends_yes HN.out hlt hk)
 have hkn:¬ (k:Int) < l.length:=gV
 go_wp2
 go_ret
 exact ⟨kP HT.out.symm,hbel⟩
end Go.Proofs.Ytpgnbablhdknnaa

/-
  Lists of integers, equal.
  Numbers compared by the laws.
  Routes of a face removed.
-/
import Derived.Test.YthpgoddjglnoiaaGreatDoorFRoute
import Derived.Test.YthpgoddjglnoiaaGreatDoorDelF
set_option linter.unusedVariables false
set_option linter.unusedSimpArgs false
set_option linter.unnecessarySimpa false
set_option maxRecDepth 100000
set_option maxHeartbeats 4000000
namespace Go.Proofs.YthpgoddjglnoiaaGreatDoor
open Go.RowKit
def vInt (x y:Int):Bool:=!(x != y)
theorem vInt_eq (x y:Int):vInt x y=decide (x=y):=by rw [Bool.eq_iff_iff];simp [vInt]
theorem kGt {w:World} {va vb:Value} {a b:(List Int)} (a_0:(Rep.slice 3 Rep.int).raw w [va] a) (b_0:(Rep.slice 3 Rep.int).raw w [vb] b) :
    Calls Tryz.prog 16 #[va,vb] w fun e w'=>e=.returned (.bool (decide (a=b)))∧Below w.heap.size w w':=by
 obtain ⟨aa,capa,rfl,la⟩:=Rep.sl a_0
 obtain ⟨ab,capb,rfl,lb⟩:=Rep.sl b_0
 go_enter Tryz.func16,Tryz.ntmps16
 by_cases hl:a.length=b.length
 case neg =>
  have HT:=yD (show decide (a=b)=false by simp;rintro rfl;exact hl rfl)
  have hz:((a.length:Int) != b.length)=true:=fQ
  have hzn:(a.length != b.length)=true:=fE
  go_wp2
  go_ret
  exact ⟨kP HT.out.symm,bR⟩
 have hz:((a.length:Int) != b.length)=false:=fQ
 have hzn:(a.length != b.length)=false:=fE
 have HL:=yD hl;clear hl
 go_wp2
 go_loopw [5] (fun i wr=>∃ k:Nat,k≤a.length∧i=.int .i64 k∧Hid (a.take k=b.take k)∧Below w.heap.size w wr) (fun i _=>a.length - (intOf i).toNat)
 case atStart=>exact ⟨0,Nat.zero_le _,rfl,yD rfl,bR⟩
 obtain ⟨k,hk,rfl,HN,hbel⟩:=hrel
 by_cases hlt:k < a.length
 · have hlt2:k < b.length:=dW
   obtain ⟨pb,po,rfl,pc0,pr,Ap0⟩:=Rep.kAd (a_0.below hbel) (i:=k) fV rfl
   obtain ⟨qb,qo,rfl,qc0,qr,Aq0⟩:=Rep.kAd (b_0.below hbel) (i:=k) fV rfl
   have hne:=fun q=>kAo hlt hlt2 q
   have hnx:=fun q=>jq HN.out hlt hlt2 q
   generalize a[k]=x at *
   generalize b[k]=y at *
   have HD:Hid (decide (x=y)=false→decide (a=b)=false):=yD (fun q=>by simp at q;simpa using hne q)
   have HX:Hid (decide (x=y)=true→a.take (k + 1)=b.take (k + 1)):=yD (fun q=>hnx (by simpa using q))
   have HV0:=yD (vInt_eq x y)
   clear hne hnx
   obtain x:=x
   obtain y:=y
   obtain ⟨phe,p_0⟩:=Rep.kBf pr
   obtain rfl:pc0=_:=by simpa using phe
   clear phe
   obtain ⟨qhe,q_0⟩:=Rep.kBf qr
   obtain rfl:qc0=_:=by simpa using qhe
   clear qhe
   go_wp2_with fail
   have FX:=yD (fun (W:World) (hW:Below wr.heap.size wr W)=>cLs2 hW Ap0 Aq0)
   refine kI (fun W=>Below wr.heap.size wr W) [true,true,true,true,true,true,true,true,true] fP fP bW (bR.drew) ?_
   intro wS HS
   iterate 8
    all_goals refine wkR ?_
   all_goals (have hg8:=True.intro;first|(refine wkG (fun b hg8=>?_);cases b;all_goals first | exact Bool.noConfusion hg8 | simp only [zU,zV] at hg8 | skip) | refine wkR ?_)
   all_goals refine wkP ?_
   all_goals refine kQ ?_
   all_goals have EG:=(tQ hbel HS)
   all_goals first
     | (have HV:=HV0.out.symm.trans (show _=false by simp only [vInt,Bool.not_true,Bool.not_false,Bool.and_true,Bool.true_and,Bool.and_false,Bool.false_and,Bool.or_true,Bool.true_or,Bool.or_false,Bool.false_or,Bool.not_not,hg8]);have HT:=yD (HD.out HV);clear HV HV0 HD HX;go_wp2;go_ret;exact ⟨kP HT.out.symm,EG⟩)
     | (have HV:=HV0.out.symm.trans (show _=true by simp only [vInt,Bool.not_true,Bool.not_false,Bool.and_true,Bool.true_and,Bool.and_false,Bool.false_and,Bool.or_true,Bool.true_or,Bool.or_false,Bool.false_or,Bool.not_not,hg8]);have HT:=yD (HX.out HV);clear HV HV0 HD HX;go_wp2;go_roundw;(case rel=>exact ⟨k + 1,by omega,by go_num,HT,EG⟩);(case measure=>simp [intOf];omega))
 have HT:=yD (show decide (a=b)=true by simp;exact zi HN.out hlt HL.out)
 go_wp2
 go_ret
 exact ⟨kP HT.out.symm,hbel⟩
def jg (f:Int) (r:kD):Bool:=r.2.1==f
theorem kEf {w:World} {vl:Value} {l:List kD} (hl:(Rep.slice 29 kE).rd w [vl] l) {f:Int} :
    Calls Tryz.prog 20 #[vl,.int .i64 f] w (kFq 29 kE (l.filter (fun r=>!jg f r)) w):=by
 have HL:=yD hl
 obtain ⟨la,lp,rfl,ll⟩:=Rep.sl hl.1
 have hlb:l.length≤16777216:=hl.2.1
 clear hl
 go_enter Tryz.func20,Tryz.ntmps20
 go_wp2
 have O0:Rep.kH 29 kE (w.alloc (.cells #[] 29)) (.slice (some ⟨w.heap.size,0,none⟩) 0 0) [] (Btw w.heap.size (w.alloc (.cells #[] 29)).heap.size) :=
   Rep.je (e:=29) (r:=kE) (w:=w) (cs:=[]) (xs:=[]) (T:=fun _=>False) fZ fZ rfl (fun _ h=>h.elim) ⟨Nat.le_refl _,by simp⟩
 go_loopw [5,6] (fun v i wr=>∃ k:Nat,k≤l.length∧i=.int .i64 k∧Hid (Rep.kH 29 kE wr v ((l.take k).filter (fun r=>!jg f r)) (Btw w.heap.size wr.heap.size))∧Below w.heap.size w wr) (fun _ i _=>l.length - (intOf i).toNat)
 case atStart=>exact ⟨0,Nat.zero_le _,rfl,yD O0,bR.alloc nL _⟩
 clear O0
 obtain ⟨k,hk,rfl,HO,hbel⟩:=hrel
 obtain ⟨oa,on,oc,ho,HON⟩:=HO.out.parts;obtain rfl:=ho
 have hlk:((l.take k).filter (fun r=>!jg f r)).length≤k:=by exact yS hk
 by_cases hlt:k < l.length
 · obtain ⟨qb,qo,rfl,qc0,qc1,qc2,qr,Aq0,Aq1,Aq2⟩:=Rep.yg (HL.out.1.below hbel) hlt rfl
   have hbd:=Rep.yJ HL.out hlt
   have hfy:=fun q=>kCz (p:=(fun r=>!jg f r)) hlt q
   have hfn:=fun q=>kCh (p:=(fun r=>!jg f r)) hlt q
   generalize l[k]=x at *
   have HFY:=yD hfy;have HFN:=yD hfn;clear hfy hfn
   obtain ⟨x0,x1,x2⟩:=x
   obtain ⟨qv0,qhe,q_0,q_1,q_2,q_3⟩:=kG qr
   simp only [List.cons.injEq,and_true] at qhe
   obtain ⟨rfl,rfl,rfl⟩:=qhe
   obtain ⟨qa0,qp0,rfl,ql0⟩:=Rep.sl q_1
   cases hq:x1 != f
   · have HT:=yD (HFN.out hq)
     clear HFY HFN
     go_wp2
     go_roundw
     case rel=>exact ⟨k + 1,by omega,by go_num,yD (HO.out.cast HT.out.symm),hbel⟩
     simp [intOf];omega
   have HSN:=yD (HFY.out hq)
   clear HFY HFN
   have px0:kV.rd wr _ x0:=⟨q_0,hbd.1⟩
   go_wp2_with fail
   refine (zO px0).mono ?_
   rintro e wT ⟨tc,rfl,OT,hbT⟩
   obtain ⟨tv0,rfl,t_0⟩:=kN OT.raw
   obtain ⟨ta0,tp0,rfl,_⟩:=Rep.sl t_0
   clear t_0
   go_upto_region 7 with fail
   generalize hwC:World.alloc wT _=wC
   have EC:Below wT.heap.size wT wC:=dD
   have K0:wC.cell? ⟨wT.heap.size,0,none⟩=some (.slice ta0 x0.length tp0):=dM
   clear hwC
   have ER:=(tQ hbT EC)
   replace Aq0:=cL ER Aq0
   replace Aq1:=cL ER Aq1
   replace Aq2:=cL ER Aq2
   have FX:=yD (fun (W:World) (hW:Below wC.heap.size wC W)=>cLs4 hW K0 Aq0 Aq1 Aq2)
   refine jS (fun W=>Below wC.heap.size wC W) [true,true,true,true,true,true,true,true,true,true,true,true,true,false] fP fP bW (bR.drew) ?_
   intro wS HS
   iterate 13
    all_goals refine wkR ?_
   all_goals first|(refine kJ rfl HS ?_)|(refine jF rfl (fun K hK=>?_);go_simp;refine hK _ _ (HS.alloc HS.size _) ?_;clear hK K)
   all_goals refine wkP ?_
   all_goals refine jV ?_
   have hsW:=HS.size
   have hsC:=EC.size
   have hrC:=hbel.size
   have hsT:=hbT.size
   have hbS:Below wr.heap.size wr wS:=(tQ ER HS)
   replace HO:=yD (HO.out.below hbS)
   have hbW:=(tQ hbel hbS)
   go_wp2_with (at_builtin;refine Rep.ky rfl _ _ 24 rfl (r:=kE) (e:=29) Tryz.underlying24 jX rfl fU fU (B:=w.heap.size) HO.out gB gB rfl (Rep.own.wide (T:=Btw wr.heap.size wT.heap.size) (Rep.kAm (OT.below (tQ EC HS)) (Rep.zT (Rep.jN q_2) (Rep.jN q_3))) bI) rfl bL cK bI fV dJ ?_)
   intro v2 w2 hown2 hbel2 hz2
   replace hown2:=Rep.kH.cast hown2 (HSN.out.symm)
   have HO2:=yD hown2
   have hbel3:=hbW.trans hbel2
   clear hown2 HO hbel2
   go_wp2
   go_roundw
   case rel=>exact ⟨k + 1,by omega,by go_num,HO2,hbel3⟩
   simp [intOf];omega
 obtain rfl:k=l.length:=fV
 go_wp2
 go_ret
 exact ⟨_,rfl,Rep.kH.cast HO.out (by rw [List.take_length]),hbel⟩
theorem kDw {w:World} {cr:List Value} {r:kD} (hr:kE.raw w cr r) {f:Int} {Bf:Nat} (Af0:w.cell? ⟨Bf,0,none⟩=some (.int .i64 f)) :
    Calls Tryz.prog 51 (#[.agg cr.toArray]++#[.pointer (some ⟨Bf,0,none⟩)]) w fun e w'=>e=.returned (.bool (jg f r))∧Below w.heap.size w w':=by
 have Hr:=yD hr
 obtain ⟨frv0,rfl,fr_0,fr_1,fr_2,fr_3⟩:=kG hr
 obtain ⟨fra0,frp0,rfl,frl0⟩:=Rep.sl fr_1
 show Calls Tryz.prog 51 #[_,_] w _
 go_enter Tryz.func51,Tryz.ntmps51
 go_upto_region 1 with fail
 generalize hwB:World.alloc w _=wB
 have EB:Below w.heap.size w wB:=by rw [← hwB];exact bB
 have K2_0:wB.cell? ⟨w.heap.size,0,none⟩=some (.slice fra0 (r.1).length frp0):=dL
 have K2_1:wB.cell? ⟨w.heap.size,1,none⟩=some (.int .i64 r.2.1):=dL
 have K2_2:wB.cell? ⟨w.heap.size,2,none⟩=some (.int .i64 r.2.2):=dL
 clear hwB
 replace Af0:=cL EB Af0
 have FX:=yD (fun (W:World) (hW:Below wB.heap.size wB W)=>cLs4 hW K2_0 K2_1 K2_2 Af0)
 refine kg (fun W=>Below wB.heap.size wB W) [true,true,true,true,true] bR ?_
 intro wS HS
 iterate 4
  all_goals refine wkR ?_
 all_goals (have hg4:=True.intro;first|(refine wkG (fun b hg4=>?_);cases b;all_goals first | exact Bool.noConfusion hg4 | simp only [zU,zV] at hg4 | skip) | refine wkR ?_)
 all_goals refine wkP ?_
 all_goals refine kQ ?_
 all_goals have EG:=(tQ EB HS)
 all_goals first
   | (have HT:=yD (show (jg f r)=false by simp only [jg,Bool.not_true,Bool.not_false,Bool.and_true,Bool.true_and,Bool.and_false,Bool.false_and,Bool.or_true,Bool.true_or,Bool.or_false,Bool.false_or,Bool.not_not,hg4]);go_wp2;go_ret;exact ⟨kP HT.out.symm,EG⟩)
   | (have HT:=yD (show (jg f r)=true by simp only [jg,Bool.not_true,Bool.not_false,Bool.and_true,Bool.true_and,Bool.and_false,Bool.false_and,Bool.or_true,Bool.true_or,Bool.or_false,Bool.false_or,Bool.not_not,hg4]);go_wp2;go_ret;exact ⟨kP HT.out.symm,EG⟩)
theorem kAf:kY Tryz.prog 51:=yN Tryz.func51 fP fP
theorem kEr {w:World} {vl:Value} {l:List kD} (hl:(Rep.slice 29 kE).rd w [vl] l) {f:Int} :
    Calls Tryz.prog 19 #[vl,.int .i64 f] w (kFq 29 kE (l.filter (fun r=>!jg f r)) w):=by
 have HL:=yD hl
 have hlb:l.length≤16777216:=hl.2.1
 clear hl
 go_enter Tryz.func19,Tryz.ntmps19
 go_wp2_with fail
 generalize hwB:World.alloc w _=wB
 have EB:Below w.heap.size w wB:=dH
 have hzB:wB.heap.size=w.heap.size + 1:=fB
 have K0:wB.cell? ⟨w.heap.size,0,none⟩=some (.int .i64 f):=dL
 clear hwB
 refine (jY (HL.out.below EB)).mono ?_
 rintro e w1 ⟨v1,rfl,O1,hb1⟩
 have K1:=cL hb1 K0
 have hz1:=hb1.size
 go_wp2_with fail
 refine (zl (jg f) kAf O1 hlb (fun wr hb x cs hr=>kDw hr ?_)).mono ?_
 · have e1:wr.heap[w.heap.size]?=w1.heap[w.heap.size]?:=hb.block _ fV (by intro q;have:=q.1;omega)
   rw [← K1]
   unfold World.cell?
   simp only [e1]
 rintro e w2 ⟨v2,rfl,O2,T2⟩
 have hb2:Below w.heap.size w w2:=(tQ EB hb1).trans (T2.below fV (fun j hj=>by have:=hj.1;omega))
 have hz2:=T2.size
 go_wp2
 go_ret
 exact ⟨_,rfl,O2.wide bI,hb2⟩
theorem kEg {w:World} {vl:Value} {l:List kD} (hl:(Rep.slice 29 kE).rd w [vl] l) {f:Int} (hf:-9223372036854775808≤f∧f≤9223372036854775807) :
    Calls Tryz.prog 20 #[vl,.int .i64 f] w (kAx (Rep.slice 29 kE) (l.filter (fun r=>!jg f r)) w) :=
  (kEf hl).mono fun e w1 h=>h.post (Nat.le_trans (List.length_filter_le _ _) hl.2.1)
theorem kEs {w:World} {vl:Value} {l:List kD} (hl:(Rep.slice 29 kE).rd w [vl] l) {f:Int} (hf:-9223372036854775808≤f∧f≤9223372036854775807) :
    Calls Tryz.prog 19 #[vl,.int .i64 f] w (kAx (Rep.slice 29 kE) (l.filter (fun r=>!jg f r)) w) :=
  (kEr hl).mono fun e w1 h=>h.post (Nat.le_trans (List.length_filter_le _ _) hl.2.1)
end Go.Proofs.YthpgoddjglnoiaaGreatDoor

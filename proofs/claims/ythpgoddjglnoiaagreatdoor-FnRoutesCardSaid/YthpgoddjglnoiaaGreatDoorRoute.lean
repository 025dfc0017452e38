/-
  slices.EqualFunc at the program's types. Printed by genlib.py.
  Measurements.
  Routes.
-/
import Derived.Test.YthpgoddjglnoiaaGreatDoorFRoute
set_option linter.unusedVariables false
set_option linter.unusedSimpArgs false
set_option linter.unnecessarySimpa false
set_option maxRecDepth 100000
set_option maxHeartbeats 4000000
namespace Go.Proofs.YthpgoddjglnoiaaGreatDoor
open Go.RowKit
theorem kEc {w:World} {va vb:Value} {a b:List kD} {g:FuncId} {cp:Array Value} (hg:kY Tryz.prog g) (a_0:(Rep.slice 29 kE).raw w [va] a) (b_0:(Rep.slice 29 kE).raw w [vb] b)
    (hcl:∀ wr,Below w.heap.size w wr→∀ (cs ds:List Value) (x y:kD),kE.raw wr cs x→kE.raw wr ds y→Calls Tryz.prog g (#[.agg cs.toArray,.agg ds.toArray]++cp) wr (fun e w'=>e=.returned (.bool (decide (x=y)))∧Below wr.heap.size wr w')) :
    Calls Tryz.prog 52 #[va,vb,.func (.func g) #[] cp] w fun e w'=>e=.returned (.bool (decide (a=b)))∧Below w.heap.size w w':=by
 obtain ⟨aa,capa,rfl,la⟩:=Rep.sl a_0
 obtain ⟨ab,capb,rfl,lb⟩:=Rep.sl b_0
 have HCL:=yD hcl;clear hcl
 unfold kY at hg
 go_enter Tryz.func52,Tryz.ntmps52
 by_cases hl:a.length=b.length
 case neg =>
  have HT:=yD (show decide (a=b)=false by simp;rintro rfl;exact hl rfl)
  have hz:((a.length:Int) != b.length)=true:=fQ
  have hzn:(a.length != b.length)=true:=fE
  go_wp2
  go_ret
  exact ⟨kP HT.out.symm,bR⟩
 have hz:((a.length:Int) != b.length)=false:=fQ
 have hzn:(a.length != b.length)=false:=fE
 have HL:=yD hl;clear hl
 go_wp2
 go_loopw [17] (fun i wr=>∃ k:Nat,k≤a.length∧i=.int .i64 k∧Hid (a.take k=b.take k)∧Below w.heap.size w wr) (fun i _=>a.length - (intOf i).toNat)
 case atStart=>exact ⟨0,Nat.zero_le _,rfl,yD rfl,bR⟩
 obtain ⟨k,hk,rfl,HN,hbel⟩:=hrel
 by_cases hlt:k < a.length
 · have hlt2:k < b.length:=dW
   obtain ⟨pb,po,rfl,pc0,pc1,pc2,pr,Ap0,Ap1,Ap2⟩:=Rep.yg (a_0.below hbel) (i:=k) fV rfl
   obtain ⟨qb,qo,rfl,qc0,qc1,qc2,qr,Aq0,Aq1,Aq2⟩:=Rep.yg (b_0.below hbel) (i:=k) fV rfl
   have hne:=fun q=>kAo hlt hlt2 q
   have hnx:=fun q=>jq HN.out hlt hlt2 q
   generalize a[k]=x at *
   generalize b[k]=y at *
   have HD:=yD hne;have HX:=yD hnx;have HR:=yD pr;have HR2:=yD qr
   clear hne hnx
   obtain ⟨pv0,phe,p_0,p_1,p_2,p_3⟩:=kG pr
   simp only [List.cons.injEq,and_true] at phe
   obtain ⟨rfl,rfl,rfl⟩:=phe
   obtain ⟨pa0,pp0,rfl,pl0⟩:=Rep.sl p_1
   obtain ⟨qv0,qhe,q_0,q_1,q_2,q_3⟩:=kG qr
   simp only [List.cons.injEq,and_true] at qhe
   obtain ⟨rfl,rfl,rfl⟩:=qhe
   obtain ⟨qa0,qp0,rfl,ql0⟩:=Rep.sl q_1
   have hlI:=Int.ofNat_lt.2 hlt2
   have hbp:=World.block_lt_of_cell? _ _ Ap0
   have hbq:=World.block_lt_of_cell? _ _ Aq0
   simp only at hbp hbq
   go_wp2_with fail
   refine (HCL.out _ (by repeat (first|(with_reducible exact hbel) | refine Below.alloc ?_ dG _ | refine Below.drew ?_)) _ _ x y (HR.out.below (by repeat (first|(with_reducible exact bR) | refine Below.alloc ?_ fC _))) (HR2.out.below (by repeat (first|(with_reducible exact bR) | refine Below.alloc ?_ fC _)))).mono ?_
   rintro e w1 ⟨rfl,hb1⟩
   have EG:Below w.heap.size w w1:=Below.trans (by repeat (first|(with_reducible exact hbel) | refine Below.alloc ?_ dG _ | refine Below.drew ?_)) (hb1.mono dG)
   clear hb1
   cases hz:decide (x=y)
   · have HT:=yD (show decide (a=b)=false by simp;exact HD.out fI)
     clear HD HX HR HR2
     go_wp2
     go_ret
     exact ⟨kP HT.out.symm,EG⟩
   have HT:=yD (HX.out fI)
   clear HD HX HR HR2
   go_wp2
   go_roundw
   case rel=>exact ⟨k + 1,by omega,by go_num,HT,EG⟩
   simp [intOf];omega
 have HT:=yD (show decide (a=b)=true by simp;exact zi HN.out hlt HL.out)
 go_wp2
 go_ret
 exact ⟨kP HT.out.symm,hbel⟩
theorem kEu {α:Type} {p:α→Bool} {x:List α} (h:¬ idxOf p x < 0):∃ k:Nat,k < x.length∧idxOf p x=k:=by
 unfold idxOf at *
 cases e:x.findIdx? p with
 | none=>rw [e] at h;simp at h
 | some i=>exact ⟨i,(List.findIdx?_eq_some_iff_getElem.1 e).1,rfl⟩
def kFy (x y:kD):Bool:=!((x.2.1 != y.2.1) || ((x.2.2 != y.2.2) || !eqN x.1 y.1))
theorem vRouteS_eq (x y:kD):kFy x y=decide (x=y):=by
 obtain ⟨x0,x1,x2⟩:=x
 obtain ⟨y0,y1,y2⟩:=y
 rw [Bool.eq_iff_iff]
 simp [kFy,eqN]
 constructor
 · rintro ⟨h1,h2,h3⟩;exact ⟨h3,h1,h2⟩
 rintro ⟨h1,h2,h3⟩;exact ⟨h2,h3,h1⟩
def kCq (x y:kD):Bool:=(eqN x.1 y.1 && (x.2.1==y.2.1)) && (x.2.2==y.2.2)
theorem vRoute_eq (x y:kD):kCq x y=decide (x=y):=by
 obtain ⟨x0,x1,x2⟩:=x
 obtain ⟨y0,y1,y2⟩:=y
 rw [Bool.eq_iff_iff]
 simp [kCq,eqN,and_assoc]
theorem kCy {w:World} {cx:List Value} {x:kD} (hx:kE.raw w cx x) {cy:List Value} {y:kD} (hy:kE.raw w cy y) :
    Calls Tryz.prog 53 #[.agg cx.toArray,.agg cy.toArray] w fun e w'=>e=.returned (.bool (kCq x y))∧Below w.heap.size w w':=by
 have Hx:=yD hx
 obtain ⟨fxv0,rfl,fx_0,fx_1,fx_2,fx_3⟩:=kG hx
 obtain ⟨fxa0,fxp0,rfl,fxl0⟩:=Rep.sl fx_1
 have Hy:=yD hy
 obtain ⟨fyv0,rfl,fy_0,fy_1,fy_2,fy_3⟩:=kG hy
 obtain ⟨fya0,fyp0,rfl,fyl0⟩:=Rep.sl fy_1
 go_enter Tryz.func53,Tryz.ntmps53
 go_upto_region 1 with fail
 generalize hwB:World.alloc (World.alloc w _) _=wB
 have EB:Below w.heap.size w wB:=by rw [← hwB];exact bB
 have K2_0:wB.cell? ⟨w.heap.size,0,none⟩=some (.slice fxa0 (x.1).length fxp0):=dL
 have K2_1:wB.cell? ⟨w.heap.size,1,none⟩=some (.int .i64 x.2.1):=dL
 have K2_2:wB.cell? ⟨w.heap.size,2,none⟩=some (.int .i64 x.2.2):=dL
 have K3_0:wB.cell? ⟨w.heap.size + 1,0,none⟩=some (.slice fya0 (y.1).length fyp0):=dL
 have K3_1:wB.cell? ⟨w.heap.size + 1,1,none⟩=some (.int .i64 y.2.1):=dL
 have K3_2:wB.cell? ⟨w.heap.size + 1,2,none⟩=some (.int .i64 y.2.2):=dL
 clear hwB
 have FX:=yD (fun (W:World) (hW:Below wB.heap.size wB W)=>cLs6 hW K2_0 K2_1 K2_2 K3_0 K3_1 K3_2)
 refine kg (fun W=>Below wB.heap.size wB W) [true,true,true,true,false,true,true,true,true,true,true,true,true,true,true,true,true,true,true,true] bR ?_
 intro wS HS
 iterate 4
  all_goals refine wkR ?_
 all_goals first | refine wkB (yA (Rep.raw.below fx_0 (tQ EB HS)) (Rep.raw.below fy_0 (tQ EB HS))) (fun wS1 HS=>?_) | refine wkR ?_
 all_goals (have hg5:=True.intro;first|(refine wkG (fun b hg5=>?_);cases b;all_goals first | exact Bool.noConfusion hg5 | simp only [zU,zV] at hg5 | skip) | refine wkR ?_)
 all_goals refine wkP ?_
 iterate 6
  all_goals refine wkR ?_
 all_goals (have hg12:=True.intro;first|(refine wkG (fun b hg12=>?_);cases b;all_goals first | exact Bool.noConfusion hg12 | simp only [zU,zV] at hg12 | skip) | refine wkR ?_)
 all_goals refine wkP ?_
 iterate 6
  all_goals refine wkR ?_
 all_goals (have hg19:=True.intro;first|(refine wkG (fun b hg19=>?_);cases b;all_goals first | exact Bool.noConfusion hg19 | simp only [zU,zV] at hg19 | skip) | refine wkR ?_)
 all_goals refine wkP ?_
 all_goals refine kQ ?_
 all_goals have EG:=(tQ EB HS)
 all_goals first
   | (have HT:=yD (show (kCq x y)=false by simp only [kCq,Bool.not_true,Bool.not_false,Bool.and_true,Bool.true_and,Bool.and_false,Bool.false_and,Bool.or_true,Bool.true_or,Bool.or_false,Bool.false_or,Bool.not_not,hg5,hg12,hg19]);go_wp2;go_ret;exact ⟨kP HT.out.symm,EG⟩)
   | (have HT:=yD (show (kCq x y)=true by simp only [kCq,Bool.not_true,Bool.not_false,Bool.and_true,Bool.true_and,Bool.and_false,Bool.false_and,Bool.or_true,Bool.true_or,Bool.or_false,Bool.false_or,Bool.not_not,hg5,hg12,hg19]);go_wp2;go_ret;exact ⟨kP HT.out.symm,EG⟩)
theorem zR:kY Tryz.prog 53:=yN Tryz.func53 fP fP
theorem kDx {w:World} {va vb:Value} {a b:List kD} (a_0:(Rep.slice 29 kE).raw w [va] a) (b_0:(Rep.slice 29 kE).raw w [vb] b) :
    Calls Tryz.prog 21 #[va,vb] w fun e w'=>e=.returned (.bool (decide (a=b)))∧Below w.heap.size w w':=by
 go_enter Tryz.func21,Tryz.ntmps21
 go_wp2_with fail
 refine (kEc zR a_0 b_0 ?_).mono ?_
 · intro wr hb cs ds x y hx hy
   have:=kCy hx hy
   rw [vRoute_eq] at this
   exact this
 rintro e w1 ⟨rfl,hb1⟩
 go_wp2
 go_ret
 exact ⟨rfl,hb1⟩
end Go.Proofs.YthpgoddjglnoiaaGreatDoor

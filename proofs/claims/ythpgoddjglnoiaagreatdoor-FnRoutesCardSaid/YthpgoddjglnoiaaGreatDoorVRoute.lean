/-
  Lists of routes that are valid.
-/
import Derived.Test.YthpgoddjglnoiaaGreatDoorFRoute
set_option linter.unusedVariables false
set_option linter.unusedSimpArgs false
set_option linter.unnecessarySimpa false
set_option maxRecDepth 100000
set_option maxHeartbeats 4000000
namespace Go.Proofs.YthpgoddjglnoiaaGreatDoor
open Go.RowKit
def jb (l:List kD) (k:Nat) (x:kD):Bool:=!(!kAh x.1 || (!inR x.2.1 1 6 || (!inR x.2.2 0 1000 || decide (idxOf (kZ x.1 x.2.1) (l.take k) ≥ 0))))
def kr (l:List kD):Bool:=yV (fun j=>jb l j (l.getD j ([],0,0))) l.length && decide (l.length≤24)
theorem kEz {l:List kD} {k:Nat} (h:k < l.length) (q:jb l k l[k]=false):kr l=false:=by
 unfold kr;rw [kEb h cZ];rfl
theorem kDg {l:List kD} {k:Nat} (h:k < l.length) (q:jb l k l[k]=true) (a:yV (fun j=>jb l j (l.getD j ([],0,0))) k=true):yV (fun j=>jb l j (l.getD j ([],0,0))) (k + 1)=true :=
  kAv a cZ
theorem kDh {l:List kD} {k:Nat} (q:yV (fun j=>jb l j (l.getD j ([],0,0))) k=true) (h:¬ k < l.length) (hk:k≤l.length):kr l=decide (l.length≤24):=by
 obtain rfl:k=l.length:=fV
 unfold kr;rw [q];rfl
theorem yR {w:World} {vl:Value} {l:List kD} (hl:(Rep.slice 29 kE).raw w [vl] l) :
    Calls Tryz.prog 25 #[vl] w fun e w'=>e=.returned (.bool (kr l))∧Below w.heap.size w w':=by
 obtain ⟨al,pl,rfl,ll⟩:=Rep.sl hl
 have hcap:=Rep.kBi hl
 go_enter Tryz.func25,Tryz.ntmps25
 go_wp2
 go_loopw [3] (fun i wr=>∃ k:Nat,k≤l.length∧i=.int .i64 k∧Hid (yV (fun j=>jb l j (l.getD j ([],0,0))) k=true)∧Below w.heap.size w wr) (fun i _=>l.length - (intOf i).toNat)
 case atStart=>exact ⟨0,Nat.zero_le _,rfl,yD rfl,bR⟩
 obtain ⟨k,hk,rfl,HN,hbel⟩:=hrel
 by_cases hlt:k < l.length
 · obtain ⟨qb,qo,rfl,qc0,qc1,qc2,qr,Aq0,Aq1,Aq2⟩:=Rep.yg (hl.below hbel) (i:=k) fV rfl
   have HTK:=yD (Rep.kDi (hl.below hbel) hk)
   have hb:=fun q=>kEz hlt q
   have hx:=fun q=>kDg hlt q HN.out
   generalize l[k]=x at *
   have HB:=yD hb;have HX:=yD hx;clear hb hx
   obtain ⟨x0,x1,x2⟩:=x
   obtain ⟨qv0,qhe,q_0,q_1,q_2,q_3⟩:=kG qr
   simp only [List.cons.injEq,and_true] at qhe
   obtain ⟨rfl,rfl,rfl⟩:=qhe
   obtain ⟨qa0,qp0,rfl,ql0⟩:=Rep.sl q_1
   have hkI:=Int.ofNat_lt.2 hlt
   have hk0:=Int.natCast_nonneg k
   have hkc:(k:Int)≤(pl:Int):=fV
   have hkd:k≤pl:=fV
   go_upto_region 4 with fail
   have FX:=yD (fun (W:World) (hW:Below wr.heap.size wr W)=>cLs3 hW Aq0 Aq1 Aq2)
   refine kI (fun W=>Below wr.heap.size wr W) [true,true,true,true,true,false,true,true,true,true,true,true,true,false,true,true,true,true,true,true,true,true,false,true,true,true,true,true,true,true,true,true,true,true,true,true,true,true,true,false,true,true] fP fP bW (bR.drew) ?_
   intro wS HS
   iterate 5
    all_goals refine wkR ?_
   all_goals first | refine wkB (zI (Rep.raw.below q_0 HS)) (fun wS1 HS=>?_) | refine wkR ?_
   all_goals refine wkR ?_
   all_goals (have hg7:=True.intro;first|(refine wkG (fun b hg7=>?_);cases b;all_goals first | exact Bool.noConfusion hg7 | simp only [zU,zV] at hg7 | skip) | refine wkR ?_)
   all_goals refine wkP ?_
   iterate 5
    all_goals refine wkR ?_
   all_goals first | refine wkC (zY) ?_ | refine wkR ?_
   all_goals refine wkR ?_
   all_goals refine wkR ?_
   all_goals (have hg16:=True.intro;first|(refine wkG (fun b hg16=>?_);cases b;all_goals first | exact Bool.noConfusion hg16 | simp only [zU,zV] at hg16 | skip) | refine wkR ?_)
   all_goals refine wkP ?_
   iterate 5
    all_goals refine wkR ?_
   all_goals first | refine wkC (zY) ?_ | refine wkR ?_
   all_goals refine wkR ?_
   all_goals refine wkR ?_
   all_goals (have hg25:=True.intro;first|(refine wkG (fun b hg25=>?_);cases b;all_goals first | exact Bool.noConfusion hg25 | simp only [zU,zV] at hg25 | skip) | refine wkR ?_)
   all_goals refine wkP ?_
   iterate 13
    all_goals refine wkR ?_
   all_goals first | refine wkB (kCm (Rep.raw.below HTK.out HS) (Rep.raw.below q_0 HS)) (fun wS1 HS=>?_) | refine wkR ?_
   all_goals refine wkR ?_
   all_goals (have hg41:=True.intro;first|(refine wkG (fun b hg41=>?_);cases b;all_goals first | exact Bool.noConfusion hg41 | simp only [zU,zV] at hg41 | skip) | refine wkR ?_)
   all_goals refine wkP ?_
   all_goals refine kQ ?_
   all_goals have EG:=hbel.trans (Below.mono HS hbel.size)
   all_goals first
     | (have HT:=yD (HB.out (show _=false by simp only [jb,Bool.not_true,Bool.not_false,Bool.and_true,Bool.true_and,Bool.and_false,Bool.false_and,Bool.or_true,Bool.true_or,Bool.or_false,Bool.false_or,Bool.not_not,ge_iff_le,hg7,hg16,hg25,hg41]));clear HB HX HN HTK;go_wp2;go_ret;exact ⟨kP HT.out.symm,EG⟩)
     | (have HT:=yD (HX.out (show _=true by simp only [jb,Bool.not_true,Bool.not_false,Bool.and_true,Bool.true_and,Bool.and_false,Bool.false_and,Bool.or_true,Bool.true_or,Bool.or_false,Bool.false_or,Bool.not_not,ge_iff_le,hg7,hg16,hg25,hg41]));clear HB HX HN HTK;go_wp2;go_roundw;(case rel=>exact ⟨k + 1,by omega,by go_num,HT,EG⟩);(case measure=>simp [intOf];omega))
 have HT:=yD (kDh HN.out hlt hk)
 go_wp2
 go_ret
 exact ⟨kP (by rw [HT.out];first | rfl|(simp;done)|(rw [Bool.eq_iff_iff];simp;omega)),hbel⟩
theorem jA {w:World} {vl:Value} {l:List kD} (hl:(Rep.slice 29 kE).raw w [vl] l) :
    Calls Tryz.prog 24 #[vl] w fun e w'=>e=.returned (.bool (kr l))∧Below w.heap.size w w':=by
 obtain ⟨al,pl,rfl,ll⟩:=Rep.sl hl
 have hcap:=Rep.kBi hl
 go_enter Tryz.func24,Tryz.ntmps24
 go_wp2
 go_loopw [7] (fun i wr=>∃ k:Nat,k≤l.length∧i=.int .i64 k∧Hid (yV (fun j=>jb l j (l.getD j ([],0,0))) k=true)∧Below w.heap.size w wr) (fun i _=>l.length - (intOf i).toNat)
 case atStart=>exact ⟨0,Nat.zero_le _,rfl,yD rfl,bR⟩
 obtain ⟨k,hk,rfl,HN,hbel⟩:=hrel
 by_cases hlt:k < l.length
 · obtain ⟨qb,qo,rfl,qc0,qc1,qc2,qr,Aq0,Aq1,Aq2⟩:=Rep.yg (hl.below hbel) (i:=k) fV rfl
   have HTK:=yD (Rep.kDi (hl.below hbel) hk)
   have hb:=fun q=>kEz hlt q
   have hx:=fun q=>kDg hlt q HN.out
   generalize l[k]=x at *
   have HB:=yD hb;have HX:=yD hx;clear hb hx
   obtain ⟨x0,x1,x2⟩:=x
   obtain ⟨qv0,qhe,q_0,q_1,q_2,q_3⟩:=kG qr
   simp only [List.cons.injEq,and_true] at qhe
   obtain ⟨rfl,rfl,rfl⟩:=qhe
   obtain ⟨qa0,qp0,rfl,ql0⟩:=Rep.sl q_1
   have hkI:=Int.ofNat_lt.2 hlt
   have hk0:=Int.natCast_nonneg k
   have hkc:(k:Int)≤(pl:Int):=fV
   have hkd:k≤pl:=fV
   go_upto_region 4 with fail
   generalize hwC:World.alloc wr _=wC
   have EC:Below wr.heap.size wr wC:=dD
   have M0:wC.cell? ⟨wr.heap.size,0,none⟩=some (.slice qa0 (x0).length qp0):=dM
   have M1:wC.cell? ⟨wr.heap.size,1,none⟩=some (.int .i64 x1):=dM
   have M2:wC.cell? ⟨wr.heap.size,2,none⟩=some (.int .i64 x2):=dM
   clear hwC
   have FX:=yD (fun (W:World) (hW:Below wC.heap.size wC W)=>cLs3 hW M0 M1 M2)
   refine kI (fun W=>Below wC.heap.size wC W) [true,true,false,true,true,true,true,false,true,true,true,true,true,false,true,true,true,true,true,true,true,true,true,true,false,true,true] fP fP bW (bR.drew) ?_
   intro wS HS
   all_goals refine wkR ?_
   all_goals refine wkR ?_
   all_goals first | refine wkB (kFv (Rep.raw.below q_0 (tQ EC HS))) (fun wS1 HS=>?_) | refine wkR ?_
   all_goals refine wkR ?_
   all_goals (have hg4:=True.intro;first|(refine wkG (fun b hg4=>?_);cases b;all_goals first | exact Bool.noConfusion hg4 | simp only [zU,zV] at hg4 | skip) | refine wkR ?_)
   all_goals refine wkP ?_
   all_goals refine wkR ?_
   all_goals refine wkR ?_
   all_goals first | refine wkC (kAc) ?_ | refine wkR ?_
   all_goals refine wkR ?_
   all_goals refine wkR ?_
   all_goals (have hg10:=True.intro;first|(refine wkG (fun b hg10=>?_);cases b;all_goals first | exact Bool.noConfusion hg10 | simp only [zU,zV] at hg10 | skip) | refine wkR ?_)
   all_goals refine wkP ?_
   all_goals refine wkR ?_
   all_goals refine wkR ?_
   all_goals first | refine wkC (kAc) ?_ | refine wkR ?_
   all_goals refine wkR ?_
   all_goals refine wkR ?_
   all_goals (have hg16:=True.intro;first|(refine wkG (fun b hg16=>?_);cases b;all_goals first | exact Bool.noConfusion hg16 | simp only [zU,zV] at hg16 | skip) | refine wkR ?_)
   all_goals refine wkP ?_
   iterate 7
    all_goals refine wkR ?_
   all_goals first | refine wkB (kCp (Rep.raw.below HTK.out (tQ EC HS)) (Rep.raw.below q_0 (tQ EC HS))) (fun wS1 HS=>?_) | refine wkR ?_
   all_goals refine wkR ?_
   all_goals (have hg26:=True.intro;first|(refine wkG (fun b hg26=>?_);cases b;all_goals first | exact Bool.noConfusion hg26 | simp only [zU,zV] at hg26 | skip) | refine wkR ?_)
   all_goals refine wkP ?_
   all_goals refine kQ ?_
   all_goals have EG:=hbel.trans (Below.mono (tQ EC HS) hbel.size)
   all_goals first
     | (have HT:=yD (HB.out (show _=false by simp only [jb,Bool.not_true,Bool.not_false,Bool.and_true,Bool.true_and,Bool.and_false,Bool.false_and,Bool.or_true,Bool.true_or,Bool.or_false,Bool.false_or,Bool.not_not,ge_iff_le,hg4,hg10,hg16,hg26]));clear HB HX HN HTK;go_wp2;go_ret;exact ⟨kP HT.out.symm,EG⟩)
     | (have HT:=yD (HX.out (show _=true by simp only [jb,Bool.not_true,Bool.not_false,Bool.and_true,Bool.true_and,Bool.and_false,Bool.false_and,Bool.or_true,Bool.true_or,Bool.or_false,Bool.false_or,Bool.not_not,ge_iff_le,hg4,hg10,hg16,hg26]));clear HB HX HN HTK;go_wp2;go_roundw;(case rel=>exact ⟨k + 1,by omega,by go_num,HT,EG⟩);(case measure=>simp [intOf];omega))
 have HT:=yD (kDh HN.out hlt hk)
 go_wp2
 go_ret
 exact ⟨kP (by rw [HT.out];first | rfl|(simp;done)|(rw [Bool.eq_iff_iff];simp;omega)),hbel⟩
end Go.Proofs.YthpgoddjglnoiaaGreatDoor

/-
  Pending interests: found.
  Whether a name is pending.
-/
import Derived.Test.YtomdenfcfbkfbaaGreatBase
import Derived.Test.YtomdenfcfbkfbaaGreatName
import Derived.IntWalk
import Derived.Deep.Cut
namespace Go.Proofs.YtomdenfcfbkfbaaGreat
open Go.RowKit
set_option linter.unusedVariables false
set_option linter.unusedSimpArgs false
set_option linter.unnecessarySimpa false
def isPend (n:LName) (p:kP):Bool:=eqN p.1 n
set_option maxRecDepth 100000 in
set_option maxHeartbeats 2000000 in
theorem specl13Find_c {w:World} {vl:Value} {l:(List kP)} (hl:(Rep.slice 77 kH).raw w [vl] l) {cn:List Value} {n:LName} (hn:RName.raw w cn n) :
    Calls Tryz.prog 110 #[vl,.agg cn.toArray] w fun e w'=>e=.returned (.int .i64 (idxOf (isPend n) l))∧Below w.heap.size w w':=by
 obtain ⟨al,pl,el,ll⟩:=Rep.kR hl;obtain rfl:vl=_:=by simpa using el
 clear el
 have Hn:=hD hn
 obtain ⟨fnv0,rfl,fn_0⟩:=RName_raw hn
 obtain ⟨fna0,fnp0,fnh0,fnl0⟩:=Rep.kR fn_0;obtain rfl:fnv0=_:=by simpa using fnh0
 clear fnh0
 go_enter Tryz.func110,Tryz.ntmps110
 go_wp2
 generalize hwB:World.alloc w _=wB
 have EB:Below w.heap.size w wB:=by rw [← hwB];exact (by repeat (first|(with_reducible exact Below.refl _ _) | refine Below.alloc ?_ (by simp;try omega) _ | refine Below.drew ?_ | refine Below.setCell ?_ (by simp;try omega) _))
 have K3_0:wB.cell? ⟨w.heap.size,0,none⟩=some (.slice fna0 (n).length fnp0):=by rw [← hwB];simp [go_sem]
 clear hwB
 replace hl:=hl.below EB
 go_loopw [5] (fun i wr=>∃ k:Nat,k≤l.length∧i=.int .i64 k∧Hid (∀ j,(h:j < k)→(h2:j < l.length)→(isPend n) l[j]=false)∧Below wB.heap.size wB wr) (fun i _=>l.length - (intOf i).toNat)
 case atStart=>exact ⟨0,Nat.zero_le _,rfl,hD (fun _ h=>by omega),Below.refl _ _⟩
 obtain ⟨k,hk,rfl,HN,hbel⟩:=hrel
 replace K3_0:=cL hbel K3_0
 by_cases hlt:k < l.length
 · obtain ⟨qb,qo,rfl,qc0,qc1,qc2,qr,Aq0,Aq1,Aq2⟩:=Rep.get3 (hl.below hbel) (i:=k) (by omega) rfl
   have hhit:=fun q=>idxOf_hit hlt q HN.out
   have hmis:=fun q=>no_succ hlt q HN.out
   generalize l[k]=x at *
   have HD:=hD hhit;have HX:=hD hmis;clear hhit hmis
   obtain ⟨x0,x1,x2⟩:=x
   obtain ⟨qv0,qv1,qhe,q_0,q_1,q_2,q_3⟩:=RPendingInterest_raw qr
   simp only [List.cons.injEq,and_true] at qhe
   obtain ⟨rfl,rfl,rfl⟩:=qhe
   obtain ⟨qa0,qp0,qh0,ql0⟩:=Rep.kR q_1;obtain rfl:qc0=_:=by simpa using qh0
   clear qh0
   obtain ⟨qa1,qp1,qh1,ql1⟩:=Rep.kR q_2;obtain rfl:qc1=_:=by simpa using qh1
   clear qh1
   go_upto_region 4 with fail
   refine wp_region_soft (fun W=>Below wr.heap.size wr W) [true,true,true,true,true,true,false] (by kernel_rfl) (by kernel_rfl) (fun c a d v w h=>by cases d <;> exact h) ((Below.refl _ _).drew) ?_
   intro wS HS
   iterate 4
    all_goals first|(refine kC rfl HS ?_)|(refine kD (v:=?_) rfl (fun W hW=>?_) ?_;rotate_left;(· go_simp;try with_reducible rfl))
    all_goals try simp only [Act.put,zA,zB,zC]
   iterate 2
    all_goals first|(refine kC rfl HS ?_)|(refine kD (v:=?_) rfl (fun W hW=>?_) ?_;rotate_left;(· have A_K3_0:=cL hW K3_0;have A_Aq0:=cL hW Aq0;have A_Aq1:=cL hW Aq1;have A_Aq2:=cL hW Aq2;clear hW;go_simp;try with_reducible rfl))
    all_goals try simp only [Act.put,zA,zB,zC]
   all_goals first|(refine kC rfl HS ?_)|(refine kF rfl (fun K hK=>?_);go_simp;refine (specEqualNames_c (Rep.raw.below q_0 HS) (Rep.raw.below Hn.out (EB.trans ((hbel.trans (HS.mono hbel.size)).mono EB.size)))).mono ?_;rintro e wS1 ⟨rfl,hbS⟩;replace HS:=HS.trans (hbS.mono HS.size);refine hK _ _ HS ?_;clear hK K hbS)
   all_goals try simp only [Act.put,zA,zB,zC]
   all_goals refine soft_nil ?_
   all_goals cases hg6:eqN x0 n
   all_goals have EG:=hbel.trans (HS.mono hbel.size)
   all_goals first
     | (have HT:=hD (HD.out (show _=true by simp only [isPend,Bool.not_true,Bool.not_false,Bool.and_true,Bool.true_and,Bool.and_false,Bool.false_and,Bool.or_true,Bool.true_or,Bool.or_false,Bool.false_or,Bool.not_not,hg6]));clear HD HX;go_wp2;go_ret;exact ⟨ret_int HT.out.symm,EB.trans (EG.mono EB.size)⟩)
     | (have HT:=hD (HX.out (show _=false by simp only [isPend,Bool.not_true,Bool.not_false,Bool.and_true,Bool.true_and,Bool.and_false,Bool.false_and,Bool.or_true,Bool.true_or,Bool.or_false,Bool.false_or,Bool.not_not,hg6]));clear HD HX;go_wp2;go_roundw;(case rel=>exact ⟨k + 1,by omega,by go_num,HT,EG⟩);(case measure=>simp [intOf];omega))
 have HT:=hD (idxOf_miss hlt HN.out)
 go_wp2
 go_ret
 exact ⟨ret_int HT.out.symm,EB.trans (hbel.mono EB.size)⟩
set_option maxRecDepth 100000 in
set_option maxHeartbeats 2000000 in
theorem implpendingAt1_c {w:World} {cp:List Value} {p:kP} (hp:kH.raw w cp p) {n:LName} {nc0:Value} {Bn:Nat} (nr:RName.raw w [nc0] n) (An0:w.cell? ⟨Bn,0,none⟩=some nc0) :
    Calls Tryz.prog 194 (#[.agg cp.toArray]++#[.pointer (some ⟨Bn,0,none⟩)]) w fun e w'=>e=.returned (.bool (isPend n p))∧Below w.heap.size w w':=by
 have Hp:=hD hp
 obtain ⟨fpv0,fpv1,rfl,fp_0,fp_1,fp_2,fp_3⟩:=RPendingInterest_raw hp
 obtain ⟨fpa0,fpp0,fph0,fpl0⟩:=Rep.kR fp_1;obtain rfl:fpv0=_:=by simpa using fph0
 clear fph0
 obtain ⟨fpa1,fpp1,fph1,fpl1⟩:=Rep.kR fp_2;obtain rfl:fpv1=_:=by simpa using fph1
 clear fph1
 obtain ⟨nv0,nhe,n_0⟩:=RName_raw nr
 simp only [List.cons.injEq,and_true] at nhe
 obtain rfl:=nhe
 obtain ⟨na0,np0,nh0,nl0⟩:=Rep.kR n_0;obtain rfl:nc0=_:=by simpa using nh0
 clear nh0
 show Calls Tryz.prog 194 #[_,_] w _
 go_enter Tryz.func194,Tryz.ntmps194
 go_upto_region 1 with fail
 generalize hwB:World.alloc w _=wB
 have EB:Below w.heap.size w wB:=by rw [← hwB];exact (by repeat (first|(with_reducible exact Below.refl _ _) | refine Below.alloc ?_ (by simp;try omega) _ | refine Below.drew ?_ | refine Below.setCell ?_ (by simp;try omega) _))
 have K2_0:wB.cell? ⟨w.heap.size,0,none⟩=some (.slice fpa0 (p.1).length fpp0):=by rw [← hwB];simp [go_sem]
 have K2_1:wB.cell? ⟨w.heap.size,1,none⟩=some (.slice fpa1 (p.2.1).length fpp1):=by rw [← hwB];simp [go_sem]
 have K2_2:wB.cell? ⟨w.heap.size,2,none⟩=some (.int .i64 p.2.2):=by rw [← hwB];simp [go_sem]
 clear hwB
 replace An0:=cL EB An0
 refine wp_region_soft_plain (fun W=>Below wB.heap.size wB W) [true,true,true,false,true] (Below.refl _ _) ?_
 intro wS HS
 all_goals first|(refine kC rfl HS ?_)|(refine kD (v:=?_) rfl (fun W hW=>?_) ?_;rotate_left;(· go_simp;try with_reducible rfl))
 iterate 2
  all_goals try simp only [Act.put,zA,zB,zC]
  all_goals first|(refine kC rfl HS ?_)|(refine kD (v:=?_) rfl (fun W hW=>?_) ?_;rotate_left;(· have A_K2_0:=cL hW K2_0;have A_K2_1:=cL hW K2_1;have A_K2_2:=cL hW K2_2;have A_An0:=cL hW An0;clear hW;go_simp;try with_reducible rfl))
 all_goals try simp only [Act.put,zA,zB,zC]
 all_goals first|(refine kC rfl HS ?_)|(refine kF rfl (fun K hK=>?_);go_simp;refine (implEqualNames_c (Rep.raw.below fp_0 (EB.trans (HS.mono EB.size))) (Rep.raw.below nr (EB.trans (HS.mono EB.size)))).mono ?_;rintro e wS1 ⟨rfl,hbS⟩;replace HS:=HS.trans (hbS.mono HS.size);refine hK _ _ HS ?_;clear hK K hbS)
 all_goals try simp only [Act.put,zA,zB,zC]
 all_goals first|(refine kC rfl HS ?_;have hg4:=True.intro)|(refine kE (v:=?_) (b:=?_) rfl (fun W hW=>?_) ?_ (fun b hg4=>?_);rotate_left;rotate_left;(· go_simp;try with_reducible rfl);(· with_reducible rfl);cases b;all_goals first|(exact Bool.noConfusion hg4)|(simp only [Bool.not_eq_true',Bool.not_eq_false'] at hg4) | skip)
 all_goals try simp only [Act.put,zA,zB,zC]
 all_goals refine soft_nil ?_
 all_goals have EG:=EB.trans (HS.mono EB.size)
 all_goals first
   | (have HT:=hD (show (isPend n p)=false by simp only [isPend,Bool.not_true,Bool.not_false,Bool.and_true,Bool.true_and,Bool.and_false,Bool.false_and,Bool.or_true,Bool.true_or,Bool.or_false,Bool.false_or,Bool.not_not,hg4]);go_wp2;go_ret;exact ⟨kT HT.out.symm,EG⟩)
   | (have HT:=hD (show (isPend n p)=true by simp only [isPend,Bool.not_true,Bool.not_false,Bool.and_true,Bool.true_and,Bool.and_false,Bool.false_and,Bool.or_true,Bool.true_or,Bool.or_false,Bool.false_or,Bool.not_not,hg4]);go_wp2;go_ret;exact ⟨kT HT.out.symm,EG⟩)
theorem callable_implpendingAt1_c:Callable Tryz.prog 194:=callable_of Tryz.func194 (by kernel_rfl) (by kernel_rfl)
set_option maxRecDepth 100000 in
set_option maxHeartbeats 1000000 in
theorem implpendingAt_c {w:World} {vl:Value} {l:(List kP)} (hl:(Rep.slice 77 kH).raw w [vl] l) {cn:List Value} {n:LName} (hn:RName.raw w cn n) :
    Calls Tryz.prog 133 #[vl,.agg cn.toArray] w fun e w'=>e=.returned (.int .i64 (idxOf (isPend n) l))∧Below w.heap.size w w':=by
 obtain ⟨al,pl,el,ll⟩:=Rep.kR hl;obtain rfl:vl=_:=by simpa using el
 clear el
 have Hn:=hD hn
 obtain ⟨fnv0,rfl,fn_0⟩:=RName_raw hn
 obtain ⟨fna0,fnp0,fnh0,fnl0⟩:=Rep.kR fn_0;obtain rfl:fnv0=_:=by simpa using fnh0
 clear fnh0
 go_enter Tryz.func133,Tryz.ntmps133
 go_upto_region 1 with fail
 generalize hwB:World.alloc w _=wB
 have EB:Below w.heap.size w wB:=by rw [← hwB];exact (by repeat (first|(with_reducible exact Below.refl _ _) | refine Below.alloc ?_ (by simp;try omega) _ | refine Below.drew ?_ | refine Below.setCell ?_ (by simp;try omega) _))
 have K3_0:wB.cell? ⟨w.heap.size,0,none⟩=some (.slice fna0 (n).length fnp0):=by rw [← hwB];simp [go_sem]
 clear hwB
 go_wp2_with fail
 refine (IndexFunc_PendingInterest_c (isPend n) callable_implpendingAt1_c (Rep.raw.below hl EB) ?_).mono ?_
 · intro wr hb i h cs hr
   exact implpendingAt1_c hr (Rep.raw.below Hn.out (EB.trans (hb.mono EB.size))) (cL hb K3_0)
 rintro e w1 ⟨rfl,hb1⟩
 have EG:Below w.heap.size w w1:=EB.trans (hb1.mono EB.size)
 clear hb1
 go_wp2
 go_ret
 exact ⟨rfl,EG⟩
end Go.Proofs.YtomdenfcfbkfbaaGreat
namespace Go.Proofs.YtomdenfcfbkfbaaGreat
open Go.RowKit
set_option linter.unusedVariables false
set_option linter.unusedSimpArgs false
set_option linter.unnecessarySimpa false
set_option maxHeartbeats 1000000 in
theorem specHasPending_c {w:World} {vl:Value} {l:List kP} (hl:(Rep.slice 77 kH).raw w [vl] l) {cn:List Value} {n:LName} (hn:RName.raw w cn n) :
    Calls Tryz.prog 29 #[vl,.agg cn.toArray] w fun e w'=>e=.returned (.bool (decide (0≤idxOf (isPend n) l)))∧Below w.heap.size w w':=by
 have HL:=hD hl
 have HN:=hD hn
 obtain ⟨la,lp,lh,ll⟩:=Rep.kR hl;obtain rfl:vl=_:=by simpa using lh
 obtain ⟨av,rfl,a_0⟩:=RName_raw hn
 obtain ⟨na,np,nh,_⟩:=Rep.kR a_0;obtain rfl:av=_:=by simpa using nh
 clear lh hl hn nh a_0
 go_enter Tryz.func29,Tryz.ntmps29
 go_wp2_with fail
 refine (specl13Find_c (HL.out.below (by repeat (first|(with_reducible exact Below.refl _ _) | refine Below.alloc ?_ (by simp;try omega) _ | refine Below.drew ?_ | refine Below.setCell ?_ (by simp;try omega) _))) (HN.out.below (by repeat (first|(with_reducible exact Below.refl _ _) | refine Below.alloc ?_ (by simp;try omega) _ | refine Below.drew ?_ | refine Below.setCell ?_ (by simp;try omega) _)))).mono ?_
 rintro e w1 ⟨rfl,hb1⟩
 have EF:Below w.heap.size w w1:=Below.trans (by repeat (first|(with_reducible exact Below.refl _ _) | refine Below.alloc ?_ (by simp;try omega) _ | refine Below.drew ?_ | refine Below.setCell ?_ (by simp;try omega) _)) (hb1.mono (by simp))
 clear hb1
 go_wp2
 go_ret
 exact ⟨kT (by simp),EF⟩
set_option maxHeartbeats 1000000 in
theorem implHasPending_c {w:World} {vl:Value} {l:List kP} (hl:(Rep.slice 77 kH).raw w [vl] l) {cn:List Value} {n:LName} (hn:RName.raw w cn n) :
    Calls Tryz.prog 43 #[vl,.agg cn.toArray] w fun e w'=>e=.returned (.bool (decide (0≤idxOf (isPend n) l)))∧Below w.heap.size w w':=by
 have HL:=hD hl
 have HN:=hD hn
 obtain ⟨la,lp,lh,ll⟩:=Rep.kR hl;obtain rfl:vl=_:=by simpa using lh
 obtain ⟨av,rfl,a_0⟩:=RName_raw hn
 obtain ⟨na,np,nh,_⟩:=Rep.kR a_0;obtain rfl:av=_:=by simpa using nh
 clear lh hl hn nh a_0
 go_enter Tryz.func43,Tryz.ntmps43
 go_wp2_with fail
 refine (implpendingAt_c (HL.out.below (by repeat (first|(with_reducible exact Below.refl _ _) | refine Below.alloc ?_ (by simp;try omega) _ | refine Below.drew ?_ | refine Below.setCell ?_ (by simp;try omega) _))) (HN.out.below (by repeat (first|(with_reducible exact Below.refl _ _) | refine Below.alloc ?_ (by simp;try omega) _ | refine Below.drew ?_ | refine Below.setCell ?_ (by simp;try omega) _)))).mono ?_
 rintro e w1 ⟨rfl,hb1⟩
 have EF:Below w.heap.size w w1:=Below.trans (by repeat (first|(with_reducible exact Below.refl _ _) | refine Below.alloc ?_ (by simp;try omega) _ | refine Below.drew ?_ | refine Below.setCell ?_ (by simp;try omega) _)) (hb1.mono (by simp))
 clear hb1
 go_wp2
 go_ret
 exact ⟨kT (by simp),EF⟩
end Go.Proofs.YtomdenfcfbkfbaaGreat

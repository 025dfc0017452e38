/-
  A measurement found.
  Measurements.
-/
import Derived.Test.YtomdenfcfbkfbaaGreatBase
import Derived.Test.YtomdenfcfbkfbaaGreatName
import Derived.IntWalk
import Derived.Deep.Cut
import Derived.Test.YtomdenfcfbkfbaaGreatLib
namespace Go.Proofs.YtomdenfcfbkfbaaGreat
open Go.RowKit
set_option linter.unusedVariables false
set_option linter.unusedSimpArgs false
set_option linter.unnecessarySimpa false
def isMeas (n:LName) (f:Int) (m:kQ):Bool:=(m.2.1==f) && eqN m.1 n
set_option maxRecDepth 100000 in
set_option maxHeartbeats 2000000 in
theorem specl15Find_c {w:World} {vl:Value} {l:(List kQ)} (hl:(Rep.slice 166 kI).raw w [vl] l) {cn:List Value} {n:LName} (hn:RName.raw w cn n) {f:Int} :
    Calls Tryz.prog 115 #[vl,.agg cn.toArray,.int .i64 f] w fun e w'=>e=.returned (.int .i64 (idxOf (isMeas n f) l))∧Below w.heap.size w w':=by
 obtain ⟨al,pl,el,ll⟩:=Rep.kR hl;obtain rfl:vl=_:=by simpa using el
 clear el
 have Hn:=hD hn
 obtain ⟨fnv0,rfl,fn_0⟩:=RName_raw hn
 obtain ⟨fna0,fnp0,fnh0,fnl0⟩:=Rep.kR fn_0;obtain rfl:fnv0=_:=by simpa using fnh0
 clear fnh0
 go_enter Tryz.func115,Tryz.ntmps115
 go_wp2
 generalize hwB:World.alloc w _=wB
 have EB:Below w.heap.size w wB:=by rw [← hwB];exact (by repeat (first|(with_reducible exact Below.refl _ _) | refine Below.alloc ?_ (by simp;try omega) _ | refine Below.drew ?_ | refine Below.setCell ?_ (by simp;try omega) _))
 have K4_0:wB.cell? ⟨w.heap.size,0,none⟩=some (.slice fna0 (n).length fnp0):=by rw [← hwB];simp [go_sem]
 clear hwB
 replace hl:=hl.below EB
 go_loopw [7] (fun i wr=>∃ k:Nat,k≤l.length∧i=.int .i64 k∧Hid (∀ j,(h:j < k)→(h2:j < l.length)→(isMeas n f) l[j]=false)∧Below wB.heap.size wB wr) (fun i _=>l.length - (intOf i).toNat)
 case atStart=>exact ⟨0,Nat.zero_le _,rfl,hD (fun _ h=>by omega),Below.refl _ _⟩
 obtain ⟨k,hk,rfl,HN,hbel⟩:=hrel
 replace K4_0:=cL hbel K4_0
 by_cases hlt:k < l.length
 · obtain ⟨qb,qo,rfl,qc0,qc1,qc2,qr,Aq0,Aq1,Aq2⟩:=Rep.get3 (hl.below hbel) (i:=k) (by omega) rfl
   have hhit:=fun q=>idxOf_hit hlt q HN.out
   have hmis:=fun q=>no_succ hlt q HN.out
   generalize l[k]=x at *
   have HD:=hD hhit;have HX:=hD hmis;clear hhit hmis
   obtain ⟨x0,x1,x2⟩:=x
   obtain ⟨qv0,qhe,q_0,q_1,q_2,q_3⟩:=RMeasurement_raw qr
   simp only [List.cons.injEq,and_true] at qhe
   obtain ⟨rfl,rfl,rfl⟩:=qhe
   obtain ⟨qa0,qp0,qh0,ql0⟩:=Rep.kR q_1;obtain rfl:qc0=_:=by simpa using qh0
   clear qh0
   go_upto_region 4 with fail
   refine wp_region_soft (fun W=>Below wr.heap.size wr W) [true,true,true,true,true,true,true,true,true,true,true,true,true,true,false,true] (by kernel_rfl) (by kernel_rfl) (fun c a d v w h=>by cases d <;> exact h) ((Below.refl _ _).drew) ?_
   intro wS HS
   iterate 4
    all_goals first|(refine kC rfl HS ?_)|(refine kD (v:=?_) rfl (fun W hW=>?_) ?_;rotate_left;(· go_simp;try with_reducible rfl))
    all_goals try simp only [Act.put,zA,zB,zC]
   all_goals first|(refine kC rfl HS ?_)|(refine kD (v:=?_) rfl (fun W hW=>?_) ?_;rotate_left;(· have A_K4_0:=cL hW K4_0;have A_Aq0:=cL hW Aq0;have A_Aq1:=cL hW Aq1;have A_Aq2:=cL hW Aq2;clear hW;go_simp;try with_reducible rfl))
   iterate 2
    all_goals try simp only [Act.put,zA,zB,zC]
    all_goals first|(refine kC rfl HS ?_)|(refine kD (v:=?_) rfl (fun W hW=>?_) ?_;rotate_left;(· go_simp;try with_reducible rfl))
   all_goals try simp only [Act.put,zA,zB,zC]
   all_goals first|(refine kC rfl HS ?_;have hg7:=True.intro)|(refine kE (v:=?_) (b:=?_) rfl (fun W hW=>?_) ?_ (fun b hg7=>?_);rotate_left;rotate_left;(· go_simp;try with_reducible rfl);(· with_reducible rfl);cases b;all_goals first|(exact Bool.noConfusion hg7)|(simp only [Bool.not_eq_true',Bool.not_eq_false'] at hg7) | skip)
   iterate 4
    all_goals try simp only [Act.put,zA,zB,zC]
    all_goals first|(refine kC rfl HS ?_)|(refine kD (v:=?_) rfl (fun W hW=>?_) ?_;rotate_left;(· go_simp;try with_reducible rfl))
   iterate 2
    all_goals try simp only [Act.put,zA,zB,zC]
    all_goals first|(refine kC rfl HS ?_)|(refine kD (v:=?_) rfl (fun W hW=>?_) ?_;rotate_left;(· have A_K4_0:=cL hW K4_0;have A_Aq0:=cL hW Aq0;have A_Aq1:=cL hW Aq1;have A_Aq2:=cL hW Aq2;clear hW;go_simp;try with_reducible rfl))
   all_goals try simp only [Act.put,zA,zB,zC]
   all_goals first|(refine kC rfl HS ?_)|(refine kF rfl (fun K hK=>?_);go_simp;refine (specEqualNames_c (Rep.raw.below q_0 HS) (Rep.raw.below Hn.out (EB.trans ((hbel.trans (HS.mono hbel.size)).mono EB.size)))).mono ?_;rintro e wS1 ⟨rfl,hbS⟩;replace HS:=HS.trans (hbS.mono HS.size);refine hK _ _ HS ?_;clear hK K hbS)
   all_goals try simp only [Act.put,zA,zB,zC]
   all_goals first|(refine kC rfl HS ?_;have hg15:=True.intro)|(refine kE (v:=?_) (b:=?_) rfl (fun W hW=>?_) ?_ (fun b hg15=>?_);rotate_left;rotate_left;(· go_simp;try with_reducible rfl);(· with_reducible rfl);cases b;all_goals first|(exact Bool.noConfusion hg15)|(simp only [Bool.not_eq_true',Bool.not_eq_false'] at hg15) | skip)
   all_goals try simp only [Act.put,zA,zB,zC]
   all_goals refine soft_nil ?_
   all_goals have EG:=hbel.trans (HS.mono hbel.size)
   all_goals first
     | (have HT:=hD (HD.out (show _=true by simp only [isMeas,Bool.not_true,Bool.not_false,Bool.and_true,Bool.true_and,Bool.and_false,Bool.false_and,Bool.or_true,Bool.true_or,Bool.or_false,Bool.false_or,Bool.not_not,hg7,hg15]));clear HD HX;go_wp2;go_ret;exact ⟨ret_int HT.out.symm,EB.trans (EG.mono EB.size)⟩)
     | (have HT:=hD (HX.out (show _=false by simp only [isMeas,Bool.not_true,Bool.not_false,Bool.and_true,Bool.true_and,Bool.and_false,Bool.false_and,Bool.or_true,Bool.true_or,Bool.or_false,Bool.false_or,Bool.not_not,hg7,hg15]));clear HD HX;go_wp2;go_roundw;(case rel=>exact ⟨k + 1,by omega,by go_num,HT,EG⟩);(case measure=>simp [intOf];omega))
 have HT:=hD (idxOf_miss hlt HN.out)
 go_wp2
 go_ret
 exact ⟨ret_int HT.out.symm,EB.trans (hbel.mono EB.size)⟩
set_option maxRecDepth 100000 in
set_option maxHeartbeats 2000000 in
theorem implmeasuredAt1_c {w:World} {cm:List Value} {m:kQ} (hm:kI.raw w cm m) {f:Int} {Bf:Nat} (Af0:w.cell? ⟨Bf,0,none⟩=some (.int .i64 f)) {n:LName} {nc0:Value} {Bn:Nat} (nr:RName.raw w [nc0] n) (An0:w.cell? ⟨Bn,0,none⟩=some nc0) :
    Calls Tryz.prog 212 (#[.agg cm.toArray]++#[.pointer (some ⟨Bf,0,none⟩),.pointer (some ⟨Bn,0,none⟩)]) w fun e w'=>e=.returned (.bool (isMeas n f m))∧Below w.heap.size w w':=by
 have Hm:=hD hm
 obtain ⟨fmv0,rfl,fm_0,fm_1,fm_2,fm_3⟩:=RMeasurement_raw hm
 obtain ⟨fma0,fmp0,fmh0,fml0⟩:=Rep.kR fm_1;obtain rfl:fmv0=_:=by simpa using fmh0
 clear fmh0
 obtain ⟨nv0,nhe,n_0⟩:=RName_raw nr
 simp only [List.cons.injEq,and_true] at nhe
 obtain rfl:=nhe
 obtain ⟨na0,np0,nh0,nl0⟩:=Rep.kR n_0;obtain rfl:nc0=_:=by simpa using nh0
 clear nh0
 show Calls Tryz.prog 212 #[_,_,_] w _
 go_enter Tryz.func212,Tryz.ntmps212
 go_upto_region 1 with fail
 generalize hwB:World.alloc w _=wB
 have EB:Below w.heap.size w wB:=by rw [← hwB];exact (by repeat (first|(with_reducible exact Below.refl _ _) | refine Below.alloc ?_ (by simp;try omega) _ | refine Below.drew ?_ | refine Below.setCell ?_ (by simp;try omega) _))
 have K3_0:wB.cell? ⟨w.heap.size,0,none⟩=some (.slice fma0 (m.1).length fmp0):=by rw [← hwB];simp [go_sem]
 have K3_1:wB.cell? ⟨w.heap.size,1,none⟩=some (.int .i64 m.2.1):=by rw [← hwB];simp [go_sem]
 have K3_2:wB.cell? ⟨w.heap.size,2,none⟩=some (.int .i64 m.2.2):=by rw [← hwB];simp [go_sem]
 clear hwB
 replace Af0:=cL EB Af0
 replace An0:=cL EB An0
 refine wp_region_soft_plain (fun W=>Below wB.heap.size wB W) [true,true,true,true,true,true,true,true,false,true,true] (Below.refl _ _) ?_
 intro wS HS
 all_goals first|(refine kC rfl HS ?_)|(refine kD (v:=?_) rfl (fun W hW=>?_) ?_;rotate_left;(· go_simp;try with_reducible rfl))
 iterate 2
  all_goals try simp only [Act.put,zA,zB,zC]
  all_goals first|(refine kC rfl HS ?_)|(refine kD (v:=?_) rfl (fun W hW=>?_) ?_;rotate_left;(· have A_K3_0:=cL hW K3_0;have A_K3_1:=cL hW K3_1;have A_K3_2:=cL hW K3_2;have A_Af0:=cL hW Af0;have A_An0:=cL hW An0;clear hW;go_simp;try with_reducible rfl))
 all_goals try simp only [Act.put,zA,zB,zC]
 all_goals first|(refine kC rfl HS ?_)|(refine kD (v:=?_) rfl (fun W hW=>?_) ?_;rotate_left;(· go_simp;try with_reducible rfl))
 all_goals try simp only [Act.put,zA,zB,zC]
 all_goals first|(refine kC rfl HS ?_;have hg4:=True.intro)|(refine kE (v:=?_) (b:=?_) rfl (fun W hW=>?_) ?_ (fun b hg4=>?_);rotate_left;rotate_left;(· go_simp;try with_reducible rfl);(· with_reducible rfl);cases b;all_goals first|(exact Bool.noConfusion hg4)|(simp only [Bool.not_eq_true',Bool.not_eq_false'] at hg4) | skip)
 all_goals try simp only [Act.put,zA,zB,zC]
 all_goals first|(refine kC rfl HS ?_)|(refine kD (v:=?_) rfl (fun W hW=>?_) ?_;rotate_left;(· go_simp;try with_reducible rfl))
 iterate 2
  all_goals try simp only [Act.put,zA,zB,zC]
  all_goals first|(refine kC rfl HS ?_)|(refine kD (v:=?_) rfl (fun W hW=>?_) ?_;rotate_left;(· have A_K3_0:=cL hW K3_0;have A_K3_1:=cL hW K3_1;have A_K3_2:=cL hW K3_2;have A_Af0:=cL hW Af0;have A_An0:=cL hW An0;clear hW;go_simp;try with_reducible rfl))
 all_goals try simp only [Act.put,zA,zB,zC]
 all_goals first|(refine kC rfl HS ?_)|(refine kF rfl (fun K hK=>?_);go_simp;refine (implEqualNames_c (Rep.raw.below fm_0 (EB.trans (HS.mono EB.size))) (Rep.raw.below nr (EB.trans (HS.mono EB.size)))).mono ?_;rintro e wS1 ⟨rfl,hbS⟩;replace HS:=HS.trans (hbS.mono HS.size);refine hK _ _ HS ?_;clear hK K hbS)
 all_goals try simp only [Act.put,zA,zB,zC]
 all_goals first|(refine kC rfl HS ?_)|(refine kD (v:=?_) rfl (fun W hW=>?_) ?_;rotate_left;(· go_simp;try with_reducible rfl))
 all_goals try simp only [Act.put,zA,zB,zC]
 all_goals first|(refine kC rfl HS ?_;have hg10:=True.intro)|(refine kE (v:=?_) (b:=?_) rfl (fun W hW=>?_) ?_ (fun b hg10=>?_);rotate_left;rotate_left;(· go_simp;try with_reducible rfl);(· with_reducible rfl);cases b;all_goals first|(exact Bool.noConfusion hg10)|(simp only [Bool.not_eq_true',Bool.not_eq_false'] at hg10) | skip)
 all_goals try simp only [Act.put,zA,zB,zC]
 all_goals refine soft_nil ?_
 all_goals have EG:=EB.trans (HS.mono EB.size)
 all_goals first
   | (have HT:=hD (show (isMeas n f m)=false by simp only [isMeas,Bool.not_true,Bool.not_false,Bool.and_true,Bool.true_and,Bool.and_false,Bool.false_and,Bool.or_true,Bool.true_or,Bool.or_false,Bool.false_or,Bool.not_not,hg4,hg10]);go_wp2;go_ret;exact ⟨kT HT.out.symm,EG⟩)
   | (have HT:=hD (show (isMeas n f m)=true by simp only [isMeas,Bool.not_true,Bool.not_false,Bool.and_true,Bool.true_and,Bool.and_false,Bool.false_and,Bool.or_true,Bool.true_or,Bool.or_false,Bool.false_or,Bool.not_not,hg4,hg10]);go_wp2;go_ret;exact ⟨kT HT.out.symm,EG⟩)
theorem callable_implmeasuredAt1_c:Callable Tryz.prog 212:=callable_of Tryz.func212 (by kernel_rfl) (by kernel_rfl)
set_option maxRecDepth 100000 in
set_option maxHeartbeats 1000000 in
theorem implmeasuredAt_c {w:World} {vl:Value} {l:(List kQ)} (hl:(Rep.slice 166 kI).raw w [vl] l) {cn:List Value} {n:LName} (hn:RName.raw w cn n) {f:Int} :
    Calls Tryz.prog 141 #[vl,.agg cn.toArray,.int .i64 f] w fun e w'=>e=.returned (.int .i64 (idxOf (isMeas n f) l))∧Below w.heap.size w w':=by
 obtain ⟨al,pl,el,ll⟩:=Rep.kR hl;obtain rfl:vl=_:=by simpa using el
 clear el
 have Hn:=hD hn
 obtain ⟨fnv0,rfl,fn_0⟩:=RName_raw hn
 obtain ⟨fna0,fnp0,fnh0,fnl0⟩:=Rep.kR fn_0;obtain rfl:fnv0=_:=by simpa using fnh0
 clear fnh0
 go_enter Tryz.func141,Tryz.ntmps141
 go_upto_region 1 with fail
 generalize hwB:World.alloc (World.alloc w _) _=wB
 have EB:Below w.heap.size w wB:=by rw [← hwB];exact (by repeat (first|(with_reducible exact Below.refl _ _) | refine Below.alloc ?_ (by simp;try omega) _ | refine Below.drew ?_ | refine Below.setCell ?_ (by simp;try omega) _))
 have K4_0:wB.cell? ⟨w.heap.size,0,none⟩=some (.slice fna0 (n).length fnp0):=by rw [← hwB];simp [go_sem]
 have K5_0:wB.cell? ⟨w.heap.size + 1,0,none⟩=some (.int .i64 f):=by rw [← hwB];simp [go_sem]
 clear hwB
 go_wp2_with fail
 refine (IndexFunc_Measurement_c (isMeas n f) callable_implmeasuredAt1_c (Rep.raw.below hl EB) ?_).mono ?_
 · intro wr hb i h cs hr
   exact implmeasuredAt1_c hr (cL hb K5_0) (Rep.raw.below Hn.out (EB.trans (hb.mono EB.size))) (cL hb K4_0)
 rintro e w1 ⟨rfl,hb1⟩
 have EG:Below w.heap.size w w1:=EB.trans (hb1.mono EB.size)
 clear hb1
 go_wp2
 go_ret
 exact ⟨rfl,EG⟩
end Go.Proofs.YtomdenfcfbkfbaaGreat
namespace Go.Proofs.YtomdenfcfbkfbaaGreat
open Go.RowKit
set_option linter.unusedVariables false
set_option linter.unusedSimpArgs false
set_option linter.unnecessarySimpa false
theorem idxOf_get {α:Type} {p:α→Bool} {x:List α} (h:¬ idxOf p x < 0):∃ k:Nat,k < x.length∧idxOf p x=k:=by
 unfold idxOf at *
 cases e:x.findIdx? p with
 | none=>rw [e] at h;simp at h
 | some i=>exact ⟨i,(List.findIdx?_eq_some_iff_getElem.1 e).1,rfl⟩
def failOf (l:List kQ) (n:LName) (f:Int):Int:=if idxOf (isMeas n f) l < 0 then 0 else (l.getD (idxOf (isMeas n f) l).toNat ([],0,0)).2.2
theorem failOf_no {l:List kQ} {n:LName} {f:Int} (h:idxOf (isMeas n f) l < 0):failOf l n f=0:=by unfold failOf;rw [if_pos h]
theorem failOf_yes {l:List kQ} {n:LName} {f:Int} {k:Nat} (hk:k < l.length) (h:idxOf (isMeas n f) l=k):failOf l n f=l[k].2.2:=by
 unfold failOf;rw [h,if_neg (by omega),Int.toNat_natCast,getD_get hk]
set_option maxHeartbeats 1000000 in
theorem specFailuresOf_w {w:World} {vl:Value} {l:List kQ} (hl:(Rep.slice 166 kI).raw w [vl] l) {cn:List Value} {n:LName} (hn:RName.raw w cn n) {f:Int} :
    Calls Tryz.prog 185 #[vl,.agg cn.toArray,.int .i64 f] w fun e w'=>e=.returned (.int .i64 (failOf l n f))∧Below w.heap.size w w':=by
 have HN:=hD hn
 have HL:=hD hl
 obtain ⟨av,rfl,_⟩:=RName_raw hn
 obtain ⟨aa,capa,hva,la⟩:=Rep.kR hl;obtain rfl:vl=_:=by simpa using hva
 clear hn hva hl
 go_enter Tryz.func185,Tryz.ntmps185
 go_wp2_with fail
 refine (specl15Find_c (HL.out.below (by repeat (first|(with_reducible exact Below.refl _ _) | refine Below.alloc ?_ (by simp;try omega) _ | refine Below.drew ?_ | refine Below.setCell ?_ (by simp;try omega) _))) (HN.out.below (by repeat (first|(with_reducible exact Below.refl _ _) | refine Below.alloc ?_ (by simp;try omega) _ | refine Below.drew ?_ | refine Below.setCell ?_ (by simp;try omega) _)))).mono ?_
 rintro e w1 ⟨rfl,hb1⟩
 have EF:Below w.heap.size w w1:=Below.trans (by repeat (first|(with_reducible exact Below.refl _ _) | refine Below.alloc ?_ (by simp;try omega) _ | refine Below.drew ?_ | refine Below.setCell ?_ (by simp;try omega) _)) (hb1.mono (by simp))
 clear hb1
 by_cases h:idxOf (isMeas n f) l < 0
 · have HT:=hD (failOf_no h)
   go_wp2
   go_ret
   exact ⟨ret_int HT.out.symm,EF⟩
 obtain ⟨k,hk,hi⟩:=idxOf_get h
 have HT:=hD (failOf_yes hk hi)
 rw [hi] at h ⊢
 clear hi
 obtain ⟨ba,offa,rfl,c0,c1,c2,hr,A0,A1,A2⟩:=Rep.get3 (HL.out.below EF) hk rfl
 obtain ⟨v0,he,_⟩:=RMeasurement_raw hr
 simp only [List.cons.injEq,and_true] at he
 obtain ⟨rfl,rfl,rfl⟩:=he
 clear hr
 generalize l[k]=y at *
 have hk2:=Int.ofNat_lt.2 hk
 go_wp2
 go_ret
 exact ⟨ret_int HT.out.symm,EF⟩
set_option maxHeartbeats 1000000 in
theorem implFailuresOf_w {w:World} {vl:Value} {l:List kQ} (hl:(Rep.slice 166 kI).raw w [vl] l) {cn:List Value} {n:LName} (hn:RName.raw w cn n) {f:Int} :
    Calls Tryz.prog 207 #[vl,.agg cn.toArray,.int .i64 f] w fun e w'=>e=.returned (.int .i64 (failOf l n f))∧Below w.heap.size w w':=by
 have HN:=hD hn
 have HL:=hD hl
 obtain ⟨av,rfl,_⟩:=RName_raw hn
 obtain ⟨aa,capa,hva,la⟩:=Rep.kR hl;obtain rfl:vl=_:=by simpa using hva
 clear hn hva hl
 go_enter Tryz.func207,Tryz.ntmps207
 go_wp2_with fail
 refine (implmeasuredAt_c (HL.out.below (by repeat (first|(with_reducible exact Below.refl _ _) | refine Below.alloc ?_ (by simp;try omega) _ | refine Below.drew ?_ | refine Below.setCell ?_ (by simp;try omega) _))) (HN.out.below (by repeat (first|(with_reducible exact Below.refl _ _) | refine Below.alloc ?_ (by simp;try omega) _ | refine Below.drew ?_ | refine Below.setCell ?_ (by simp;try omega) _)))).mono ?_
 rintro e w1 ⟨rfl,hb1⟩
 have EF:Below w.heap.size w w1:=Below.trans (by repeat (first|(with_reducible exact Below.refl _ _) | refine Below.alloc ?_ (by simp;try omega) _ | refine Below.drew ?_ | refine Below.setCell ?_ (by simp;try omega) _)) (hb1.mono (by simp))
 clear hb1
 by_cases h:idxOf (isMeas n f) l < 0
 · have HT:=hD (failOf_no h)
   go_wp2
   go_ret
   exact ⟨ret_int HT.out.symm,EF⟩
 obtain ⟨k,hk,hi⟩:=idxOf_get h
 have HT:=hD (failOf_yes hk hi)
 rw [hi] at h ⊢
 clear hi
 obtain ⟨ba,offa,rfl,c0,c1,c2,hr,A0,A1,A2⟩:=Rep.get3 (HL.out.below EF) hk rfl
 obtain ⟨v0,he,_⟩:=RMeasurement_raw hr
 simp only [List.cons.injEq,and_true] at he
 obtain ⟨rfl,rfl,rfl⟩:=he
 clear hr
 generalize l[k]=y at *
 have hk2:=Int.ofNat_lt.2 hk
 go_wp2
 go_ret
 exact ⟨ret_int HT.out.symm,EF⟩
end Go.Proofs.YtomdenfcfbkfbaaGreat

/-
  The faces of the routes of the longest prefix.
-/
import Derived.Test.YtomdenfcfbkfbaaGreatBase
import Derived.Test.YtomdenfcfbkfbaaGreatRank
import Derived.Test.YtomdenfcfbkfbaaGreatMatch
import Derived.Test.YtomdenfcfbkfbaaGreatDelF
import Derived.Test.YtomdenfcfbkfbaaGreatCopyR
import Derived.IntWalk
import Derived.Deep.CutRange
import Derived.WalkSpells
import Derived.WalkLawsBesides
namespace Go.Proofs.YtomdenfcfbkfbaaGreat
open Go.RowKit
set_option linter.unusedVariables false
set_option linter.unusedSimpArgs false
set_option linter.unnecessarySimpa false
namespace Rep
def asIn {α:Type} (r:Rep α) (w0:World):Rep α where
  n:=r.n
  is _ _ cs x _:=r.is false w0 cs x (fun _=>True)
  bdd:=r.bdd
  zero:=r.zero
  zc:=r.zc
  mark:=r.mark
  held:=r.held
  cnt:=r.cnt
  len h:=r.len h
  one h:=r.one h
  mono h _:=h
  wide h _:=h
  weak h:=h
  live h:=h
  bdd_mono:=r.bdd_mono
  bdd_zero:=r.bdd_zero
  is_zero:=r.is_zero
  mark_held:=r.mark_held
  held_ge:=r.held_ge
  mark_ge:=r.mark_ge
  mark_le:=r.mark_le
  mark_bdd:=r.mark_bdd
theorem isFlat_asIn {α:Type} {r:Rep α} {w0:World}:(Rep.asIn r w0).IsFlat:=fun h=>h
end Rep
def keyR (r:LRoute):Int:=r.2.2 * 18446744073709551616 + r.2.1
def gtR (y r:LRoute):Bool:=decide (r.2.2 < y.2.2) || ((y.2.2==r.2.2) && decide (r.2.1 < y.2.1))
def I64 (x:Int):Prop:=-9223372036854775808≤x∧x≤9223372036854775807
theorem gtR_key {y r:LRoute} (hy:I64 y.2.1) (hr:I64 r.2.1):decide (keyR r < keyR y)=gtR y r:=by
 unfold I64 at hy hr
 unfold gtR keyR
 rw [Bool.eq_iff_iff]
 simp only [decide_eq_true_eq,Bool.or_eq_true,Bool.and_eq_true,beq_iff_eq]
 omega
theorem orI_key {x y:LRoute} (hx:I64 x.2.1) (hy:I64 y.2.1):decide (orI [cmpI x.2.2 y.2.2,cmpI x.2.1 y.2.1] < 0)=decide (keyR x < keyR y):=by
 unfold I64 at hx hy
 have e:orI [cmpI x.2.2 y.2.2,cmpI x.2.1 y.2.1]=if cmpI x.2.2 y.2.2≠0 then cmpI x.2.2 y.2.2 else cmpI x.2.1 y.2.1:=by
  by_cases h:cmpI x.2.2 y.2.2=0
  · by_cases h2:cmpI x.2.1 y.2.1=0
    · rw [orI_miss (by intro j hj;match j,hj with | 0,_=>exact h | 1,_=>exact h2 | j + 2,hj=>simp only [List.length_cons,List.length_nil] at hj;omega),if_neg (by simpa using h),h2]
    rw [orI_hit (k:=1) (by simp) (by simpa using h2) (by intro j hj hj2;match j,hj with | 0,_=>exact h),if_neg (by simpa using h)];rfl
  rw [orI_hit (k:=0) (by simp) (by simpa using h) (by intro j hj;omega),if_pos h];rfl
 rw [e,decide_eq_decide]
 unfold cmpI keyR
 split <;> split <;> (try split) <;> (try split) <;> omega
def hitR (n:LName) (l:List LRoute) (r:LRoute):Bool:=eqN r.1 (mName n l)
def hopsR (n:LName) (l:List LRoute):List LRoute:=Srt.sorted keyR (l.filter (hitR n l))
def hopsF (l:List LRoute) (n:LName):List Int:=if mOk n l then (hopsR n l).map (fun r=>r.2.1) else []
theorem hopsF_no {l:List LRoute} {n:LName} (h:mOk n l=false):hopsF l n=[]:=by unfold hopsF;rw [h];rfl
theorem hopsF_yes {l:List LRoute} {n:LName} (h:mOk n l=true):hopsF l n=(hopsR n l).map (fun r=>r.2.1):=by unfold hopsF;rw [h];rfl
theorem hopsR_len {l:List LRoute} {n:LName}:(hopsR n l).length≤l.length:=by unfold hopsR;rw [sorted_len];exact List.length_filter_le _ _
theorem hopsF_len {l:List LRoute} {n:LName}:(hopsF l n).length≤l.length:=by
 unfold hopsF;split
 · rw [List.length_map];exact hopsR_len
 exact Nat.zero_le _
theorem sorted_app {α:Type} {key:α→Int} {l:List α} {x:α}:Srt.sorted key (l++[x])=Srt.put key (Srt.sorted key l) x:=by
 unfold Srt.sorted;rw [List.foldl_append];rfl
set_option maxRecDepth 100000 in
set_option maxHeartbeats 2000000 in
theorem implNextHops1_c {w:World} {cr:List Value} {r:LRoute} (hr:RRoute.raw w cr r) {p:LName} {pc0:Value} {Bp:Nat} (pr:RName.raw w [pc0] p) (Ap0:w.cell? ⟨Bp,0,none⟩=some pc0) :
    Calls Tryz.prog 199 (#[.agg cr.toArray]++#[.pointer (some ⟨Bp,0,none⟩)]) w fun e w'=>e=.returned (.bool (!eqN r.1 p))∧Below w.heap.size w w':=by
 have Hr:=hD hr
 obtain ⟨frv0,rfl,fr_0,fr_1,fr_2,fr_3⟩:=RRoute_raw hr
 obtain ⟨fra0,frp0,frh0,frl0⟩:=Rep.kR fr_1;obtain rfl:frv0=_:=by simpa using frh0
 clear frh0
 obtain ⟨pv0,phe,p_0⟩:=RName_raw pr
 simp only [List.cons.injEq,and_true] at phe
 obtain rfl:=phe
 obtain ⟨pa0,pp0,ph0,pl0⟩:=Rep.kR p_0;obtain rfl:pc0=_:=by simpa using ph0
 clear ph0
 show Calls Tryz.prog 199 #[_,_] w _
 go_enter Tryz.func199,Tryz.ntmps199
 go_upto_region 1 with fail
 generalize hwB:World.alloc w _=wB
 have EB:Below w.heap.size w wB:=by rw [← hwB];exact (by repeat (first|(with_reducible exact Below.refl _ _) | refine Below.alloc ?_ (by simp;try omega) _ | refine Below.drew ?_ | refine Below.setCell ?_ (by simp;try omega) _))
 have K2_0:wB.cell? ⟨w.heap.size,0,none⟩=some (.slice fra0 (r.1).length frp0):=by rw [← hwB];simp [go_sem]
 have K2_1:wB.cell? ⟨w.heap.size,1,none⟩=some (.int .i64 r.2.1):=by rw [← hwB];simp [go_sem]
 have K2_2:wB.cell? ⟨w.heap.size,2,none⟩=some (.int .i64 r.2.2):=by rw [← hwB];simp [go_sem]
 clear hwB
 replace Ap0:=cL EB Ap0
 refine wp_region_soft_plain (fun W=>Below wB.heap.size wB W) [true,true,true,false,true,true] (Below.refl _ _) ?_
 intro wS HS
 all_goals first|(refine kC rfl HS ?_)|(refine kD (v:=?_) rfl (fun W hW=>?_) ?_;rotate_left;(· go_simp;try with_reducible rfl))
 iterate 2
  all_goals try simp only [Act.put,zA,zB,zC]
  all_goals first|(refine kC rfl HS ?_)|(refine kD (v:=?_) rfl (fun W hW=>?_) ?_;rotate_left;(· have A_K2_0:=cL hW K2_0;have A_K2_1:=cL hW K2_1;have A_K2_2:=cL hW K2_2;have A_Ap0:=cL hW Ap0;clear hW;go_simp;try with_reducible rfl))
 all_goals try simp only [Act.put,zA,zB,zC]
 all_goals first|(refine kC rfl HS ?_)|(refine kF rfl (fun K hK=>?_);go_simp;refine (implEqualNames_c (Rep.raw.below fr_0 (EB.trans (HS.mono EB.size))) (Rep.raw.below pr (EB.trans (HS.mono EB.size)))).mono ?_;rintro e wS1 ⟨rfl,hbS⟩;replace HS:=HS.trans (hbS.mono HS.size);refine hK _ _ HS ?_;clear hK K hbS)
 all_goals try simp only [Act.put,zA,zB,zC]
 all_goals first|(refine kC rfl HS ?_)|(refine kD (v:=?_) rfl (fun W hW=>?_) ?_;rotate_left;(· go_simp;try with_reducible rfl))
 all_goals try simp only [Act.put,zA,zB,zC]
 all_goals first|(refine kC rfl HS ?_;have hg5:=True.intro)|(refine kE (v:=?_) (b:=?_) rfl (fun W hW=>?_) ?_ (fun b hg5=>?_);rotate_left;rotate_left;(· go_simp;try with_reducible rfl);(· with_reducible rfl);cases b;all_goals first|(exact Bool.noConfusion hg5)|(simp only [Bool.not_eq_true',Bool.not_eq_false'] at hg5) | skip)
 all_goals try simp only [Act.put,zA,zB,zC]
 all_goals refine soft_nil ?_
 all_goals have EG:=EB.trans (HS.mono EB.size)
 all_goals first
   | (have HT:=hD (show (!eqN r.1 p)=false by simp only [Bool.not_true,Bool.not_false,Bool.and_true,Bool.true_and,Bool.and_false,Bool.false_and,Bool.or_true,Bool.true_or,Bool.or_false,Bool.false_or,Bool.not_not,hg5]);go_wp2;go_ret;exact ⟨kT HT.out.symm,EG⟩)
   | (have HT:=hD (show (!eqN r.1 p)=true by simp only [Bool.not_true,Bool.not_false,Bool.and_true,Bool.true_and,Bool.and_false,Bool.false_and,Bool.or_true,Bool.true_or,Bool.or_false,Bool.false_or,Bool.not_not,hg5]);go_wp2;go_ret;exact ⟨kT HT.out.symm,EG⟩)
theorem callable_implNextHops1_c:Callable Tryz.prog 199:=callable_of Tryz.func199 (by kernel_rfl) (by kernel_rfl)
theorem cmpI_rng (a b:Int):-9223372036854775808≤cmpI a b∧cmpI a b≤9223372036854775807:=by unfold cmpI;split <;> (try split) <;> omega
theorem Rep.row_int2 {w:World} {a b:Int} (ha:-9223372036854775808≤a∧a≤9223372036854775807) (hb:-9223372036854775808≤b∧b≤9223372036854775807):Rep.row Rep.int true w [.int .i64 a,.int .i64 b] [a,b] (fun _=>True) :=
  ⟨[.int .i64 a],[.int .i64 b],fun _=>False,fun _=>False,rfl,⟨rfl,ha⟩,⟨[.int .i64 b],[],fun _=>False,fun _=>False,rfl,⟨rfl,hb⟩,rfl,fun _ h=>h,fun _ h=>h,fun _ _ h=>h.elim⟩,fun _ h=>h.elim,fun _ h=>h.elim,fun _ _ h=>h.elim⟩
set_option maxRecDepth 100000 in
set_option maxHeartbeats 2000000 in
theorem implNextHops2_c {w:World} {cx:List Value} {x:LRoute} (hx:RRoute.raw w cx x) {cy:List Value} {y:LRoute} (hy:RRoute.raw w cy y) :
    Calls Tryz.prog 201 #[.agg cx.toArray,.agg cy.toArray] w fun e w'=>∃ k:Int,e=.returned (.int .i64 k)∧decide (k < 0)=decide (keyR x < keyR y)∧Below w.heap.size w w':=by
 have Hx:=hD hx
 obtain ⟨fxv0,rfl,fx_0,fx_1,fx_2,fx_3⟩:=RRoute_raw hx
 obtain ⟨fxa0,fxp0,fxh0,fxl0⟩:=Rep.kR fx_1;obtain rfl:fxv0=_:=by simpa using fxh0
 clear fxh0
 have Hy:=hD hy
 obtain ⟨fyv0,rfl,fy_0,fy_1,fy_2,fy_3⟩:=RRoute_raw hy
 obtain ⟨fya0,fyp0,fyh0,fyl0⟩:=Rep.kR fy_1;obtain rfl:fyv0=_:=by simpa using fyh0
 clear fyh0
 have HK:=hD (orI_key (x:=x) (y:=y) fx_2 fy_2)
 go_enter Tryz.func201,Tryz.ntmps201
 go_upto_region 1 with fail
 generalize hwB:World.alloc (World.alloc w _) _=wB
 have EB:Below w.heap.size w wB:=by rw [← hwB];exact (by repeat (first|(with_reducible exact Below.refl _ _) | refine Below.alloc ?_ (by simp;try omega) _ | refine Below.drew ?_ | refine Below.setCell ?_ (by simp;try omega) _))
 have K2_0:wB.cell? ⟨w.heap.size,0,none⟩=some (.slice fxa0 (x.1).length fxp0):=by rw [← hwB];simp [go_sem]
 have K2_1:wB.cell? ⟨w.heap.size,1,none⟩=some (.int .i64 x.2.1):=by rw [← hwB];simp [go_sem]
 have K2_2:wB.cell? ⟨w.heap.size,2,none⟩=some (.int .i64 x.2.2):=by rw [← hwB];simp [go_sem]
 have K3_0:wB.cell? ⟨w.heap.size + 1,0,none⟩=some (.slice fya0 (y.1).length fyp0):=by rw [← hwB];simp [go_sem]
 have K3_1:wB.cell? ⟨w.heap.size + 1,1,none⟩=some (.int .i64 y.2.1):=by rw [← hwB];simp [go_sem]
 have K3_2:wB.cell? ⟨w.heap.size + 1,2,none⟩=some (.int .i64 y.2.2):=by rw [← hwB];simp [go_sem]
 clear hwB
 refine wp_region_softP (fun W=>Below wB.heap.size wB W) [(0,true),(1,true),(2,true),(3,true),(5,true),(6,true),(7,true),(8,true),(4,false),(9,false),(10,false),(11,false),(12,true)] (by kernel_rfl) (by kernel_rfl) (fun c a d v w h=>by cases d <;> exact h) ((Below.refl _ _).drew) ?_
 intro wS HS
 simp only [pickOps,List.getElem?_cons_succ,List.getElem?_cons_zero,List.map_cons,List.map_nil]
 iterate 4
  all_goals first|(refine kC rfl HS ?_)|(refine kD (v:=?_) rfl (fun W hW=>?_) ?_;rotate_left;(· go_simp;try with_reducible rfl))
  all_goals try simp only [Act.put,zA,zB,zC]
  all_goals first|(refine kC rfl HS ?_)|(refine kD (v:=?_) rfl (fun W hW=>?_) ?_;rotate_left;(· have A_K2_0:=cL hW K2_0;have A_K2_1:=cL hW K2_1;have A_K2_2:=cL hW K2_2;have A_K3_0:=cL hW K3_0;have A_K3_1:=cL hW K3_1;have A_K3_2:=cL hW K3_2;clear hW;go_simp;try with_reducible rfl))
  all_goals try simp only [Act.put,zA,zB,zC]
 iterate 2
  all_goals first|(refine kC rfl HS ?_)|(refine kF rfl (fun K hK=>?_);go_simp;refine (cmpCompare_c).mono ?_;rintro e wS1 ⟨rfl,hwS⟩;obtain rfl:=hwS.symm;refine hK _ _ HS ?_;clear hK K)
  all_goals try simp only [Act.put,zA,zB,zC]
 all_goals first|(refine kC rfl HS ?_)|(refine kF rfl (fun K hK=>?_);go_simp;have RL:(Rep.slice 3 Rep.int).rd (World.alloc wS (.cells #[.int .i64 (cmpI x.2.2 y.2.2),.int .i64 (cmpI x.2.1 y.2.1)] 3)) [.slice (some ⟨wS.heap.size,0,none⟩) 2 2] [cmpI x.2.2 y.2.2,cmpI x.2.1 y.2.1]:=((Rep.own0_lit (e:=3) (r:=Rep.int) (w:=wS) (cs:=[.int .i64 (cmpI x.2.2 y.2.2),.int .i64 (cmpI x.2.1 y.2.1)]) (xs:=[cmpI x.2.2 y.2.2,cmpI x.2.1 y.2.1]) (T:=fun _=>True) (S:=fun _=>True) (fun _ _=>trivial) (by show 2≤_;unfold maxLen;omega) (Rep.row_int2 (cmpI_rng _ _) (cmpI_rng _ _)) (fun _ h=>h) trivial).own (by show 2≤_;unfold Big;omega)).rd;have bN:Below wS.heap.size wS (World.alloc wS (.cells #[.int .i64 (cmpI x.2.2 y.2.2),.int .i64 (cmpI x.2.1 y.2.1)] 3)):=(Below.refl _ _).alloc (Nat.le_refl _) _;generalize hwN:World.alloc wS (.cells #[.int .i64 (cmpI x.2.2 y.2.2),.int .i64 (cmpI x.2.1 y.2.1)] 3)=wN at RL bN ⊢;clear hwN;replace HS:=HS.trans (bN.mono HS.size);refine hK _ _ HS ?_;clear hK K bN)
 all_goals try simp only [Act.put,zA,zB,zC]
 all_goals first|(refine kC rfl HS ?_)|(refine kF rfl (fun K hK=>?_);go_simp;refine (cmpOr_c RL.1).mono ?_;rintro e wS1 ⟨rfl,hwS⟩;obtain rfl:=hwS.symm;refine hK _ _ HS ?_;clear hK K)
 all_goals try simp only [Act.put,zA,zB,zC]
 all_goals first|(refine kC rfl HS ?_)|(refine kD (v:=?_) rfl (fun W hW=>?_) ?_;rotate_left;(· go_simp;try with_reducible rfl))
 all_goals try simp only [Act.put,zA,zB,zC]
 all_goals refine soft_nil ?_
 have EG:=EB.trans (HS.mono EB.size)
 go_wp2
 go_ret
 exact ⟨_,rfl,by simpa using HK.out,EG⟩
theorem callable_NextHops2:Callable Tryz.prog 201:=callable_of Tryz.func201 (by kernel_rfl) (by kernel_rfl)
set_option maxRecDepth 100000 in
set_option maxHeartbeats 4000000 in
theorem implNextHops_0 {w:World} {vl:Value} {l:List LRoute} (hl:(Rep.slice 159 RRoute).rd w [vl] l) {cn:List Value} {n:LName} (hn:RName.rd w cn n) :
    Calls Tryz.prog 137 #[vl,.agg cn.toArray] w (Made0 3 Rep.int (hopsF l n) w):=by
 have HL:=hD hl
 have HN:=hD hn
 have hlb:l.length≤16777216:=hl.2.1
 obtain ⟨nv,rfl,n_0⟩:=RName_raw hn.1
 obtain ⟨na,np,hnv,_⟩:=Rep.kR n_0;obtain rfl:nv=_:=by simpa using hnv
 obtain ⟨la,lp,hlv,_⟩:=Rep.kR hl.1;obtain rfl:vl=_:=by simpa using hlv
 clear hnv hlv n_0 hl hn
 go_enter Tryz.func137,Tryz.ntmps137
 go_wp2_with fail
 generalize hwB:World.alloc w _=wB
 have EB:Below w.heap.size w wB:=by rw [← hwB];exact (by repeat (first|(with_reducible exact Below.refl _ _) | refine Below.alloc ?_ (by simp;try omega) _ | refine Below.drew ?_ | refine Below.setCell ?_ (by simp;try omega) _))
 have K0:wB.cell? ⟨w.heap.size,0,none⟩=some (.slice na n.length np):=by rw [← hwB];simp [go_sem]
 have hzB:=EB.size
 clear hwB
 refine (implMatchingPrefix_c (HL.out.below EB) (HN.out.below EB)).mono ?_
 rintro e w1 ⟨pc,rfl,OP,hb1⟩
 obtain ⟨pv0,rfl,p_0⟩:=RName_raw OP.raw
 obtain ⟨pa0,pp0,ph0,_⟩:=Rep.kR p_0;obtain rfl:pv0=_:=(by simpa using ph0)
 clear ph0 p_0
 have HP:=hD OP.rd
 have E1:=EB.trans (hb1.mono EB.size)
 have hz1:=E1.size
 clear OP hb1 EB K0
 have HNO:=hD (hopsF_no (l:=l) (n:=n));have HYES:=hD (hopsF_yes (l:=l) (n:=n))
 cases hok:mOk n l
 · have HE:=hD (HNO.out hok)
   go_wp2
   go_ret
   exact ⟨_,rfl,by rw [HE.out];exact Rep.own0.void,E1.trans (Below.mono (by repeat (first|(with_reducible exact Below.refl _ _) | refine Below.alloc ?_ (by simp;try omega) _ | refine Below.drew ?_ | refine Below.setCell ?_ (by simp;try omega) _)) E1.size)⟩
 have HE:=hD (HYES.out hok)
 clear HNO HYES
 go_wp2_with fail
 generalize hwC:World.alloc w1 _=wC
 have EC0:Below w1.heap.size w1 wC:=by rw [← hwC];exact (Below.refl _ _).alloc (Nat.le_refl _) _
 have KP:wC.cell? ⟨w1.heap.size,0,none⟩=some (.slice pa0 (mName n l).length pp0):=by rw [← hwC];simp [go_sem]
 clear hwC
 have EC:=E1.trans (EC0.mono E1.size)
 have hzC:=EC0.size
 refine (implcopyRoutes_c (HL.out.below EC)).mono ?_
 rintro e w2 ⟨v2,rfl,O2,hb2⟩
 obtain ⟨oa,on,oc,ho,HON⟩:=O2.parts;obtain rfl:=ho
 have HO:=hD O2;have HB2:=hD hb2
 have hz2:=hb2.size
 have E2:=EC.trans (hb2.mono EC.size)
 clear O2 hb2
 go_wp2_with fail
 have HCL:Hid (∀ wr,Touch (Btw wC.heap.size w2.heap.size) w2 wr→∀ x cs,RRoute.raw wr cs x→Calls Tryz.prog 199 (#[.agg cs.toArray]++#[.pointer (some ⟨w1.heap.size,0,none⟩)]) wr (fun e w'=>e=.returned (.bool (!eqN x.1 (mName n l)))∧Below wr.heap.size wr w')):=hD (fun wr tw x cs hx=>by
   have e:=HB2.out.trans (tw.below HB2.out.size (fun i hi=>hi.1))
   exact implNextHops1_c hx (Rep.raw.below HP.out.1 (EC0.trans (e.mono EC0.size))) (cL e KP))
 refine (DeleteFunc_Route_c (fun r=>!eqN r.1 (mName n l)) callable_implNextHops1_c HO.out hlb HCL.out).mono ?_
 rintro e w3 ⟨v3,rfl,O3,T3⟩
 obtain ⟨da,dn,dc,hd,HDN⟩:=O3.parts;obtain rfl:=hd
 have HO3:=hD (O3.cast (show _=l.filter (hitR n l) by congr 1;funext r;simp [hitR]))
 have hz3:=T3.size
 have E3:=E2.trans (T3.below (by omega) (fun i hi=>by have:=hi.1;omega))
 clear O3 T3 HO HCL KP
 go_wp2_with fail
 have HC:Hid (Cmp_Route keyR 201 #[] (Btw wC.heap.size w2.heap.size) w3):=hD (fun wr tw x y cs ds hx hy=>by simpa using implNextHops2_c hx hy)
 refine (SortStable_Route_c keyR callable_NextHops2 HC.out HO3.out (by have:=List.length_filter_le (hitR n l) l;omega)).mono ?_
 rintro e w4 ⟨rfl,O4,T4⟩
 have HO4:=hD (O4.cast (show _=hopsR n l from Srt.stable_eq _))
 have hz4:=T4.size
 have E4:=E3.trans (T4.below (by omega) (fun i hi=>by have:=hi.1;omega))
 have HHL:=hopsR_len (l:=l) (n:=n)
 clear O4 T4 HO3 HC E3 E2
 have HLN:Hid (dn=(hopsR n l).length):=hD (by have:=HO4.out.none_iff;obtain ⟨a,c,h⟩:=this;simp only [Value.slice.injEq] at h;exact h.2.1)
 generalize hopsR n l=H at *
 obtain ⟨FS,hFS⟩:∃ FS:List Int,FS=H.map (fun r=>r.2.1):=⟨_,rfl⟩
 have HFS:=hD hFS;clear hFS
 have hdl:dn≤16777216:=by have:=HLN.out;omega
 go_wp2
 go_loopw [8,28] (fun v i wr=>∃ (k:Nat),k≤dn∧i=.int .i64 k∧Hid (Rep.own0 3 Rep.int wr v (FS.take k) (Btw w4.heap.size wr.heap.size))∧Below w4.heap.size w4 wr) (fun _ i _=>dn - (intOf i).toNat)
 case atStart=>exact ⟨0,Nat.zero_le _,rfl,hD Rep.own0.void,(by repeat (first|(with_reducible exact Below.refl _ _) | refine Below.alloc ?_ (by simp;try omega) _ | refine Below.drew ?_ | refine Below.setCell ?_ (by simp;try omega) _))⟩
 obtain ⟨k,hk,rfl,HI,hbel⟩:=hrel
 obtain ⟨ia,inn,ic,hi,HIN⟩:=HI.out.parts;obtain rfl:=hi
 have hrz:=hbel.size
 by_cases hlt:k < dn
 · have hkl:k < H.length:=by have:=HLN.out;omega
   have hil:inn≤16777216:=by have:=HIN.out;simp at this;omega
   obtain ⟨qb,qo,rfl,qc0,qc1,qc2,qr,A0,A1,A2⟩:=Rep.get3 (HO4.out.raw0.below hbel) hkl rfl
   have HSN:=hD (show FS.take (k + 1)=FS.take k++[H[k].2.1] by (have hl:k < FS.length:=by rw [HFS.out];simpa using hkl);rw [List.take_succ_eq_append_getElem hl];simp [HFS.out])
   generalize H[k]=x at *
   obtain ⟨qv0,qhe,q_0,q_1,q_2,q_3⟩:=RRoute_raw qr
   simp only [List.cons.injEq,and_true] at qhe
   obtain ⟨rfl,rfl,rfl⟩:=qhe
   obtain ⟨qa0,qp0,qh0,ql0⟩:=Rep.kR q_1;obtain rfl:qc0=_:=by simpa using qh0
   clear qh0
   have HRG:=q_2
   go_upto_region 10 with fail
   generalize hwD:World.alloc wr _=wD
   have ED:Below wr.heap.size wr wD:=by rw [← hwD];exact (Below.refl _ _).alloc (Nat.le_refl _) _
   have D1:wD.cell? ⟨wr.heap.size,1,none⟩=some (.int .i64 x.2.1):=by rw [← hwD];simp [go_sem]
   clear hwD
   have hzD:=ED.size
   have hbD:=hbel.trans (ED.mono hbel.size)
   replace HI:=hD (HI.out.below ED)
   have hin2:(FS.take k).length≤16777216:=by have:=HIN.out;omega
   go_wp2_with (at_builtin;refine Rep.wpList_pushB rfl _ _ 84 rfl (r:=Rep.int) (e:=3) Tryz.underlying84 infInt rfl (by decide) (by decide) (B:=w4.heap.size) HI.out (by rfl) (by rfl) rfl (Rep.flat_int HRG _) rfl (fun _ _ h=>h) (fun j hj=>⟨hj.1,by have:=hj.2;omega⟩) (fun _ h=>h.elim) (by omega) (by omega) ?_)
   intro v5 w5 hown hb5 hz5
   have HO5:=hD (Rep.own0.cast hown HSN.out.symm)
   have hbF:=hbD.trans hb5
   clear hown hb5
   go_wp2
   go_roundw
   case rel=>exact ⟨k + 1,by omega,by go_num,HO5,hbF⟩
   simp [intOf];omega
 obtain rfl:k=dn:=by omega
 have HF:=hD (HI.out.cast (show _=hopsF l n by rw [HE.out,← HFS.out,List.take_of_length_le (by rw [HFS.out];simp;have:=HLN.out;omega)]))
 have hkn:¬ (k:Int) < k:=by omega
 go_wp2
 go_ret
 exact ⟨_,rfl,HF.out.wide (fun j hj=>⟨by have:=hj.1;omega,hj.2⟩),E4.trans (hbel.mono E4.size)⟩
set_option maxRecDepth 100000 in
set_option maxHeartbeats 4000000 in
theorem specl14Put_c {w w0:World} {vl:Value} {l:List LRoute} {S:Nat→Prop} (hl:Rep.own0 159 (Rep.asIn RRoute w0) w vl l S) {cr:List Value} {r:LRoute} (hr:RRoute.rd w0 cr r) (hlen:l.length < 16777216) :
    Calls Tryz.prog 186 #[vl,.agg cr.toArray] w (Made0 159 (Rep.asIn RRoute w0) (Srt.put keyR l r) w):=by
 have HR:=hD hr
 obtain ⟨la,lp,hlv⟩:=hl.none_iff;obtain rfl:=hlv
 have HL:=hD ((hl.own (by unfold Big;omega)).rd)
 have HFM:=hD (Rep.own0_form hl)
 have hcap:=Rep.cap_raw HL.out.1
 obtain ⟨rv0,rfl,r_0,r_1,r_2,r_3⟩:=RRoute_raw hr.1
 obtain ⟨ra,rp,hrv,_⟩:=Rep.kR r_1;obtain rfl:rv0=_:=by simpa using hrv
 have HRF:=hD r_2
 clear hl hr hrv r_0 r_1 r_3 r_2
 go_enter Tryz.func186,Tryz.ntmps186
 go_wp2
 generalize hwB:World.alloc w _=wB
 have EB:Below w.heap.size w wB:=by rw [← hwB];exact (by repeat (first|(with_reducible exact Below.refl _ _) | refine Below.alloc ?_ (by simp;try omega) _ | refine Below.drew ?_ | refine Below.setCell ?_ (by simp;try omega) _))
 have K0:wB.cell? ⟨w.heap.size,0,none⟩=some (.slice ra r.1.length rp):=by rw [← hwB];simp [go_sem]
 have K1:wB.cell? ⟨w.heap.size,1,none⟩=some (.int .i64 r.2.1):=by rw [← hwB];simp [go_sem]
 have K2:wB.cell? ⟨w.heap.size,2,none⟩=some (.int .i64 r.2.2):=by rw [← hwB];simp [go_sem]
 clear hwB
 have HLB:=hD (HL.out.below EB)
 have hzB:=EB.size
 go_loopw [5] (fun q wr=>∃ (k:Nat),k≤l.length∧q=.int .i64 k∧Hid (Srt.place keyR k l r=Srt.place keyR l.length l r)∧Below wB.heap.size wB wr) (fun q _=>(intOf q).toNat)
 case atStart=>exact ⟨l.length,Nat.le_refl _,rfl,hD rfl,Below.refl _ _⟩
 obtain ⟨k,hkm,rfl,HP,hbel⟩:=hrel
 replace K0:=cL hbel K0
 replace K1:=cL hbel K1
 replace K2:=cL hbel K2
 have hk0:=Int.natCast_nonneg k
 have hkcapI:(k:Int)≤lp:=by omega
 have hkcap:k≤lp:=by omega
 by_cases hk:0 < k
 · obtain ⟨j,hj⟩:∃ j,j + 1=k:=⟨k - 1,by omega⟩
   have hjI:(k:Int) - 1=(j:Int):=by omega
   have hwj:IntKind.i64.wrap (j:Int)=j:=IntWalk.i64_in _ (by omega)
   have hj0:=Int.natCast_nonneg j
   have hjl:j < l.length:=by omega
   have hjm:(j:Int) < l.length:=by omega
   have hp:decide ((k:Int) > 0)=true:=by simp;omega
   have hp2:decide (0 < k)=true:=by simpa using hk
   have hp3:(0:Int) < k:=by omega
   obtain ⟨qb,qo,rfl,qc0,qc1,qc2,qr,A0,A1,A2⟩:=Rep.get3 (HLB.out.1.below hbel) hjl rfl
   have HY:=hD (fun q=>(place_next (key:=keyR) (x:=r) hj hjl q).symm.trans HP.out)
   have HNO:=hD (fun q=>(place_stop (key:=keyR) (x:=r) hj hjl q).symm.trans HP.out)
   generalize l[j]=y at *
   obtain ⟨qv0,qhe,q_0,q_1,q_2,q_3⟩:=RRoute_raw (show RRoute.raw w0 _ y from qr)
   simp only [List.cons.injEq,and_true] at qhe
   obtain ⟨rfl,rfl,rfl⟩:=qhe
   have HG:=hD (gtR_key (y:=y) (r:=r) q_2 HRF.out)
   clear q_0 q_1 q_2 q_3 qr
   go_upto_region 2 with fail
   go_cut [42] from 8 to 42 (fun s42 wc=>s42=.bool (gtR y r)∧Below wr.heap.size wr wc)
   case first =>
    refine wp_region_soft (fun W=>Below wr.heap.size wr W) [true,true,true,true,true,true,true,true,true,true,true,true,true,true,true,true,true,true,true,true,true,true,true,true,true,true,true,true,true,true,true,true,true,true,true] (by kernel_rfl) (by kernel_rfl) (fun c a d v w h=>by cases d <;> exact h) ((Below.refl _ _).drew) ?_
    intro wS HS
    iterate 2
     all_goals first|(refine kC rfl HS ?_)|(refine kD (v:=?_) rfl (fun W hW=>?_) ?_;rotate_left;(· go_simp;try with_reducible rfl))
     all_goals try simp only [Act.put,zA,zB,zC]
    all_goals first|(refine kC rfl HS ?_;have hg2:=True.intro)|(refine kE (v:=?_) (b:=?_) rfl (fun W hW=>?_) ?_ (fun b hg2=>?_);rotate_left;rotate_left;(· go_simp;try with_reducible rfl);(· with_reducible rfl);cases b;all_goals first|(exact Bool.noConfusion hg2)|(simp only [Bool.not_eq_true',Bool.not_eq_false'] at hg2) | skip)
    iterate 5
     all_goals try simp only [Act.put,zA,zB,zC]
     all_goals first|(refine kC rfl HS ?_)|(refine kD (v:=?_) rfl (fun W hW=>?_) ?_;rotate_left;(· go_simp;try with_reducible rfl))
    iterate 2
     all_goals try simp only [Act.put,zA,zB,zC]
     all_goals first|(refine kC rfl HS ?_)|(refine kD (v:=?_) rfl (fun W hW=>?_) ?_;rotate_left;(· have A_A1:=cL hW A1;have A_A2:=cL hW A2;have A_K1:=cL hW K1;have A_K2:=cL hW K2;clear hW;go_simp;try with_reducible rfl))
     all_goals try simp only [Act.put,zA,zB,zC]
     all_goals first|(refine kC rfl HS ?_)|(refine kD (v:=?_) rfl (fun W hW=>?_) ?_;rotate_left;(· go_simp;try with_reducible rfl))
    all_goals try simp only [Act.put,zA,zB,zC]
    all_goals first|(refine kC rfl HS ?_;have hg12:=True.intro)|(refine kE (v:=?_) (b:=?_) rfl (fun W hW=>?_) ?_ (fun b hg12=>?_);rotate_left;rotate_left;(· go_simp;try with_reducible rfl);(· with_reducible rfl);cases b;all_goals first|(exact Bool.noConfusion hg12)|(simp only [Bool.not_eq_true',Bool.not_eq_false'] at hg12) | skip)
    iterate 5
     all_goals try simp only [Act.put,zA,zB,zC]
     all_goals first|(refine kC rfl HS ?_)|(refine kD (v:=?_) rfl (fun W hW=>?_) ?_;rotate_left;(· go_simp;try with_reducible rfl))
    iterate 2
     all_goals try simp only [Act.put,zA,zB,zC]
     all_goals first|(refine kC rfl HS ?_)|(refine kD (v:=?_) rfl (fun W hW=>?_) ?_;rotate_left;(· have A_A1:=cL hW A1;have A_A2:=cL hW A2;have A_K1:=cL hW K1;have A_K2:=cL hW K2;clear hW;go_simp;try with_reducible rfl))
     all_goals try simp only [Act.put,zA,zB,zC]
     all_goals first|(refine kC rfl HS ?_)|(refine kD (v:=?_) rfl (fun W hW=>?_) ?_;rotate_left;(· go_simp;try with_reducible rfl))
    all_goals try simp only [Act.put,zA,zB,zC]
    all_goals first|(refine kC rfl HS ?_;have hg22:=True.intro)|(refine kE (v:=?_) (b:=?_) rfl (fun W hW=>?_) ?_ (fun b hg22=>?_);rotate_left;rotate_left;(· go_simp;try with_reducible rfl);(· with_reducible rfl);cases b;all_goals first|(exact Bool.noConfusion hg22)|(simp only [Bool.not_eq_true',Bool.not_eq_false'] at hg22) | skip)
    iterate 5
     all_goals try simp only [Act.put,zA,zB,zC]
     all_goals first|(refine kC rfl HS ?_)|(refine kD (v:=?_) rfl (fun W hW=>?_) ?_;rotate_left;(· go_simp;try with_reducible rfl))
    iterate 2
     all_goals try simp only [Act.put,zA,zB,zC]
     all_goals first|(refine kC rfl HS ?_)|(refine kD (v:=?_) rfl (fun W hW=>?_) ?_;rotate_left;(· have A_A1:=cL hW A1;have A_A2:=cL hW A2;have A_K1:=cL hW K1;have A_K2:=cL hW K2;clear hW;go_simp;try with_reducible rfl))
     all_goals try simp only [Act.put,zA,zB,zC]
     all_goals first|(refine kC rfl HS ?_)|(refine kD (v:=?_) rfl (fun W hW=>?_) ?_;rotate_left;(· go_simp;try with_reducible rfl))
    iterate 2
     all_goals try simp only [Act.put,zA,zB,zC]
     all_goals first|(refine kC rfl HS ?_)|(refine kD (v:=?_) rfl (fun W hW=>?_) ?_;rotate_left;(· go_simp;try with_reducible rfl))
    all_goals try simp only [Act.put,zA,zB,zC]
    all_goals first|(refine kC rfl HS ?_;have hg34:=True.intro)|(refine kE (v:=?_) (b:=?_) rfl (fun W hW=>?_) ?_ (fun b hg34=>?_);rotate_left;rotate_left;(· go_simp;try with_reducible rfl);(· with_reducible rfl);cases b;all_goals first|(exact Bool.noConfusion hg34)|(simp only [Bool.not_eq_true',Bool.not_eq_false'] at hg34) | skip)
    all_goals try simp only [Act.put,zA,zB,zC]
    all_goals refine soft_nil ?_
    all_goals (cases hv:gtR y r)
    all_goals first
      | (exfalso;simp only [gtR,Bool.not_true,Bool.not_false,Bool.and_true,Bool.true_and,Bool.and_false,Bool.false_and,Bool.or_true,Bool.true_or,Bool.or_false,Bool.false_or,Bool.not_not,hg2,hg12,hg22,hg34] at hv;exact Bool.noConfusion hv)
      | (have HV:=hD hv;clear hv;go_wp2;go_meet;(case rel=>exact ⟨by rw [HV.out],HS⟩))
   obtain ⟨rfl,HS⟩:=hcut
   have hbw:=hbel.trans (HS.mono hbel.size)
   cases hgt:gtR y r
   · have HPL:=hD (HNO.out (HG.out.trans hgt))
     clear HY HNO HG
     have HPUT:=hD (put_at (show k=_ from HPL.out))
     replace K0:=cL HS K0
     replace K1:=cL HS K1
     replace K2:=cL HS K2
     generalize wc=wq at *
     clear HS
     have HRD:=hD (HLB.out.below hbw)
     have HTK:=hD (Rep.take_rd HRD.out (k:=k) hkm)
     have hLB:l.length < 16777216:=hlen
     have hzw:=hbw.size
     go_upto_region 4 with fail
     by_cases hkc2:k < lp
     · have hck:¬ lp=k:=by omega
       rcases HFM.out with ⟨h1,h2⟩|⟨b,hb⟩
       · exact absurd hkc2 (by omega)
       first | subst hb|(simp only [Option.some.injEq,Addr.mk.injEq,and_true] at hb;obtain ⟨rfl,rfl⟩:=hb)
       have HDR:=hD (Rep.drop_rd HRD.out (k:=k) hkm)
       rw [Nat.zero_add,show k * (Rep.asIn RRoute w0).n=k * 3 from rfl] at HDR
       refine wp_region_tree (fun W=>Below wq.heap.size wq W) (by kernel_rfl) ((Below.refl _ _).drew) ?_
       intro wS HS
       refine kS (k:=1) (v:=?_) rfl (by kernel_rfl) (fun c a d v w h=>by cases d <;> exact h) rfl HS (fun W hW=>?_) ?_
       rotate_left
       · go_simp;try with_reducible rfl
       try simp only [Act.put,zA,zB,zC]
       refine kS (k:=2) (v:=?_) rfl (by kernel_rfl) (fun c a d v w h=>by cases d <;> exact h) rfl HS (fun W hW=>?_) ?_
       rotate_left
       · go_simp;try with_reducible rfl
       try simp only [Act.put,zA,zB,zC]
       refine kS (k:=3) (v:=?_) rfl (by kernel_rfl) (fun c a d v w h=>by cases d <;> exact h) rfl HS (fun W hW=>?_) ?_
       rotate_left
       · go_simp;try with_reducible rfl
       try simp only [Act.put,zA,zB,zC]
       refine kS (k:=5) (v:=?_) rfl (by kernel_rfl) (fun c a d v w h=>by cases d <;> exact h) rfl HS (fun W hW=>?_) ?_
       rotate_left
       · have A_K0:=cL hW K0;have A_K1:=cL hW K1;have A_K2:=cL hW K2;clear hW;go_simp;try with_reducible rfl
       try simp only [Act.put,zA,zB,zC]
       refine kS (k:=8) (v:=?_) rfl (by kernel_rfl) (fun c a d v w h=>by cases d <;> exact h) rfl HS (fun W hW=>?_) ?_
       rotate_left
       · go_simp;try with_reducible rfl
       try simp only [Act.put,zA,zB,zC]
       refine kS (k:=9) (v:=?_) rfl (by kernel_rfl) (fun c a d v w h=>by cases d <;> exact h) rfl HS (fun W hW=>?_) ?_
       rotate_left
       · go_simp;try with_reducible rfl
       try simp only [Act.put,zA,zB,zC]
       refine kS (k:=10) (v:=?_) rfl (by kernel_rfl) (fun c a d v w h=>by cases d <;> exact h) rfl HS (fun W hW=>?_) ?_
       rotate_left
       · go_simp;try with_reducible rfl
       try simp only [Act.put,zA,zB,zC]
       refine tree_two (i:=0) (j:=6) rfl rfl (by kernel_rfl) rfl rfl (fun K hK=>?_) (fun K hK=>?_)
       · have bn0:=HS.size
         go_simp
         generalize hwN:World.alloc wS _=t0
         have bN:Below wS.heap.size wS t0:=by rw [← hwN];exact (Below.refl _ _).alloc (Nat.le_refl _) _
         have zN0:=bN.size
         clear hwN
         replace HS:=HS.trans (bN.mono HS.size)
         refine hK _ _ HS ?_
         clear hK K bN
         try simp only [Act.put,zA,zB,zC]
         refine tree_two (i:=4) (j:=6) rfl rfl (by kernel_rfl) rfl rfl (fun K hK=>?_) (fun K hK=>?_)
         · have bn1:=HS.size
           obtain ⟨v1,t1,hr,HV,hbN,zN1⟩:=Rep.kU (P:=Tryz.prog) (t:=39) (ty:=39) (r:=(Rep.asIn RRoute w0)) (e:=159) (w:=t0) (v:=.slice (some ⟨wS.heap.size,0,none⟩) 0 0) (xs:=[]) (S:=fun _=>False) (B:=t0.heap.size) Tryz.underlying39 infRoute rfl (show 0 < 3 by omega) (by decide) Rep.isFlat_asIn Rep.own0.void (HTK.out.below HS) (fun _ h=>h.elim) (Nat.le_refl _) (by simp;omega)
           refine Rep.wp_append _ _ _ rfl (by rfl) (by rfl) hr ?_
           obtain ⟨a1,n1,c1,hv1,HN1⟩:=HV.parts
           obtain rfl:=hv1
           replace HS:=HS.trans (hbN.mono HS.size)
           refine hK _ _ HS ?_
           clear hK K hr hbN
           try simp only [Act.put,zA,zB,zC]
           refine kW (k:=6) rfl (by kernel_rfl) rfl (fun K hK=>?_)
           have bn2:=HS.size
           go_simp
           have RL:(Rep.slice 159 (Rep.asIn RRoute w0)).rd (World.alloc t1 (.cells #[.slice ra r.1.length rp,.int .i64 r.2.1,.int .i64 r.2.2] 159)) [.slice (some ⟨t1.heap.size,0,none⟩) 1 1] [r]:=((Rep.own0_lit (e:=159) (r:=(Rep.asIn RRoute w0)) (w:=t1) (cs:=[.slice ra r.1.length rp,.int .i64 r.2.1,.int .i64 r.2.2]) (xs:=[r]) (T:=fun _=>True) (S:=fun _=>True) (by intro y hy;rw [List.mem_singleton.1 hy];exact HR.out.2) (by show 1≤_;unfold maxLen;omega) (Rep.row_single (show (Rep.asIn RRoute w0).is true _ [_,_,_] r _ from HR.out.1)) (fun _ h=>h) trivial).own (by show 1≤_;unfold Big;omega)).rd
           have bN0:Below t1.heap.size t1 (World.alloc t1 (.cells #[.slice ra r.1.length rp,.int .i64 r.2.1,.int .i64 r.2.2] 159)):=(Below.refl _ _).alloc (Nat.le_refl _) _
           generalize hwN:World.alloc t1 (.cells #[.slice ra r.1.length rp,.int .i64 r.2.1,.int .i64 r.2.2] 159)=t2 at RL bN0 ⊢
           have zN2:=bN0.size
           have bN:=bN0
           clear hwN bN0
           replace HV:=HV.below bN
           replace HS:=HS.trans (bN.mono HS.size)
           refine hK _ _ HS ?_
           clear hK K bN
           try simp only [Act.put,zA,zB,zC]
           refine kW (k:=7) rfl (by kernel_rfl) rfl (fun K hK=>?_)
           have bn3:=HS.size
           obtain ⟨v2,t3,hr,HV2,hbN,zN3⟩:=Rep.kU (P:=Tryz.prog) (t:=39) (ty:=39) (r:=(Rep.asIn RRoute w0)) (e:=159) (w:=t2) (B:=wq.heap.size) Tryz.underlying39 infRoute rfl (show 0 < 3 by omega) (by decide) Rep.isFlat_asIn HV RL (fun j hj=>⟨by have:=hj.1;omega,by have:=hj.2;omega⟩) HS.size (by simp;omega)
           refine Rep.wp_append _ _ _ rfl (by rfl) (by rfl) hr ?_
           obtain ⟨a2,n2,c2,hv2,HN2⟩:=HV2.parts
           obtain rfl:=hv2
           replace HS:=HS.trans hbN
           have HV3:=HV2;clear HV;have HV:=HV3;clear HV2 HV3 RL
           refine hK _ _ HS ?_
           clear hK K hr hbN
           try simp only [Act.put,zA,zB,zC]
           refine kW (k:=11) rfl (by kernel_rfl) rfl (fun K hK=>?_)
           have bn4:=HS.size
           obtain ⟨v3,t4,hr,HV2,hbN,zN4⟩:=Rep.kU (P:=Tryz.prog) (t:=39) (ty:=39) (r:=(Rep.asIn RRoute w0)) (e:=159) (w:=t3) (B:=wq.heap.size) Tryz.underlying39 infRoute rfl (show 0 < 3 by omega) (by decide) Rep.isFlat_asIn HV (HDR.out.below HS) (fun j hj=>⟨hj.1,by have:=hj.2;omega⟩) HS.size (by simp;omega)
           refine Rep.wp_append _ _ _ rfl (by rfl) (by rfl) hr ?_
           obtain ⟨a3,n3,c3,hv3,HN3⟩:=HV2.parts
           obtain rfl:=hv3
           replace HS:=HS.trans hbN
           have HV3:=HV2;clear HV;have HV:=HV3;clear HV2 HV3
           refine hK _ _ HS ?_
           clear hK K hr hbN
           try simp only [Act.put,zA,zB,zC]
           refine kS (k:=12) (v:=?_) rfl (by kernel_rfl) (fun c a d v w h=>by cases d <;> exact h) rfl HS (fun W hW=>?_) ?_
           rotate_left
           · go_simp;try with_reducible rfl
           try simp only [Act.put,zA,zB,zC]
           refine tree_end (by kernel_rfl) ?_
           have HPQ:=hD (Rep.own0.cast HV (show _=Srt.put keyR l r from by rw [HPUT.out,List.nil_append]))
           have hzz:=HS.size
           have HFB:=hD (EB.trans ((hbw.trans (HS.mono hbw.size)).mono EB.size))
           clear HV HPUT
           go_wp2
           go_ret
           exact ⟨_,rfl,HPQ.out.wide (fun j hj=>⟨by have:=hj.1;omega,hj.2⟩),HFB.out⟩
         have bn1:=HS.size
         go_simp
         have RL:(Rep.slice 159 (Rep.asIn RRoute w0)).rd (World.alloc t0 (.cells #[.slice ra r.1.length rp,.int .i64 r.2.1,.int .i64 r.2.2] 159)) [.slice (some ⟨t0.heap.size,0,none⟩) 1 1] [r]:=((Rep.own0_lit (e:=159) (r:=(Rep.asIn RRoute w0)) (w:=t0) (cs:=[.slice ra r.1.length rp,.int .i64 r.2.1,.int .i64 r.2.2]) (xs:=[r]) (T:=fun _=>True) (S:=fun _=>True) (by intro y hy;rw [List.mem_singleton.1 hy];exact HR.out.2) (by show 1≤_;unfold maxLen;omega) (Rep.row_single (show (Rep.asIn RRoute w0).is true _ [_,_,_] r _ from HR.out.1)) (fun _ h=>h) trivial).own (by show 1≤_;unfold Big;omega)).rd
         have bN0:Below t0.heap.size t0 (World.alloc t0 (.cells #[.slice ra r.1.length rp,.int .i64 r.2.1,.int .i64 r.2.2] 159)):=(Below.refl _ _).alloc (Nat.le_refl _) _
         generalize hwN:World.alloc t0 (.cells #[.slice ra r.1.length rp,.int .i64 r.2.1,.int .i64 r.2.2] 159)=t1 at RL bN0 ⊢
         have zN1:=bN0.size
         have bN:=bN0
         clear hwN bN0
         replace HS:=HS.trans (bN.mono HS.size)
         refine hK _ _ HS ?_
         clear hK K bN
         try simp only [Act.put,zA,zB,zC]
         refine kW (k:=4) rfl (by kernel_rfl) rfl (fun K hK=>?_)
         have bn2:=HS.size
         obtain ⟨v1,t2,hr,HV,hbN,zN2⟩:=Rep.kU (P:=Tryz.prog) (t:=39) (ty:=39) (r:=(Rep.asIn RRoute w0)) (e:=159) (w:=t1) (v:=.slice (some ⟨wS.heap.size,0,none⟩) 0 0) (xs:=[]) (S:=fun _=>False) (B:=t1.heap.size) Tryz.underlying39 infRoute rfl (show 0 < 3 by omega) (by decide) Rep.isFlat_asIn Rep.own0.void (HTK.out.below HS) (fun _ h=>h.elim) (Nat.le_refl _) (by simp;omega)
         refine Rep.wp_append _ _ _ rfl (by rfl) (by rfl) hr ?_
         obtain ⟨a1,n1,c1,hv1,HN1⟩:=HV.parts
         obtain rfl:=hv1
         replace RL:=RL.below hbN
         replace HS:=HS.trans (hbN.mono HS.size)
         refine hK _ _ HS ?_
         clear hK K hr hbN
         try simp only [Act.put,zA,zB,zC]
         refine kW (k:=7) rfl (by kernel_rfl) rfl (fun K hK=>?_)
         have bn3:=HS.size
         obtain ⟨v2,t3,hr,HV2,hbN,zN3⟩:=Rep.kU (P:=Tryz.prog) (t:=39) (ty:=39) (r:=(Rep.asIn RRoute w0)) (e:=159) (w:=t2) (B:=wq.heap.size) Tryz.underlying39 infRoute rfl (show 0 < 3 by omega) (by decide) Rep.isFlat_asIn HV RL (fun j hj=>⟨by have:=hj.1;omega,by have:=hj.2;omega⟩) HS.size (by simp;omega)
         refine Rep.wp_append _ _ _ rfl (by rfl) (by rfl) hr ?_
         obtain ⟨a2,n2,c2,hv2,HN2⟩:=HV2.parts
         obtain rfl:=hv2
         replace HS:=HS.trans hbN
         have HV3:=HV2;clear HV;have HV:=HV3;clear HV2 HV3 RL
         refine hK _ _ HS ?_
         clear hK K hr hbN
         try simp only [Act.put,zA,zB,zC]
         refine kW (k:=11) rfl (by kernel_rfl) rfl (fun K hK=>?_)
         have bn4:=HS.size
         obtain ⟨v3,t4,hr,HV2,hbN,zN4⟩:=Rep.kU (P:=Tryz.prog) (t:=39) (ty:=39) (r:=(Rep.asIn RRoute w0)) (e:=159) (w:=t3) (B:=wq.heap.size) Tryz.underlying39 infRoute rfl (show 0 < 3 by omega) (by decide) Rep.isFlat_asIn HV (HDR.out.below HS) (fun j hj=>⟨hj.1,by have:=hj.2;omega⟩) HS.size (by simp;omega)
         refine Rep.wp_append _ _ _ rfl (by rfl) (by rfl) hr ?_
         obtain ⟨a3,n3,c3,hv3,HN3⟩:=HV2.parts
         obtain rfl:=hv3
         replace HS:=HS.trans hbN
         have HV3:=HV2;clear HV;have HV:=HV3;clear HV2 HV3
         refine hK _ _ HS ?_
         clear hK K hr hbN
         try simp only [Act.put,zA,zB,zC]
         refine kS (k:=12) (v:=?_) rfl (by kernel_rfl) (fun c a d v w h=>by cases d <;> exact h) rfl HS (fun W hW=>?_) ?_
         rotate_left
         · go_simp;try with_reducible rfl
         try simp only [Act.put,zA,zB,zC]
         refine tree_end (by kernel_rfl) ?_
         have HPQ:=hD (Rep.own0.cast HV (show _=Srt.put keyR l r from by rw [HPUT.out,List.nil_append]))
         have hzz:=HS.size
         have HFB:=hD (EB.trans ((hbw.trans (HS.mono hbw.size)).mono EB.size))
         clear HV HPUT
         go_wp2
         go_ret
         exact ⟨_,rfl,HPQ.out.wide (fun j hj=>⟨by have:=hj.1;omega,hj.2⟩),HFB.out⟩
       have bn0:=HS.size
       go_simp
       have RL:(Rep.slice 159 (Rep.asIn RRoute w0)).rd (World.alloc wS (.cells #[.slice ra r.1.length rp,.int .i64 r.2.1,.int .i64 r.2.2] 159)) [.slice (some ⟨wS.heap.size,0,none⟩) 1 1] [r]:=((Rep.own0_lit (e:=159) (r:=(Rep.asIn RRoute w0)) (w:=wS) (cs:=[.slice ra r.1.length rp,.int .i64 r.2.1,.int .i64 r.2.2]) (xs:=[r]) (T:=fun _=>True) (S:=fun _=>True) (by intro y hy;rw [List.mem_singleton.1 hy];exact HR.out.2) (by show 1≤_;unfold maxLen;omega) (Rep.row_single (show (Rep.asIn RRoute w0).is true _ [_,_,_] r _ from HR.out.1)) (fun _ h=>h) trivial).own (by show 1≤_;unfold Big;omega)).rd
       have bN0:Below wS.heap.size wS (World.alloc wS (.cells #[.slice ra r.1.length rp,.int .i64 r.2.1,.int .i64 r.2.2] 159)):=(Below.refl _ _).alloc (Nat.le_refl _) _
       generalize hwN:World.alloc wS (.cells #[.slice ra r.1.length rp,.int .i64 r.2.1,.int .i64 r.2.2] 159)=t0 at RL bN0 ⊢
       have zN0:=bN0.size
       have bN:=bN0
       clear hwN bN0
       replace HS:=HS.trans (bN.mono HS.size)
       refine hK _ _ HS ?_
       clear hK K bN
       try simp only [Act.put,zA,zB,zC]
       refine kW (k:=0) rfl (by kernel_rfl) rfl (fun K hK=>?_)
       have bn1:=HS.size
       go_simp
       generalize hwN:World.alloc t0 _=t1
       have bN:Below t0.heap.size t0 t1:=by rw [← hwN];exact (Below.refl _ _).alloc (Nat.le_refl _) _
       have zN1:=bN.size
       clear hwN
       replace RL:=RL.below bN
       replace HS:=HS.trans (bN.mono HS.size)
       refine hK _ _ HS ?_
       clear hK K bN
       try simp only [Act.put,zA,zB,zC]
       refine kW (k:=4) rfl (by kernel_rfl) rfl (fun K hK=>?_)
       have bn2:=HS.size
       obtain ⟨v1,t2,hr,HV,hbN,zN2⟩:=Rep.kU (P:=Tryz.prog) (t:=39) (ty:=39) (r:=(Rep.asIn RRoute w0)) (e:=159) (w:=t1) (v:=.slice (some ⟨t0.heap.size,0,none⟩) 0 0) (xs:=[]) (S:=fun _=>False) (B:=t1.heap.size) Tryz.underlying39 infRoute rfl (show 0 < 3 by omega) (by decide) Rep.isFlat_asIn Rep.own0.void (HTK.out.below HS) (fun _ h=>h.elim) (Nat.le_refl _) (by simp;omega)
       refine Rep.wp_append _ _ _ rfl (by rfl) (by rfl) hr ?_
       obtain ⟨a1,n1,c1,hv1,HN1⟩:=HV.parts
       obtain rfl:=hv1
       replace RL:=RL.below hbN
       replace HS:=HS.trans (hbN.mono HS.size)
       refine hK _ _ HS ?_
       clear hK K hr hbN
       try simp only [Act.put,zA,zB,zC]
       refine kW (k:=7) rfl (by kernel_rfl) rfl (fun K hK=>?_)
       have bn3:=HS.size
       obtain ⟨v2,t3,hr,HV2,hbN,zN3⟩:=Rep.kU (P:=Tryz.prog) (t:=39) (ty:=39) (r:=(Rep.asIn RRoute w0)) (e:=159) (w:=t2) (B:=wq.heap.size) Tryz.underlying39 infRoute rfl (show 0 < 3 by omega) (by decide) Rep.isFlat_asIn HV RL (fun j hj=>⟨by have:=hj.1;omega,by have:=hj.2;omega⟩) HS.size (by simp;omega)
       refine Rep.wp_append _ _ _ rfl (by rfl) (by rfl) hr ?_
       obtain ⟨a2,n2,c2,hv2,HN2⟩:=HV2.parts
       obtain rfl:=hv2
       replace HS:=HS.trans hbN
       have HV3:=HV2;clear HV;have HV:=HV3;clear HV2 HV3 RL
       refine hK _ _ HS ?_
       clear hK K hr hbN
       try simp only [Act.put,zA,zB,zC]
       refine kW (k:=11) rfl (by kernel_rfl) rfl (fun K hK=>?_)
       have bn4:=HS.size
       obtain ⟨v3,t4,hr,HV2,hbN,zN4⟩:=Rep.kU (P:=Tryz.prog) (t:=39) (ty:=39) (r:=(Rep.asIn RRoute w0)) (e:=159) (w:=t3) (B:=wq.heap.size) Tryz.underlying39 infRoute rfl (show 0 < 3 by omega) (by decide) Rep.isFlat_asIn HV (HDR.out.below HS) (fun j hj=>⟨hj.1,by have:=hj.2;omega⟩) HS.size (by simp;omega)
       refine Rep.wp_append _ _ _ rfl (by rfl) (by rfl) hr ?_
       obtain ⟨a3,n3,c3,hv3,HN3⟩:=HV2.parts
       obtain rfl:=hv3
       replace HS:=HS.trans hbN
       have HV3:=HV2;clear HV;have HV:=HV3;clear HV2 HV3
       refine hK _ _ HS ?_
       clear hK K hr hbN
       try simp only [Act.put,zA,zB,zC]
       refine kS (k:=12) (v:=?_) rfl (by kernel_rfl) (fun c a d v w h=>by cases d <;> exact h) rfl HS (fun W hW=>?_) ?_
       rotate_left
       · go_simp;try with_reducible rfl
       try simp only [Act.put,zA,zB,zC]
       refine tree_end (by kernel_rfl) ?_
       have HPQ:=hD (Rep.own0.cast HV (show _=Srt.put keyR l r from by rw [HPUT.out,List.nil_append]))
       have hzz:=HS.size
       have HFB:=hD (EB.trans ((hbw.trans (HS.mono hbw.size)).mono EB.size))
       clear HV HPUT
       go_wp2
       go_ret
       exact ⟨_,rfl,HPQ.out.wide (fun j hj=>⟨by have:=hj.1;omega,hj.2⟩),HFB.out⟩
     have hck:lp=k:=by omega
     subst hck
     have HDR:=fun (ad:Option Addr)=>hD (show (Rep.slice 159 (Rep.asIn RRoute w0)).rd wq [.slice ad 0 0] (l.drop lp) from by rw [List.drop_eq_nil_of_le (by omega)];exact Rep.void_rd (by unfold maxLen;omega))
     refine wp_region_tree (fun W=>Below wq.heap.size wq W) (by kernel_rfl) ((Below.refl _ _).drew) ?_
     intro wS HS
     refine kS (k:=1) (v:=?_) rfl (by kernel_rfl) (fun c a d v w h=>by cases d <;> exact h) rfl HS (fun W hW=>?_) ?_
     rotate_left
     · go_simp;try with_reducible rfl
     try simp only [Act.put,zA,zB,zC]
     refine kS (k:=2) (v:=?_) rfl (by kernel_rfl) (fun c a d v w h=>by cases d <;> exact h) rfl HS (fun W hW=>?_) ?_
     rotate_left
     · go_simp;try with_reducible rfl
     try simp only [Act.put,zA,zB,zC]
     refine kS (k:=3) (v:=?_) rfl (by kernel_rfl) (fun c a d v w h=>by cases d <;> exact h) rfl HS (fun W hW=>?_) ?_
     rotate_left
     · go_simp;try with_reducible rfl
     try simp only [Act.put,zA,zB,zC]
     refine kS (k:=5) (v:=?_) rfl (by kernel_rfl) (fun c a d v w h=>by cases d <;> exact h) rfl HS (fun W hW=>?_) ?_
     rotate_left
     · have A_K0:=cL hW K0;have A_K1:=cL hW K1;have A_K2:=cL hW K2;clear hW;go_simp;try with_reducible rfl
     try simp only [Act.put,zA,zB,zC]
     refine kS (k:=8) (v:=?_) rfl (by kernel_rfl) (fun c a d v w h=>by cases d <;> exact h) rfl HS (fun W hW=>?_) ?_
     rotate_left
     · go_simp;try with_reducible rfl
     try simp only [Act.put,zA,zB,zC]
     refine kS (k:=9) (v:=?_) rfl (by kernel_rfl) (fun c a d v w h=>by cases d <;> exact h) rfl HS (fun W hW=>?_) ?_
     rotate_left
     · go_simp;try with_reducible rfl
     try simp only [Act.put,zA,zB,zC]
     refine kS (k:=10) (v:=?_) rfl (by kernel_rfl) (fun c a d v w h=>by cases d <;> exact h) rfl HS (fun W hW=>?_) ?_
     rotate_left
     · go_simp;try with_reducible rfl
     try simp only [Act.put,zA,zB,zC]
     refine tree_two (i:=0) (j:=6) rfl rfl (by kernel_rfl) rfl rfl (fun K hK=>?_) (fun K hK=>?_)
     · have bn0:=HS.size
       go_simp
       generalize hwN:World.alloc wS _=t0
       have bN:Below wS.heap.size wS t0:=by rw [← hwN];exact (Below.refl _ _).alloc (Nat.le_refl _) _
       have zN0:=bN.size
       clear hwN
       replace HS:=HS.trans (bN.mono HS.size)
       refine hK _ _ HS ?_
       clear hK K bN
       try simp only [Act.put,zA,zB,zC]
       refine tree_two (i:=4) (j:=6) rfl rfl (by kernel_rfl) rfl rfl (fun K hK=>?_) (fun K hK=>?_)
       · have bn1:=HS.size
         obtain ⟨v1,t1,hr,HV,hbN,zN1⟩:=Rep.kU (P:=Tryz.prog) (t:=39) (ty:=39) (r:=(Rep.asIn RRoute w0)) (e:=159) (w:=t0) (v:=.slice (some ⟨wS.heap.size,0,none⟩) 0 0) (xs:=[]) (S:=fun _=>False) (B:=t0.heap.size) Tryz.underlying39 infRoute rfl (show 0 < 3 by omega) (by decide) Rep.isFlat_asIn Rep.own0.void (HTK.out.below HS) (fun _ h=>h.elim) (Nat.le_refl _) (by simp;omega)
         refine Rep.wp_append _ _ _ rfl (by rfl) (by rfl) hr ?_
         obtain ⟨a1,n1,c1,hv1,HN1⟩:=HV.parts
         obtain rfl:=hv1
         replace HS:=HS.trans (hbN.mono HS.size)
         refine hK _ _ HS ?_
         clear hK K hr hbN
         try simp only [Act.put,zA,zB,zC]
         refine kW (k:=6) rfl (by kernel_rfl) rfl (fun K hK=>?_)
         have bn2:=HS.size
         go_simp
         have RL:(Rep.slice 159 (Rep.asIn RRoute w0)).rd (World.alloc t1 (.cells #[.slice ra r.1.length rp,.int .i64 r.2.1,.int .i64 r.2.2] 159)) [.slice (some ⟨t1.heap.size,0,none⟩) 1 1] [r]:=((Rep.own0_lit (e:=159) (r:=(Rep.asIn RRoute w0)) (w:=t1) (cs:=[.slice ra r.1.length rp,.int .i64 r.2.1,.int .i64 r.2.2]) (xs:=[r]) (T:=fun _=>True) (S:=fun _=>True) (by intro y hy;rw [List.mem_singleton.1 hy];exact HR.out.2) (by show 1≤_;unfold maxLen;omega) (Rep.row_single (show (Rep.asIn RRoute w0).is true _ [_,_,_] r _ from HR.out.1)) (fun _ h=>h) trivial).own (by show 1≤_;unfold Big;omega)).rd
         have bN0:Below t1.heap.size t1 (World.alloc t1 (.cells #[.slice ra r.1.length rp,.int .i64 r.2.1,.int .i64 r.2.2] 159)):=(Below.refl _ _).alloc (Nat.le_refl _) _
         generalize hwN:World.alloc t1 (.cells #[.slice ra r.1.length rp,.int .i64 r.2.1,.int .i64 r.2.2] 159)=t2 at RL bN0 ⊢
         have zN2:=bN0.size
         have bN:=bN0
         clear hwN bN0
         replace HV:=HV.below bN
         replace HS:=HS.trans (bN.mono HS.size)
         refine hK _ _ HS ?_
         clear hK K bN
         try simp only [Act.put,zA,zB,zC]
         refine kW (k:=7) rfl (by kernel_rfl) rfl (fun K hK=>?_)
         have bn3:=HS.size
         obtain ⟨v2,t3,hr,HV2,hbN,zN3⟩:=Rep.kU (P:=Tryz.prog) (t:=39) (ty:=39) (r:=(Rep.asIn RRoute w0)) (e:=159) (w:=t2) (B:=wq.heap.size) Tryz.underlying39 infRoute rfl (show 0 < 3 by omega) (by decide) Rep.isFlat_asIn HV RL (fun j hj=>⟨by have:=hj.1;omega,by have:=hj.2;omega⟩) HS.size (by simp;omega)
         refine Rep.wp_append _ _ _ rfl (by rfl) (by rfl) hr ?_
         obtain ⟨a2,n2,c2,hv2,HN2⟩:=HV2.parts
         obtain rfl:=hv2
         replace HS:=HS.trans hbN
         have HV3:=HV2;clear HV;have HV:=HV3;clear HV2 HV3 RL
         refine hK _ _ HS ?_
         clear hK K hr hbN
         try simp only [Act.put,zA,zB,zC]
         refine kW (k:=11) rfl (by kernel_rfl) rfl (fun K hK=>?_)
         have bn4:=HS.size
         obtain ⟨v3,t4,hr,HV2,hbN,zN4⟩:=Rep.kU (P:=Tryz.prog) (t:=39) (ty:=39) (r:=(Rep.asIn RRoute w0)) (e:=159) (w:=t3) (B:=wq.heap.size) Tryz.underlying39 infRoute rfl (show 0 < 3 by omega) (by decide) Rep.isFlat_asIn HV ((HDR _).out.below HS) (fun j hj=>⟨hj.1,by have:=hj.2;omega⟩) HS.size (by simp;omega)
         refine Rep.wp_append _ _ _ rfl (by rfl) (by rfl) hr ?_
         obtain ⟨a3,n3,c3,hv3,HN3⟩:=HV2.parts
         obtain rfl:=hv3
         replace HS:=HS.trans hbN
         have HV3:=HV2;clear HV;have HV:=HV3;clear HV2 HV3
         refine hK _ _ HS ?_
         clear hK K hr hbN
         try simp only [Act.put,zA,zB,zC]
         refine kS (k:=12) (v:=?_) rfl (by kernel_rfl) (fun c a d v w h=>by cases d <;> exact h) rfl HS (fun W hW=>?_) ?_
         rotate_left
         · go_simp;try with_reducible rfl
         try simp only [Act.put,zA,zB,zC]
         refine tree_end (by kernel_rfl) ?_
         have HPQ:=hD (Rep.own0.cast HV (show _=Srt.put keyR l r from by rw [HPUT.out,List.nil_append]))
         have hzz:=HS.size
         have HFB:=hD (EB.trans ((hbw.trans (HS.mono hbw.size)).mono EB.size))
         clear HV HPUT
         go_wp2
         go_ret
         exact ⟨_,rfl,HPQ.out.wide (fun j hj=>⟨by have:=hj.1;omega,hj.2⟩),HFB.out⟩
       have bn1:=HS.size
       go_simp
       have RL:(Rep.slice 159 (Rep.asIn RRoute w0)).rd (World.alloc t0 (.cells #[.slice ra r.1.length rp,.int .i64 r.2.1,.int .i64 r.2.2] 159)) [.slice (some ⟨t0.heap.size,0,none⟩) 1 1] [r]:=((Rep.own0_lit (e:=159) (r:=(Rep.asIn RRoute w0)) (w:=t0) (cs:=[.slice ra r.1.length rp,.int .i64 r.2.1,.int .i64 r.2.2]) (xs:=[r]) (T:=fun _=>True) (S:=fun _=>True) (by intro y hy;rw [List.mem_singleton.1 hy];exact HR.out.2) (by show 1≤_;unfold maxLen;omega) (Rep.row_single (show (Rep.asIn RRoute w0).is true _ [_,_,_] r _ from HR.out.1)) (fun _ h=>h) trivial).own (by show 1≤_;unfold Big;omega)).rd
       have bN0:Below t0.heap.size t0 (World.alloc t0 (.cells #[.slice ra r.1.length rp,.int .i64 r.2.1,.int .i64 r.2.2] 159)):=(Below.refl _ _).alloc (Nat.le_refl _) _
       generalize hwN:World.alloc t0 (.cells #[.slice ra r.1.length rp,.int .i64 r.2.1,.int .i64 r.2.2] 159)=t1 at RL bN0 ⊢
       have zN1:=bN0.size
       have bN:=bN0
       clear hwN bN0
       replace HS:=HS.trans (bN.mono HS.size)
       refine hK _ _ HS ?_
       clear hK K bN
       try simp only [Act.put,zA,zB,zC]
       refine kW (k:=4) rfl (by kernel_rfl) rfl (fun K hK=>?_)
       have bn2:=HS.size
       obtain ⟨v1,t2,hr,HV,hbN,zN2⟩:=Rep.kU (P:=Tryz.prog) (t:=39) (ty:=39) (r:=(Rep.asIn RRoute w0)) (e:=159) (w:=t1) (v:=.slice (some ⟨wS.heap.size,0,none⟩) 0 0) (xs:=[]) (S:=fun _=>False) (B:=t1.heap.size) Tryz.underlying39 infRoute rfl (show 0 < 3 by omega) (by decide) Rep.isFlat_asIn Rep.own0.void (HTK.out.below HS) (fun _ h=>h.elim) (Nat.le_refl _) (by simp;omega)
       refine Rep.wp_append _ _ _ rfl (by rfl) (by rfl) hr ?_
       obtain ⟨a1,n1,c1,hv1,HN1⟩:=HV.parts
       obtain rfl:=hv1
       replace RL:=RL.below hbN
       replace HS:=HS.trans (hbN.mono HS.size)
       refine hK _ _ HS ?_
       clear hK K hr hbN
       try simp only [Act.put,zA,zB,zC]
       refine kW (k:=7) rfl (by kernel_rfl) rfl (fun K hK=>?_)
       have bn3:=HS.size
       obtain ⟨v2,t3,hr,HV2,hbN,zN3⟩:=Rep.kU (P:=Tryz.prog) (t:=39) (ty:=39) (r:=(Rep.asIn RRoute w0)) (e:=159) (w:=t2) (B:=wq.heap.size) Tryz.underlying39 infRoute rfl (show 0 < 3 by omega) (by decide) Rep.isFlat_asIn HV RL (fun j hj=>⟨by have:=hj.1;omega,by have:=hj.2;omega⟩) HS.size (by simp;omega)
       refine Rep.wp_append _ _ _ rfl (by rfl) (by rfl) hr ?_
       obtain ⟨a2,n2,c2,hv2,HN2⟩:=HV2.parts
       obtain rfl:=hv2
       replace HS:=HS.trans hbN
       have HV3:=HV2;clear HV;have HV:=HV3;clear HV2 HV3 RL
       refine hK _ _ HS ?_
       clear hK K hr hbN
       try simp only [Act.put,zA,zB,zC]
       refine kW (k:=11) rfl (by kernel_rfl) rfl (fun K hK=>?_)
       have bn4:=HS.size
       obtain ⟨v3,t4,hr,HV2,hbN,zN4⟩:=Rep.kU (P:=Tryz.prog) (t:=39) (ty:=39) (r:=(Rep.asIn RRoute w0)) (e:=159) (w:=t3) (B:=wq.heap.size) Tryz.underlying39 infRoute rfl (show 0 < 3 by omega) (by decide) Rep.isFlat_asIn HV ((HDR _).out.below HS) (fun j hj=>⟨hj.1,by have:=hj.2;omega⟩) HS.size (by simp;omega)
       refine Rep.wp_append _ _ _ rfl (by rfl) (by rfl) hr ?_
       obtain ⟨a3,n3,c3,hv3,HN3⟩:=HV2.parts
       obtain rfl:=hv3
       replace HS:=HS.trans hbN
       have HV3:=HV2;clear HV;have HV:=HV3;clear HV2 HV3
       refine hK _ _ HS ?_
       clear hK K hr hbN
       try simp only [Act.put,zA,zB,zC]
       refine kS (k:=12) (v:=?_) rfl (by kernel_rfl) (fun c a d v w h=>by cases d <;> exact h) rfl HS (fun W hW=>?_) ?_
       rotate_left
       · go_simp;try with_reducible rfl
       try simp only [Act.put,zA,zB,zC]
       refine tree_end (by kernel_rfl) ?_
       have HPQ:=hD (Rep.own0.cast HV (show _=Srt.put keyR l r from by rw [HPUT.out,List.nil_append]))
       have hzz:=HS.size
       have HFB:=hD (EB.trans ((hbw.trans (HS.mono hbw.size)).mono EB.size))
       clear HV HPUT
       go_wp2
       go_ret
       exact ⟨_,rfl,HPQ.out.wide (fun j hj=>⟨by have:=hj.1;omega,hj.2⟩),HFB.out⟩
     have bn0:=HS.size
     go_simp
     have RL:(Rep.slice 159 (Rep.asIn RRoute w0)).rd (World.alloc wS (.cells #[.slice ra r.1.length rp,.int .i64 r.2.1,.int .i64 r.2.2] 159)) [.slice (some ⟨wS.heap.size,0,none⟩) 1 1] [r]:=((Rep.own0_lit (e:=159) (r:=(Rep.asIn RRoute w0)) (w:=wS) (cs:=[.slice ra r.1.length rp,.int .i64 r.2.1,.int .i64 r.2.2]) (xs:=[r]) (T:=fun _=>True) (S:=fun _=>True) (by intro y hy;rw [List.mem_singleton.1 hy];exact HR.out.2) (by show 1≤_;unfold maxLen;omega) (Rep.row_single (show (Rep.asIn RRoute w0).is true _ [_,_,_] r _ from HR.out.1)) (fun _ h=>h) trivial).own (by show 1≤_;unfold Big;omega)).rd
     have bN0:Below wS.heap.size wS (World.alloc wS (.cells #[.slice ra r.1.length rp,.int .i64 r.2.1,.int .i64 r.2.2] 159)):=(Below.refl _ _).alloc (Nat.le_refl _) _
     generalize hwN:World.alloc wS (.cells #[.slice ra r.1.length rp,.int .i64 r.2.1,.int .i64 r.2.2] 159)=t0 at RL bN0 ⊢
     have zN0:=bN0.size
     have bN:=bN0
     clear hwN bN0
     replace HS:=HS.trans (bN.mono HS.size)
     refine hK _ _ HS ?_
     clear hK K bN
     try simp only [Act.put,zA,zB,zC]
     refine kW (k:=0) rfl (by kernel_rfl) rfl (fun K hK=>?_)
     have bn1:=HS.size
     go_simp
     generalize hwN:World.alloc t0 _=t1
     have bN:Below t0.heap.size t0 t1:=by rw [← hwN];exact (Below.refl _ _).alloc (Nat.le_refl _) _
     have zN1:=bN.size
     clear hwN
     replace RL:=RL.below bN
     replace HS:=HS.trans (bN.mono HS.size)
     refine hK _ _ HS ?_
     clear hK K bN
     try simp only [Act.put,zA,zB,zC]
     refine kW (k:=4) rfl (by kernel_rfl) rfl (fun K hK=>?_)
     have bn2:=HS.size
     obtain ⟨v1,t2,hr,HV,hbN,zN2⟩:=Rep.kU (P:=Tryz.prog) (t:=39) (ty:=39) (r:=(Rep.asIn RRoute w0)) (e:=159) (w:=t1) (v:=.slice (some ⟨t0.heap.size,0,none⟩) 0 0) (xs:=[]) (S:=fun _=>False) (B:=t1.heap.size) Tryz.underlying39 infRoute rfl (show 0 < 3 by omega) (by decide) Rep.isFlat_asIn Rep.own0.void (HTK.out.below HS) (fun _ h=>h.elim) (Nat.le_refl _) (by simp;omega)
     refine Rep.wp_append _ _ _ rfl (by rfl) (by rfl) hr ?_
     obtain ⟨a1,n1,c1,hv1,HN1⟩:=HV.parts
     obtain rfl:=hv1
     replace RL:=RL.below hbN
     replace HS:=HS.trans (hbN.mono HS.size)
     refine hK _ _ HS ?_
     clear hK K hr hbN
     try simp only [Act.put,zA,zB,zC]
     refine kW (k:=7) rfl (by kernel_rfl) rfl (fun K hK=>?_)
     have bn3:=HS.size
     obtain ⟨v2,t3,hr,HV2,hbN,zN3⟩:=Rep.kU (P:=Tryz.prog) (t:=39) (ty:=39) (r:=(Rep.asIn RRoute w0)) (e:=159) (w:=t2) (B:=wq.heap.size) Tryz.underlying39 infRoute rfl (show 0 < 3 by omega) (by decide) Rep.isFlat_asIn HV RL (fun j hj=>⟨by have:=hj.1;omega,by have:=hj.2;omega⟩) HS.size (by simp;omega)
     refine Rep.wp_append _ _ _ rfl (by rfl) (by rfl) hr ?_
     obtain ⟨a2,n2,c2,hv2,HN2⟩:=HV2.parts
     obtain rfl:=hv2
     replace HS:=HS.trans hbN
     have HV3:=HV2;clear HV;have HV:=HV3;clear HV2 HV3 RL
     refine hK _ _ HS ?_
     clear hK K hr hbN
     try simp only [Act.put,zA,zB,zC]
     refine kW (k:=11) rfl (by kernel_rfl) rfl (fun K hK=>?_)
     have bn4:=HS.size
     obtain ⟨v3,t4,hr,HV2,hbN,zN4⟩:=Rep.kU (P:=Tryz.prog) (t:=39) (ty:=39) (r:=(Rep.asIn RRoute w0)) (e:=159) (w:=t3) (B:=wq.heap.size) Tryz.underlying39 infRoute rfl (show 0 < 3 by omega) (by decide) Rep.isFlat_asIn HV ((HDR _).out.below HS) (fun j hj=>⟨hj.1,by have:=hj.2;omega⟩) HS.size (by simp;omega)
     refine Rep.wp_append _ _ _ rfl (by rfl) (by rfl) hr ?_
     obtain ⟨a3,n3,c3,hv3,HN3⟩:=HV2.parts
     obtain rfl:=hv3
     replace HS:=HS.trans hbN
     have HV3:=HV2;clear HV;have HV:=HV3;clear HV2 HV3
     refine hK _ _ HS ?_
     clear hK K hr hbN
     try simp only [Act.put,zA,zB,zC]
     refine kS (k:=12) (v:=?_) rfl (by kernel_rfl) (fun c a d v w h=>by cases d <;> exact h) rfl HS (fun W hW=>?_) ?_
     rotate_left
     · go_simp;try with_reducible rfl
     try simp only [Act.put,zA,zB,zC]
     refine tree_end (by kernel_rfl) ?_
     have HPQ:=hD (Rep.own0.cast HV (show _=Srt.put keyR l r from by rw [HPUT.out,List.nil_append]))
     have hzz:=HS.size
     have HFB:=hD (EB.trans ((hbw.trans (HS.mono hbw.size)).mono EB.size))
     clear HV HPUT
     go_wp2
     go_ret
     exact ⟨_,rfl,HPQ.out.wide (fun j hj=>⟨by have:=hj.1;omega,hj.2⟩),HFB.out⟩
   have HP2:=hD (HY.out (HG.out.trans hgt))
   clear HY HNO HG hgt
   go_wp2
   go_roundw
   case rel=>exact ⟨j,by omega,rfl,HP2,hbw⟩
   simp [intOf];omega
 have hk00:k=0:=by omega
 have hp:decide ((k:Int) > 0)=false:=by simp;omega
 have hp3:¬ (0:Int) < k:=by omega
 have HPL:Hid (k=Srt.place keyR l.length l r):=hD (by rw [← HP.out,hk00];rfl)
 clear hk00
 go_upto_region 2 with fail
 refine wp_region_soft (fun W=>Below wr.heap.size wr W) [true,true,true,true,true,true,true,true,true,true,true,true,true,true,true,true,true,true,true,true,true,true,true,true,true,true,true,true,true,true,true,true,true,true,true] (by kernel_rfl) (by kernel_rfl) (fun c a d v w h=>by cases d <;> exact h) ((Below.refl _ _).drew) ?_
 intro wS HS
 iterate 2
  all_goals first|(refine kC rfl HS ?_)|(refine kD (v:=?_) rfl (fun W hW=>?_) ?_;rotate_left;(· go_simp;try with_reducible rfl))
  all_goals try simp only [Act.put,zA,zB,zC]
 all_goals first|(refine kC rfl HS ?_;have hg2:=True.intro)|(refine kE (v:=?_) (b:=?_) rfl (fun W hW=>?_) ?_ (fun b hg2=>?_);rotate_left;rotate_left;(· go_simp;try with_reducible rfl);(· with_reducible rfl);cases b;all_goals first|(exact Bool.noConfusion hg2)|(simp only [Bool.not_eq_true',Bool.not_eq_false'] at hg2) | skip)
 iterate 9
  all_goals try simp only [Act.put,zA,zB,zC]
  all_goals first|(refine kC rfl HS ?_)|(refine kD (v:=?_) rfl (fun W hW=>?_) ?_;rotate_left;(· go_simp;try with_reducible rfl))
 all_goals try simp only [Act.put,zA,zB,zC]
 all_goals first|(refine kC rfl HS ?_;have hg12:=True.intro)|(refine kE (v:=?_) (b:=?_) rfl (fun W hW=>?_) ?_ (fun b hg12=>?_);rotate_left;rotate_left;(· go_simp;try with_reducible rfl);(· with_reducible rfl);cases b;all_goals first|(exact Bool.noConfusion hg12)|(simp only [Bool.not_eq_true',Bool.not_eq_false'] at hg12) | skip)
 iterate 9
  all_goals try simp only [Act.put,zA,zB,zC]
  all_goals first|(refine kC rfl HS ?_)|(refine kD (v:=?_) rfl (fun W hW=>?_) ?_;rotate_left;(· go_simp;try with_reducible rfl))
 all_goals try simp only [Act.put,zA,zB,zC]
 all_goals first|(refine kC rfl HS ?_;have hg22:=True.intro)|(refine kE (v:=?_) (b:=?_) rfl (fun W hW=>?_) ?_ (fun b hg22=>?_);rotate_left;rotate_left;(· go_simp;try with_reducible rfl);(· with_reducible rfl);cases b;all_goals first|(exact Bool.noConfusion hg22)|(simp only [Bool.not_eq_true',Bool.not_eq_false'] at hg22) | skip)
 iterate 11
  all_goals try simp only [Act.put,zA,zB,zC]
  all_goals first|(refine kC rfl HS ?_)|(refine kD (v:=?_) rfl (fun W hW=>?_) ?_;rotate_left;(· go_simp;try with_reducible rfl))
 all_goals try simp only [Act.put,zA,zB,zC]
 all_goals first|(refine kC rfl HS ?_;have hg34:=True.intro)|(refine kE (v:=?_) (b:=?_) rfl (fun W hW=>?_) ?_ (fun b hg34=>?_);rotate_left;rotate_left;(· go_simp;try with_reducible rfl);(· with_reducible rfl);cases b;all_goals first|(exact Bool.noConfusion hg34)|(simp only [Bool.not_eq_true',Bool.not_eq_false'] at hg34) | skip)
 all_goals try simp only [Act.put,zA,zB,zC]
 all_goals refine soft_nil ?_
 all_goals have hbw:=hbel.trans (HS.mono hbel.size)
 have HPUT:=hD (put_at (show k=_ from HPL.out))
 replace K0:=cL HS K0
 replace K1:=cL HS K1
 replace K2:=cL HS K2
 generalize wS=wq at *
 clear HS
 have HRD:=hD (HLB.out.below hbw)
 have HTK:=hD (Rep.take_rd HRD.out (k:=k) hkm)
 have hLB:l.length < 16777216:=hlen
 have hzw:=hbw.size
 go_upto_region 4 with fail
 by_cases hkc2:k < lp
 · have hck:¬ lp=k:=by omega
   rcases HFM.out with ⟨h1,h2⟩|⟨b,hb⟩
   · exact absurd hkc2 (by omega)
   first | subst hb|(simp only [Option.some.injEq,Addr.mk.injEq,and_true] at hb;obtain ⟨rfl,rfl⟩:=hb)
   have HDR:=hD (Rep.drop_rd HRD.out (k:=k) hkm)
   rw [Nat.zero_add,show k * (Rep.asIn RRoute w0).n=k * 3 from rfl] at HDR
   refine wp_region_tree (fun W=>Below wq.heap.size wq W) (by kernel_rfl) ((Below.refl _ _).drew) ?_
   intro wS HS
   refine kS (k:=1) (v:=?_) rfl (by kernel_rfl) (fun c a d v w h=>by cases d <;> exact h) rfl HS (fun W hW=>?_) ?_
   rotate_left
   · go_simp;try with_reducible rfl
   try simp only [Act.put,zA,zB,zC]
   refine kS (k:=2) (v:=?_) rfl (by kernel_rfl) (fun c a d v w h=>by cases d <;> exact h) rfl HS (fun W hW=>?_) ?_
   rotate_left
   · go_simp;try with_reducible rfl
   try simp only [Act.put,zA,zB,zC]
   refine kS (k:=3) (v:=?_) rfl (by kernel_rfl) (fun c a d v w h=>by cases d <;> exact h) rfl HS (fun W hW=>?_) ?_
   rotate_left
   · go_simp;try with_reducible rfl
   try simp only [Act.put,zA,zB,zC]
   refine kS (k:=5) (v:=?_) rfl (by kernel_rfl) (fun c a d v w h=>by cases d <;> exact h) rfl HS (fun W hW=>?_) ?_
   rotate_left
   · have A_K0:=cL hW K0;have A_K1:=cL hW K1;have A_K2:=cL hW K2;clear hW;go_simp;try with_reducible rfl
   try simp only [Act.put,zA,zB,zC]
   refine kS (k:=8) (v:=?_) rfl (by kernel_rfl) (fun c a d v w h=>by cases d <;> exact h) rfl HS (fun W hW=>?_) ?_
   rotate_left
   · go_simp;try with_reducible rfl
   try simp only [Act.put,zA,zB,zC]
   refine kS (k:=9) (v:=?_) rfl (by kernel_rfl) (fun c a d v w h=>by cases d <;> exact h) rfl HS (fun W hW=>?_) ?_
   rotate_left
   · go_simp;try with_reducible rfl
   try simp only [Act.put,zA,zB,zC]
   refine kS (k:=10) (v:=?_) rfl (by kernel_rfl) (fun c a d v w h=>by cases d <;> exact h) rfl HS (fun W hW=>?_) ?_
   rotate_left
   · go_simp;try with_reducible rfl
   try simp only [Act.put,zA,zB,zC]
   refine tree_two (i:=0) (j:=6) rfl rfl (by kernel_rfl) rfl rfl (fun K hK=>?_) (fun K hK=>?_)
   · have bn0:=HS.size
     go_simp
     generalize hwN:World.alloc wS _=t0
     have bN:Below wS.heap.size wS t0:=by rw [← hwN];exact (Below.refl _ _).alloc (Nat.le_refl _) _
     have zN0:=bN.size
     clear hwN
     replace HS:=HS.trans (bN.mono HS.size)
     refine hK _ _ HS ?_
     clear hK K bN
     try simp only [Act.put,zA,zB,zC]
     refine tree_two (i:=4) (j:=6) rfl rfl (by kernel_rfl) rfl rfl (fun K hK=>?_) (fun K hK=>?_)
     · have bn1:=HS.size
       obtain ⟨v1,t1,hr,HV,hbN,zN1⟩:=Rep.kU (P:=Tryz.prog) (t:=39) (ty:=39) (r:=(Rep.asIn RRoute w0)) (e:=159) (w:=t0) (v:=.slice (some ⟨wS.heap.size,0,none⟩) 0 0) (xs:=[]) (S:=fun _=>False) (B:=t0.heap.size) Tryz.underlying39 infRoute rfl (show 0 < 3 by omega) (by decide) Rep.isFlat_asIn Rep.own0.void (HTK.out.below HS) (fun _ h=>h.elim) (Nat.le_refl _) (by simp;omega)
       refine Rep.wp_append _ _ _ rfl (by rfl) (by rfl) hr ?_
       obtain ⟨a1,n1,c1,hv1,HN1⟩:=HV.parts
       obtain rfl:=hv1
       replace HS:=HS.trans (hbN.mono HS.size)
       refine hK _ _ HS ?_
       clear hK K hr hbN
       try simp only [Act.put,zA,zB,zC]
       refine kW (k:=6) rfl (by kernel_rfl) rfl (fun K hK=>?_)
       have bn2:=HS.size
       go_simp
       have RL:(Rep.slice 159 (Rep.asIn RRoute w0)).rd (World.alloc t1 (.cells #[.slice ra r.1.length rp,.int .i64 r.2.1,.int .i64 r.2.2] 159)) [.slice (some ⟨t1.heap.size,0,none⟩) 1 1] [r]:=((Rep.own0_lit (e:=159) (r:=(Rep.asIn RRoute w0)) (w:=t1) (cs:=[.slice ra r.1.length rp,.int .i64 r.2.1,.int .i64 r.2.2]) (xs:=[r]) (T:=fun _=>True) (S:=fun _=>True) (by intro y hy;rw [List.mem_singleton.1 hy];exact HR.out.2) (by show 1≤_;unfold maxLen;omega) (Rep.row_single (show (Rep.asIn RRoute w0).is true _ [_,_,_] r _ from HR.out.1)) (fun _ h=>h) trivial).own (by show 1≤_;unfold Big;omega)).rd
       have bN0:Below t1.heap.size t1 (World.alloc t1 (.cells #[.slice ra r.1.length rp,.int .i64 r.2.1,.int .i64 r.2.2] 159)):=(Below.refl _ _).alloc (Nat.le_refl _) _
       generalize hwN:World.alloc t1 (.cells #[.slice ra r.1.length rp,.int .i64 r.2.1,.int .i64 r.2.2] 159)=t2 at RL bN0 ⊢
       have zN2:=bN0.size
       have bN:=bN0
       clear hwN bN0
       replace HV:=HV.below bN
       replace HS:=HS.trans (bN.mono HS.size)
       refine hK _ _ HS ?_
       clear hK K bN
       try simp only [Act.put,zA,zB,zC]
       refine kW (k:=7) rfl (by kernel_rfl) rfl (fun K hK=>?_)
       have bn3:=HS.size
       obtain ⟨v2,t3,hr,HV2,hbN,zN3⟩:=Rep.kU (P:=Tryz.prog) (t:=39) (ty:=39) (r:=(Rep.asIn RRoute w0)) (e:=159) (w:=t2) (B:=wq.heap.size) Tryz.underlying39 infRoute rfl (show 0 < 3 by omega) (by decide) Rep.isFlat_asIn HV RL (fun j hj=>⟨by have:=hj.1;omega,by have:=hj.2;omega⟩) HS.size (by simp;omega)
       refine Rep.wp_append _ _ _ rfl (by rfl) (by rfl) hr ?_
       obtain ⟨a2,n2,c2,hv2,HN2⟩:=HV2.parts
       obtain rfl:=hv2
       replace HS:=HS.trans hbN
       have HV3:=HV2;clear HV;have HV:=HV3;clear HV2 HV3 RL
       refine hK _ _ HS ?_
       clear hK K hr hbN
       try simp only [Act.put,zA,zB,zC]
       refine kW (k:=11) rfl (by kernel_rfl) rfl (fun K hK=>?_)
       have bn4:=HS.size
       obtain ⟨v3,t4,hr,HV2,hbN,zN4⟩:=Rep.kU (P:=Tryz.prog) (t:=39) (ty:=39) (r:=(Rep.asIn RRoute w0)) (e:=159) (w:=t3) (B:=wq.heap.size) Tryz.underlying39 infRoute rfl (show 0 < 3 by omega) (by decide) Rep.isFlat_asIn HV (HDR.out.below HS) (fun j hj=>⟨hj.1,by have:=hj.2;omega⟩) HS.size (by simp;omega)
       refine Rep.wp_append _ _ _ rfl (by rfl) (by rfl) hr ?_
       obtain ⟨a3,n3,c3,hv3,HN3⟩:=HV2.parts
       obtain rfl:=hv3
       replace HS:=HS.trans hbN
       have HV3:=HV2;clear HV;have HV:=HV3;clear HV2 HV3
       refine hK _ _ HS ?_
       clear hK K hr hbN
       try simp only [Act.put,zA,zB,zC]
       refine kS (k:=12) (v:=?_) rfl (by kernel_rfl) (fun c a d v w h=>by cases d <;> exact h) rfl HS (fun W hW=>?_) ?_
       rotate_left
       · go_simp;try with_reducible rfl
       try simp only [Act.put,zA,zB,zC]
       refine tree_end (by kernel_rfl) ?_
       have HPQ:=hD (Rep.own0.cast HV (show _=Srt.put keyR l r from by rw [HPUT.out,List.nil_append]))
       have hzz:=HS.size
       have HFB:=hD (EB.trans ((hbw.trans (HS.mono hbw.size)).mono EB.size))
       clear HV HPUT
       go_wp2
       go_ret
       exact ⟨_,rfl,HPQ.out.wide (fun j hj=>⟨by have:=hj.1;omega,hj.2⟩),HFB.out⟩
     have bn1:=HS.size
     go_simp
     have RL:(Rep.slice 159 (Rep.asIn RRoute w0)).rd (World.alloc t0 (.cells #[.slice ra r.1.length rp,.int .i64 r.2.1,.int .i64 r.2.2] 159)) [.slice (some ⟨t0.heap.size,0,none⟩) 1 1] [r]:=((Rep.own0_lit (e:=159) (r:=(Rep.asIn RRoute w0)) (w:=t0) (cs:=[.slice ra r.1.length rp,.int .i64 r.2.1,.int .i64 r.2.2]) (xs:=[r]) (T:=fun _=>True) (S:=fun _=>True) (by intro y hy;rw [List.mem_singleton.1 hy];exact HR.out.2) (by show 1≤_;unfold maxLen;omega) (Rep.row_single (show (Rep.asIn RRoute w0).is true _ [_,_,_] r _ from HR.out.1)) (fun _ h=>h) trivial).own (by show 1≤_;unfold Big;omega)).rd
     have bN0:Below t0.heap.size t0 (World.alloc t0 (.cells #[.slice ra r.1.length rp,.int .i64 r.2.1,.int .i64 r.2.2] 159)):=(Below.refl _ _).alloc (Nat.le_refl _) _
     generalize hwN:World.alloc t0 (.cells #[.slice ra r.1.length rp,.int .i64 r.2.1,.int .i64 r.2.2] 159)=t1 at RL bN0 ⊢
     have zN1:=bN0.size
     have bN:=bN0
     clear hwN bN0
     replace HS:=HS.trans (bN.mono HS.size)
     refine hK _ _ HS ?_
     clear hK K bN
     try simp only [Act.put,zA,zB,zC]
     refine kW (k:=4) rfl (by kernel_rfl) rfl (fun K hK=>?_)
     have bn2:=HS.size
     obtain ⟨v1,t2,hr,HV,hbN,zN2⟩:=Rep.kU (P:=Tryz.prog) (t:=39) (ty:=39) (r:=(Rep.asIn RRoute w0)) (e:=159) (w:=t1) (v:=.slice (some ⟨wS.heap.size,0,none⟩) 0 0) (xs:=[]) (S:=fun _=>False) (B:=t1.heap.size) Tryz.underlying39 infRoute rfl (show 0 < 3 by omega) (by decide) Rep.isFlat_asIn Rep.own0.void (HTK.out.below HS) (fun _ h=>h.elim) (Nat.le_refl _) (by simp;omega)
     refine Rep.wp_append _ _ _ rfl (by rfl) (by rfl) hr ?_
     obtain ⟨a1,n1,c1,hv1,HN1⟩:=HV.parts
     obtain rfl:=hv1
     replace RL:=RL.below hbN
     replace HS:=HS.trans (hbN.mono HS.size)
     refine hK _ _ HS ?_
     clear hK K hr hbN
     try simp only [Act.put,zA,zB,zC]
     refine kW (k:=7) rfl (by kernel_rfl) rfl (fun K hK=>?_)
     have bn3:=HS.size
     obtain ⟨v2,t3,hr,HV2,hbN,zN3⟩:=Rep.kU (P:=Tryz.prog) (t:=39) (ty:=39) (r:=(Rep.asIn RRoute w0)) (e:=159) (w:=t2) (B:=wq.heap.size) Tryz.underlying39 infRoute rfl (show 0 < 3 by omega) (by decide) Rep.isFlat_asIn HV RL (fun j hj=>⟨by have:=hj.1;omega,by have:=hj.2;omega⟩) HS.size (by simp;omega)
     refine Rep.wp_append _ _ _ rfl (by rfl) (by rfl) hr ?_
     obtain ⟨a2,n2,c2,hv2,HN2⟩:=HV2.parts
     obtain rfl:=hv2
     replace HS:=HS.trans hbN
     have HV3:=HV2;clear HV;have HV:=HV3;clear HV2 HV3 RL
     refine hK _ _ HS ?_
     clear hK K hr hbN
     try simp only [Act.put,zA,zB,zC]
     refine kW (k:=11) rfl (by kernel_rfl) rfl (fun K hK=>?_)
     have bn4:=HS.size
     obtain ⟨v3,t4,hr,HV2,hbN,zN4⟩:=Rep.kU (P:=Tryz.prog) (t:=39) (ty:=39) (r:=(Rep.asIn RRoute w0)) (e:=159) (w:=t3) (B:=wq.heap.size) Tryz.underlying39 infRoute rfl (show 0 < 3 by omega) (by decide) Rep.isFlat_asIn HV (HDR.out.below HS) (fun j hj=>⟨hj.1,by have:=hj.2;omega⟩) HS.size (by simp;omega)
     refine Rep.wp_append _ _ _ rfl (by rfl) (by rfl) hr ?_
     obtain ⟨a3,n3,c3,hv3,HN3⟩:=HV2.parts
     obtain rfl:=hv3
     replace HS:=HS.trans hbN
     have HV3:=HV2;clear HV;have HV:=HV3;clear HV2 HV3
     refine hK _ _ HS ?_
     clear hK K hr hbN
     try simp only [Act.put,zA,zB,zC]
     refine kS (k:=12) (v:=?_) rfl (by kernel_rfl) (fun c a d v w h=>by cases d <;> exact h) rfl HS (fun W hW=>?_) ?_
     rotate_left
     · go_simp;try with_reducible rfl
     try simp only [Act.put,zA,zB,zC]
     refine tree_end (by kernel_rfl) ?_
     have HPQ:=hD (Rep.own0.cast HV (show _=Srt.put keyR l r from by rw [HPUT.out,List.nil_append]))
     have hzz:=HS.size
     have HFB:=hD (EB.trans ((hbw.trans (HS.mono hbw.size)).mono EB.size))
     clear HV HPUT
     go_wp2
     go_ret
     exact ⟨_,rfl,HPQ.out.wide (fun j hj=>⟨by have:=hj.1;omega,hj.2⟩),HFB.out⟩
   have bn0:=HS.size
   go_simp
   have RL:(Rep.slice 159 (Rep.asIn RRoute w0)).rd (World.alloc wS (.cells #[.slice ra r.1.length rp,.int .i64 r.2.1,.int .i64 r.2.2] 159)) [.slice (some ⟨wS.heap.size,0,none⟩) 1 1] [r]:=((Rep.own0_lit (e:=159) (r:=(Rep.asIn RRoute w0)) (w:=wS) (cs:=[.slice ra r.1.length rp,.int .i64 r.2.1,.int .i64 r.2.2]) (xs:=[r]) (T:=fun _=>True) (S:=fun _=>True) (by intro y hy;rw [List.mem_singleton.1 hy];exact HR.out.2) (by show 1≤_;unfold maxLen;omega) (Rep.row_single (show (Rep.asIn RRoute w0).is true _ [_,_,_] r _ from HR.out.1)) (fun _ h=>h) trivial).own (by show 1≤_;unfold Big;omega)).rd
   have bN0:Below wS.heap.size wS (World.alloc wS (.cells #[.slice ra r.1.length rp,.int .i64 r.2.1,.int .i64 r.2.2] 159)):=(Below.refl _ _).alloc (Nat.le_refl _) _
   generalize hwN:World.alloc wS (.cells #[.slice ra r.1.length rp,.int .i64 r.2.1,.int .i64 r.2.2] 159)=t0 at RL bN0 ⊢
   have zN0:=bN0.size
   have bN:=bN0
   clear hwN bN0
   replace HS:=HS.trans (bN.mono HS.size)
   refine hK _ _ HS ?_
   clear hK K bN
   try simp only [Act.put,zA,zB,zC]
   refine kW (k:=0) rfl (by kernel_rfl) rfl (fun K hK=>?_)
   have bn1:=HS.size
   go_simp
   generalize hwN:World.alloc t0 _=t1
   have bN:Below t0.heap.size t0 t1:=by rw [← hwN];exact (Below.refl _ _).alloc (Nat.le_refl _) _
   have zN1:=bN.size
   clear hwN
   replace RL:=RL.below bN
   replace HS:=HS.trans (bN.mono HS.size)
   refine hK _ _ HS ?_
   clear hK K bN
   try simp only [Act.put,zA,zB,zC]
   refine kW (k:=4) rfl (by kernel_rfl) rfl (fun K hK=>?_)
   have bn2:=HS.size
   obtain ⟨v1,t2,hr,HV,hbN,zN2⟩:=Rep.kU (P:=Tryz.prog) (t:=39) (ty:=39) (r:=(Rep.asIn RRoute w0)) (e:=159) (w:=t1) (v:=.slice (some ⟨t0.heap.size,0,none⟩) 0 0) (xs:=[]) (S:=fun _=>False) (B:=t1.heap.size) Tryz.underlying39 infRoute rfl (show 0 < 3 by omega) (by decide) Rep.isFlat_asIn Rep.own0.void (HTK.out.below HS) (fun _ h=>h.elim) (Nat.le_refl _) (by simp;omega)
   refine Rep.wp_append _ _ _ rfl (by rfl) (by rfl) hr ?_
   obtain ⟨a1,n1,c1,hv1,HN1⟩:=HV.parts
   obtain rfl:=hv1
   replace RL:=RL.below hbN
   replace HS:=HS.trans (hbN.mono HS.size)
   refine hK _ _ HS ?_
   clear hK K hr hbN
   try simp only [Act.put,zA,zB,zC]
   refine kW (k:=7) rfl (by kernel_rfl) rfl (fun K hK=>?_)
   have bn3:=HS.size
   obtain ⟨v2,t3,hr,HV2,hbN,zN3⟩:=Rep.kU (P:=Tryz.prog) (t:=39) (ty:=39) (r:=(Rep.asIn RRoute w0)) (e:=159) (w:=t2) (B:=wq.heap.size) Tryz.underlying39 infRoute rfl (show 0 < 3 by omega) (by decide) Rep.isFlat_asIn HV RL (fun j hj=>⟨by have:=hj.1;omega,by have:=hj.2;omega⟩) HS.size (by simp;omega)
   refine Rep.wp_append _ _ _ rfl (by rfl) (by rfl) hr ?_
   obtain ⟨a2,n2,c2,hv2,HN2⟩:=HV2.parts
   obtain rfl:=hv2
   replace HS:=HS.trans hbN
   have HV3:=HV2;clear HV;have HV:=HV3;clear HV2 HV3 RL
   refine hK _ _ HS ?_
   clear hK K hr hbN
   try simp only [Act.put,zA,zB,zC]
   refine kW (k:=11) rfl (by kernel_rfl) rfl (fun K hK=>?_)
   have bn4:=HS.size
   obtain ⟨v3,t4,hr,HV2,hbN,zN4⟩:=Rep.kU (P:=Tryz.prog) (t:=39) (ty:=39) (r:=(Rep.asIn RRoute w0)) (e:=159) (w:=t3) (B:=wq.heap.size) Tryz.underlying39 infRoute rfl (show 0 < 3 by omega) (by decide) Rep.isFlat_asIn HV (HDR.out.below HS) (fun j hj=>⟨hj.1,by have:=hj.2;omega⟩) HS.size (by simp;omega)
   refine Rep.wp_append _ _ _ rfl (by rfl) (by rfl) hr ?_
   obtain ⟨a3,n3,c3,hv3,HN3⟩:=HV2.parts
   obtain rfl:=hv3
   replace HS:=HS.trans hbN
   have HV3:=HV2;clear HV;have HV:=HV3;clear HV2 HV3
   refine hK _ _ HS ?_
   clear hK K hr hbN
   try simp only [Act.put,zA,zB,zC]
   refine kS (k:=12) (v:=?_) rfl (by kernel_rfl) (fun c a d v w h=>by cases d <;> exact h) rfl HS (fun W hW=>?_) ?_
   rotate_left
   · go_simp;try with_reducible rfl
   try simp only [Act.put,zA,zB,zC]
   refine tree_end (by kernel_rfl) ?_
   have HPQ:=hD (Rep.own0.cast HV (show _=Srt.put keyR l r from by rw [HPUT.out,List.nil_append]))
   have hzz:=HS.size
   have HFB:=hD (EB.trans ((hbw.trans (HS.mono hbw.size)).mono EB.size))
   clear HV HPUT
   go_wp2
   go_ret
   exact ⟨_,rfl,HPQ.out.wide (fun j hj=>⟨by have:=hj.1;omega,hj.2⟩),HFB.out⟩
 have hck:lp=k:=by omega
 subst hck
 have HDR:=fun (ad:Option Addr)=>hD (show (Rep.slice 159 (Rep.asIn RRoute w0)).rd wq [.slice ad 0 0] (l.drop lp) from by rw [List.drop_eq_nil_of_le (by omega)];exact Rep.void_rd (by unfold maxLen;omega))
 refine wp_region_tree (fun W=>Below wq.heap.size wq W) (by kernel_rfl) ((Below.refl _ _).drew) ?_
 intro wS HS
 refine kS (k:=1) (v:=?_) rfl (by kernel_rfl) (fun c a d v w h=>by cases d <;> exact h) rfl HS (fun W hW=>?_) ?_
 rotate_left
 · go_simp;try with_reducible rfl
 try simp only [Act.put,zA,zB,zC]
 refine kS (k:=2) (v:=?_) rfl (by kernel_rfl) (fun c a d v w h=>by cases d <;> exact h) rfl HS (fun W hW=>?_) ?_
 rotate_left
 · go_simp;try with_reducible rfl
 try simp only [Act.put,zA,zB,zC]
 refine kS (k:=3) (v:=?_) rfl (by kernel_rfl) (fun c a d v w h=>by cases d <;> exact h) rfl HS (fun W hW=>?_) ?_
 rotate_left
 · go_simp;try with_reducible rfl
 try simp only [Act.put,zA,zB,zC]
 refine kS (k:=5) (v:=?_) rfl (by kernel_rfl) (fun c a d v w h=>by cases d <;> exact h) rfl HS (fun W hW=>?_) ?_
 rotate_left
 · have A_K0:=cL hW K0;have A_K1:=cL hW K1;have A_K2:=cL hW K2;clear hW;go_simp;try with_reducible rfl
 try simp only [Act.put,zA,zB,zC]
 refine kS (k:=8) (v:=?_) rfl (by kernel_rfl) (fun c a d v w h=>by cases d <;> exact h) rfl HS (fun W hW=>?_) ?_
 rotate_left
 · go_simp;try with_reducible rfl
 try simp only [Act.put,zA,zB,zC]
 refine kS (k:=9) (v:=?_) rfl (by kernel_rfl) (fun c a d v w h=>by cases d <;> exact h) rfl HS (fun W hW=>?_) ?_
 rotate_left
 · go_simp;try with_reducible rfl
 try simp only [Act.put,zA,zB,zC]
 refine kS (k:=10) (v:=?_) rfl (by kernel_rfl) (fun c a d v w h=>by cases d <;> exact h) rfl HS (fun W hW=>?_) ?_
 rotate_left
 · go_simp;try with_reducible rfl
 try simp only [Act.put,zA,zB,zC]
 refine tree_two (i:=0) (j:=6) rfl rfl (by kernel_rfl) rfl rfl (fun K hK=>?_) (fun K hK=>?_)
 · have bn0:=HS.size
   go_simp
   generalize hwN:World.alloc wS _=t0
   have bN:Below wS.heap.size wS t0:=by rw [← hwN];exact (Below.refl _ _).alloc (Nat.le_refl _) _
   have zN0:=bN.size
   clear hwN
   replace HS:=HS.trans (bN.mono HS.size)
   refine hK _ _ HS ?_
   clear hK K bN
   try simp only [Act.put,zA,zB,zC]
   refine tree_two (i:=4) (j:=6) rfl rfl (by kernel_rfl) rfl rfl (fun K hK=>?_) (fun K hK=>?_)
   · have bn1:=HS.size
     obtain ⟨v1,t1,hr,HV,hbN,zN1⟩:=Rep.kU (P:=Tryz.prog) (t:=39) (ty:=39) (r:=(Rep.asIn RRoute w0)) (e:=159) (w:=t0) (v:=.slice (some ⟨wS.heap.size,0,none⟩) 0 0) (xs:=[]) (S:=fun _=>False) (B:=t0.heap.size) Tryz.underlying39 infRoute rfl (show 0 < 3 by omega) (by decide) Rep.isFlat_asIn Rep.own0.void (HTK.out.below HS) (fun _ h=>h.elim) (Nat.le_refl _) (by simp;omega)
     refine Rep.wp_append _ _ _ rfl (by rfl) (by rfl) hr ?_
     obtain ⟨a1,n1,c1,hv1,HN1⟩:=HV.parts
     obtain rfl:=hv1
     replace HS:=HS.trans (hbN.mono HS.size)
     refine hK _ _ HS ?_
     clear hK K hr hbN
     try simp only [Act.put,zA,zB,zC]
     refine kW (k:=6) rfl (by kernel_rfl) rfl (fun K hK=>?_)
     have bn2:=HS.size
     go_simp
     have RL:(Rep.slice 159 (Rep.asIn RRoute w0)).rd (World.alloc t1 (.cells #[.slice ra r.1.length rp,.int .i64 r.2.1,.int .i64 r.2.2] 159)) [.slice (some ⟨t1.heap.size,0,none⟩) 1 1] [r]:=((Rep.own0_lit (e:=159) (r:=(Rep.asIn RRoute w0)) (w:=t1) (cs:=[.slice ra r.1.length rp,.int .i64 r.2.1,.int .i64 r.2.2]) (xs:=[r]) (T:=fun _=>True) (S:=fun _=>True) (by intro y hy;rw [List.mem_singleton.1 hy];exact HR.out.2) (by show 1≤_;unfold maxLen;omega) (Rep.row_single (show (Rep.asIn RRoute w0).is true _ [_,_,_] r _ from HR.out.1)) (fun _ h=>h) trivial).own (by show 1≤_;unfold Big;omega)).rd
     have bN0:Below t1.heap.size t1 (World.alloc t1 (.cells #[.slice ra r.1.length rp,.int .i64 r.2.1,.int .i64 r.2.2] 159)):=(Below.refl _ _).alloc (Nat.le_refl _) _
     generalize hwN:World.alloc t1 (.cells #[.slice ra r.1.length rp,.int .i64 r.2.1,.int .i64 r.2.2] 159)=t2 at RL bN0 ⊢
     have zN2:=bN0.size
     have bN:=bN0
     clear hwN bN0
     replace HV:=HV.below bN
     replace HS:=HS.trans (bN.mono HS.size)
     refine hK _ _ HS ?_
     clear hK K bN
     try simp only [Act.put,zA,zB,zC]
     refine kW (k:=7) rfl (by kernel_rfl) rfl (fun K hK=>?_)
     have bn3:=HS.size
     obtain ⟨v2,t3,hr,HV2,hbN,zN3⟩:=Rep.kU (P:=Tryz.prog) (t:=39) (ty:=39) (r:=(Rep.asIn RRoute w0)) (e:=159) (w:=t2) (B:=wq.heap.size) Tryz.underlying39 infRoute rfl (show 0 < 3 by omega) (by decide) Rep.isFlat_asIn HV RL (fun j hj=>⟨by have:=hj.1;omega,by have:=hj.2;omega⟩) HS.size (by simp;omega)
     refine Rep.wp_append _ _ _ rfl (by rfl) (by rfl) hr ?_
     obtain ⟨a2,n2,c2,hv2,HN2⟩:=HV2.parts
     obtain rfl:=hv2
     replace HS:=HS.trans hbN
     have HV3:=HV2;clear HV;have HV:=HV3;clear HV2 HV3 RL
     refine hK _ _ HS ?_
     clear hK K hr hbN
     try simp only [Act.put,zA,zB,zC]
     refine kW (k:=11) rfl (by kernel_rfl) rfl (fun K hK=>?_)
     have bn4:=HS.size
     obtain ⟨v3,t4,hr,HV2,hbN,zN4⟩:=Rep.kU (P:=Tryz.prog) (t:=39) (ty:=39) (r:=(Rep.asIn RRoute w0)) (e:=159) (w:=t3) (B:=wq.heap.size) Tryz.underlying39 infRoute rfl (show 0 < 3 by omega) (by decide) Rep.isFlat_asIn HV ((HDR _).out.below HS) (fun j hj=>⟨hj.1,by have:=hj.2;omega⟩) HS.size (by simp;omega)
     refine Rep.wp_append _ _ _ rfl (by rfl) (by rfl) hr ?_
     obtain ⟨a3,n3,c3,hv3,HN3⟩:=HV2.parts
     obtain rfl:=hv3
     replace HS:=HS.trans hbN
     have HV3:=HV2;clear HV;have HV:=HV3;clear HV2 HV3
     refine hK _ _ HS ?_
     clear hK K hr hbN
     try simp only [Act.put,zA,zB,zC]
     refine kS (k:=12) (v:=?_) rfl (by kernel_rfl) (fun c a d v w h=>by cases d <;> exact h) rfl HS (fun W hW=>?_) ?_
     rotate_left
     · go_simp;try with_reducible rfl
     try simp only [Act.put,zA,zB,zC]
     refine tree_end (by kernel_rfl) ?_
     have HPQ:=hD (Rep.own0.cast HV (show _=Srt.put keyR l r from by rw [HPUT.out,List.nil_append]))
     have hzz:=HS.size
     have HFB:=hD (EB.trans ((hbw.trans (HS.mono hbw.size)).mono EB.size))
     clear HV HPUT
     go_wp2
     go_ret
     exact ⟨_,rfl,HPQ.out.wide (fun j hj=>⟨by have:=hj.1;omega,hj.2⟩),HFB.out⟩
   have bn1:=HS.size
   go_simp
   have RL:(Rep.slice 159 (Rep.asIn RRoute w0)).rd (World.alloc t0 (.cells #[.slice ra r.1.length rp,.int .i64 r.2.1,.int .i64 r.2.2] 159)) [.slice (some ⟨t0.heap.size,0,none⟩) 1 1] [r]:=((Rep.own0_lit (e:=159) (r:=(Rep.asIn RRoute w0)) (w:=t0) (cs:=[.slice ra r.1.length rp,.int .i64 r.2.1,.int .i64 r.2.2]) (xs:=[r]) (T:=fun _=>True) (S:=fun _=>True) (by intro y hy;rw [List.mem_singleton.1 hy];exact HR.out.2) (by show 1≤_;unfold maxLen;omega) (Rep.row_single (show (Rep.asIn RRoute w0).is true _ [_,_,_] r _ from HR.out.1)) (fun _ h=>h) trivial).own (by show 1≤_;unfold Big;omega)).rd
   have bN0:Below t0.heap.size t0 (World.alloc t0 (.cells #[.slice ra r.1.length rp,.int .i64 r.2.1,.int .i64 r.2.2] 159)):=(Below.refl _ _).alloc (Nat.le_refl _) _
   generalize hwN:World.alloc t0 (.cells #[.slice ra r.1.length rp,.int .i64 r.2.1,.int .i64 r.2.2] 159)=t1 at RL bN0 ⊢
   have zN1:=bN0.size
   have bN:=bN0
   clear hwN bN0
   replace HS:=HS.trans (bN.mono HS.size)
   refine hK _ _ HS ?_
   clear hK K bN
   try simp only [Act.put,zA,zB,zC]
   refine kW (k:=4) rfl (by kernel_rfl) rfl (fun K hK=>?_)
   have bn2:=HS.size
   obtain ⟨v1,t2,hr,HV,hbN,zN2⟩:=Rep.kU (P:=Tryz.prog) (t:=39) (ty:=39) (r:=(Rep.asIn RRoute w0)) (e:=159) (w:=t1) (v:=.slice (some ⟨wS.heap.size,0,none⟩) 0 0) (xs:=[]) (S:=fun _=>False) (B:=t1.heap.size) Tryz.underlying39 infRoute rfl (show 0 < 3 by omega) (by decide) Rep.isFlat_asIn Rep.own0.void (HTK.out.below HS) (fun _ h=>h.elim) (Nat.le_refl _) (by simp;omega)
   refine Rep.wp_append _ _ _ rfl (by rfl) (by rfl) hr ?_
   obtain ⟨a1,n1,c1,hv1,HN1⟩:=HV.parts
   obtain rfl:=hv1
   replace RL:=RL.below hbN
   replace HS:=HS.trans (hbN.mono HS.size)
   refine hK _ _ HS ?_
   clear hK K hr hbN
   try simp only [Act.put,zA,zB,zC]
   refine kW (k:=7) rfl (by kernel_rfl) rfl (fun K hK=>?_)
   have bn3:=HS.size
   obtain ⟨v2,t3,hr,HV2,hbN,zN3⟩:=Rep.kU (P:=Tryz.prog) (t:=39) (ty:=39) (r:=(Rep.asIn RRoute w0)) (e:=159) (w:=t2) (B:=wq.heap.size) Tryz.underlying39 infRoute rfl (show 0 < 3 by omega) (by decide) Rep.isFlat_asIn HV RL (fun j hj=>⟨by have:=hj.1;omega,by have:=hj.2;omega⟩) HS.size (by simp;omega)
   refine Rep.wp_append _ _ _ rfl (by rfl) (by rfl) hr ?_
   obtain ⟨a2,n2,c2,hv2,HN2⟩:=HV2.parts
   obtain rfl:=hv2
   replace HS:=HS.trans hbN
   have HV3:=HV2;clear HV;have HV:=HV3;clear HV2 HV3 RL
   refine hK _ _ HS ?_
   clear hK K hr hbN
   try simp only [Act.put,zA,zB,zC]
   refine kW (k:=11) rfl (by kernel_rfl) rfl (fun K hK=>?_)
   have bn4:=HS.size
   obtain ⟨v3,t4,hr,HV2,hbN,zN4⟩:=Rep.kU (P:=Tryz.prog) (t:=39) (ty:=39) (r:=(Rep.asIn RRoute w0)) (e:=159) (w:=t3) (B:=wq.heap.size) Tryz.underlying39 infRoute rfl (show 0 < 3 by omega) (by decide) Rep.isFlat_asIn HV ((HDR _).out.below HS) (fun j hj=>⟨hj.1,by have:=hj.2;omega⟩) HS.size (by simp;omega)
   refine Rep.wp_append _ _ _ rfl (by rfl) (by rfl) hr ?_
   obtain ⟨a3,n3,c3,hv3,HN3⟩:=HV2.parts
   obtain rfl:=hv3
   replace HS:=HS.trans hbN
   have HV3:=HV2;clear HV;have HV:=HV3;clear HV2 HV3
   refine hK _ _ HS ?_
   clear hK K hr hbN
   try simp only [Act.put,zA,zB,zC]
   refine kS (k:=12) (v:=?_) rfl (by kernel_rfl) (fun c a d v w h=>by cases d <;> exact h) rfl HS (fun W hW=>?_) ?_
   rotate_left
   · go_simp;try with_reducible rfl
   try simp only [Act.put,zA,zB,zC]
   refine tree_end (by kernel_rfl) ?_
   have HPQ:=hD (Rep.own0.cast HV (show _=Srt.put keyR l r from by rw [HPUT.out,List.nil_append]))
   have hzz:=HS.size
   have HFB:=hD (EB.trans ((hbw.trans (HS.mono hbw.size)).mono EB.size))
   clear HV HPUT
   go_wp2
   go_ret
   exact ⟨_,rfl,HPQ.out.wide (fun j hj=>⟨by have:=hj.1;omega,hj.2⟩),HFB.out⟩
 have bn0:=HS.size
 go_simp
 have RL:(Rep.slice 159 (Rep.asIn RRoute w0)).rd (World.alloc wS (.cells #[.slice ra r.1.length rp,.int .i64 r.2.1,.int .i64 r.2.2] 159)) [.slice (some ⟨wS.heap.size,0,none⟩) 1 1] [r]:=((Rep.own0_lit (e:=159) (r:=(Rep.asIn RRoute w0)) (w:=wS) (cs:=[.slice ra r.1.length rp,.int .i64 r.2.1,.int .i64 r.2.2]) (xs:=[r]) (T:=fun _=>True) (S:=fun _=>True) (by intro y hy;rw [List.mem_singleton.1 hy];exact HR.out.2) (by show 1≤_;unfold maxLen;omega) (Rep.row_single (show (Rep.asIn RRoute w0).is true _ [_,_,_] r _ from HR.out.1)) (fun _ h=>h) trivial).own (by show 1≤_;unfold Big;omega)).rd
 have bN0:Below wS.heap.size wS (World.alloc wS (.cells #[.slice ra r.1.length rp,.int .i64 r.2.1,.int .i64 r.2.2] 159)):=(Below.refl _ _).alloc (Nat.le_refl _) _
 generalize hwN:World.alloc wS (.cells #[.slice ra r.1.length rp,.int .i64 r.2.1,.int .i64 r.2.2] 159)=t0 at RL bN0 ⊢
 have zN0:=bN0.size
 have bN:=bN0
 clear hwN bN0
 replace HS:=HS.trans (bN.mono HS.size)
 refine hK _ _ HS ?_
 clear hK K bN
 try simp only [Act.put,zA,zB,zC]
 refine kW (k:=0) rfl (by kernel_rfl) rfl (fun K hK=>?_)
 have bn1:=HS.size
 go_simp
 generalize hwN:World.alloc t0 _=t1
 have bN:Below t0.heap.size t0 t1:=by rw [← hwN];exact (Below.refl _ _).alloc (Nat.le_refl _) _
 have zN1:=bN.size
 clear hwN
 replace RL:=RL.below bN
 replace HS:=HS.trans (bN.mono HS.size)
 refine hK _ _ HS ?_
 clear hK K bN
 try simp only [Act.put,zA,zB,zC]
 refine kW (k:=4) rfl (by kernel_rfl) rfl (fun K hK=>?_)
 have bn2:=HS.size
 obtain ⟨v1,t2,hr,HV,hbN,zN2⟩:=Rep.kU (P:=Tryz.prog) (t:=39) (ty:=39) (r:=(Rep.asIn RRoute w0)) (e:=159) (w:=t1) (v:=.slice (some ⟨t0.heap.size,0,none⟩) 0 0) (xs:=[]) (S:=fun _=>False) (B:=t1.heap.size) Tryz.underlying39 infRoute rfl (show 0 < 3 by omega) (by decide) Rep.isFlat_asIn Rep.own0.void (HTK.out.below HS) (fun _ h=>h.elim) (Nat.le_refl _) (by simp;omega)
 refine Rep.wp_append _ _ _ rfl (by rfl) (by rfl) hr ?_
 obtain ⟨a1,n1,c1,hv1,HN1⟩:=HV.parts
 obtain rfl:=hv1
 replace RL:=RL.below hbN
 replace HS:=HS.trans (hbN.mono HS.size)
 refine hK _ _ HS ?_
 clear hK K hr hbN
 try simp only [Act.put,zA,zB,zC]
 refine kW (k:=7) rfl (by kernel_rfl) rfl (fun K hK=>?_)
 have bn3:=HS.size
 obtain ⟨v2,t3,hr,HV2,hbN,zN3⟩:=Rep.kU (P:=Tryz.prog) (t:=39) (ty:=39) (r:=(Rep.asIn RRoute w0)) (e:=159) (w:=t2) (B:=wq.heap.size) Tryz.underlying39 infRoute rfl (show 0 < 3 by omega) (by decide) Rep.isFlat_asIn HV RL (fun j hj=>⟨by have:=hj.1;omega,by have:=hj.2;omega⟩) HS.size (by simp;omega)
 refine Rep.wp_append _ _ _ rfl (by rfl) (by rfl) hr ?_
 obtain ⟨a2,n2,c2,hv2,HN2⟩:=HV2.parts
 obtain rfl:=hv2
 replace HS:=HS.trans hbN
 have HV3:=HV2;clear HV;have HV:=HV3;clear HV2 HV3 RL
 refine hK _ _ HS ?_
 clear hK K hr hbN
 try simp only [Act.put,zA,zB,zC]
 refine kW (k:=11) rfl (by kernel_rfl) rfl (fun K hK=>?_)
 have bn4:=HS.size
 obtain ⟨v3,t4,hr,HV2,hbN,zN4⟩:=Rep.kU (P:=Tryz.prog) (t:=39) (ty:=39) (r:=(Rep.asIn RRoute w0)) (e:=159) (w:=t3) (B:=wq.heap.size) Tryz.underlying39 infRoute rfl (show 0 < 3 by omega) (by decide) Rep.isFlat_asIn HV ((HDR _).out.below HS) (fun j hj=>⟨hj.1,by have:=hj.2;omega⟩) HS.size (by simp;omega)
 refine Rep.wp_append _ _ _ rfl (by rfl) (by rfl) hr ?_
 obtain ⟨a3,n3,c3,hv3,HN3⟩:=HV2.parts
 obtain rfl:=hv3
 replace HS:=HS.trans hbN
 have HV3:=HV2;clear HV;have HV:=HV3;clear HV2 HV3
 refine hK _ _ HS ?_
 clear hK K hr hbN
 try simp only [Act.put,zA,zB,zC]
 refine kS (k:=12) (v:=?_) rfl (by kernel_rfl) (fun c a d v w h=>by cases d <;> exact h) rfl HS (fun W hW=>?_) ?_
 rotate_left
 · go_simp;try with_reducible rfl
 try simp only [Act.put,zA,zB,zC]
 refine tree_end (by kernel_rfl) ?_
 have HPQ:=hD (Rep.own0.cast HV (show _=Srt.put keyR l r from by rw [HPUT.out,List.nil_append]))
 have hzz:=HS.size
 have HFB:=hD (EB.trans ((hbw.trans (HS.mono hbw.size)).mono EB.size))
 clear HV HPUT
 go_wp2
 go_ret
 exact ⟨_,rfl,HPQ.out.wide (fun j hj=>⟨by have:=hj.1;omega,hj.2⟩),HFB.out⟩
set_option maxRecDepth 100000 in
set_option maxHeartbeats 4000000 in
theorem specNextHops_c {w:World} {vl:Value} {l:List LRoute} (hl:(Rep.slice 159 RRoute).rd w [vl] l) {cn:List Value} {n:LName} (hn:RName.rd w cn n) :
    Calls Tryz.prog 113 #[vl,.agg cn.toArray] w (MadePost (Rep.slice 3 Rep.int) (hopsF l n) w):=by
 have HL:=hD hl
 have HN:=hD hn
 have hlb:l.length≤16777216:=hl.2.1
 obtain ⟨nv,rfl,n_0⟩:=RName_raw hn.1
 obtain ⟨na,np,hnv,_⟩:=Rep.kR n_0;obtain rfl:nv=_:=by simpa using hnv
 obtain ⟨la,lp,hlv,_⟩:=Rep.kR hl.1;obtain rfl:vl=_:=by simpa using hlv
 clear hnv hlv n_0 hl hn
 go_enter Tryz.func113,Tryz.ntmps113
 go_wp2_with fail
 generalize hwB:World.alloc w _=wB
 have EB:Below w.heap.size w wB:=by rw [← hwB];exact (by repeat (first|(with_reducible exact Below.refl _ _) | refine Below.alloc ?_ (by simp;try omega) _ | refine Below.drew ?_ | refine Below.setCell ?_ (by simp;try omega) _))
 have K0:wB.cell? ⟨w.heap.size,0,none⟩=some (.slice na n.length np):=by rw [← hwB];simp [go_sem]
 have hzB:=EB.size
 clear hwB
 refine (specMatchingPrefix_c (HL.out.below EB) (HN.out.below EB)).mono ?_
 rintro e w1 ⟨pc,rfl,OP,hb1⟩
 obtain ⟨pv0,rfl,p_0⟩:=RName_raw OP.raw
 obtain ⟨pa0,pp0,ph0,_⟩:=Rep.kR p_0;obtain rfl:pv0=_:=(by simpa using ph0)
 clear ph0 p_0
 have HP:=hD OP.rd
 have E1:=EB.trans (hb1.mono EB.size)
 have hz1:=E1.size
 clear OP hb1 EB K0
 have HNO:=hD (hopsF_no (l:=l) (n:=n));have HYES:=hD (hopsF_yes (l:=l) (n:=n))
 have HHR:Hid (hopsR n l=Srt.sorted keyR (l.filter (hitR n l))):=hD rfl
 generalize hok:mOk n l=ok at *
 have HOK:=hD hok;clear hok
 go_wp2
 generalize hwC:World.alloc (World.alloc w1 _) _=wC
 have EC0:Below w1.heap.size w1 wC:=by rw [← hwC];exact (by repeat (first|(with_reducible exact Below.refl _ _) | refine Below.alloc ?_ (by simp;try omega) _ | refine Below.drew ?_ | refine Below.setCell ?_ (by simp;try omega) _))
 have KP:wC.cell? ⟨w1.heap.size,0,none⟩=some (.slice pa0 (mName n l).length pp0):=by rw [← hwC];simp [go_sem]
 clear hwC
 have EC:=E1.trans (EC0.mono E1.size)
 have hzC:=EC0.size
 go_loopw [7,8] (fun v i wr=>∃ (k:Nat),k≤l.length∧i=.int .i64 k∧(ok=false→k=0)∧Hid (Rep.own0 159 (Rep.asIn RRoute w) wr v (Srt.sorted keyR ((l.take k).filter (hitR n l))) (Btw w.heap.size wr.heap.size))∧Below wC.heap.size wC wr) (fun _ i _=>l.length - (intOf i).toNat)
 case atStart=>exact ⟨0,Nat.zero_le _,rfl,fun _=>rfl,hD Rep.own0.void,Below.refl _ _⟩
 obtain ⟨k,hk,rfl,hk0,HO,hbel⟩:=hrel
 obtain ⟨oa,on,oc,ho,HON⟩:=HO.out.parts;obtain rfl:=ho
 have HK0:=hD hk0;clear hk0
 have hrz:=hbel.size
 replace KP:=cL hbel KP
 have EG:=EC.trans (hbel.mono EC.size)
 have hkn:=Int.natCast_nonneg k
 by_cases hlt:k < l.length
 · cases ok
   · have hltI:(k:Int) < l.length:=by omega
     have HFIN:Hid (hopsF l n=(Srt.sorted keyR ((l.take k).filter (hitR n l))).map (fun r=>r.2.1)):=hD (by rw [HNO.out rfl,HK0.out rfl];rfl)
     have hbdl:(Srt.sorted keyR ((l.take k).filter (hitR n l))).length≤16777216:=by have h1:=filter_take_le (p:=hitR n l) (l:=l) (k:=k) hk;rw [sorted_len];omega
     generalize Srt.sorted keyR ((l.take k).filter (hitR n l))=H at *
     obtain ⟨FS,hFS⟩:∃ FS:List Int,FS=H.map (fun r=>r.2.1):=⟨_,rfl⟩
     have HFS:=hD hFS;clear hFS
     have hdl:on≤16777216:=by have:=HON.out;omega
     clear hbdl HHR HNO HYES HOK HK0
     obtain ⟨wz,hwz⟩:∃ wz,wz=wr:=⟨_,rfl⟩
     subst hwz
     go_wp2
     go_loopw [9,10] (fun v i wx=>∃ (j:Nat),j≤on∧i=.int .i64 j∧Hid (Rep.own0 3 Rep.int wx v (FS.take j) (Btw wz.heap.size wx.heap.size))∧Below wz.heap.size wz wx) (fun _ i _=>on - (intOf i).toNat)
     case atStart=>exact ⟨0,Nat.zero_le _,rfl,hD Rep.own0.void,(by repeat (first|(with_reducible exact Below.refl _ _) | refine Below.alloc ?_ (by simp;try omega) _ | refine Below.drew ?_ | refine Below.setCell ?_ (by simp;try omega) _))⟩
     obtain ⟨j,hj,rfl,HI,hb2⟩:=hrel
     obtain ⟨ia,inn,ic,hi,HIN⟩:=HI.out.parts;obtain rfl:=hi
     have hrz2:=hb2.size
     by_cases hltj:j < on
     · have hkl:j < H.length:=by have:=HON.out;omega
       have hil:inn≤16777216:=by have:=HIN.out;simp at this;omega
       obtain ⟨qb,qo,rfl,qc0,qc1,qc2,qr,A0,A1,A2⟩:=Rep.get3 (HO.out.raw0.below hb2) hkl rfl
       have HSN:=hD (show FS.take (j + 1)=FS.take j++[H[j].2.1] by (have hl:j < FS.length:=by rw [HFS.out];simpa using hkl);rw [List.take_succ_eq_append_getElem hl];simp [HFS.out])
       generalize H[j]=x at *
       obtain ⟨qv0,qhe,q_0,q_1,q_2,q_3⟩:=RRoute_raw (show RRoute.raw w _ x from qr)
       simp only [List.cons.injEq,and_true] at qhe
       obtain ⟨rfl,rfl,rfl⟩:=qhe
       clear q_0 q_1 q_3 qr
       have hin2:(FS.take j).length≤16777216:=by have:=HIN.out;omega
       go_wp2_with (at_builtin;refine Rep.wpList_pushB rfl _ _ 84 rfl (r:=Rep.int) (e:=3) Tryz.underlying84 infInt rfl (by decide) (by decide) (B:=wz.heap.size) HI.out (by rfl) (by rfl) rfl (Rep.flat_int q_2 _) rfl (fun _ _ h=>h) (fun j hj=>⟨hj.1,by have:=hj.2;omega⟩) (fun _ h=>h.elim) (by omega) (by omega) ?_)
       intro v5 w5 hown hb5 hz5
       have HO5:=hD (Rep.own0.cast hown HSN.out.symm)
       have hbF:=hb2.trans hb5
       clear hown hb5
       go_wp2
       go_roundw
       case rel=>exact ⟨j + 1,by omega,by go_num,HO5,hbF⟩
       simp [intOf];omega
     obtain rfl:j=on:=by omega
     have HF:=hD (HI.out.cast (show _=hopsF l n by rw [HFIN.out,← HFS.out,List.take_of_length_le (by rw [HFS.out];simp;have:=HON.out;omega)]))
     have hkn2:¬ (j:Int) < j:=by omega
     go_wp2
     go_ret
     exact ⟨_,rfl,(HF.out.own (by rw [HFIN.out];simp;have:=HON.out;unfold Big;omega)).wide (fun q hq=>⟨by have:=hq.1;have:=EG.size;omega,hq.2⟩),EG.trans (hb2.mono EG.size)⟩
   have hltI:(k:Int) < l.length:=by omega
   have hfy:=fun q=>filter_yes (p:=hitR n l) hlt q
   have hfn:=fun q=>filter_no (p:=hitR n l) hlt q
   obtain ⟨qb,qo,rfl,qc0,qc1,qc2,qr,Aq0,Aq1,Aq2⟩:=Rep.get3 (HL.out.1.below EG) hlt rfl
   have hbd:=Rep.raw_bdd HL.out hlt
   have HXQ:Hid (RRoute.rd w [qc0,qc1,qc2] l[k]):=hD (by
     obtain ⟨b2,o2,hb2,c0,c1,c2,h,h0,h1,h2⟩:=Rep.get3 HL.out.1 hlt rfl
     simp only [Option.some.injEq,Addr.mk.injEq,and_true] at hb2
     obtain ⟨rfl,rfl⟩:=hb2
     have e0:=(cL EG h0).symm.trans Aq0;have e1:=(cL EG h1).symm.trans Aq1;have e2:=(cL EG h2).symm.trans Aq2
     simp only [Option.some.injEq] at e0 e1 e2
     subst e0 e1 e2
     exact ⟨h,hbd⟩)
   generalize l[k]=x at *
   have HFY:=hD hfy;have HFN:=hD hfn;clear hfy hfn hbd
   obtain ⟨qv0,qhe,q_0,q_1,q_2,q_3⟩:=RRoute_raw qr
   simp only [List.cons.injEq,and_true] at qhe
   obtain ⟨rfl,rfl,rfl⟩:=qhe
   obtain ⟨qa0,qp0,qh0,ql0⟩:=Rep.kR q_1;obtain rfl:qc0=_:=by simpa using qh0
   clear qh0
   go_upto_region 6 with fail
   refine wp_region_soft (fun W=>Below wr.heap.size wr W) [true,true,true,true,true,true,false] (by kernel_rfl) (by kernel_rfl) (fun c a d v w h=>by cases d <;> exact h) ((Below.refl _ _).drew) ?_
   intro wS HS
   iterate 4
    all_goals first|(refine kC rfl HS ?_)|(refine kD (v:=?_) rfl (fun W hW=>?_) ?_;rotate_left;(· go_simp;try with_reducible rfl))
    all_goals try simp only [Act.put,zA,zB,zC]
   iterate 2
    all_goals first|(refine kC rfl HS ?_)|(refine kD (v:=?_) rfl (fun W hW=>?_) ?_;rotate_left;(· have A_Aq0:=cL hW Aq0;have A_Aq1:=cL hW Aq1;have A_Aq2:=cL hW Aq2;have A_KP:=cL hW KP;clear hW;go_simp;try with_reducible rfl))
    all_goals try simp only [Act.put,zA,zB,zC]
   all_goals first|(refine kC rfl HS ?_)|(refine kF rfl (fun K hK=>?_);go_simp;refine (specEqualNames_c (Rep.raw.below q_0 HS) (Rep.raw.below HP.out.1 (Below.trans EC0 ((hbel.trans (HS.mono hbel.size)).mono EC0.size)))).mono ?_;rintro e wS1 ⟨rfl,hbS⟩;replace HS:=HS.trans (hbS.mono HS.size);refine hK _ _ HS ?_;clear hK K hbS)
   all_goals try simp only [Act.put,zA,zB,zC]
   all_goals refine soft_nil ?_
   have hbw:=hbel.trans (HS.mono hbel.size)
   have HO2:=hD (HO.out.below HS)
   have hzS:=HS.size
   replace Aq0:=cL HS Aq0
   replace Aq1:=cL HS Aq1
   replace Aq2:=cL HS Aq2
   generalize wS1=wq at *
   clear HS
   cases hq:eqN x.1 (mName n l)
   · have HT:=hD (HFN.out hq)
     clear HFY HFN
     go_wp2
     go_roundw
     case rel=>exact ⟨k + 1,by omega,by go_num,(fun h=>Bool.noConfusion h),hD ((HO2.out.cast (by rw [HT.out])).wide (fun j hj=>⟨hj.1,by have:=hj.2;omega⟩)),hbw⟩
     simp [intOf];omega
   have HT:=hD (HFY.out hq)
   clear HFY HFN
   have hlen:(Srt.sorted keyR ((l.take k).filter (hitR n l))).length < 16777216:=by have h1:=filter_take_le (p:=hitR n l) (l:=l) (k:=k) (by omega);rw [sorted_len];omega
   go_wp2_with fail
   refine (specl14Put_c HO2.out HXQ.out hlen).mono ?_
   rintro e w4 ⟨v4,rfl,O4,hb4⟩
   have hz4:=hb4.size
   have HO4:=hD ((O4.cast (show _=Srt.sorted keyR ((l.take (k + 1)).filter (hitR n l)) by rw [HT.out,sorted_app])).wide (T:=Btw w.heap.size w4.heap.size) (fun j hj=>⟨by have:=hj.1;have:=EC.size;omega,hj.2⟩))
   have hbF:=hbw.trans (hb4.mono hbw.size)
   obtain ⟨fa,fn,fc,hf,HFN⟩:=HO4.out.parts;obtain rfl:=hf
   clear O4 hb4
   go_wp2
   go_roundw
   case rel=>exact ⟨k + 1,by omega,by go_num,(fun h=>Bool.noConfusion h),HO4,hbF⟩
   simp [intOf];omega
 have hltI:¬ (k:Int) < l.length:=by omega
 have HFIN:Hid (hopsF l n=(Srt.sorted keyR ((l.take k).filter (hitR n l))).map (fun r=>r.2.1)):=hD (by
   obtain rfl:k=l.length:=by omega
   rw [List.take_length]
   cases ok
   · rw [HNO.out rfl];have h0:=HK0.out rfl;rw [List.eq_nil_of_length_eq_zero h0];rfl
   · rw [HYES.out rfl,HHR.out])
 have hbdl:(Srt.sorted keyR ((l.take k).filter (hitR n l))).length≤16777216:=by have h1:=filter_take_le (p:=hitR n l) (l:=l) (k:=k) hk;rw [sorted_len];omega
 generalize Srt.sorted keyR ((l.take k).filter (hitR n l))=H at *
 obtain ⟨FS,hFS⟩:∃ FS:List Int,FS=H.map (fun r=>r.2.1):=⟨_,rfl⟩
 have HFS:=hD hFS;clear hFS
 have hdl:on≤16777216:=by have:=HON.out;omega
 clear hbdl HHR HNO HYES HOK HK0
 obtain ⟨wz,hwz⟩:∃ wz,wz=wr:=⟨_,rfl⟩
 subst hwz
 go_wp2
 go_loopw [9,10] (fun v i wx=>∃ (j:Nat),j≤on∧i=.int .i64 j∧Hid (Rep.own0 3 Rep.int wx v (FS.take j) (Btw wz.heap.size wx.heap.size))∧Below wz.heap.size wz wx) (fun _ i _=>on - (intOf i).toNat)
 case atStart=>exact ⟨0,Nat.zero_le _,rfl,hD Rep.own0.void,(by repeat (first|(with_reducible exact Below.refl _ _) | refine Below.alloc ?_ (by simp;try omega) _ | refine Below.drew ?_ | refine Below.setCell ?_ (by simp;try omega) _))⟩
 obtain ⟨j,hj,rfl,HI,hb2⟩:=hrel
 obtain ⟨ia,inn,ic,hi,HIN⟩:=HI.out.parts;obtain rfl:=hi
 have hrz2:=hb2.size
 by_cases hltj:j < on
 · have hkl:j < H.length:=by have:=HON.out;omega
   have hil:inn≤16777216:=by have:=HIN.out;simp at this;omega
   obtain ⟨qb,qo,rfl,qc0,qc1,qc2,qr,A0,A1,A2⟩:=Rep.get3 (HO.out.raw0.below hb2) hkl rfl
   have HSN:=hD (show FS.take (j + 1)=FS.take j++[H[j].2.1] by (have hl:j < FS.length:=by rw [HFS.out];simpa using hkl);rw [List.take_succ_eq_append_getElem hl];simp [HFS.out])
   generalize H[j]=x at *
   obtain ⟨qv0,qhe,q_0,q_1,q_2,q_3⟩:=RRoute_raw (show RRoute.raw w _ x from qr)
   simp only [List.cons.injEq,and_true] at qhe
   obtain ⟨rfl,rfl,rfl⟩:=qhe
   clear q_0 q_1 q_3 qr
   have hin2:(FS.take j).length≤16777216:=by have:=HIN.out;omega
   go_wp2_with (at_builtin;refine Rep.wpList_pushB rfl _ _ 84 rfl (r:=Rep.int) (e:=3) Tryz.underlying84 infInt rfl (by decide) (by decide) (B:=wz.heap.size) HI.out (by rfl) (by rfl) rfl (Rep.flat_int q_2 _) rfl (fun _ _ h=>h) (fun j hj=>⟨hj.1,by have:=hj.2;omega⟩) (fun _ h=>h.elim) (by omega) (by omega) ?_)
   intro v5 w5 hown hb5 hz5
   have HO5:=hD (Rep.own0.cast hown HSN.out.symm)
   have hbF:=hb2.trans hb5
   clear hown hb5
   go_wp2
   go_roundw
   case rel=>exact ⟨j + 1,by omega,by go_num,HO5,hbF⟩
   simp [intOf];omega
 obtain rfl:j=on:=by omega
 have HF:=hD (HI.out.cast (show _=hopsF l n by rw [HFIN.out,← HFS.out,List.take_of_length_le (by rw [HFS.out];simp;have:=HON.out;omega)]))
 have hkn2:¬ (j:Int) < j:=by omega
 go_wp2
 go_ret
 exact ⟨_,rfl,(HF.out.own (by rw [HFIN.out];simp;have:=HON.out;unfold Big;omega)).wide (fun q hq=>⟨by have:=hq.1;have:=EG.size;omega,hq.2⟩),EG.trans (hb2.mono EG.size)⟩
end Go.Proofs.YtomdenfcfbkfbaaGreat

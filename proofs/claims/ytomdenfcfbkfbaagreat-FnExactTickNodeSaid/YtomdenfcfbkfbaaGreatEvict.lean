/-
  Data found by their names: in a list, in a content store.
  Content stores without what is stale.
-/
import Derived.Test.YtomdenfcfbkfbaaGreatBase
import Derived.Test.YtomdenfcfbkfbaaGreatName
import Derived.Test.YtomdenfcfbkfbaaGreatCopyD
import Derived.IntWalk
import Derived.Deep.Cut
import Derived.WalkSpells
import Derived.WalkLawsBesides
import Derived.Test.YtomdenfcfbkfbaaGreatCopyS
namespace Go.Proofs.YtomdenfcfbkfbaaGreat
open Go.RowKit
set_option linter.unusedVariables false
set_option linter.unusedSimpArgs false
set_option linter.unnecessarySimpa false
def fresh (t:Int) (x:LData):Bool:=decide (t≤x.2.2.2.1)
theorem specFreshAt_c {w:World} {cx:List Value} {x:LData} (hx:RData.raw w cx x) {t:Int} :
    Calls Tryz.prog 117 #[.agg cx.toArray,.int .i64 t] w fun e w'=>e=.returned (.bool (fresh t x))∧Below w.heap.size w w':=by
 obtain ⟨v0,v1,v2,rfl,a_0,a_1,a_2,a_3,a_4,a_5,a_6⟩:=RData_raw hx
 have HT:=hD (show fresh t x=decide (t≤x.2.2.2.1) from rfl)
 clear hx a_0 a_1 a_2 a_3 a_4 a_5 a_6
 go_enter Tryz.func117,Tryz.ntmps117
 go_wp2
 go_ret
 exact ⟨kT HT.out.symm,(by repeat (first|(with_reducible exact Below.refl _ _) | refine Below.alloc ?_ (by simp;try omega) _ | refine Below.drew ?_ | refine Below.setCell ?_ (by simp;try omega) _))⟩
theorem implFreshAt_c {w:World} {cx:List Value} {x:LData} (hx:RData.raw w cx x) {t:Int} :
    Calls Tryz.prog 144 #[.agg cx.toArray,.int .i64 t] w fun e w'=>e=.returned (.bool (fresh t x))∧Below w.heap.size w w':=by
 obtain ⟨v0,v1,v2,rfl,a_0,a_1,a_2,a_3,a_4,a_5,a_6⟩:=RData_raw hx
 have HT:=hD (show fresh t x=decide (t≤x.2.2.2.1) from rfl)
 clear hx a_0 a_1 a_2 a_3 a_4 a_5 a_6
 go_enter Tryz.func144,Tryz.ntmps144
 go_wp2
 go_ret
 exact ⟨kT HT.out.symm,(by repeat (first|(with_reducible exact Below.refl _ _) | refine Below.alloc ?_ (by simp;try omega) _ | refine Below.drew ?_ | refine Below.setCell ?_ (by simp;try omega) _))⟩
end Go.Proofs.YtomdenfcfbkfbaaGreat
namespace Go.Proofs.YtomdenfcfbkfbaaGreat
open Go.RowKit
set_option linter.unusedVariables false
set_option linter.unusedSimpArgs false
set_option linter.unnecessarySimpa false
def evict (now:Int) (x:LContentStore):LContentStore:=(x.1,x.2.filter (fun e:LCacheEntry=>fresh now e.1))
set_option maxRecDepth 100000 in
set_option maxHeartbeats 4000000 in
theorem specEvictStale_c {w:World} {cs:List Value} {x:LContentStore} (hx:kJ.rd w cs x) {now:Int}:Calls Tryz.prog 34 #[.agg cs.toArray,.int .i64 now] w (MadeAgg kJ (evict now x) w):=by
 obtain ⟨hx,hbd⟩:=hx
 obtain ⟨sv,rfl,s_r,hl⟩:=RContentStore_raw hx
 obtain ⟨la,lp,hva,_⟩:=Rep.kR hl;obtain rfl:sv=_:=by simpa using hva
 obtain ⟨c,l⟩:=x
 have HL:Hid ((Rep.slice 169 kL).rd w [.slice la l.length lp] l):=hD ⟨hl,hbd.2⟩
 have hlb:l.length≤16777216:=hbd.2.1
 have HCR:=hD s_r
 clear hva hx s_r hl hbd
 go_enter Tryz.func34,Tryz.ntmps34
 go_wp2
 generalize hwA:World.alloc (World.alloc (World.alloc w _) _) _=wA
 have HZ:Hid (wA.heap.size=w.heap.size + 3):=hD (by rw [← hwA];simp)
 have EA:Below w.heap.size w wA:=by rw [← hwA];exact (by repeat (first|(with_reducible exact Below.refl _ _) | refine Below.alloc ?_ (by simp;try omega) _ | refine Below.drew ?_ | refine Below.setCell ?_ (by simp;try omega) _))
 have XB:Hid (wA.heap[w.heap.size]?=some (.cells #[.int .i64 c,.slice la l.length lp] 36 (0,0))):=hD (by rw [← hwA];exact heap_keep (heap_keep (heap_new_at rfl)))
 have XR:Hid (wA.heap[w.heap.size + 1]?=some (.cells #[.int .i64 0,.slice none 0 0] 36 (0,0))):=hD (by rw [← hwA];exact heap_keep (heap_new_at (by simp)))
 have XO:Hid (wA.heap[w.heap.size + 1 + 1]?=some (.cells #[.int .i64 c,.slice none 0 0] 36 (0,0))):=hD (by rw [← hwA];exact heap_new_at (by simp))
 clear hwA
 go_loopw [6] (fun i wr=>∃ (k:Nat) (v:Value),k≤l.length∧i=.int .i64 k∧Hid (wr.heap[w.heap.size + 1 + 1]?=some (.cells #[.int .i64 c,v] 36 (0,0)))∧Hid (Rep.own0 169 kL wr v ((l.take k).filter (fun e:LCacheEntry=>fresh now e.1)) (Btw (w.heap.size + 3) wr.heap.size))∧Below (w.heap.size + 1 + 1) wA wr∧w.heap.size + 3≤wr.heap.size) (fun i _=>l.length - (intOf i).toNat)
 case atStart=>exact ⟨0,_,Nat.zero_le _,rfl,XO,hD Rep.own0.nil,Below.refl _ _,by have:=HZ.out;omega⟩
 obtain ⟨k,v,hk,rfl,XV,HO,hbel,hge⟩:=hrel
 obtain ⟨oa,on,oc,ho,HON⟩:=HO.out.parts;obtain rfl:=ho
 have L0:=kG ((hbel.block _ (show w.heap.size < w.heap.size + 1 + 1 by omega)).trans XB.out) (j:=0) (v:=.int .i64 c) rfl
 have L1:=kG ((hbel.block _ (show w.heap.size < w.heap.size + 1 + 1 by omega)).trans XB.out) (j:=1) (v:=.slice la l.length lp) rfl
 have EW:Below w.heap.size w wr:=EA.trans (hbel.mono (by omega))
 have hkn:=Int.natCast_nonneg k
 by_cases hlt:k < l.length
 · obtain ⟨qb,qo,rfl,qc0,qc1,qc2,qc3,qc4,qc5,qr,Aq0,Aq1,Aq2,Aq3,Aq4,Aq5⟩:=Rep.get6 (HL.out.1.below EW) hlt rfl
   have hbd:=Rep.raw_bdd HL.out hlt
   have hfy:=fun q=>filter_yes (p:=(fun e:LCacheEntry=>fresh now e.1)) hlt q
   have hfn:=fun q=>filter_no (p:=(fun e:LCacheEntry=>fresh now e.1)) hlt q
   generalize l[k]=x at *
   have HFY:=hD hfy;have HFN:=hD hfn;clear hfy hfn
   obtain ⟨qv0,qv1,qv2,qhe,q_0,q_1,q_2,q_3,q_4,q_5,q_6,q_7,q_8⟩:=RCacheEntry_raw qr
   simp only [List.cons.injEq,and_true] at qhe
   obtain ⟨rfl,rfl,rfl,rfl,rfl,rfl⟩:=qhe
   obtain ⟨qa0,qp0,qh0,ql0⟩:=Rep.kR q_2;obtain rfl:qc0=_:=by simpa using qh0
   clear qh0
   obtain ⟨qa1,qp1,qh1,ql1⟩:=Rep.kR q_3;obtain rfl:qc1=_:=by simpa using qh1
   clear qh1
   obtain ⟨qa2,qp2,qh2,ql2⟩:=Rep.kR q_5;obtain rfl:qc2=_:=by simpa using qh2
   clear qh2
   have PX:RData.rd wr _ x.1:=⟨q_0,hbd.1⟩
   have HU:=hD q_8
   have HPX:=hD PX
   go_wp2_with fail
   refine (specFreshAt_c PX.1).mono ?_
   rintro e wr ⟨rfl,hbF⟩
   have hsF:=hbF.size
   replace XV:=hD (kN XV.out hbF)
   replace HO:=hD ((HO.out.below hbF).wide (T:=Btw (w.heap.size + 3) wr.heap.size) (fun j hj=>⟨hj.1,by have:=hj.2;omega⟩))
   replace L0:=cL hbF L0
   replace L1:=cL hbF L1
   replace Aq5:=cL hbF Aq5
   replace EW:=EW.trans (hbF.mono EW.size)
   replace hbel:=hbel.trans (hbF.mono (by omega))
   replace hge:w.heap.size + 3≤wr.heap.size:=by omega
   replace PX:=PX.below hbF
   replace Aq0:=cL hbF Aq0
   replace Aq1:=cL hbF Aq1
   replace Aq2:=cL hbF Aq2
   replace Aq3:=cL hbF Aq3
   replace Aq4:=cL hbF Aq4
   clear hbF HPX
   cases hq:fresh now x.1
   · have HT:=hD (HFN.out hq)
     clear HFY HFN PX L0 L1 Aq5
     go_wp2
     go_roundw
     case rel=>exact ⟨k + 1,_,by omega,by go_num,XV,hD (by rw [HT.out];exact HO.out),hbel,hge⟩
     simp [intOf];omega
   have HSN:=hD (HFY.out hq)
   clear HFY HFN
   go_wp2_with fail
   refine (specl8Copy_c PX).mono ?_
   rintro e wT ⟨tc,rfl,OT,hbT⟩
   obtain ⟨tv0,tv1,tv2,rfl,t_0,t_1,t_2,t_3,t_4,t_5,t_6⟩:=RData_raw OT.raw
   obtain ⟨ta0,tp0,th0,tl0⟩:=Rep.kR t_1;obtain rfl:tv0=_:=by simpa using th0
   clear th0
   obtain ⟨ta1,tp1,th1,tl1⟩:=Rep.kR t_2;obtain rfl:tv1=_:=by simpa using th1
   clear th1
   obtain ⟨ta2,tp2,th2,tl2⟩:=Rep.kR t_4;obtain rfl:tv2=_:=by simpa using th2
   clear th2
   clear t_0 t_1 t_2 t_3 t_4 t_5 t_6
   have hsT:=hbT.size
   go_upto_region 7 with fail
   generalize hwD:World.alloc wT _=wD
   have ED:Below wT.heap.size wT wD:=by rw [← hwD];exact (Below.refl _ _).alloc (Nat.le_refl _) _
   have hsD:=ED.size
   have D0:wD.cell? ⟨wT.heap.size,0,none⟩=some (.slice ta0 x.1.1.length tp0):=by rw [← hwD];simp [go_sem]
   have D1:wD.cell? ⟨wT.heap.size,1,none⟩=some (.slice ta1 x.1.2.1.length tp1):=by rw [← hwD];simp [go_sem]
   have D2:wD.cell? ⟨wT.heap.size,2,none⟩=some (.slice ta2 x.1.2.2.1.length tp2):=by rw [← hwD];simp [go_sem]
   have D3:wD.cell? ⟨wT.heap.size,3,none⟩=some (.int .i64 x.1.2.2.2.1):=by rw [← hwD];simp [go_sem]
   have D4:wD.cell? ⟨wT.heap.size,4,none⟩=some (.int .i64 x.1.2.2.2.2):=by rw [← hwD];simp [go_sem]
   clear hwD
   have hbS:=hbT.trans (ED.mono hbT.size)
   have XS:=kN XV.out hbS
   have M0:=kG XS (j:=0) (v:=.int .i64 c) rfl
   have M1:=kG XS (j:=1) rfl
   replace L0:=cL hbS L0
   replace L1:=cL hbS L1
   replace Aq5:=cL hbS Aq5
   refine wp_region_soft_tail (fun W=>Below wD.heap.size wD W) [true,true,true,true,true,true,true,true,true,true,false] (by kernel_rfl) (by kernel_rfl) (fun c a d v w h=>by cases d <;> exact h) ((Below.refl _ _).drew) ?_
   intro wS HS
   all_goals first|(refine kC rfl HS ?_)|(refine kD (v:=?_) rfl (fun W hW=>?_) ?_;rotate_left;(· go_simp;try with_reducible rfl))
   iterate 2
    all_goals try simp only [Act.put,zA,zB,zC]
    all_goals first|(refine kC rfl HS ?_)|(refine kD (v:=?_) rfl (fun W hW=>?_) ?_;rotate_left;(· have A_L0:=cL hW L0;have A_L1:=cL hW L1;have A_M0:=cL hW M0;have A_M1:=cL hW M1;have A_Aq5:=cL hW Aq5;have A_D0:=cL hW D0;have A_D1:=cL hW D1;have A_D2:=cL hW D2;have A_D3:=cL hW D3;have A_D4:=cL hW D4;clear hW;go_simp;try with_reducible rfl))
   all_goals try simp only [Act.put,zA,zB,zC]
   all_goals first|(refine kC rfl HS ?_)|(refine kD (v:=?_) rfl (fun W hW=>?_) ?_;rotate_left;(· go_simp;try with_reducible rfl))
   all_goals try simp only [Act.put,zA,zB,zC]
   all_goals first|(refine kC rfl HS ?_)|(refine kD (v:=?_) rfl (fun W hW=>?_) ?_;rotate_left;(· have A_L0:=cL hW L0;have A_L1:=cL hW L1;have A_M0:=cL hW M0;have A_M1:=cL hW M1;have A_Aq5:=cL hW Aq5;have A_D0:=cL hW D0;have A_D1:=cL hW D1;have A_D2:=cL hW D2;have A_D3:=cL hW D3;have A_D4:=cL hW D4;clear hW;go_simp;try with_reducible rfl))
   iterate 3
    all_goals try simp only [Act.put,zA,zB,zC]
    all_goals first|(refine kC rfl HS ?_)|(refine kD (v:=?_) rfl (fun W hW=>?_) ?_;rotate_left;(· go_simp;try with_reducible rfl))
   all_goals try simp only [Act.put,zA,zB,zC]
   all_goals first|(refine kC rfl HS ?_)|(refine kD (v:=?_) rfl (fun W hW=>?_) ?_;rotate_left;(· have A_L0:=cL hW L0;have A_L1:=cL hW L1;have A_M0:=cL hW M0;have A_M1:=cL hW M1;have A_Aq5:=cL hW Aq5;have A_D0:=cL hW D0;have A_D1:=cL hW D1;have A_D2:=cL hW D2;have A_D3:=cL hW D3;have A_D4:=cL hW D4;clear hW;go_simp;try with_reducible rfl))
   all_goals try simp only [Act.put,zA,zB,zC]
   all_goals first|(refine kC rfl HS ?_)|(refine kD (v:=?_) rfl (fun W hW=>?_) ?_;rotate_left;(· go_simp;try with_reducible rfl))
   all_goals try simp only [Act.put,zA,zB,zC]
   all_goals first|(refine kC rfl HS ?_)|(refine kF rfl (fun K hK=>?_);go_simp;refine hK _ _ (HS.alloc HS.size _) ?_;clear hK K)
   all_goals try simp only [Act.put,zA,zB,zC]
   all_goals refine soft_rest ?_
   have hsW:=HS.size
   have hbSW:=hbS.trans (HS.mono hbS.size)
   have XW:=kN XV.out hbSW
   have hbelW:=hbel.trans (hbSW.mono (by omega))
   replace HO:=hD (HO.out.below hbSW)
   have hol:((l.take k).filter (fun e:LCacheEntry=>fresh now e.1)).length≤16777216:=Nat.le_trans (filter_take_le hk) (by omega)
   go_wp2_with (at_builtin;refine Rep.wpList_pushB rfl _ _ 34 rfl (r:=kL) (e:=169) Tryz.underlying34 infCacheEntry rfl (by decide) (by decide) (B:=w.heap.size + 3) HO.out (by rfl) (by rfl) rfl (Rep.own.wide (T:=Btw wr.heap.size wT.heap.size) (Rep.own_flat (r:=RData) (q:=Rep.int) (cs:=[.slice ta0 x.1.1.length tp0,.slice ta1 x.1.2.1.length tp1,.slice ta2 x.1.2.2.1.length tp2,.int .i64 x.1.2.2.2.1,.int .i64 x.1.2.2.2.2]) (ds:=[.int .i64 x.2]) (x:=x.1) (y:=x.2) (OT.below (ED.trans (HS.mono ED.size))) (Rep.flat_int HU.out)) (fun j hj=>hj)) rfl (fun j h1 h2=>by have p:=h1.2;have q:=h2.1;omega) (fun j hj=>⟨hj.1,by have:=hj.2;omega⟩) (fun j hj=>⟨by have:=hj.1;omega,by have:=hj.2;omega⟩) (by omega) (by omega) ?_)
   intro v2 w2 hown2 hbel2 hz2
   obtain ⟨va2,vn2,vc2,hv2,HV2N⟩:=hown2.parts;obtain rfl:=hv2
   have XV2:=(hbel2.block _ (by omega)).trans XW
   have N1:=kG XV2 (j:=1) rfl
   have NF:=frozen_of_row w2 (w.heap.size + 1 + 1) 1 _ _ XV2
   have hbel3:=hbelW.trans (hbel2.mono (by omega))
   have HX2:=hD XV2
   have HO2:=hD (Rep.own0.cast hown2 (HSN.out.symm))
   clear XV2 hown2 HO hbel2 hbel
   go_wp2
   go_roundw
   case rel=>exact ⟨k + 1,_,by omega,by go_num,hD (heap_setCell_same w2 _ 1 _ _ _ HX2.out),hD ((HO2.out.setCell (by intro q;have:=q.1;first | omega|(simp at this;omega)|(simp at this))).wide (fun j hj=>⟨hj.1,by simpa [World.setCell] using hj.2⟩)),hbel3.setCell (by simp) _,by simp [World.setCell];omega⟩
   simp [intOf];omega
 obtain rfl:k=l.length:=by omega
 skip
 have M0:=kG XV.out (j:=0) (v:=.int .i64 c) rfl
 have M1:=kG XV.out (j:=1) rfl
 have R0:=kG ((hbel.block _ (show w.heap.size + 1 < w.heap.size + 1 + 1 by omega)).trans XR.out) (j:=0) (v:=.int .i64 0) rfl
 have R1:=kG ((hbel.block _ (show w.heap.size + 1 < w.heap.size + 1 + 1 by omega)).trans XR.out) (j:=1) (v:=.slice none 0 0) rfl
 have F0:=fun j=>frozen_of_row wr (w.heap.size + 1) j _ _ ((hbel.block _ (show w.heap.size + 1 < w.heap.size + 1 + 1 by omega)).trans XR.out)
 have F00:=F0 0
 have F01:=F0 1
 clear F0
 have HF:=hD (HO.out.cast (by rw [List.take_length]))
 have HFL:Hid ((l.filter (fun e:LCacheEntry=>fresh now e.1)).length≤Big):=hD (Nat.le_trans (List.length_filter_le _ _) (by unfold Big;omega))
 go_wp2
 refine bodyPost_ret (v:=.agg #[.int .i64 c,.slice oa on oc]) (by simp [results,Tryz.results34,go_sem,R0,R1,F00,F01]) rfl ⟨[_,_],rfl,?_,?_⟩
 · exact Rep.flat_own (r:=Rep.int) (q:=Rep.slice 169 kL) (cs:=[_]) (Rep.flat_int HCR.out) ((((HF.out.own HFL.out).setCell (by intro q;have:=q.1;first | omega|(simp at this;omega)|(simp at this))).setCell (by intro q;have:=q.1;first | omega|(simp at this;omega)|(simp at this))).wide (fun j hj=>⟨by have:=hj.1;omega,by simpa [World.setCell] using hj.2⟩))
 exact (EW.setCell (by simp) _).setCell (by simp) _
set_option maxRecDepth 100000 in
set_option maxHeartbeats 2000000 in
theorem implEvictStale1_c {w:World} {cy:List Value} {y:LCacheEntry} (hy:kL.raw w cy y) {now:Int} {Bnow:Nat} (Anow0:w.cell? ⟨Bnow,0,none⟩=some (.int .i64 now)) :
    Calls Tryz.prog 143 (#[.agg cy.toArray]++#[.pointer (some ⟨Bnow,0,none⟩)]) w fun e w'=>e=.returned (.bool (fresh now y.1))∧Below w.heap.size w w':=by
 have Hy:=hD hy
 obtain ⟨fyv0,fyv1,fyv2,rfl,fy_0,fy_1,fy_2,fy_3,fy_4,fy_5,fy_6,fy_7,fy_8⟩:=RCacheEntry_raw hy
 obtain ⟨fya0,fyp0,fyh0,fyl0⟩:=Rep.kR fy_2;obtain rfl:fyv0=_:=by simpa using fyh0
 clear fyh0
 obtain ⟨fya1,fyp1,fyh1,fyl1⟩:=Rep.kR fy_3;obtain rfl:fyv1=_:=by simpa using fyh1
 clear fyh1
 obtain ⟨fya2,fyp2,fyh2,fyl2⟩:=Rep.kR fy_5;obtain rfl:fyv2=_:=by simpa using fyh2
 clear fyh2
 show Calls Tryz.prog 143 #[_,_] w _
 go_enter Tryz.func143,Tryz.ntmps143
 go_upto_region 1 with fail
 generalize hwB:World.alloc w _=wB
 have EB:Below w.heap.size w wB:=by rw [← hwB];exact (by repeat (first|(with_reducible exact Below.refl _ _) | refine Below.alloc ?_ (by simp;try omega) _ | refine Below.drew ?_ | refine Below.setCell ?_ (by simp;try omega) _))
 have K2_0:wB.cell? ⟨w.heap.size,0,none⟩=some (.slice fya0 (y.1.1).length fyp0):=by rw [← hwB];simp [go_sem]
 have K2_1:wB.cell? ⟨w.heap.size,1,none⟩=some (.slice fya1 (y.1.2.1).length fyp1):=by rw [← hwB];simp [go_sem]
 have K2_2:wB.cell? ⟨w.heap.size,2,none⟩=some (.slice fya2 (y.1.2.2.1).length fyp2):=by rw [← hwB];simp [go_sem]
 have K2_3:wB.cell? ⟨w.heap.size,3,none⟩=some (.int .i64 y.1.2.2.2.1):=by rw [← hwB];simp [go_sem]
 have K2_4:wB.cell? ⟨w.heap.size,4,none⟩=some (.int .i64 y.1.2.2.2.2):=by rw [← hwB];simp [go_sem]
 have K2_5:wB.cell? ⟨w.heap.size,5,none⟩=some (.int .i64 y.2):=by rw [← hwB];simp [go_sem]
 clear hwB
 replace Anow0:=cL EB Anow0
 refine wp_region_soft_plain (fun W=>Below wB.heap.size wB W) [true,true,true,false,true] (Below.refl _ _) ?_
 intro wS HS
 all_goals first|(refine kC rfl HS ?_)|(refine kD (v:=?_) rfl (fun W hW=>?_) ?_;rotate_left;(· go_simp;try with_reducible rfl))
 iterate 2
  all_goals try simp only [Act.put,zA,zB,zC]
  all_goals first|(refine kC rfl HS ?_)|(refine kD (v:=?_) rfl (fun W hW=>?_) ?_;rotate_left;(· have A_K2_0:=cL hW K2_0;have A_K2_1:=cL hW K2_1;have A_K2_2:=cL hW K2_2;have A_K2_3:=cL hW K2_3;have A_K2_4:=cL hW K2_4;have A_K2_5:=cL hW K2_5;have A_Anow0:=cL hW Anow0;clear hW;go_simp;try with_reducible rfl))
 all_goals try simp only [Act.put,zA,zB,zC]
 all_goals first|(refine kC rfl HS ?_)|(refine kF rfl (fun K hK=>?_);go_simp;refine (implFreshAt_c (Rep.raw.below fy_0 (EB.trans (HS.mono EB.size)))).mono ?_;rintro e wS1 ⟨rfl,hbS⟩;replace HS:=HS.trans (hbS.mono HS.size);refine hK _ _ HS ?_;clear hK K hbS)
 all_goals try simp only [Act.put,zA,zB,zC]
 all_goals first|(refine kC rfl HS ?_;have hg4:=True.intro)|(refine kE (v:=?_) (b:=?_) rfl (fun W hW=>?_) ?_ (fun b hg4=>?_);rotate_left;rotate_left;(· go_simp;try with_reducible rfl);(· with_reducible rfl);cases b;all_goals first|(exact Bool.noConfusion hg4)|(simp only [Bool.not_eq_true',Bool.not_eq_false'] at hg4) | skip)
 all_goals try simp only [Act.put,zA,zB,zC]
 all_goals refine soft_nil ?_
 all_goals have EG:=EB.trans (HS.mono EB.size)
 all_goals first
   | (have HT:=hD (show (fresh now y.1)=false by simp only [Bool.not_true,Bool.not_false,Bool.and_true,Bool.true_and,Bool.and_false,Bool.false_and,Bool.or_true,Bool.true_or,Bool.or_false,Bool.false_or,Bool.not_not,hg4]);go_wp2;go_ret;exact ⟨kT HT.out.symm,EG⟩)
   | (have HT:=hD (show (fresh now y.1)=true by simp only [Bool.not_true,Bool.not_false,Bool.and_true,Bool.true_and,Bool.and_false,Bool.false_and,Bool.or_true,Bool.true_or,Bool.or_false,Bool.false_or,Bool.not_not,hg4]);go_wp2;go_ret;exact ⟨kT HT.out.symm,EG⟩)
theorem callable_implEvictStale1_c:Callable Tryz.prog 143:=callable_of Tryz.func143 (by kernel_rfl) (by kernel_rfl)
set_option maxHeartbeats 1000000 in
theorem implEvictStale_c {w:World} {cs:List Value} {x:LContentStore} (hx:kJ.rd w cs x) {now:Int}:Calls Tryz.prog 48 #[.agg cs.toArray,.int .i64 now] w (MadeAgg kJ (evict now x) w):=by
 have HX:=hD hx
 obtain ⟨hx,hbd⟩:=hx
 obtain ⟨sv,rfl,s_r,hl⟩:=RContentStore_raw hx
 obtain ⟨la,lp,hva,_⟩:=Rep.kR hl;obtain rfl:sv=_:=by simpa using hva
 obtain ⟨c,l⟩:=x
 have HL:Hid ((Rep.slice 169 kL).rd w [.slice la l.length lp] l):=hD ⟨hl,hbd.2⟩
 have hlb:l.length≤16777216:=hbd.2.1
 have HCR:=hD s_r
 clear hva hx s_r hl hbd
 go_enter Tryz.func48,Tryz.ntmps48
 go_wp2_with fail
 generalize hwB:World.alloc (World.alloc (World.alloc w _) _) _=wB
 have EB:Below w.heap.size w wB:=by rw [← hwB];exact (by repeat (first|(with_reducible exact Below.refl _ _) | refine Below.alloc ?_ (by simp;try omega) _ | refine Below.drew ?_ | refine Below.setCell ?_ (by simp;try omega) _))
 have XR:Hid (wB.heap[w.heap.size + 2]?=some (.cells #[.int .i64 0,.slice none 0 0] 36 (0,0))):=hD (by rw [← hwB];exact heap_new_at (by simp))
 have KN:wB.cell? ⟨w.heap.size + 1,0,none⟩=some (.int .i64 now):=by rw [← hwB];simp [go_sem]
 clear hwB
 have hzB:=EB.size
 refine (implkeepStore_c (fun e:LCacheEntry=>fresh now e.1) callable_implEvictStale1_c (HX.out.below EB) (fun wr hwr y ds hy=>implEvictStale1_c hy (cL hwr KN))).mono ?_
 rintro e w1 ⟨oc,rfl,O1,hb1⟩
 have HFL:=hD (show (l.filter (fun e:LCacheEntry=>fresh now e.1)).length≤16777216 from Nat.le_trans (List.length_filter_le _ _) hlb)
 simp only at O1
 have HEV:Hid (evict now (c,l)=(c,l.filter (fun e:LCacheEntry=>fresh now e.1))):=hD rfl
 generalize l.filter (fun e:LCacheEntry=>fresh now e.1)=f at *
 obtain ⟨ov,rfl,o_r,o_l⟩:=RContentStore_raw O1.raw
 obtain ⟨oa,op,hov,_⟩:=Rep.kR o_l;obtain rfl:ov=_:=by simpa using hov
 have X1:=kN XR.out hb1
 have M0:=kG (b:=w.heap.size + 2) X1 (j:=0) rfl
 have M1:=kG (b:=w.heap.size + 2) X1 (j:=1) rfl
 have F0:=frozen_of_row w1 (w.heap.size + 2) 0 _ _ X1
 have F1:=frozen_of_row w1 (w.heap.size + 2) 1 _ _ X1
 have HO1:=hD O1
 have E1:=EB.trans (hb1.mono EB.size)
 have hbz:w.heap.size + 3≤wB.heap.size:=by have:=(Array.getElem?_eq_some_iff.1 XR.out).1;omega
 clear hov o_r o_l O1 hb1
 go_wp2
 refine bodyPost_ret (v:=.agg #[.int .i64 c,.slice oa f.length op]) (by simp [results,Tryz.results48,go_sem,M0,M1,F0,F1]) rfl ⟨[_,_],rfl,?_,?_⟩
 · rw [HEV.out];exact ((HO1.out.setCell (by intro q;have:=q.1;first | omega|(simp at this;omega)|(simp at this))).setCell (by intro q;have:=q.1;first | omega|(simp at this;omega)|(simp at this))).wide (fun j hj=>⟨by have:=hj.1;omega,by simpa [World.setCell] using hj.2⟩)
 exact (E1.setCell (by simp;omega) _).setCell (by simp;omega) _
end Go.Proofs.YtomdenfcfbkfbaaGreat

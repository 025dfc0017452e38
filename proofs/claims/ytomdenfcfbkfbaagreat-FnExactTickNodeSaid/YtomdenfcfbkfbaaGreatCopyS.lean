/-
  Content stores, copied.
-/
import Derived.Test.YtomdenfcfbkfbaaGreatBase
import Derived.Test.YtomdenfcfbkfbaaGreatCopyD
import Derived.Test.YtomdenfcfbkfbaaGreatSoft2
import Derived.Test.YtomdenfcfbkfbaaGreatLib
import Derived.Test.YtomdenfcfbkfbaaGreatTake
import Derived.IntWalk
import Derived.Deep.Cut
import Derived.WalkSpells
import Derived.WalkLawsBesides
namespace Go.Proofs.YtomdenfcfbkfbaaGreat
open Go.RowKit
set_option linter.unusedVariables false
set_option linter.unusedSimpArgs false
set_option linter.unnecessarySimpa false
set_option maxRecDepth 100000 in
set_option maxHeartbeats 4000000 in
theorem specl12Copy_c {w:World} {cs:List Value} {x:LContentStore} (hx:kJ.rd w cs x):Calls Tryz.prog 104 #[.agg cs.toArray] w (MadeAgg kJ x w):=by
 obtain ⟨hx,hbd⟩:=hx
 obtain ⟨sv,rfl,s_r,hl⟩:=RContentStore_raw hx
 obtain ⟨la,lp,hva,_⟩:=Rep.kR hl;obtain rfl:sv=_:=by simpa using hva
 obtain ⟨c,l⟩:=x
 have HL:Hid ((Rep.slice 169 kL).rd w [.slice la l.length lp] l):=hD ⟨hl,hbd.2⟩
 have hlb:l.length≤16777216:=hbd.2.1
 have HCR:=hD s_r
 clear hva hx s_r hl hbd
 go_enter Tryz.func104,Tryz.ntmps104
 go_wp2
 generalize hwA:World.alloc (World.alloc (World.alloc w _) _) _=wA
 have HZ:Hid (wA.heap.size=w.heap.size + 3):=hD (by rw [← hwA];simp)
 have EA:Below w.heap.size w wA:=by rw [← hwA];exact (by repeat (first|(with_reducible exact Below.refl _ _) | refine Below.alloc ?_ (by simp;try omega) _ | refine Below.drew ?_ | refine Below.setCell ?_ (by simp;try omega) _))
 have XB:Hid (wA.heap[w.heap.size]?=some (.cells #[.int .i64 c,.slice la l.length lp] 36 (0,0))):=hD (by rw [← hwA];exact heap_keep (heap_keep (heap_new_at rfl)))
 have XR:Hid (wA.heap[w.heap.size + 1]?=some (.cells #[.int .i64 0,.slice none 0 0] 36 (0,0))):=hD (by rw [← hwA];exact heap_keep (heap_new_at (by simp)))
 have XO:Hid (wA.heap[w.heap.size + 1 + 1]?=some (.cells #[.int .i64 c,.slice none 0 0] 36 (0,0))):=hD (by rw [← hwA];exact heap_new_at (by simp))
 clear hwA
 go_loopw [4] (fun i wr=>∃ (k:Nat) (v:Value),k≤l.length∧i=.int .i64 k∧Hid (wr.heap[w.heap.size + 1 + 1]?=some (.cells #[.int .i64 c,v] 36 (0,0)))∧Hid (Rep.own0 169 kL wr v (l.take k) (Btw (w.heap.size + 3) wr.heap.size))∧Below (w.heap.size + 1 + 1) wA wr∧w.heap.size + 3≤wr.heap.size) (fun i _=>l.length - (intOf i).toNat)
 case atStart=>exact ⟨0,_,Nat.zero_le _,rfl,XO,hD Rep.own0.nil,Below.refl _ _,by have:=HZ.out;omega⟩
 obtain ⟨k,v,hk,rfl,XV,HO,hbel,hge⟩:=hrel
 obtain ⟨oa,on,oc,ho,HON⟩:=HO.out.parts;obtain rfl:=ho
 have L0:=kG ((hbel.block _ (show w.heap.size < w.heap.size + 1 + 1 by omega)).trans XB.out) (j:=0) (v:=.int .i64 c) rfl
 have L1:=kG ((hbel.block _ (show w.heap.size < w.heap.size + 1 + 1 by omega)).trans XB.out) (j:=1) (v:=.slice la l.length lp) rfl
 have EW:Below w.heap.size w wr:=EA.trans (hbel.mono (by omega))
 have hkn:=Int.natCast_nonneg k
 by_cases hlt:k < l.length
 · obtain ⟨qb,qo,rfl,qc0,qc1,qc2,qc3,qc4,qc5,qr,Aq0,Aq1,Aq2,Aq3,Aq4,Aq5⟩:=Rep.get6 (HL.out.1.below EW) hlt rfl
   have hbd:=Rep.raw_bdd HL.out hlt
   have HSN:=hD (List.take_succ_eq_append_getElem hlt)
   generalize l[k]=x at *
   obtain ⟨qv0,qv1,qv2,qhe,q_0,q_1,q_2,q_3,q_4,q_5,q_6,q_7,q_8⟩:=RCacheEntry_raw qr
   simp only [List.cons.injEq,and_true] at qhe
   obtain ⟨rfl,rfl,rfl,rfl,rfl,rfl⟩:=qhe
   obtain ⟨qa0,qp0,qh0,ql0⟩:=Rep.kR q_2;obtain rfl:qc0=_:=by simpa using qh0
   clear qh0
   obtain ⟨qa1,qp1,qh1,ql1⟩:=Rep.kR q_3;obtain rfl:qc1=_:=by simpa using qh1
   clear qh1
   obtain ⟨qa2,qp2,qh2,ql2⟩:=Rep.kR q_5;obtain rfl:qc2=_:=by simpa using qh2
   clear qh2
   have PX:RData.rd wr _ x.1:=⟨q_0,hbd.1⟩
   have HU:=hD q_8
   go_wp2_with fail
   refine (specl8Copy_c PX).mono ?_
   rintro e wT ⟨tc,rfl,OT,hbT⟩
   obtain ⟨tv0,tv1,tv2,rfl,t_0,t_1,t_2,t_3,t_4,t_5,t_6⟩:=RData_raw OT.raw
   obtain ⟨ta0,tp0,th0,tl0⟩:=Rep.kR t_1;obtain rfl:tv0=_:=by simpa using th0
   clear th0
   obtain ⟨ta1,tp1,th1,tl1⟩:=Rep.kR t_2;obtain rfl:tv1=_:=by simpa using th1
   clear th1
   obtain ⟨ta2,tp2,th2,tl2⟩:=Rep.kR t_4;obtain rfl:tv2=_:=by simpa using th2
   clear th2
   clear t_0 t_1 t_2 t_3 t_4 t_5 t_6
   have hsT:=hbT.size
   go_upto_region 6 with fail
   generalize hwD:World.alloc wT _=wD
   have ED:Below wT.heap.size wT wD:=by rw [← hwD];exact (Below.refl _ _).alloc (Nat.le_refl _) _
   have hsD:=ED.size
   have D0:wD.cell? ⟨wT.heap.size,0,none⟩=some (.slice ta0 x.1.1.length tp0):=by rw [← hwD];simp [go_sem]
   have D1:wD.cell? ⟨wT.heap.size,1,none⟩=some (.slice ta1 x.1.2.1.length tp1):=by rw [← hwD];simp [go_sem]
   have D2:wD.cell? ⟨wT.heap.size,2,none⟩=some (.slice ta2 x.1.2.2.1.length tp2):=by rw [← hwD];simp [go_sem]
   have D3:wD.cell? ⟨wT.heap.size,3,none⟩=some (.int .i64 x.1.2.2.2.1):=by rw [← hwD];simp [go_sem]
   have D4:wD.cell? ⟨wT.heap.size,4,none⟩=some (.int .i64 x.1.2.2.2.2):=by rw [← hwD];simp [go_sem]
   clear hwD
   have hbS:=hbT.trans (ED.mono hbT.size)
   have XS:=kN XV.out hbS
   have M0:=kG XS (j:=0) (v:=.int .i64 c) rfl
   have M1:=kG XS (j:=1) rfl
   replace L0:=cL hbS L0
   replace L1:=cL hbS L1
   replace Aq5:=cL hbS Aq5
   refine wp_region_soft_tail (fun W=>Below wD.heap.size wD W) [true,true,true,true,true,true,true,true,true,true,false] (by kernel_rfl) (by kernel_rfl) (fun c a d v w h=>by cases d <;> exact h) ((Below.refl _ _).drew) ?_
   intro wS HS
   all_goals first|(refine kC rfl HS ?_)|(refine kD (v:=?_) rfl (fun W hW=>?_) ?_;rotate_left;(· go_simp;try with_reducible rfl))
   iterate 2
    all_goals try simp only [Act.put,zA,zB,zC]
    all_goals first|(refine kC rfl HS ?_)|(refine kD (v:=?_) rfl (fun W hW=>?_) ?_;rotate_left;(· have A_L0:=cL hW L0;have A_L1:=cL hW L1;have A_M0:=cL hW M0;have A_M1:=cL hW M1;have A_Aq5:=cL hW Aq5;have A_D0:=cL hW D0;have A_D1:=cL hW D1;have A_D2:=cL hW D2;have A_D3:=cL hW D3;have A_D4:=cL hW D4;clear hW;go_simp;try with_reducible rfl))
   all_goals try simp only [Act.put,zA,zB,zC]
   all_goals first|(refine kC rfl HS ?_)|(refine kD (v:=?_) rfl (fun W hW=>?_) ?_;rotate_left;(· go_simp;try with_reducible rfl))
   all_goals try simp only [Act.put,zA,zB,zC]
   all_goals first|(refine kC rfl HS ?_)|(refine kD (v:=?_) rfl (fun W hW=>?_) ?_;rotate_left;(· have A_L0:=cL hW L0;have A_L1:=cL hW L1;have A_M0:=cL hW M0;have A_M1:=cL hW M1;have A_Aq5:=cL hW Aq5;have A_D0:=cL hW D0;have A_D1:=cL hW D1;have A_D2:=cL hW D2;have A_D3:=cL hW D3;have A_D4:=cL hW D4;clear hW;go_simp;try with_reducible rfl))
   iterate 3
    all_goals try simp only [Act.put,zA,zB,zC]
    all_goals first|(refine kC rfl HS ?_)|(refine kD (v:=?_) rfl (fun W hW=>?_) ?_;rotate_left;(· go_simp;try with_reducible rfl))
   all_goals try simp only [Act.put,zA,zB,zC]
   all_goals first|(refine kC rfl HS ?_)|(refine kD (v:=?_) rfl (fun W hW=>?_) ?_;rotate_left;(· have A_L0:=cL hW L0;have A_L1:=cL hW L1;have A_M0:=cL hW M0;have A_M1:=cL hW M1;have A_Aq5:=cL hW Aq5;have A_D0:=cL hW D0;have A_D1:=cL hW D1;have A_D2:=cL hW D2;have A_D3:=cL hW D3;have A_D4:=cL hW D4;clear hW;go_simp;try with_reducible rfl))
   all_goals try simp only [Act.put,zA,zB,zC]
   all_goals first|(refine kC rfl HS ?_)|(refine kD (v:=?_) rfl (fun W hW=>?_) ?_;rotate_left;(· go_simp;try with_reducible rfl))
   all_goals try simp only [Act.put,zA,zB,zC]
   all_goals first|(refine kC rfl HS ?_)|(refine kF rfl (fun K hK=>?_);go_simp;refine hK _ _ (HS.alloc HS.size _) ?_;clear hK K)
   all_goals try simp only [Act.put,zA,zB,zC]
   all_goals refine soft_rest ?_
   have hsW:=HS.size
   have hbSW:=hbS.trans (HS.mono hbS.size)
   have XW:=kN XV.out hbSW
   have hbelW:=hbel.trans (hbSW.mono (by omega))
   replace HO:=hD (HO.out.below hbSW)
   have hol:(l.take k).length≤16777216:=by simp;omega
   go_wp2_with (at_builtin;refine Rep.wpList_pushB rfl _ _ 34 rfl (r:=kL) (e:=169) Tryz.underlying34 infCacheEntry rfl (by decide) (by decide) (B:=w.heap.size + 3) HO.out (by rfl) (by rfl) rfl (Rep.own.wide (T:=Btw wr.heap.size wT.heap.size) (Rep.own_flat (r:=RData) (q:=Rep.int) (cs:=[.slice ta0 x.1.1.length tp0,.slice ta1 x.1.2.1.length tp1,.slice ta2 x.1.2.2.1.length tp2,.int .i64 x.1.2.2.2.1,.int .i64 x.1.2.2.2.2]) (ds:=[.int .i64 x.2]) (x:=x.1) (y:=x.2) (OT.below (ED.trans (HS.mono ED.size))) (Rep.flat_int HU.out)) (fun j hj=>hj)) rfl (fun j h1 h2=>by have p:=h1.2;have q:=h2.1;omega) (fun j hj=>⟨hj.1,by have:=hj.2;omega⟩) (fun j hj=>⟨by have:=hj.1;omega,by have:=hj.2;omega⟩) (by omega) (by omega) ?_)
   intro v2 w2 hown2 hbel2 hz2
   obtain ⟨va2,vn2,vc2,hv2,HV2N⟩:=hown2.parts;obtain rfl:=hv2
   have XV2:=(hbel2.block _ (by omega)).trans XW
   have N1:=kG XV2 (j:=1) rfl
   have NF:=frozen_of_row w2 (w.heap.size + 1 + 1) 1 _ _ XV2
   have hbel3:=hbelW.trans (hbel2.mono (by omega))
   have HX2:=hD XV2
   have HO2:=hD (Rep.own0.cast hown2 (HSN.out.symm))
   clear XV2 hown2 HO hbel2 hbel
   go_wp2
   go_roundw
   case rel=>exact ⟨k + 1,_,by omega,by go_num,hD (heap_setCell_same w2 _ 1 _ _ _ HX2.out),hD ((HO2.out.setCell (by intro q;have:=q.1;first | omega|(simp at this;omega)|(simp at this))).wide (fun j hj=>⟨hj.1,by simpa [World.setCell] using hj.2⟩)),hbel3.setCell (by simp) _,by simp [World.setCell];omega⟩
   simp [intOf];omega
 obtain rfl:k=l.length:=by omega
 skip
 have M0:=kG XV.out (j:=0) (v:=.int .i64 c) rfl
 have M1:=kG XV.out (j:=1) rfl
 have R0:=kG ((hbel.block _ (show w.heap.size + 1 < w.heap.size + 1 + 1 by omega)).trans XR.out) (j:=0) (v:=.int .i64 0) rfl
 have R1:=kG ((hbel.block _ (show w.heap.size + 1 < w.heap.size + 1 + 1 by omega)).trans XR.out) (j:=1) (v:=.slice none 0 0) rfl
 have F0:=fun j=>frozen_of_row wr (w.heap.size + 1) j _ _ ((hbel.block _ (show w.heap.size + 1 < w.heap.size + 1 + 1 by omega)).trans XR.out)
 have F00:=F0 0
 have F01:=F0 1
 clear F0
 have HF:=hD (HO.out.cast (by rw [List.take_length]))
 have HFL:Hid (l.length≤Big):=hD (by unfold Big;omega)
 go_wp2
 refine bodyPost_ret (v:=.agg #[.int .i64 c,.slice oa on oc]) (by simp [results,Tryz.results104,go_sem,R0,R1,F00,F01]) rfl ⟨[_,_],rfl,?_,?_⟩
 · exact Rep.flat_own (r:=Rep.int) (q:=Rep.slice 169 kL) (cs:=[_]) (Rep.flat_int HCR.out) ((((HF.out.own HFL.out).setCell (by intro q;have:=q.1;first | omega|(simp at this;omega)|(simp at this))).setCell (by intro q;have:=q.1;first | omega|(simp at this;omega)|(simp at this))).wide (fun j hj=>⟨by have:=hj.1;omega,by simpa [World.setCell] using hj.2⟩))
 exact (EW.setCell (by simp) _).setCell (by simp) _
set_option maxRecDepth 100000 in
set_option maxHeartbeats 4000000 in
theorem implkeepStore_c {w:World} {cs:List Value} {x:LContentStore} {g:FuncId} {cp:Array Value} (p:LCacheEntry→Bool) (hg:Callable Tryz.prog g) (hx:kJ.rd w cs x)
    (hcl:∀ wr,Below w.heap.size w wr→∀ y ds,kL.raw wr ds y→Calls Tryz.prog g (#[.agg ds.toArray]++cp) wr (fun e w'=>e=.returned (.bool (p y))∧Below wr.heap.size wr w')) :
    Calls Tryz.prog 142 #[.agg cs.toArray,.func (.func g) #[] cp] w (MadeAgg kJ (x.1,x.2.filter p) w):=by
 have HCL:=hD hcl
 unfold Callable at hg
 clear hcl
 obtain ⟨hx,hbd⟩:=hx
 obtain ⟨sv,rfl,s_r,hl⟩:=RContentStore_raw hx
 obtain ⟨la,lp,hva,_⟩:=Rep.kR hl;obtain rfl:sv=_:=by simpa using hva
 obtain ⟨c,l⟩:=x
 have HL:Hid ((Rep.slice 169 kL).rd w [.slice la l.length lp] l):=hD ⟨hl,hbd.2⟩
 have hlb:l.length≤16777216:=hbd.2.1
 have HCR:=hD s_r
 clear hva hx s_r hl hbd
 go_enter Tryz.func142,Tryz.ntmps142
 go_wp2
 generalize hwA:World.alloc (World.alloc (World.alloc w _) _) _=wA
 have HZ:Hid (wA.heap.size=w.heap.size + 3):=hD (by rw [← hwA];simp)
 have EA:Below w.heap.size w wA:=by rw [← hwA];exact (by repeat (first|(with_reducible exact Below.refl _ _) | refine Below.alloc ?_ (by simp;try omega) _ | refine Below.drew ?_ | refine Below.setCell ?_ (by simp;try omega) _))
 have XB:Hid (wA.heap[w.heap.size]?=some (.cells #[.int .i64 c,.slice la l.length lp] 36 (0,0))):=hD (by rw [← hwA];exact heap_keep (heap_keep (heap_new_at rfl)))
 have XR:Hid (wA.heap[w.heap.size + 1]?=some (.cells #[.int .i64 0,.slice none 0 0] 36 (0,0))):=hD (by rw [← hwA];exact heap_keep (heap_new_at (by simp)))
 have XO:Hid (wA.heap[w.heap.size + 1 + 1]?=some (.cells #[.int .i64 c,.slice none 0 0] 36 (0,0))):=hD (by rw [← hwA];exact heap_new_at (by simp))
 clear hwA
 go_loopw [14] (fun i wr=>∃ (k:Nat) (v:Value),k≤l.length∧i=.int .i64 k∧Hid (wr.heap[w.heap.size + 1 + 1]?=some (.cells #[.int .i64 c,v] 36 (0,0)))∧Hid (Rep.own0 169 kL wr v ((l.take k).filter p) (Btw (w.heap.size + 3) wr.heap.size))∧Below (w.heap.size + 1 + 1) wA wr∧w.heap.size + 3≤wr.heap.size) (fun i _=>l.length - (intOf i).toNat)
 case atStart=>exact ⟨0,_,Nat.zero_le _,rfl,XO,hD Rep.own0.nil,Below.refl _ _,by have:=HZ.out;omega⟩
 obtain ⟨k,v,hk,rfl,XV,HO,hbel,hge⟩:=hrel
 obtain ⟨oa,on,oc,ho,HON⟩:=HO.out.parts;obtain rfl:=ho
 have L0:=kG ((hbel.block _ (show w.heap.size < w.heap.size + 1 + 1 by omega)).trans XB.out) (j:=0) (v:=.int .i64 c) rfl
 have L1:=kG ((hbel.block _ (show w.heap.size < w.heap.size + 1 + 1 by omega)).trans XB.out) (j:=1) (v:=.slice la l.length lp) rfl
 have EW:Below w.heap.size w wr:=EA.trans (hbel.mono (by omega))
 have hkn:=Int.natCast_nonneg k
 by_cases hlt:k < l.length
 · obtain ⟨qb,qo,rfl,qc0,qc1,qc2,qc3,qc4,qc5,qr,Aq0,Aq1,Aq2,Aq3,Aq4,Aq5⟩:=Rep.get6 (HL.out.1.below EW) hlt rfl
   have hbd:=Rep.raw_bdd HL.out hlt
   have hfy:=fun q=>filter_yes (p:=p) hlt q
   have hfn:=fun q=>filter_no (p:=p) hlt q
   have hol:((l.take k).filter p).length≤16777216:=by have h2:=filter_take_le (p:=p) (l:=l) (k:=k) (by omega);omega
   generalize l[k]=x at *
   have HFY:=hD hfy;have HFN:=hD hfn;clear hfy hfn
   have HXR:=hD qr
   obtain ⟨qv0,qv1,qv2,qhe,q_0,q_1,q_2,q_3,q_4,q_5,q_6,q_7,q_8⟩:=RCacheEntry_raw qr
   simp only [List.cons.injEq,and_true] at qhe
   obtain ⟨rfl,rfl,rfl,rfl,rfl,rfl⟩:=qhe
   obtain ⟨qa0,qp0,qh0,ql0⟩:=Rep.kR q_2;obtain rfl:qc0=_:=by simpa using qh0
   clear qh0
   obtain ⟨qa1,qp1,qh1,ql1⟩:=Rep.kR q_3;obtain rfl:qc1=_:=by simpa using qh1
   clear qh1
   obtain ⟨qa2,qp2,qh2,ql2⟩:=Rep.kR q_5;obtain rfl:qc2=_:=by simpa using qh2
   clear qh2
   have PX:Hid (RData.rd wr _ x.1):=hD ⟨q_0,hbd.1⟩
   have HU:=hD q_8
   go_wp2_with fail
   generalize hwC:World.alloc wr _=wC
   have EC:Below wr.heap.size wr wC:=by rw [← hwC];exact (Below.refl _ _).alloc (Nat.le_refl _) _
   have M0:wC.cell? ⟨wr.heap.size,0,none⟩=some (.slice qa0 x.1.1.length qp0):=by rw [← hwC];simp [go_sem]
   have M1:wC.cell? ⟨wr.heap.size,1,none⟩=some (.slice qa1 x.1.2.1.length qp1):=by rw [← hwC];simp [go_sem]
   have M2:wC.cell? ⟨wr.heap.size,2,none⟩=some (.slice qa2 x.1.2.2.1.length qp2):=by rw [← hwC];simp [go_sem]
   have M3:wC.cell? ⟨wr.heap.size,3,none⟩=some (.int .i64 x.1.2.2.2.1):=by rw [← hwC];simp [go_sem]
   have M4:wC.cell? ⟨wr.heap.size,4,none⟩=some (.int .i64 x.1.2.2.2.2):=by rw [← hwC];simp [go_sem]
   have M5:wC.cell? ⟨wr.heap.size,5,none⟩=some (.int .i64 x.2):=by rw [← hwC];simp [go_sem]
   clear hwC
   have hsC:=EC.size
   refine (HCL.out wC (EW.trans (EC.mono EW.size)) _ _ (HXR.out.below EC)).mono ?_
   rintro e wD ⟨rfl,hbD⟩
   replace M0:=cL hbD M0
   replace M1:=cL hbD M1
   replace M2:=cL hbD M2
   replace M3:=cL hbD M3
   replace M4:=cL hbD M4
   replace M5:=cL hbD M5
   have hbS:=EC.trans (hbD.mono EC.size)
   have hsD:=hbD.size
   have XS:=kN XV.out hbS
   have hbelS:=hbel.trans (hbS.mono (by omega))
   have HOS:=hD (HO.out.below hbS)
   clear hbD
   cases hp:p x
   · have HT:=hD (HFN.out hp)
     clear HFY HFN hp
     have HX2:=hD XS
     clear XS
     go_wp2
     go_roundw
     case rel=>exact ⟨k + 1,_,by omega,by go_num,HX2,hD ((HOS.out.cast HT.out.symm).wide (fun j hj=>⟨hj.1,by have:=hj.2;omega⟩)),hbelS,by omega⟩
     simp [intOf];omega
   have HSN:=hD (HFY.out hp)
   clear HFY HFN hp
   have B0:=kG XS (j:=0) (v:=.int .i64 c) rfl
   have B1:=kG XS (j:=1) rfl
   go_upto_region 6 with fail
   refine wp_region_softP_tail (fun W=>Below wD.heap.size wD W) [(0,true),(1,true),(2,true),(3,true),(5,true),(6,true),(4,false),(7,true),(8,false)] (by kernel_rfl) (by kernel_rfl) (fun c a d v w h=>by cases d <;> exact h) ((Below.refl _ _).drew) ?_
   intro wS HS
   simp only [pickOps,List.length_cons,List.length_nil,List.getElem?_cons_succ,List.getElem?_cons_zero,List.map_cons,List.map_nil,List.cons_append,List.nil_append,List.drop_succ_cons,List.drop_zero]
   iterate 3
    all_goals first|(refine kC rfl HS ?_)|(refine kD (v:=?_) rfl (fun W hW=>?_) ?_;rotate_left;(· go_simp;try with_reducible rfl))
    all_goals try simp only [Act.put,zA,zB,zC]
    all_goals first|(refine kC rfl HS ?_)|(refine kD (v:=?_) rfl (fun W hW=>?_) ?_;rotate_left;(· have A_B0:=cL hW B0;have A_B1:=cL hW B1;have A_M0:=cL hW M0;have A_M1:=cL hW M1;have A_M2:=cL hW M2;have A_M3:=cL hW M3;have A_M4:=cL hW M4;have A_M5:=cL hW M5;clear hW;go_simp;try with_reducible rfl))
    all_goals try simp only [Act.put,zA,zB,zC]
   all_goals first|(refine kC rfl HS ?_)|(refine kF rfl (fun K hK=>?_);go_simp;refine (implcopyData_c (PX.out.below (hbS.trans (HS.mono hbS.size)))).mono ?_;rintro e wT ⟨tc,rfl,OT,hbT⟩;obtain ⟨tv0,tv1,tv2,rfl,t_0,t_1,t_2,t_3,t_4,t_5,t_6⟩:=RData_raw OT.raw;obtain ⟨ta0,tp0,th0,tl0⟩:=Rep.kR t_1;obtain rfl:tv0=_:=(by simpa using th0);clear th0;obtain ⟨ta1,tp1,th1,tl1⟩:=Rep.kR t_2;obtain rfl:tv1=_:=(by simpa using th1);clear th1;obtain ⟨ta2,tp2,th2,tl2⟩:=Rep.kR t_4;obtain rfl:tv2=_:=(by simpa using th2);clear th2;clear t_0 t_1 t_2 t_3 t_4 t_5 t_6;have hsT:=hbT.size;have hrS:=HS.size;have HOT:=hD OT;replace HS:=HS.trans (hbT.mono HS.size);refine hK _ _ HS ?_;clear hK K hbT OT)
   all_goals try simp only [Act.put,zA,zB,zC]
   all_goals first|(refine kC rfl HS ?_)|(refine kD (v:=?_) rfl (fun W hW=>?_) ?_;rotate_left;(· go_simp;try with_reducible rfl))
   all_goals try simp only [Act.put,zA,zB,zC]
   all_goals first|(refine kC rfl HS ?_)|(refine kF rfl (fun K hK=>?_);go_simp;refine hK _ _ (HS.alloc HS.size _) ?_;clear hK K)
   all_goals try simp only [Act.put,zA,zB,zC]
   all_goals refine soft_rest ?_
   have hsW:=HS.size
   have hbSW:=hbS.trans (HS.mono hbS.size)
   have XW:=kN XV.out hbSW
   have hbelW:=hbel.trans (hbSW.mono (by omega))
   replace HO:=hD (HO.out.below hbSW)
   go_wp2_with (at_builtin;refine Rep.wpList_pushB rfl _ _ 34 rfl (r:=kL) (e:=169) Tryz.underlying34 infCacheEntry rfl (by decide) (by decide) (B:=w.heap.size + 3) HO.out (by rfl) (by rfl) rfl (Rep.own.wide (T:=Btw wr.heap.size wT.heap.size) (Rep.own_flat (r:=RData) (q:=Rep.int) (cs:=[.slice ta0 x.1.1.length tp0,.slice ta1 x.1.2.1.length tp1,.slice ta2 x.1.2.2.1.length tp2,.int .i64 x.1.2.2.2.1,.int .i64 x.1.2.2.2.2]) (ds:=[.int .i64 x.2]) (x:=x.1) (y:=x.2) (HOT.out) (Rep.flat_int HU.out)) (fun j hj=>⟨by have:=hj.1;omega,hj.2⟩)) rfl (fun j h1 h2=>by have p:=h1.2;have q:=h2.1;omega) (fun j hj=>⟨hj.1,by have:=hj.2;omega⟩) (fun j hj=>⟨by have:=hj.1;omega,by have:=hj.2;omega⟩) (by omega) (by omega) ?_)
   intro v2 w2 hown2 hbel2 hz2
   obtain ⟨va2,vn2,vc2,hv2,HV2N⟩:=hown2.parts;obtain rfl:=hv2
   have XV2:=(hbel2.block _ (by omega)).trans XW
   have N1:=kG XV2 (j:=1) rfl
   have NF:=frozen_of_row w2 (w.heap.size + 1 + 1) 1 _ _ XV2
   have hbel3:=hbelW.trans (hbel2.mono (by omega))
   have HX2:=hD XV2
   have HO2:=hD (Rep.own0.cast hown2 (HSN.out.symm))
   clear XV2 hown2 HO hbel2 hbel
   go_wp2
   go_roundw
   case rel=>exact ⟨k + 1,_,by omega,by go_num,hD (heap_setCell_same w2 _ 1 _ _ _ HX2.out),hD ((HO2.out.setCell (by intro q;have:=q.1;first | omega|(simp at this;omega)|(simp at this))).wide (fun j hj=>⟨hj.1,by simpa [World.setCell] using hj.2⟩)),hbel3.setCell (by simp) _,by simp [World.setCell];omega⟩
   simp [intOf];omega
 obtain rfl:k=l.length:=by omega
 skip
 have M0:=kG XV.out (j:=0) (v:=.int .i64 c) rfl
 have M1:=kG XV.out (j:=1) rfl
 have R0:=kG ((hbel.block _ (show w.heap.size + 1 < w.heap.size + 1 + 1 by omega)).trans XR.out) (j:=0) (v:=.int .i64 0) rfl
 have R1:=kG ((hbel.block _ (show w.heap.size + 1 < w.heap.size + 1 + 1 by omega)).trans XR.out) (j:=1) (v:=.slice none 0 0) rfl
 have F0:=fun j=>frozen_of_row wr (w.heap.size + 1) j _ _ ((hbel.block _ (show w.heap.size + 1 < w.heap.size + 1 + 1 by omega)).trans XR.out)
 have F00:=F0 0
 have F01:=F0 1
 clear F0
 have HF:=hD (HO.out.cast (by rw [List.take_length]))
 have HFL:Hid ((l.filter p).length≤Big):=hD (by have:=List.length_filter_le p l;unfold Big;omega)
 go_wp2
 refine bodyPost_ret (v:=.agg #[.int .i64 c,.slice oa on oc]) (by simp [results,Tryz.results142,go_sem,R0,R1,F00,F01]) rfl ⟨[_,_],rfl,?_,?_⟩
 · exact Rep.flat_own (r:=Rep.int) (q:=Rep.slice 169 kL) (cs:=[_]) (Rep.flat_int HCR.out) ((((HF.out.own HFL.out).setCell (by intro q;have:=q.1;first | omega|(simp at this;omega)|(simp at this))).setCell (by intro q;have:=q.1;first | omega|(simp at this;omega)|(simp at this))).wide (fun j hj=>⟨by have:=hj.1;omega,by simpa [World.setCell] using hj.2⟩))
 exact (EW.setCell (by simp) _).setCell (by simp) _
set_option maxHeartbeats 400000 in
theorem implcopyStore1_c {w:World} {ds:List Value} {y:LCacheEntry} (hy:kL.raw w ds y):Calls Tryz.prog 191 (#[.agg ds.toArray]++#[]) w fun e w'=>e=.returned (.bool true)∧Below w.heap.size w w':=by
 obtain ⟨av0,av1,av2,rfl,a_0,a_1,a_2,a_3,a_4,a_5,a_6,a_7,a_8⟩:=RCacheEntry_raw hy
 obtain ⟨aa0,ap0,ah0,al0⟩:=Rep.kR a_2;obtain rfl:av0=_:=by simpa using ah0
 clear ah0
 obtain ⟨aa1,ap1,ah1,al1⟩:=Rep.kR a_3;obtain rfl:av1=_:=by simpa using ah1
 clear ah1
 obtain ⟨aa2,ap2,ah2,al2⟩:=Rep.kR a_5;obtain rfl:av2=_:=by simpa using ah2
 clear ah2
 clear hy a_0 a_1 a_2 a_3 a_4 a_5 a_6 a_7 a_8
 show Calls Tryz.prog 191 #[_] w _
 go_enter Tryz.func191,Tryz.ntmps191
 go_wp2
 go_ret
 exact ⟨rfl,(by repeat (first|(with_reducible exact Below.refl _ _) | refine Below.alloc ?_ (by simp;try omega) _ | refine Below.drew ?_ | refine Below.setCell ?_ (by simp;try omega) _))⟩
theorem callable_copyStore1:Callable Tryz.prog 191:=callable_of Tryz.func191 (by kernel_rfl) (by kernel_rfl)
set_option maxHeartbeats 1000000 in
theorem implcopyStore_c {w:World} {cs:List Value} {x:LContentStore} (hx:kJ.rd w cs x):Calls Tryz.prog 126 #[.agg cs.toArray] w (MadeAgg kJ x w):=by
 have HX:=hD hx
 obtain ⟨hx,hbd⟩:=hx
 obtain ⟨sv,rfl,s_r,hl⟩:=RContentStore_raw hx
 obtain ⟨la,lp,hva,_⟩:=Rep.kR hl;obtain rfl:sv=_:=by simpa using hva
 obtain ⟨c,l⟩:=x
 have HL:Hid ((Rep.slice 169 kL).rd w [.slice la l.length lp] l):=hD ⟨hl,hbd.2⟩
 have hlb:l.length≤16777216:=hbd.2.1
 have HCR:=hD s_r
 clear hva hx s_r hl hbd
 have HFT:Hid (l.filter (fun _=>true)=l):=hD (by simp)
 go_enter Tryz.func126,Tryz.ntmps126
 go_wp2_with fail
 generalize hwB:World.alloc (World.alloc w _) _=wB
 have EB:Below w.heap.size w wB:=by rw [← hwB];exact (by repeat (first|(with_reducible exact Below.refl _ _) | refine Below.alloc ?_ (by simp;try omega) _ | refine Below.drew ?_ | refine Below.setCell ?_ (by simp;try omega) _))
 have XR:Hid (wB.heap[w.heap.size + 1]?=some (.cells #[.int .i64 0,.slice none 0 0] 36 (0,0))):=hD (by rw [← hwB];exact heap_new_at (by simp))
 clear hwB
 have hzB:=EB.size
 refine (implkeepStore_c (fun _=>true) callable_copyStore1 (HX.out.below EB) (fun wr _ y ds hy=>implcopyStore1_c hy)).mono ?_
 rintro e w1 ⟨oc,rfl,O1,hb1⟩
 replace O1:=show kJ.own w1 oc (c,l) _ from HFT.out ▸ O1
 obtain ⟨ov,rfl,o_r,o_l⟩:=RContentStore_raw O1.raw
 obtain ⟨oa,op,hov,_⟩:=Rep.kR o_l;obtain rfl:ov=_:=by simpa using hov
 have X1:=kN XR.out hb1
 have M0:=kG (b:=w.heap.size + 1) X1 (j:=0) rfl
 have M1:=kG (b:=w.heap.size + 1) X1 (j:=1) rfl
 have F0:=frozen_of_row w1 (w.heap.size + 1) 0 _ _ X1
 have F1:=frozen_of_row w1 (w.heap.size + 1) 1 _ _ X1
 have HO1:=hD O1
 have E1:=EB.trans (hb1.mono EB.size)
 have hbz:w.heap.size + 2≤wB.heap.size:=by have:=(Array.getElem?_eq_some_iff.1 XR.out).1;omega
 clear hov o_r o_l O1 hb1
 go_wp2
 refine bodyPost_ret (v:=.agg #[.int .i64 c,.slice oa l.length op]) (by simp [results,Tryz.results126,go_sem,M0,M1,F0,F1]) rfl ⟨[_,_],rfl,?_,?_⟩
 · exact ((HO1.out.setCell (by intro q;have:=q.1;first | omega|(simp at this;omega)|(simp at this))).setCell (by intro q;have:=q.1;first | omega|(simp at this;omega)|(simp at this))).wide (fun j hj=>⟨by have:=hj.1;omega,by simpa [World.setCell] using hj.2⟩)
 exact (E1.setCell (by simp) _).setCell (by simp) _
end Go.Proofs.YtomdenfcfbkfbaaGreat

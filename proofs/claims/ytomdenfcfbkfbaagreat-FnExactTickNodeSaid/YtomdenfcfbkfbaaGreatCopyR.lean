/-
  Copies of routes and measurements.
-/
import Derived.Test.YtomdenfcfbkfbaaGreatBase
import Derived.Test.YtomdenfcfbkfbaaGreatSoft2
import Derived.Test.YtomdenfcfbkfbaaGreatClone
import Derived.Test.YtomdenfcfbkfbaaGreatTake
import Derived.IntWalk
namespace Go.Proofs.YtomdenfcfbkfbaaGreat
open Go.RowKit
set_option linter.unusedVariables false
set_option linter.unusedSimpArgs false
set_option linter.unnecessarySimpa false
set_option maxRecDepth 100000 in
set_option maxHeartbeats 2000000 in
theorem implcopyRoutes_c {w:World} {vl:Value} {l:List LRoute} (hl:(Rep.slice 159 RRoute).rd w [vl] l) :
    Calls Tryz.prog 129 #[vl] w (Made0 159 RRoute l w):=by
 have HL:=hD hl
 obtain ⟨la,lp,lh,ll⟩:=Rep.kR hl.1;obtain rfl:vl=_:=by simpa using lh
 have hlb:l.length≤16777216:=hl.2.1
 clear lh hl
 go_enter Tryz.func129,Tryz.ntmps129
 go_wp2
 have O0:Rep.own0 159 RRoute (w.alloc (.cells #[] 159)) (.slice (some ⟨w.heap.size,0,none⟩) 0 0) [] (Btw w.heap.size (w.alloc (.cells #[] 159)).heap.size) :=
   Rep.own0_lit (e:=159) (r:=RRoute) (w:=w) (cs:=[]) (xs:=[]) (T:=fun _=>False) (by simp) (by simp) rfl (fun _ h=>h.elim) ⟨Nat.le_refl _,by simp⟩
 go_loopw [3,9] (fun v i wr=>∃ k:Nat,k≤l.length∧i=.int .i64 k∧Hid (Rep.own0 159 RRoute wr v (l.take k) (Btw w.heap.size wr.heap.size))∧Below w.heap.size w wr) (fun _ i _=>l.length - (intOf i).toNat)
 case atStart=>exact ⟨0,Nat.zero_le _,rfl,hD O0,(Below.refl _ _).alloc (Nat.le_refl _) _⟩
 clear O0
 obtain ⟨k,hk,rfl,HO,hbel⟩:=hrel
 obtain ⟨oa,on,oc,ho,HON⟩:=HO.out.parts;obtain rfl:=ho
 have hlk:(l.take k).length≤k:=by simp;omega
 by_cases hlt:k < l.length
 · obtain ⟨qb,qo,rfl,qc0,qc1,qc2,qr,Aq0,Aq1,Aq2⟩:=Rep.get3 (HL.out.1.below hbel) hlt rfl
   have hbd:=Rep.raw_bdd HL.out hlt
   have hsn:=List.take_succ_eq_append_getElem hlt
   generalize l[k]=x at *
   have HSN:=hD hsn;clear hsn
   obtain ⟨x0,x1,x2⟩:=x
   obtain ⟨qv0,qhe,q_0,q_1,q_2,q_3⟩:=RRoute_raw qr
   simp only [List.cons.injEq,and_true] at qhe
   obtain ⟨rfl,rfl,rfl⟩:=qhe
   obtain ⟨qa0,qp0,qh0,ql0⟩:=Rep.kR q_1;obtain rfl:qc0=_:=by simpa using qh0
   clear qh0
   have px0:RName.rd wr _ x0:=⟨q_0,hbd.1⟩
   go_upto_region 5 with fail
   generalize hwC:World.alloc wr _=wC
   have EC:Below wr.heap.size wr wC:=by rw [← hwC];exact (Below.refl _ _).alloc (Nat.le_refl _) _
   have hzC:wC.heap.size=wr.heap.size + 1:=by rw [← hwC];simp
   have M0:wC.cell? ⟨wr.heap.size,0,none⟩=some (.slice qa0 (x0).length qp0):=by rw [← hwC];simp [go_sem]
   have M1:wC.cell? ⟨wr.heap.size,1,none⟩=some (.int .i64 x1):=by rw [← hwC];simp [go_sem]
   have M2:wC.cell? ⟨wr.heap.size,2,none⟩=some (.int .i64 x2):=by rw [← hwC];simp [go_sem]
   clear hwC
   refine wp_region_softP_tail (fun W=>Below wC.heap.size wC W) [(0,true),(1,true),(2,true),(4,true),(5,true),(6,true),(7,true),(3,false),(8,true),(9,false)] (by kernel_rfl) (by kernel_rfl) (fun c a d v w h=>by cases d <;> exact h) ((Below.refl _ _).drew) ?_
   intro wS HS
   simp only [pickOps,List.length_cons,List.length_nil,List.getElem?_cons_succ,List.getElem?_cons_zero,List.map_cons,List.map_nil,List.cons_append,List.nil_append,List.drop_succ_cons,List.drop_zero]
   iterate 2
    all_goals first|(refine kC rfl HS ?_)|(refine kD (v:=?_) rfl (fun W hW=>?_) ?_;rotate_left;(· go_simp;try with_reducible rfl))
    all_goals try simp only [Act.put,zA,zB,zC]
   iterate 2
    all_goals first|(refine kC rfl HS ?_)|(refine kD (v:=?_) rfl (fun W hW=>?_) ?_;rotate_left;(· have A_M0:=cL hW M0;have A_M1:=cL hW M1;have A_M2:=cL hW M2;clear hW;go_simp;try with_reducible rfl))
    all_goals try simp only [Act.put,zA,zB,zC]
    all_goals first|(refine kC rfl HS ?_)|(refine kD (v:=?_) rfl (fun W hW=>?_) ?_;rotate_left;(· go_simp;try with_reducible rfl))
    all_goals try simp only [Act.put,zA,zB,zC]
   all_goals first|(refine kC rfl HS ?_)|(refine kD (v:=?_) rfl (fun W hW=>?_) ?_;rotate_left;(· have A_M0:=cL hW M0;have A_M1:=cL hW M1;have A_M2:=cL hW M2;clear hW;go_simp;try with_reducible rfl))
   all_goals try simp only [Act.put,zA,zB,zC]
   all_goals first|(refine kC rfl HS ?_)|(refine kF rfl (fun K hK=>?_);go_simp;refine (implcopyName_c (px0.below (EC.trans (HS.mono EC.size)))).mono ?_;rintro e wT0 ⟨t0_c,rfl,OT0,hbT⟩;obtain ⟨t0_qv0,rfl,t0_q_0⟩:=RName_raw OT0.raw;obtain ⟨t0_qa0,t0_qp0,t0_qh0,t0_ql0⟩:=Rep.kR t0_q_0;obtain rfl:t0_qv0=_:=(by simpa using t0_qh0);clear t0_qh0;clear t0_q_0;replace OT0:=hD OT0;have hs0:=hbT.size;have hr0:=HS.size;replace HS:=HS.trans (hbT.mono HS.size);refine hK _ _ HS ?_;clear hK K hbT)
   all_goals try simp only [Act.put,zA,zB,zC]
   all_goals first|(refine kC rfl HS ?_)|(refine kD (v:=?_) rfl (fun W hW=>?_) ?_;rotate_left;(· go_simp;try with_reducible rfl))
   all_goals try simp only [Act.put,zA,zB,zC]
   all_goals first|(refine kC rfl HS ?_)|(refine kF rfl (fun K hK=>?_);go_simp;refine hK _ _ (HS.alloc HS.size _) ?_;clear hK K)
   all_goals try simp only [Act.put,zA,zB,zC]
   all_goals refine soft_rest ?_
   have hsW:=HS.size
   have hsC:=EC.size
   have hrC:=hbel.size
   have hbS:Below wr.heap.size wr _:=EC.trans (HS.mono EC.size)
   replace HO:=hD (HO.out.below hbS)
   have hbW:=hbel.trans (hbS.mono hbel.size)
   go_wp2_with (at_builtin;refine Rep.wpList_pushB rfl _ _ 39 rfl (r:=RRoute) (e:=159) Tryz.underlying39 infRoute rfl (by decide) (by decide) (B:=w.heap.size) HO.out (by rfl) (by rfl) rfl (Rep.own.wide (T:=Btw wr.heap.size wT0.heap.size) (Rep.own_flat (OT0.out) (Rep.flat_pair (Rep.flat_int q_2) (Rep.flat_int q_3))) (fun j hj=>⟨by have:=hj.1;omega,by have:=hj.2;omega⟩)) rfl (fun j h1 h2=>by have p:=h1.2;have q:=h2.1;omega) (fun j hj=>⟨hj.1,by have:=hj.2;omega⟩) (fun j hj=>⟨by have:=hj.1;omega,by have:=hj.2;omega⟩) (by omega) (by first | omega|(simp;omega)) ?_)
   intro v2 w2 hown2 hbel2 hz2
   replace hown2:=Rep.own0.cast hown2 (HSN.out.symm)
   have HO2:=hD hown2
   have hbel3:=hbW.trans hbel2
   clear hown2 HO hbel2
   go_wp2
   go_roundw
   case rel=>exact ⟨k + 1,by omega,by go_num,HO2,hbel3⟩
   simp [intOf];omega
 obtain rfl:k=l.length:=by omega
 go_wp2
 go_ret
 exact ⟨_,rfl,Rep.own0.cast HO.out (by simp),hbel⟩
set_option maxRecDepth 100000 in
set_option maxHeartbeats 2000000 in
theorem implcopyMeasurements_c {w:World} {vl:Value} {l:List kQ} (hl:(Rep.slice 166 kI).rd w [vl] l) :
    Calls Tryz.prog 130 #[vl] w (Made0 166 kI l w):=by
 have HL:=hD hl
 obtain ⟨la,lp,lh,ll⟩:=Rep.kR hl.1;obtain rfl:vl=_:=by simpa using lh
 have hlb:l.length≤16777216:=hl.2.1
 clear lh hl
 go_enter Tryz.func130,Tryz.ntmps130
 go_wp2
 have O0:Rep.own0 166 kI (w.alloc (.cells #[] 166)) (.slice (some ⟨w.heap.size,0,none⟩) 0 0) [] (Btw w.heap.size (w.alloc (.cells #[] 166)).heap.size) :=
   Rep.own0_lit (e:=166) (r:=kI) (w:=w) (cs:=[]) (xs:=[]) (T:=fun _=>False) (by simp) (by simp) rfl (fun _ h=>h.elim) ⟨Nat.le_refl _,by simp⟩
 go_loopw [3,9] (fun v i wr=>∃ k:Nat,k≤l.length∧i=.int .i64 k∧Hid (Rep.own0 166 kI wr v (l.take k) (Btw w.heap.size wr.heap.size))∧Below w.heap.size w wr) (fun _ i _=>l.length - (intOf i).toNat)
 case atStart=>exact ⟨0,Nat.zero_le _,rfl,hD O0,(Below.refl _ _).alloc (Nat.le_refl _) _⟩
 clear O0
 obtain ⟨k,hk,rfl,HO,hbel⟩:=hrel
 obtain ⟨oa,on,oc,ho,HON⟩:=HO.out.parts;obtain rfl:=ho
 have hlk:(l.take k).length≤k:=by simp;omega
 by_cases hlt:k < l.length
 · obtain ⟨qb,qo,rfl,qc0,qc1,qc2,qr,Aq0,Aq1,Aq2⟩:=Rep.get3 (HL.out.1.below hbel) hlt rfl
   have hbd:=Rep.raw_bdd HL.out hlt
   have hsn:=List.take_succ_eq_append_getElem hlt
   generalize l[k]=x at *
   have HSN:=hD hsn;clear hsn
   obtain ⟨x0,x1,x2⟩:=x
   obtain ⟨qv0,qhe,q_0,q_1,q_2,q_3⟩:=RMeasurement_raw qr
   simp only [List.cons.injEq,and_true] at qhe
   obtain ⟨rfl,rfl,rfl⟩:=qhe
   obtain ⟨qa0,qp0,qh0,ql0⟩:=Rep.kR q_1;obtain rfl:qc0=_:=by simpa using qh0
   clear qh0
   have px0:RName.rd wr _ x0:=⟨q_0,hbd.1⟩
   go_upto_region 5 with fail
   generalize hwC:World.alloc wr _=wC
   have EC:Below wr.heap.size wr wC:=by rw [← hwC];exact (Below.refl _ _).alloc (Nat.le_refl _) _
   have hzC:wC.heap.size=wr.heap.size + 1:=by rw [← hwC];simp
   have M0:wC.cell? ⟨wr.heap.size,0,none⟩=some (.slice qa0 (x0).length qp0):=by rw [← hwC];simp [go_sem]
   have M1:wC.cell? ⟨wr.heap.size,1,none⟩=some (.int .i64 x1):=by rw [← hwC];simp [go_sem]
   have M2:wC.cell? ⟨wr.heap.size,2,none⟩=some (.int .i64 x2):=by rw [← hwC];simp [go_sem]
   clear hwC
   refine wp_region_softP_tail (fun W=>Below wC.heap.size wC W) [(0,true),(1,true),(2,true),(4,true),(5,true),(6,true),(7,true),(3,false),(8,true),(9,false)] (by kernel_rfl) (by kernel_rfl) (fun c a d v w h=>by cases d <;> exact h) ((Below.refl _ _).drew) ?_
   intro wS HS
   simp only [pickOps,List.length_cons,List.length_nil,List.getElem?_cons_succ,List.getElem?_cons_zero,List.map_cons,List.map_nil,List.cons_append,List.nil_append,List.drop_succ_cons,List.drop_zero]
   iterate 2
    all_goals first|(refine kC rfl HS ?_)|(refine kD (v:=?_) rfl (fun W hW=>?_) ?_;rotate_left;(· go_simp;try with_reducible rfl))
    all_goals try simp only [Act.put,zA,zB,zC]
   iterate 2
    all_goals first|(refine kC rfl HS ?_)|(refine kD (v:=?_) rfl (fun W hW=>?_) ?_;rotate_left;(· have A_M0:=cL hW M0;have A_M1:=cL hW M1;have A_M2:=cL hW M2;clear hW;go_simp;try with_reducible rfl))
    all_goals try simp only [Act.put,zA,zB,zC]
    all_goals first|(refine kC rfl HS ?_)|(refine kD (v:=?_) rfl (fun W hW=>?_) ?_;rotate_left;(· go_simp;try with_reducible rfl))
    all_goals try simp only [Act.put,zA,zB,zC]
   all_goals first|(refine kC rfl HS ?_)|(refine kD (v:=?_) rfl (fun W hW=>?_) ?_;rotate_left;(· have A_M0:=cL hW M0;have A_M1:=cL hW M1;have A_M2:=cL hW M2;clear hW;go_simp;try with_reducible rfl))
   all_goals try simp only [Act.put,zA,zB,zC]
   all_goals first|(refine kC rfl HS ?_)|(refine kF rfl (fun K hK=>?_);go_simp;refine (implcopyName_c (px0.below (EC.trans (HS.mono EC.size)))).mono ?_;rintro e wT0 ⟨t0_c,rfl,OT0,hbT⟩;obtain ⟨t0_qv0,rfl,t0_q_0⟩:=RName_raw OT0.raw;obtain ⟨t0_qa0,t0_qp0,t0_qh0,t0_ql0⟩:=Rep.kR t0_q_0;obtain rfl:t0_qv0=_:=(by simpa using t0_qh0);clear t0_qh0;clear t0_q_0;replace OT0:=hD OT0;have hs0:=hbT.size;have hr0:=HS.size;replace HS:=HS.trans (hbT.mono HS.size);refine hK _ _ HS ?_;clear hK K hbT)
   all_goals try simp only [Act.put,zA,zB,zC]
   all_goals first|(refine kC rfl HS ?_)|(refine kD (v:=?_) rfl (fun W hW=>?_) ?_;rotate_left;(· go_simp;try with_reducible rfl))
   all_goals try simp only [Act.put,zA,zB,zC]
   all_goals first|(refine kC rfl HS ?_)|(refine kF rfl (fun K hK=>?_);go_simp;refine hK _ _ (HS.alloc HS.size _) ?_;clear hK K)
   all_goals try simp only [Act.put,zA,zB,zC]
   all_goals refine soft_rest ?_
   have hsW:=HS.size
   have hsC:=EC.size
   have hrC:=hbel.size
   have hbS:Below wr.heap.size wr _:=EC.trans (HS.mono EC.size)
   replace HO:=hD (HO.out.below hbS)
   have hbW:=hbel.trans (hbS.mono hbel.size)
   go_wp2_with (at_builtin;refine Rep.wpList_pushB rfl _ _ 40 rfl (r:=kI) (e:=166) Tryz.underlying40 infMeasurement rfl (by decide) (by decide) (B:=w.heap.size) HO.out (by rfl) (by rfl) rfl (Rep.own.wide (T:=Btw wr.heap.size wT0.heap.size) (Rep.own_flat (OT0.out) (Rep.flat_pair (Rep.flat_int q_2) (Rep.flat_int q_3))) (fun j hj=>⟨by have:=hj.1;omega,by have:=hj.2;omega⟩)) rfl (fun j h1 h2=>by have p:=h1.2;have q:=h2.1;omega) (fun j hj=>⟨hj.1,by have:=hj.2;omega⟩) (fun j hj=>⟨by have:=hj.1;omega,by have:=hj.2;omega⟩) (by omega) (by first | omega|(simp;omega)) ?_)
   intro v2 w2 hown2 hbel2 hz2
   replace hown2:=Rep.own0.cast hown2 (HSN.out.symm)
   have HO2:=hD hown2
   have hbel3:=hbW.trans hbel2
   clear hown2 HO hbel2
   go_wp2
   go_roundw
   case rel=>exact ⟨k + 1,by omega,by go_num,HO2,hbel3⟩
   simp [intOf];omega
 obtain rfl:k=l.length:=by omega
 go_wp2
 go_ret
 exact ⟨_,rfl,Rep.own0.cast HO.out (by simp),hbel⟩
set_option maxRecDepth 100000 in
set_option maxHeartbeats 2000000 in
theorem specl14Copy_c {w:World} {vl:Value} {l:List LRoute} (hl:(Rep.slice 159 RRoute).rd w [vl] l) :
    Calls Tryz.prog 107 #[vl] w (Made0 159 RRoute l w):=by
 have HL:=hD hl
 obtain ⟨la,lp,lh,ll⟩:=Rep.kR hl.1;obtain rfl:vl=_:=by simpa using lh
 have hlb:l.length≤16777216:=hl.2.1
 clear lh hl
 go_enter Tryz.func107,Tryz.ntmps107
 go_wp2
 have O0:Rep.own0 159 RRoute (w.alloc (.cells #[] 159)) (.slice (some ⟨w.heap.size,0,none⟩) 0 0) [] (Btw w.heap.size (w.alloc (.cells #[] 159)).heap.size) :=
   Rep.own0_lit (e:=159) (r:=RRoute) (w:=w) (cs:=[]) (xs:=[]) (T:=fun _=>False) (by simp) (by simp) rfl (fun _ h=>h.elim) ⟨Nat.le_refl _,by simp⟩
 go_loopw [3,4] (fun v i wr=>∃ k:Nat,k≤l.length∧i=.int .i64 k∧Hid (Rep.own0 159 RRoute wr v (l.take k) (Btw w.heap.size wr.heap.size))∧Below w.heap.size w wr) (fun _ i _=>l.length - (intOf i).toNat)
 case atStart=>exact ⟨0,Nat.zero_le _,rfl,hD O0,(Below.refl _ _).alloc (Nat.le_refl _) _⟩
 clear O0
 obtain ⟨k,hk,rfl,HO,hbel⟩:=hrel
 obtain ⟨oa,on,oc,ho,HON⟩:=HO.out.parts;obtain rfl:=ho
 have hlk:(l.take k).length≤k:=by simp;omega
 by_cases hlt:k < l.length
 · obtain ⟨qb,qo,rfl,qc0,qc1,qc2,qr,Aq0,Aq1,Aq2⟩:=Rep.get3 (HL.out.1.below hbel) hlt rfl
   have hbd:=Rep.raw_bdd HL.out hlt
   have hsn:=List.take_succ_eq_append_getElem hlt
   generalize l[k]=x at *
   have HSN:=hD hsn;clear hsn
   obtain ⟨x0,x1,x2⟩:=x
   obtain ⟨qv0,qhe,q_0,q_1,q_2,q_3⟩:=RRoute_raw qr
   simp only [List.cons.injEq,and_true] at qhe
   obtain ⟨rfl,rfl,rfl⟩:=qhe
   obtain ⟨qa0,qp0,qh0,ql0⟩:=Rep.kR q_1;obtain rfl:qc0=_:=by simpa using qh0
   clear qh0
   have px0:RName.rd wr _ x0:=⟨q_0,hbd.1⟩
   go_wp2_with fail
   refine (specl4Copy_c px0).mono ?_
   rintro e wT ⟨tc,rfl,OT,hbT⟩
   obtain ⟨tv0,rfl,t_0⟩:=RName_raw OT.raw
   obtain ⟨ta0,tp0,th0,_⟩:=Rep.kR t_0;obtain rfl:tv0=_:=(by simpa using th0)
   clear th0 t_0
   go_upto_region 6 with fail
   generalize hwC:World.alloc wT _=wC
   have EC:Below wT.heap.size wT wC:=by rw [← hwC];exact (Below.refl _ _).alloc (Nat.le_refl _) _
   have K0:wC.cell? ⟨wT.heap.size,0,none⟩=some (.slice ta0 x0.length tp0):=by rw [← hwC];simp [go_sem]
   clear hwC
   have ER:=hbT.trans (EC.mono hbT.size)
   replace Aq0:=cL ER Aq0
   replace Aq1:=cL ER Aq1
   replace Aq2:=cL ER Aq2
   refine wp_region_soft_tail (fun W=>Below wC.heap.size wC W) [true,true,true,true,true,true,true,true,true,true,true,true,true,false] (by kernel_rfl) (by kernel_rfl) (fun c a d v w h=>by cases d <;> exact h) ((Below.refl _ _).drew) ?_
   intro wS HS
   all_goals first|(refine kC rfl HS ?_)|(refine kD (v:=?_) rfl (fun W hW=>?_) ?_;rotate_left;(· go_simp;try with_reducible rfl))
   all_goals try simp only [Act.put,zA,zB,zC]
   all_goals first|(refine kC rfl HS ?_)|(refine kD (v:=?_) rfl (fun W hW=>?_) ?_;rotate_left;(· have A_K0:=cL hW K0;have A_Aq0:=cL hW Aq0;have A_Aq1:=cL hW Aq1;have A_Aq2:=cL hW Aq2;clear hW;go_simp;try with_reducible rfl))
   iterate 4
    all_goals try simp only [Act.put,zA,zB,zC]
    all_goals first|(refine kC rfl HS ?_)|(refine kD (v:=?_) rfl (fun W hW=>?_) ?_;rotate_left;(· go_simp;try with_reducible rfl))
   all_goals try simp only [Act.put,zA,zB,zC]
   all_goals first|(refine kC rfl HS ?_)|(refine kD (v:=?_) rfl (fun W hW=>?_) ?_;rotate_left;(· have A_K0:=cL hW K0;have A_Aq0:=cL hW Aq0;have A_Aq1:=cL hW Aq1;have A_Aq2:=cL hW Aq2;clear hW;go_simp;try with_reducible rfl))
   iterate 4
    all_goals try simp only [Act.put,zA,zB,zC]
    all_goals first|(refine kC rfl HS ?_)|(refine kD (v:=?_) rfl (fun W hW=>?_) ?_;rotate_left;(· go_simp;try with_reducible rfl))
   all_goals try simp only [Act.put,zA,zB,zC]
   all_goals first|(refine kC rfl HS ?_)|(refine kD (v:=?_) rfl (fun W hW=>?_) ?_;rotate_left;(· have A_K0:=cL hW K0;have A_Aq0:=cL hW Aq0;have A_Aq1:=cL hW Aq1;have A_Aq2:=cL hW Aq2;clear hW;go_simp;try with_reducible rfl))
   all_goals try simp only [Act.put,zA,zB,zC]
   all_goals first|(refine kC rfl HS ?_)|(refine kD (v:=?_) rfl (fun W hW=>?_) ?_;rotate_left;(· go_simp;try with_reducible rfl))
   all_goals try simp only [Act.put,zA,zB,zC]
   all_goals first|(refine kC rfl HS ?_)|(refine kF rfl (fun K hK=>?_);go_simp;refine hK _ _ (HS.alloc HS.size _) ?_;clear hK K)
   all_goals try simp only [Act.put,zA,zB,zC]
   all_goals refine soft_rest ?_
   have hsW:=HS.size
   have hsC:=EC.size
   have hrC:=hbel.size
   have hsT:=hbT.size
   have hbS:Below wr.heap.size wr wS:=ER.trans (HS.mono ER.size)
   replace HO:=hD (HO.out.below hbS)
   have hbW:=hbel.trans (hbS.mono hbel.size)
   go_wp2_with (at_builtin;refine Rep.wpList_pushB rfl _ _ 39 rfl (r:=RRoute) (e:=159) Tryz.underlying39 infRoute rfl (by decide) (by decide) (B:=w.heap.size) HO.out (by rfl) (by rfl) rfl (Rep.own.wide (T:=Btw wr.heap.size wT.heap.size) (Rep.own_flat (OT.below (EC.trans (HS.mono EC.size))) (Rep.flat_pair (Rep.flat_int q_2) (Rep.flat_int q_3))) (fun j hj=>⟨by have:=hj.1;omega,by have:=hj.2;omega⟩)) rfl (fun j h1 h2=>by have p:=h1.2;have q:=h2.1;omega) (fun j hj=>⟨hj.1,by have:=hj.2;omega⟩) (fun j hj=>⟨by have:=hj.1;omega,by have:=hj.2;omega⟩) (by omega) (by first | omega|(simp;omega)) ?_)
   intro v2 w2 hown2 hbel2 hz2
   replace hown2:=Rep.own0.cast hown2 (HSN.out.symm)
   have HO2:=hD hown2
   have hbel3:=hbW.trans hbel2
   clear hown2 HO hbel2
   go_wp2
   go_roundw
   case rel=>exact ⟨k + 1,by omega,by go_num,HO2,hbel3⟩
   simp [intOf];omega
 obtain rfl:k=l.length:=by omega
 go_wp2
 go_ret
 exact ⟨_,rfl,Rep.own0.cast HO.out (by simp),hbel⟩
set_option maxRecDepth 100000 in
set_option maxHeartbeats 2000000 in
theorem specl15Copy_c {w:World} {vl:Value} {l:List kQ} (hl:(Rep.slice 166 kI).rd w [vl] l) :
    Calls Tryz.prog 108 #[vl] w (Made0 166 kI l w):=by
 have HL:=hD hl
 obtain ⟨la,lp,lh,ll⟩:=Rep.kR hl.1;obtain rfl:vl=_:=by simpa using lh
 have hlb:l.length≤16777216:=hl.2.1
 clear lh hl
 go_enter Tryz.func108,Tryz.ntmps108
 go_wp2
 have O0:Rep.own0 166 kI (w.alloc (.cells #[] 166)) (.slice (some ⟨w.heap.size,0,none⟩) 0 0) [] (Btw w.heap.size (w.alloc (.cells #[] 166)).heap.size) :=
   Rep.own0_lit (e:=166) (r:=kI) (w:=w) (cs:=[]) (xs:=[]) (T:=fun _=>False) (by simp) (by simp) rfl (fun _ h=>h.elim) ⟨Nat.le_refl _,by simp⟩
 go_loopw [3,4] (fun v i wr=>∃ k:Nat,k≤l.length∧i=.int .i64 k∧Hid (Rep.own0 166 kI wr v (l.take k) (Btw w.heap.size wr.heap.size))∧Below w.heap.size w wr) (fun _ i _=>l.length - (intOf i).toNat)
 case atStart=>exact ⟨0,Nat.zero_le _,rfl,hD O0,(Below.refl _ _).alloc (Nat.le_refl _) _⟩
 clear O0
 obtain ⟨k,hk,rfl,HO,hbel⟩:=hrel
 obtain ⟨oa,on,oc,ho,HON⟩:=HO.out.parts;obtain rfl:=ho
 have hlk:(l.take k).length≤k:=by simp;omega
 by_cases hlt:k < l.length
 · obtain ⟨qb,qo,rfl,qc0,qc1,qc2,qr,Aq0,Aq1,Aq2⟩:=Rep.get3 (HL.out.1.below hbel) hlt rfl
   have hbd:=Rep.raw_bdd HL.out hlt
   have hsn:=List.take_succ_eq_append_getElem hlt
   generalize l[k]=x at *
   have HSN:=hD hsn;clear hsn
   obtain ⟨x0,x1,x2⟩:=x
   obtain ⟨qv0,qhe,q_0,q_1,q_2,q_3⟩:=RMeasurement_raw qr
   simp only [List.cons.injEq,and_true] at qhe
   obtain ⟨rfl,rfl,rfl⟩:=qhe
   obtain ⟨qa0,qp0,qh0,ql0⟩:=Rep.kR q_1;obtain rfl:qc0=_:=by simpa using qh0
   clear qh0
   have px0:RName.rd wr _ x0:=⟨q_0,hbd.1⟩
   go_wp2_with fail
   refine (specl4Copy_c px0).mono ?_
   rintro e wT ⟨tc,rfl,OT,hbT⟩
   obtain ⟨tv0,rfl,t_0⟩:=RName_raw OT.raw
   obtain ⟨ta0,tp0,th0,_⟩:=Rep.kR t_0;obtain rfl:tv0=_:=(by simpa using th0)
   clear th0 t_0
   go_upto_region 6 with fail
   generalize hwC:World.alloc wT _=wC
   have EC:Below wT.heap.size wT wC:=by rw [← hwC];exact (Below.refl _ _).alloc (Nat.le_refl _) _
   have K0:wC.cell? ⟨wT.heap.size,0,none⟩=some (.slice ta0 x0.length tp0):=by rw [← hwC];simp [go_sem]
   clear hwC
   have ER:=hbT.trans (EC.mono hbT.size)
   replace Aq0:=cL ER Aq0
   replace Aq1:=cL ER Aq1
   replace Aq2:=cL ER Aq2
   refine wp_region_soft_tail (fun W=>Below wC.heap.size wC W) [true,true,true,true,true,true,true,true,true,true,true,true,true,false] (by kernel_rfl) (by kernel_rfl) (fun c a d v w h=>by cases d <;> exact h) ((Below.refl _ _).drew) ?_
   intro wS HS
   all_goals first|(refine kC rfl HS ?_)|(refine kD (v:=?_) rfl (fun W hW=>?_) ?_;rotate_left;(· go_simp;try with_reducible rfl))
   all_goals try simp only [Act.put,zA,zB,zC]
   all_goals first|(refine kC rfl HS ?_)|(refine kD (v:=?_) rfl (fun W hW=>?_) ?_;rotate_left;(· have A_K0:=cL hW K0;have A_Aq0:=cL hW Aq0;have A_Aq1:=cL hW Aq1;have A_Aq2:=cL hW Aq2;clear hW;go_simp;try with_reducible rfl))
   iterate 4
    all_goals try simp only [Act.put,zA,zB,zC]
    all_goals first|(refine kC rfl HS ?_)|(refine kD (v:=?_) rfl (fun W hW=>?_) ?_;rotate_left;(· go_simp;try with_reducible rfl))
   all_goals try simp only [Act.put,zA,zB,zC]
   all_goals first|(refine kC rfl HS ?_)|(refine kD (v:=?_) rfl (fun W hW=>?_) ?_;rotate_left;(· have A_K0:=cL hW K0;have A_Aq0:=cL hW Aq0;have A_Aq1:=cL hW Aq1;have A_Aq2:=cL hW Aq2;clear hW;go_simp;try with_reducible rfl))
   iterate 4
    all_goals try simp only [Act.put,zA,zB,zC]
    all_goals first|(refine kC rfl HS ?_)|(refine kD (v:=?_) rfl (fun W hW=>?_) ?_;rotate_left;(· go_simp;try with_reducible rfl))
   all_goals try simp only [Act.put,zA,zB,zC]
   all_goals first|(refine kC rfl HS ?_)|(refine kD (v:=?_) rfl (fun W hW=>?_) ?_;rotate_left;(· have A_K0:=cL hW K0;have A_Aq0:=cL hW Aq0;have A_Aq1:=cL hW Aq1;have A_Aq2:=cL hW Aq2;clear hW;go_simp;try with_reducible rfl))
   all_goals try simp only [Act.put,zA,zB,zC]
   all_goals first|(refine kC rfl HS ?_)|(refine kD (v:=?_) rfl (fun W hW=>?_) ?_;rotate_left;(· go_simp;try with_reducible rfl))
   all_goals try simp only [Act.put,zA,zB,zC]
   all_goals first|(refine kC rfl HS ?_)|(refine kF rfl (fun K hK=>?_);go_simp;refine hK _ _ (HS.alloc HS.size _) ?_;clear hK K)
   all_goals try simp only [Act.put,zA,zB,zC]
   all_goals refine soft_rest ?_
   have hsW:=HS.size
   have hsC:=EC.size
   have hrC:=hbel.size
   have hsT:=hbT.size
   have hbS:Below wr.heap.size wr wS:=ER.trans (HS.mono ER.size)
   replace HO:=hD (HO.out.below hbS)
   have hbW:=hbel.trans (hbS.mono hbel.size)
   go_wp2_with (at_builtin;refine Rep.wpList_pushB rfl _ _ 40 rfl (r:=kI) (e:=166) Tryz.underlying40 infMeasurement rfl (by decide) (by decide) (B:=w.heap.size) HO.out (by rfl) (by rfl) rfl (Rep.own.wide (T:=Btw wr.heap.size wT.heap.size) (Rep.own_flat (OT.below (EC.trans (HS.mono EC.size))) (Rep.flat_pair (Rep.flat_int q_2) (Rep.flat_int q_3))) (fun j hj=>⟨by have:=hj.1;omega,by have:=hj.2;omega⟩)) rfl (fun j h1 h2=>by have p:=h1.2;have q:=h2.1;omega) (fun j hj=>⟨hj.1,by have:=hj.2;omega⟩) (fun j hj=>⟨by have:=hj.1;omega,by have:=hj.2;omega⟩) (by omega) (by first | omega|(simp;omega)) ?_)
   intro v2 w2 hown2 hbel2 hz2
   replace hown2:=Rep.own0.cast hown2 (HSN.out.symm)
   have HO2:=hD hown2
   have hbel3:=hbW.trans hbel2
   clear hown2 HO hbel2
   go_wp2
   go_roundw
   case rel=>exact ⟨k + 1,by omega,by go_num,HO2,hbel3⟩
   simp [intOf];omega
 obtain rfl:k=l.length:=by omega
 go_wp2
 go_ret
 exact ⟨_,rfl,Rep.own0.cast HO.out (by simp),hbel⟩
end Go.Proofs.YtomdenfcfbkfbaaGreat

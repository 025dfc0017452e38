/-
  Copies of lists of data.
-/
import Derived.Test.YtomdenfcfbkfbaaGreatBase
import Derived.Test.YtomdenfcfbkfbaaGreatCopyD
import Derived.IntWalk
import Derived.Deep.Cut
import Derived.WalkSpells
import Derived.WalkLawsBesides
namespace Go.Proofs.YtomdenfcfbkfbaaGreat
open Go.RowKit
set_option linter.unusedVariables false
set_option linter.unusedSimpArgs false
set_option linter.unnecessarySimpa false
set_option maxRecDepth 100000 in
set_option maxHeartbeats 4000000 in
theorem implcopyDatas_c {w:World} {vl:Value} {l:List LData} (hl:(Rep.slice 113 RData).rd w [vl] l) :
    Calls Tryz.prog 125 #[vl] w (Made0 113 RData l w):=by
 have HL:=hD hl
 obtain ⟨la,lp,lh,ll⟩:=Rep.kR hl.1;obtain rfl:vl=_:=by simpa using lh
 have hlb:l.length≤16777216:=hl.2.1
 clear lh hl
 go_enter Tryz.func125,Tryz.ntmps125
 go_wp2
 go_loopw [3,9] (fun v i wr=>∃ k:Nat,k≤l.length∧i=.int .i64 k∧Hid (Rep.own0 113 RData wr v (l.take k) (Btw w.heap.size wr.heap.size))∧Below w.heap.size w wr) (fun _ i _=>l.length - (intOf i).toNat)
 case atStart=>exact ⟨0,Nat.zero_le _,rfl,hD Rep.own0.void,(Below.refl _ _).alloc (Nat.le_refl _) _⟩
 obtain ⟨k,hk,rfl,HO,hbel⟩:=hrel
 obtain ⟨oa,on,oc,ho,HON⟩:=HO.out.parts;obtain rfl:=ho
 have hlk:(l.take k).length≤k:=by simp;omega
 have hrC:=hbel.size
 by_cases hlt:k < l.length
 · obtain ⟨qb,qo,rfl,qc0,qc1,qc2,qc3,qc4,qr,Aq0,Aq1,Aq2,Aq3,Aq4⟩:=Rep.get5 (HL.out.1.below hbel) hlt rfl
   have hbd:=Rep.raw_bdd HL.out hlt
   have hsn:=List.take_succ_eq_append_getElem hlt
   generalize l[k]=x at *
   have HSN:=hD hsn;clear hsn
   obtain ⟨x0,x1,x2,x3,x4⟩:=x
   obtain ⟨qv0,qv1,qv2,qhe,q_0,q_1,q_2,q_3,q_4,q_5,q_6⟩:=RData_raw qr
   simp only [List.cons.injEq,and_true] at qhe
   obtain ⟨rfl,rfl,rfl,rfl,rfl⟩:=qhe
   obtain ⟨qa0,qp0,qh0,ql0⟩:=Rep.kR q_1;obtain rfl:qc0=_:=by simpa using qh0
   clear qh0
   obtain ⟨qa1,qp1,qh1,ql1⟩:=Rep.kR q_2;obtain rfl:qc1=_:=by simpa using qh1
   clear qh1
   obtain ⟨qa2,qp2,qh2,ql2⟩:=Rep.kR q_4;obtain rfl:qc2=_:=by simpa using qh2
   clear qh2
   have px:RData.rd wr _ (x0,x1,x2,x3,x4):=⟨qr,hbd⟩
   go_upto_region 5 with fail
   generalize hwC:World.alloc wr _=wC
   have EC:Below wr.heap.size wr wC:=by rw [← hwC];exact (Below.refl _ _).alloc (Nat.le_refl _) _
   have hsC:=EC.size
   have M0:wC.cell? ⟨wr.heap.size,0,none⟩=some (.slice qa0 (x0).length qp0):=by rw [← hwC];simp [go_sem]
   have M1:wC.cell? ⟨wr.heap.size,1,none⟩=some (.slice qa1 (x1).length qp1):=by rw [← hwC];simp [go_sem]
   have M2:wC.cell? ⟨wr.heap.size,2,none⟩=some (.slice qa2 (x2).length qp2):=by rw [← hwC];simp [go_sem]
   have M3:wC.cell? ⟨wr.heap.size,3,none⟩=some (.int .i64 x3):=by rw [← hwC];simp [go_sem]
   have M4:wC.cell? ⟨wr.heap.size,4,none⟩=some (.int .i64 x4):=by rw [← hwC];simp [go_sem]
   clear hwC
   replace HO:=hD ((HO.out.below EC).wide (T:=Btw w.heap.size wC.heap.size) (fun j hj=>⟨hj.1,by have:=hj.2;omega⟩))
   have hbC:=hbel.trans (EC.mono hbel.size)
   go_wp2_with fail
   refine (implcopyData_c (px.below EC)).mono ?_
   rintro e wT ⟨tc,rfl,OT,hbT⟩
   obtain ⟨tv0,tv1,tv2,rfl,t_0,t_1,t_2,t_3,t_4,t_5,t_6⟩:=RData_raw OT.raw
   obtain ⟨ta0,tp0,th0,tl0⟩:=Rep.kR t_1;obtain rfl:tv0=_:=by simpa using th0
   clear th0
   obtain ⟨ta1,tp1,th1,tl1⟩:=Rep.kR t_2;obtain rfl:tv1=_:=by simpa using th1
   clear th1
   obtain ⟨ta2,tp2,th2,tl2⟩:=Rep.kR t_4;obtain rfl:tv2=_:=by simpa using th2
   clear th2
   clear t_0 t_1 t_2 t_3 t_4 t_5 t_6
   have hsT:=hbT.size
   have hbS:=hbT
   replace HO:=hD (HO.out.below hbS)
   have hbW:=hbC.trans (hbS.mono hbC.size)
   go_wp2_with (at_builtin;refine Rep.wpList_pushB rfl _ _ 33 rfl (r:=RData) (e:=113) Tryz.underlying33 infData rfl (by decide) (by decide) (B:=w.heap.size) HO.out (by rfl) (by rfl) rfl (Rep.own.wide (T:=Btw wC.heap.size wT.heap.size) (OT) (fun j hj=>⟨by have:=hj.1;omega,by have:=hj.2;omega⟩)) rfl (fun j h1 h2=>by have p:=h1.2;have q:=h2.1;omega) (fun j hj=>⟨hj.1,by have:=hj.2;omega⟩) (fun j hj=>⟨by have:=hj.1;omega,by have:=hj.2;omega⟩) (by omega) (by omega) ?_)
   intro v2 w2 hown2 hbel2 hz2
   replace hown2:=Rep.own0.cast hown2 (HSN.out.symm)
   have HO2:=hD hown2
   have hbel3:=hbW.trans hbel2
   clear hown2 HO hbel2
   go_wp2
   go_roundw
   case rel=>exact ⟨k + 1,by omega,by go_num,HO2,hbel3⟩
   simp [intOf];omega
 obtain rfl:k=l.length:=by omega
 go_wp2
 go_ret
 exact ⟨_,rfl,Rep.own0.cast HO.out (by rw [List.take_length]),hbel⟩
set_option maxRecDepth 100000 in
set_option maxHeartbeats 4000000 in
theorem specl11Things_c {w:World} {vl:Value} {l:List LData} (hl:(Rep.slice 113 RData).rd w [vl] l) :
    Calls Tryz.prog 103 #[vl] w (Made0 113 RData l w):=by
 have HL:=hD hl
 obtain ⟨la,lp,lh,ll⟩:=Rep.kR hl.1;obtain rfl:vl=_:=by simpa using lh
 have hlb:l.length≤16777216:=hl.2.1
 clear lh hl
 go_enter Tryz.func103,Tryz.ntmps103
 go_wp2
 go_loopw [3,4] (fun v i wr=>∃ k:Nat,k≤l.length∧i=.int .i64 k∧Hid (Rep.own0 113 RData wr v (l.take k) (Btw w.heap.size wr.heap.size))∧Below w.heap.size w wr) (fun _ i _=>l.length - (intOf i).toNat)
 case atStart=>exact ⟨0,Nat.zero_le _,rfl,hD Rep.own0.void,(Below.refl _ _).alloc (Nat.le_refl _) _⟩
 obtain ⟨k,hk,rfl,HO,hbel⟩:=hrel
 obtain ⟨oa,on,oc,ho,HON⟩:=HO.out.parts;obtain rfl:=ho
 have hlk:(l.take k).length≤k:=by simp;omega
 have hrC:=hbel.size
 by_cases hlt:k < l.length
 · obtain ⟨qb,qo,rfl,qc0,qc1,qc2,qc3,qc4,qr,Aq0,Aq1,Aq2,Aq3,Aq4⟩:=Rep.get5 (HL.out.1.below hbel) hlt rfl
   have hbd:=Rep.raw_bdd HL.out hlt
   have hsn:=List.take_succ_eq_append_getElem hlt
   generalize l[k]=x at *
   have HSN:=hD hsn;clear hsn
   obtain ⟨x0,x1,x2,x3,x4⟩:=x
   obtain ⟨qv0,qv1,qv2,qhe,q_0,q_1,q_2,q_3,q_4,q_5,q_6⟩:=RData_raw qr
   simp only [List.cons.injEq,and_true] at qhe
   obtain ⟨rfl,rfl,rfl,rfl,rfl⟩:=qhe
   obtain ⟨qa0,qp0,qh0,ql0⟩:=Rep.kR q_1;obtain rfl:qc0=_:=by simpa using qh0
   clear qh0
   obtain ⟨qa1,qp1,qh1,ql1⟩:=Rep.kR q_2;obtain rfl:qc1=_:=by simpa using qh1
   clear qh1
   obtain ⟨qa2,qp2,qh2,ql2⟩:=Rep.kR q_4;obtain rfl:qc2=_:=by simpa using qh2
   clear qh2
   have px:RData.rd wr _ (x0,x1,x2,x3,x4):=⟨qr,hbd⟩
   go_wp2_with fail
   refine (specl8Copy_c px).mono ?_
   rintro e wT ⟨tc,rfl,OT,hbT⟩
   obtain ⟨tv0,tv1,tv2,rfl,t_0,t_1,t_2,t_3,t_4,t_5,t_6⟩:=RData_raw OT.raw
   obtain ⟨ta0,tp0,th0,tl0⟩:=Rep.kR t_1;obtain rfl:tv0=_:=by simpa using th0
   clear th0
   obtain ⟨ta1,tp1,th1,tl1⟩:=Rep.kR t_2;obtain rfl:tv1=_:=by simpa using th1
   clear th1
   obtain ⟨ta2,tp2,th2,tl2⟩:=Rep.kR t_4;obtain rfl:tv2=_:=by simpa using th2
   clear th2
   clear t_0 t_1 t_2 t_3 t_4 t_5 t_6
   have hsT:=hbT.size
   go_upto_region 6 with fail
   generalize hwD:World.alloc wT _=wD
   have ED:Below wT.heap.size wT wD:=by rw [← hwD];exact (Below.refl _ _).alloc (Nat.le_refl _) _
   have hsD:=ED.size
   have D0:wD.cell? ⟨wT.heap.size,0,none⟩=some (.slice ta0 (x0).length tp0):=by rw [← hwD];simp [go_sem]
   have D1:wD.cell? ⟨wT.heap.size,1,none⟩=some (.slice ta1 (x1).length tp1):=by rw [← hwD];simp [go_sem]
   have D2:wD.cell? ⟨wT.heap.size,2,none⟩=some (.slice ta2 (x2).length tp2):=by rw [← hwD];simp [go_sem]
   have D3:wD.cell? ⟨wT.heap.size,3,none⟩=some (.int .i64 x3):=by rw [← hwD];simp [go_sem]
   have D4:wD.cell? ⟨wT.heap.size,4,none⟩=some (.int .i64 x4):=by rw [← hwD];simp [go_sem]
   clear hwD
   have hbS:=hbT.trans (ED.mono hbT.size)
   replace HO:=hD (HO.out.below hbS)
   have hbW:=hbel.trans (hbS.mono hbel.size)
   go_wp2_with (at_builtin;refine Rep.wpList_pushB rfl _ _ 33 rfl (r:=RData) (e:=113) Tryz.underlying33 infData rfl (by decide) (by decide) (B:=w.heap.size) HO.out (by rfl) (by rfl) rfl (Rep.own.wide (T:=Btw wr.heap.size wT.heap.size) (OT.below ED) (fun j hj=>⟨by have:=hj.1;omega,by have:=hj.2;omega⟩)) rfl (fun j h1 h2=>by have p:=h1.2;have q:=h2.1;omega) (fun j hj=>⟨hj.1,by have:=hj.2;omega⟩) (fun j hj=>⟨by have:=hj.1;omega,by have:=hj.2;omega⟩) (by omega) (by omega) ?_)
   intro v2 w2 hown2 hbel2 hz2
   replace hown2:=Rep.own0.cast hown2 (HSN.out.symm)
   have HO2:=hD hown2
   have hbel3:=hbW.trans hbel2
   clear hown2 HO hbel2
   go_wp2
   go_roundw
   case rel=>exact ⟨k + 1,by omega,by go_num,HO2,hbel3⟩
   simp [intOf];omega
 obtain rfl:k=l.length:=by omega
 go_wp2
 go_ret
 exact ⟨_,rfl,Rep.own0.cast HO.out (by rw [List.take_length]),hbel⟩
end Go.Proofs.YtomdenfcfbkfbaaGreat

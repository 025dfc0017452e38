/-
  Copies of lists of data.
  Copies of routes and measurements.
  Nodes, copied.
-/
import Derived.Test.YtomdenfcfbkfbaaGreatLook
set_option linter.unusedVariables false
set_option linter.unusedSimpArgs false
set_option linter.unnecessarySimpa false
set_option maxRecDepth 100000
set_option maxHeartbeats 4000000
namespace Go.Proofs.YtomdenfcfbkfbaaGreat
open Go.RowKit
theorem kPo {w:World} {vl:Value} {l:List yX} (hl:(Rep.slice 113 kg).rd w [vl] l) :
    Calls Tryz.prog 125 #[vl] w (kDc 113 kg l w):=by
 have HL:=yD hl
 obtain ⟨la,lp,rfl,ll⟩:=Rep.sl hl.1
 have hlb:l.length≤16777216:=hl.2.1
 clear hl
 go_enter Tryz.func125,Tryz.ntmps125
 go_wp2
 go_loopw [3,9] (fun v i wr=>∃ k:Nat,k≤l.length∧i=.int .i64 k∧Hid (Rep.kQ 113 kg wr v (l.take k) (Btw w.heap.size wr.heap.size))∧Below w.heap.size w wr) (fun _ i _=>l.length - (intOf i).toNat)
 case atStart=>exact ⟨0,Nat.zero_le _,rfl,yD Rep.kQ.void,bR.alloc nL _⟩
 obtain ⟨k,hk,rfl,HO,hbel⟩:=hrel
 obtain ⟨oa,on,oc,ho,HON⟩:=HO.out.parts;obtain rfl:=ho
 have hlk:(l.take k).length≤k:=rC
 have hrC:=hbel.size
 by_cases hlt:k < l.length
 · obtain ⟨qb,qo,rfl,qc0,qc1,qc2,qc3,qc4,qr,Aq0,Aq1,Aq2,Aq3,Aq4⟩:=Rep.get5 (HL.out.1.below hbel) hlt rfl
   have hbd:=Rep.jq HL.out hlt
   have hsn:=List.take_succ_eq_append_getElem hlt
   generalize l[k]=x at *
   have HSN:=yD hsn;clear hsn
   obtain ⟨x0,x1,x2,x3,x4⟩:=x
   obtain ⟨qv0,qv1,qv2,qhe,q_0,q_1,q_2,q_3,q_4,q_5,q_6⟩:=jS qr
   simp only [List.cons.injEq,and_true] at qhe
   obtain ⟨rfl,rfl,rfl,rfl,rfl⟩:=qhe
   obtain ⟨qa0,qp0,rfl,ql0⟩:=Rep.sl q_1
   obtain ⟨qa1,qp1,rfl,ql1⟩:=Rep.sl q_2
   obtain ⟨qa2,qp2,rfl,ql2⟩:=Rep.sl q_4
   have px:kg.rd wr _ (x0,x1,x2,x3,x4):=⟨qr,hbd⟩
   go_upto_region 5 with fail
   generalize hwC:World.alloc wr _=wC
   have EC:Below wr.heap.size wr wC:=mE
   have hsC:=EC.size
   have M0:wC.cell? ⟨wr.heap.size,0,none⟩=some (.slice qa0 (x0).length qp0):=nK
   have M1:wC.cell? ⟨wr.heap.size,1,none⟩=some (.slice qa1 (x1).length qp1):=nK
   have M2:wC.cell? ⟨wr.heap.size,2,none⟩=some (.slice qa2 (x2).length qp2):=nK
   have M3:wC.cell? ⟨wr.heap.size,3,none⟩=some (.int .i64 x3):=nK
   have M4:wC.cell? ⟨wr.heap.size,4,none⟩=some (.int .i64 x4):=nK
   clear hwC
   replace HO:=yD ((HO.out.below EC).wide (T:=Btw w.heap.size wC.heap.size) gP)
   have hbC:=(tQ hbel EC)
   go_wp2_with fail
   refine (kCr (px.below EC)).mono ?_
   rintro e wT ⟨tc,rfl,OT,hbT⟩
   obtain ⟨tv0,tv1,tv2,rfl,t_0,t_1,t_2,t_3,t_4,t_5,t_6⟩:=jS OT.raw
   obtain ⟨ta0,tp0,rfl,tl0⟩:=Rep.sl t_1
   obtain ⟨ta1,tp1,rfl,tl1⟩:=Rep.sl t_2
   obtain ⟨ta2,tp2,rfl,tl2⟩:=Rep.sl t_4
   clear t_0 t_1 t_2 t_3 t_4 t_5 t_6
   have hsT:=hbT.size
   have hbS:=hbT
   replace HO:=yD (HO.out.below hbS)
   have hbW:=(tQ hbC hbS)
   go_wp2_with (at_builtin;refine Rep.jU rfl _ _ 33 rfl (r:=kg) (e:=113) Tryz.underlying33 infData rfl rG rG (B:=w.heap.size) HO.out rO rO rfl (Rep.own.wide (T:=Btw wC.heap.size wT.heap.size) (OT) dM) rfl dX gP dM rJ rJ ?_)
   intro v2 w2 hown2 hbel2 hz2
   replace hown2:=Rep.kQ.cast hown2 (HSN.out.symm)
   have HO2:=yD hown2
   have hbel3:=hbW.trans hbel2
   clear hown2 HO hbel2
   go_wp2
   go_roundw
   case rel=>exact ⟨k + 1,by omega,by go_num,HO2,hbel3⟩
   simp [intOf];omega
 obtain rfl:k=l.length:=rJ
 go_wp2
 go_ret
 exact ⟨_,rfl,Rep.kQ.cast HO.out pF,hbel⟩
theorem kPf {w:World} {vl:Value} {l:List yX} (hl:(Rep.slice 113 kg).rd w [vl] l) :
    Calls Tryz.prog 103 #[vl] w (kDc 113 kg l w):=by
 have HL:=yD hl
 obtain ⟨la,lp,rfl,ll⟩:=Rep.sl hl.1
 have hlb:l.length≤16777216:=hl.2.1
 clear hl
 go_enter Tryz.func103,Tryz.ntmps103
 go_wp2
 go_loopw [3,4] (fun v i wr=>∃ k:Nat,k≤l.length∧i=.int .i64 k∧Hid (Rep.kQ 113 kg wr v (l.take k) (Btw w.heap.size wr.heap.size))∧Below w.heap.size w wr) (fun _ i _=>l.length - (intOf i).toNat)
 case atStart=>exact ⟨0,Nat.zero_le _,rfl,yD Rep.kQ.void,bR.alloc nL _⟩
 obtain ⟨k,hk,rfl,HO,hbel⟩:=hrel
 obtain ⟨oa,on,oc,ho,HON⟩:=HO.out.parts;obtain rfl:=ho
 have hlk:(l.take k).length≤k:=rC
 have hrC:=hbel.size
 by_cases hlt:k < l.length
 · obtain ⟨qb,qo,rfl,qc0,qc1,qc2,qc3,qc4,qr,Aq0,Aq1,Aq2,Aq3,Aq4⟩:=Rep.get5 (HL.out.1.below hbel) hlt rfl
   have hbd:=Rep.jq HL.out hlt
   have hsn:=List.take_succ_eq_append_getElem hlt
   generalize l[k]=x at *
   have HSN:=yD hsn;clear hsn
   obtain ⟨x0,x1,x2,x3,x4⟩:=x
   obtain ⟨qv0,qv1,qv2,qhe,q_0,q_1,q_2,q_3,q_4,q_5,q_6⟩:=jS qr
   simp only [List.cons.injEq,and_true] at qhe
   obtain ⟨rfl,rfl,rfl,rfl,rfl⟩:=qhe
   obtain ⟨qa0,qp0,rfl,ql0⟩:=Rep.sl q_1
   obtain ⟨qa1,qp1,rfl,ql1⟩:=Rep.sl q_2
   obtain ⟨qa2,qp2,rfl,ql2⟩:=Rep.sl q_4
   have px:kg.rd wr _ (x0,x1,x2,x3,x4):=⟨qr,hbd⟩
   go_wp2_with fail
   refine (kDw px).mono ?_
   rintro e wT ⟨tc,rfl,OT,hbT⟩
   obtain ⟨tv0,tv1,tv2,rfl,t_0,t_1,t_2,t_3,t_4,t_5,t_6⟩:=jS OT.raw
   obtain ⟨ta0,tp0,rfl,tl0⟩:=Rep.sl t_1
   obtain ⟨ta1,tp1,rfl,tl1⟩:=Rep.sl t_2
   obtain ⟨ta2,tp2,rfl,tl2⟩:=Rep.sl t_4
   clear t_0 t_1 t_2 t_3 t_4 t_5 t_6
   have hsT:=hbT.size
   go_upto_region 6 with fail
   generalize hwD:World.alloc wT _=wD
   have ED:Below wT.heap.size wT wD:=mO
   have hsD:=ED.size
   have D0:wD.cell? ⟨wT.heap.size,0,none⟩=some (.slice ta0 (x0).length tp0):=nM
   have D1:wD.cell? ⟨wT.heap.size,1,none⟩=some (.slice ta1 (x1).length tp1):=nM
   have D2:wD.cell? ⟨wT.heap.size,2,none⟩=some (.slice ta2 (x2).length tp2):=nM
   have D3:wD.cell? ⟨wT.heap.size,3,none⟩=some (.int .i64 x3):=nM
   have D4:wD.cell? ⟨wT.heap.size,4,none⟩=some (.int .i64 x4):=nM
   clear hwD
   have hbS:=(tQ hbT ED)
   replace HO:=yD (HO.out.below hbS)
   have hbW:=(tQ hbel hbS)
   go_wp2_with (at_builtin;refine Rep.jU rfl _ _ 33 rfl (r:=kg) (e:=113) Tryz.underlying33 infData rfl rG rG (B:=w.heap.size) HO.out rO rO rfl (Rep.own.wide (T:=Btw wr.heap.size wT.heap.size) (OT.below ED) dM) rfl dX gP dM rJ rJ ?_)
   intro v2 w2 hown2 hbel2 hz2
   replace hown2:=Rep.kQ.cast hown2 (HSN.out.symm)
   have HO2:=yD hown2
   have hbel3:=hbW.trans hbel2
   clear hown2 HO hbel2
   go_wp2
   go_roundw
   case rel=>exact ⟨k + 1,by omega,by go_num,HO2,hbel3⟩
   simp [intOf];omega
 obtain rfl:k=l.length:=rJ
 go_wp2
 go_ret
 exact ⟨_,rfl,Rep.kQ.cast HO.out pF,hbel⟩
theorem kFt {w:World} {vl:Value} {l:List jD} (hl:(Rep.slice 159 kM).rd w [vl] l) :
    Calls Tryz.prog 129 #[vl] w (kDc 159 kM l w):=by
 have HL:=yD hl
 obtain ⟨la,lp,rfl,ll⟩:=Rep.sl hl.1
 have hlb:l.length≤16777216:=hl.2.1
 clear hl
 go_enter Tryz.func129,Tryz.ntmps129
 go_wp2
 have O0:Rep.kQ 159 kM (w.alloc (.cells #[] 159)) (.slice (some ⟨w.heap.size,0,none⟩) 0 0) [] (Btw w.heap.size (w.alloc (.cells #[] 159)).heap.size) :=
   Rep.yS (e:=159) (r:=kM) (w:=w) (cs:=[]) (xs:=[]) (T:=fun _=>False) rM rM rfl (fun _ h=>h.elim) ⟨Nat.le_refl _,by simp⟩
 go_loopw [3,9] (fun v i wr=>∃ k:Nat,k≤l.length∧i=.int .i64 k∧Hid (Rep.kQ 159 kM wr v (l.take k) (Btw w.heap.size wr.heap.size))∧Below w.heap.size w wr) (fun _ i _=>l.length - (intOf i).toNat)
 case atStart=>exact ⟨0,Nat.zero_le _,rfl,yD O0,bR.alloc nL _⟩
 clear O0
 obtain ⟨k,hk,rfl,HO,hbel⟩:=hrel
 obtain ⟨oa,on,oc,ho,HON⟩:=HO.out.parts;obtain rfl:=ho
 have hlk:(l.take k).length≤k:=rC
 by_cases hlt:k < l.length
 · obtain ⟨qb,qo,rfl,qc0,qc1,qc2,qr,Aq0,Aq1,Aq2⟩:=Rep.zT (HL.out.1.below hbel) hlt rfl
   have hbd:=Rep.jq HL.out hlt
   have hsn:=List.take_succ_eq_append_getElem hlt
   generalize l[k]=x at *
   have HSN:=yD hsn;clear hsn
   obtain ⟨x0,x1,x2⟩:=x
   obtain ⟨qv0,qhe,q_0,q_1,q_2,q_3⟩:=jK qr
   simp only [List.cons.injEq,and_true] at qhe
   obtain ⟨rfl,rfl,rfl⟩:=qhe
   obtain ⟨qa0,qp0,rfl,ql0⟩:=Rep.sl q_1
   have px0:kZ.rd wr _ x0:=⟨q_0,hbd.1⟩
   go_upto_region 5 with fail
   generalize hwC:World.alloc wr _=wC
   have EC:Below wr.heap.size wr wC:=mE
   have hzC:wC.heap.size=wr.heap.size + 1:=qH
   have M0:wC.cell? ⟨wr.heap.size,0,none⟩=some (.slice qa0 (x0).length qp0):=nK
   have M1:wC.cell? ⟨wr.heap.size,1,none⟩=some (.int .i64 x1):=nK
   have M2:wC.cell? ⟨wr.heap.size,2,none⟩=some (.int .i64 x2):=nK
   clear hwC
   have FX:=yD (fun (W:World) (hW:Below wC.heap.size wC W)=>cLs3 hW M0 M1 M2)
   refine jw (fun W=>Below wC.heap.size wC W) [(0,true),(1,true),(2,true),(4,true),(5,true),(6,true),(7,true),(3,false),(8,true),(9,false)] rA rA gI (bR.drew) ?_
   intro wS HS
   simp only [jO,List.length_cons,List.length_nil,List.getElem?_cons_succ,List.getElem?_cons_zero,List.map_cons,List.map_nil,List.cons_append,List.nil_append,List.drop_succ_cons,List.drop_zero]
   iterate 7
    all_goals refine wkR ?_
   all_goals first|(refine kL rfl HS ?_)|(refine jE rfl (fun K hK=>?_);go_simp;refine (yI (px0.below (tQ EC HS))).mono ?_;rintro e wT0 ⟨t0_c,rfl,OT0,hbT⟩;obtain ⟨t0_qv0,rfl,t0_q_0⟩:=kR OT0.raw;obtain ⟨t0_qa0,t0_qp0,rfl,t0_ql0⟩:=Rep.sl t0_q_0;skip;clear t0_q_0;replace OT0:=yD OT0;have hs0:=hbT.size;have hr0:=HS.size;replace HS:=(tQ HS hbT);refine hK _ _ HS ?_;clear hK K hbT)
   all_goals refine wkP ?_
   all_goals refine wkR ?_
   all_goals first|(refine kL rfl HS ?_)|(refine jE rfl (fun K hK=>?_);go_simp;refine hK _ _ (HS.alloc HS.size _) ?_;clear hK K)
   all_goals refine wkP ?_
   all_goals refine yF ?_
   have hsW:=HS.size
   have hsC:=EC.size
   have hrC:=hbel.size
   have hbS:Below wr.heap.size wr _:=(tQ EC HS)
   replace HO:=yD (HO.out.below hbS)
   have hbW:=(tQ hbel hbS)
   go_wp2_with (at_builtin;refine Rep.jU rfl _ _ 39 rfl (r:=kM) (e:=159) Tryz.underlying39 kDl rfl rG rG (B:=w.heap.size) HO.out rO rO rfl (Rep.own.wide (T:=Btw wr.heap.size wT0.heap.size) (Rep.jv (OT0.out) (Rep.jY (Rep.kr q_2) (Rep.kr q_3))) dM) rfl dX gP dM rJ mZ ?_)
   intro v2 w2 hown2 hbel2 hz2
   replace hown2:=Rep.kQ.cast hown2 (HSN.out.symm)
   have HO2:=yD hown2
   have hbel3:=hbW.trans hbel2
   clear hown2 HO hbel2
   go_wp2
   go_roundw
   case rel=>exact ⟨k + 1,by omega,by go_num,HO2,hbel3⟩
   simp [intOf];omega
 obtain rfl:k=l.length:=rJ
 go_wp2
 go_ret
 exact ⟨_,rfl,Rep.kQ.cast HO.out rM,hbel⟩
theorem kGj {w:World} {vl:Value} {l:List kv} (hl:(Rep.slice 166 kG).rd w [vl] l) :
    Calls Tryz.prog 130 #[vl] w (kDc 166 kG l w):=by
 have HL:=yD hl
 obtain ⟨la,lp,rfl,ll⟩:=Rep.sl hl.1
 have hlb:l.length≤16777216:=hl.2.1
 clear hl
 go_enter Tryz.func130,Tryz.ntmps130
 go_wp2
 have O0:Rep.kQ 166 kG (w.alloc (.cells #[] 166)) (.slice (some ⟨w.heap.size,0,none⟩) 0 0) [] (Btw w.heap.size (w.alloc (.cells #[] 166)).heap.size) :=
   Rep.yS (e:=166) (r:=kG) (w:=w) (cs:=[]) (xs:=[]) (T:=fun _=>False) rM rM rfl (fun _ h=>h.elim) ⟨Nat.le_refl _,by simp⟩
 go_loopw [3,9] (fun v i wr=>∃ k:Nat,k≤l.length∧i=.int .i64 k∧Hid (Rep.kQ 166 kG wr v (l.take k) (Btw w.heap.size wr.heap.size))∧Below w.heap.size w wr) (fun _ i _=>l.length - (intOf i).toNat)
 case atStart=>exact ⟨0,Nat.zero_le _,rfl,yD O0,bR.alloc nL _⟩
 clear O0
 obtain ⟨k,hk,rfl,HO,hbel⟩:=hrel
 obtain ⟨oa,on,oc,ho,HON⟩:=HO.out.parts;obtain rfl:=ho
 have hlk:(l.take k).length≤k:=rC
 by_cases hlt:k < l.length
 · obtain ⟨qb,qo,rfl,qc0,qc1,qc2,qr,Aq0,Aq1,Aq2⟩:=Rep.zT (HL.out.1.below hbel) hlt rfl
   have hbd:=Rep.jq HL.out hlt
   have hsn:=List.take_succ_eq_append_getElem hlt
   generalize l[k]=x at *
   have HSN:=yD hsn;clear hsn
   obtain ⟨x0,x1,x2⟩:=x
   obtain ⟨qv0,qhe,q_0,q_1,q_2,q_3⟩:=jf qr
   simp only [List.cons.injEq,and_true] at qhe
   obtain ⟨rfl,rfl,rfl⟩:=qhe
   obtain ⟨qa0,qp0,rfl,ql0⟩:=Rep.sl q_1
   have px0:kZ.rd wr _ x0:=⟨q_0,hbd.1⟩
   go_upto_region 5 with fail
   generalize hwC:World.alloc wr _=wC
   have EC:Below wr.heap.size wr wC:=mE
   have hzC:wC.heap.size=wr.heap.size + 1:=qH
   have M0:wC.cell? ⟨wr.heap.size,0,none⟩=some (.slice qa0 (x0).length qp0):=nK
   have M1:wC.cell? ⟨wr.heap.size,1,none⟩=some (.int .i64 x1):=nK
   have M2:wC.cell? ⟨wr.heap.size,2,none⟩=some (.int .i64 x2):=nK
   clear hwC
   have FX:=yD (fun (W:World) (hW:Below wC.heap.size wC W)=>cLs3 hW M0 M1 M2)
   refine jw (fun W=>Below wC.heap.size wC W) [(0,true),(1,true),(2,true),(4,true),(5,true),(6,true),(7,true),(3,false),(8,true),(9,false)] rA rA gI (bR.drew) ?_
   intro wS HS
   simp only [jO,List.length_cons,List.length_nil,List.getElem?_cons_succ,List.getElem?_cons_zero,List.map_cons,List.map_nil,List.cons_append,List.nil_append,List.drop_succ_cons,List.drop_zero]
   iterate 7
    all_goals refine wkR ?_
   all_goals first|(refine kL rfl HS ?_)|(refine jE rfl (fun K hK=>?_);go_simp;refine (yI (px0.below (tQ EC HS))).mono ?_;rintro e wT0 ⟨t0_c,rfl,OT0,hbT⟩;obtain ⟨t0_qv0,rfl,t0_q_0⟩:=kR OT0.raw;obtain ⟨t0_qa0,t0_qp0,rfl,t0_ql0⟩:=Rep.sl t0_q_0;skip;clear t0_q_0;replace OT0:=yD OT0;have hs0:=hbT.size;have hr0:=HS.size;replace HS:=(tQ HS hbT);refine hK _ _ HS ?_;clear hK K hbT)
   all_goals refine wkP ?_
   all_goals refine wkR ?_
   all_goals first|(refine kL rfl HS ?_)|(refine jE rfl (fun K hK=>?_);go_simp;refine hK _ _ (HS.alloc HS.size _) ?_;clear hK K)
   all_goals refine wkP ?_
   all_goals refine yF ?_
   have hsW:=HS.size
   have hsC:=EC.size
   have hrC:=hbel.size
   have hbS:Below wr.heap.size wr _:=(tQ EC HS)
   replace HO:=yD (HO.out.below hbS)
   have hbW:=(tQ hbel hbS)
   go_wp2_with (at_builtin;refine Rep.jU rfl _ _ 40 rfl (r:=kG) (e:=166) Tryz.underlying40 kHz rfl rG rG (B:=w.heap.size) HO.out rO rO rfl (Rep.own.wide (T:=Btw wr.heap.size wT0.heap.size) (Rep.jv (OT0.out) (Rep.jY (Rep.kr q_2) (Rep.kr q_3))) dM) rfl dX gP dM rJ mZ ?_)
   intro v2 w2 hown2 hbel2 hz2
   replace hown2:=Rep.kQ.cast hown2 (HSN.out.symm)
   have HO2:=yD hown2
   have hbel3:=hbW.trans hbel2
   clear hown2 HO hbel2
   go_wp2
   go_roundw
   case rel=>exact ⟨k + 1,by omega,by go_num,HO2,hbel3⟩
   simp [intOf];omega
 obtain rfl:k=l.length:=rJ
 go_wp2
 go_ret
 exact ⟨_,rfl,Rep.kQ.cast HO.out rM,hbel⟩
theorem kTn {w:World} {vl:Value} {l:List jD} (hl:(Rep.slice 159 kM).rd w [vl] l) :
    Calls Tryz.prog 107 #[vl] w (kDc 159 kM l w):=by
 have HL:=yD hl
 obtain ⟨la,lp,rfl,ll⟩:=Rep.sl hl.1
 have hlb:l.length≤16777216:=hl.2.1
 clear hl
 go_enter Tryz.func107,Tryz.ntmps107
 go_wp2
 have O0:Rep.kQ 159 kM (w.alloc (.cells #[] 159)) (.slice (some ⟨w.heap.size,0,none⟩) 0 0) [] (Btw w.heap.size (w.alloc (.cells #[] 159)).heap.size) :=
   Rep.yS (e:=159) (r:=kM) (w:=w) (cs:=[]) (xs:=[]) (T:=fun _=>False) rM rM rfl (fun _ h=>h.elim) ⟨Nat.le_refl _,by simp⟩
 go_loopw [3,4] (fun v i wr=>∃ k:Nat,k≤l.length∧i=.int .i64 k∧Hid (Rep.kQ 159 kM wr v (l.take k) (Btw w.heap.size wr.heap.size))∧Below w.heap.size w wr) (fun _ i _=>l.length - (intOf i).toNat)
 case atStart=>exact ⟨0,Nat.zero_le _,rfl,yD O0,bR.alloc nL _⟩
 clear O0
 obtain ⟨k,hk,rfl,HO,hbel⟩:=hrel
 obtain ⟨oa,on,oc,ho,HON⟩:=HO.out.parts;obtain rfl:=ho
 have hlk:(l.take k).length≤k:=rC
 by_cases hlt:k < l.length
 · obtain ⟨qb,qo,rfl,qc0,qc1,qc2,qr,Aq0,Aq1,Aq2⟩:=Rep.zT (HL.out.1.below hbel) hlt rfl
   have hbd:=Rep.jq HL.out hlt
   have hsn:=List.take_succ_eq_append_getElem hlt
   generalize l[k]=x at *
   have HSN:=yD hsn;clear hsn
   obtain ⟨x0,x1,x2⟩:=x
   obtain ⟨qv0,qhe,q_0,q_1,q_2,q_3⟩:=jK qr
   simp only [List.cons.injEq,and_true] at qhe
   obtain ⟨rfl,rfl,rfl⟩:=qhe
   obtain ⟨qa0,qp0,rfl,ql0⟩:=Rep.sl q_1
   have px0:kZ.rd wr _ x0:=⟨q_0,hbd.1⟩
   go_wp2_with fail
   refine (zX px0).mono ?_
   rintro e wT ⟨tc,rfl,OT,hbT⟩
   obtain ⟨tv0,rfl,t_0⟩:=kR OT.raw
   obtain ⟨ta0,tp0,rfl,_⟩:=Rep.sl t_0
   clear t_0
   go_upto_region 6 with fail
   generalize hwC:World.alloc wT _=wC
   have EC:Below wT.heap.size wT wC:=mE
   have K0:wC.cell? ⟨wT.heap.size,0,none⟩=some (.slice ta0 x0.length tp0):=nK
   clear hwC
   have ER:=(tQ hbT EC)
   replace Aq0:=cL ER Aq0
   replace Aq1:=cL ER Aq1
   replace Aq2:=cL ER Aq2
   have FX:=yD (fun (W:World) (hW:Below wC.heap.size wC W)=>kDa hW K0 Aq0 Aq1 Aq2)
   refine zN (fun W=>Below wC.heap.size wC W) [true,true,true,true,true,true,true,true,true,true,true,true,true,false] rA rA gI (bR.drew) ?_
   intro wS HS
   iterate 13
    all_goals refine wkR ?_
   all_goals first|(refine kL rfl HS ?_)|(refine jE rfl (fun K hK=>?_);go_simp;refine hK _ _ (HS.alloc HS.size _) ?_;clear hK K)
   all_goals refine wkP ?_
   all_goals refine yF ?_
   have hsW:=HS.size
   have hsC:=EC.size
   have hrC:=hbel.size
   have hsT:=hbT.size
   have hbS:Below wr.heap.size wr wS:=(tQ ER HS)
   replace HO:=yD (HO.out.below hbS)
   have hbW:=(tQ hbel hbS)
   go_wp2_with (at_builtin;refine Rep.jU rfl _ _ 39 rfl (r:=kM) (e:=159) Tryz.underlying39 kDl rfl rG rG (B:=w.heap.size) HO.out rO rO rfl (Rep.own.wide (T:=Btw wr.heap.size wT.heap.size) (Rep.jv (OT.below (tQ EC HS)) (Rep.jY (Rep.kr q_2) (Rep.kr q_3))) dM) rfl dX gP dM rJ mZ ?_)
   intro v2 w2 hown2 hbel2 hz2
   replace hown2:=Rep.kQ.cast hown2 (HSN.out.symm)
   have HO2:=yD hown2
   have hbel3:=hbW.trans hbel2
   clear hown2 HO hbel2
   go_wp2
   go_roundw
   case rel=>exact ⟨k + 1,by omega,by go_num,HO2,hbel3⟩
   simp [intOf];omega
 obtain rfl:k=l.length:=rJ
 go_wp2
 go_ret
 exact ⟨_,rfl,Rep.kQ.cast HO.out rM,hbel⟩
theorem kTm {w:World} {vl:Value} {l:List kv} (hl:(Rep.slice 166 kG).rd w [vl] l) :
    Calls Tryz.prog 108 #[vl] w (kDc 166 kG l w):=by
 have HL:=yD hl
 obtain ⟨la,lp,rfl,ll⟩:=Rep.sl hl.1
 have hlb:l.length≤16777216:=hl.2.1
 clear hl
 go_enter Tryz.func108,Tryz.ntmps108
 go_wp2
 have O0:Rep.kQ 166 kG (w.alloc (.cells #[] 166)) (.slice (some ⟨w.heap.size,0,none⟩) 0 0) [] (Btw w.heap.size (w.alloc (.cells #[] 166)).heap.size) :=
   Rep.yS (e:=166) (r:=kG) (w:=w) (cs:=[]) (xs:=[]) (T:=fun _=>False) rM rM rfl (fun _ h=>h.elim) ⟨Nat.le_refl _,by simp⟩
 go_loopw [3,4] (fun v i wr=>∃ k:Nat,k≤l.length∧i=.int .i64 k∧Hid (Rep.kQ 166 kG wr v (l.take k) (Btw w.heap.size wr.heap.size))∧Below w.heap.size w wr) (fun _ i _=>l.length - (intOf i).toNat)
 case atStart=>exact ⟨0,Nat.zero_le _,rfl,yD O0,bR.alloc nL _⟩
 clear O0
 obtain ⟨k,hk,rfl,HO,hbel⟩:=hrel
 obtain ⟨oa,on,oc,ho,HON⟩:=HO.out.parts;obtain rfl:=ho
 have hlk:(l.take k).length≤k:=rC
 by_cases hlt:k < l.length
 · obtain ⟨qb,qo,rfl,qc0,qc1,qc2,qr,Aq0,Aq1,Aq2⟩:=Rep.zT (HL.out.1.below hbel) hlt rfl
   have hbd:=Rep.jq HL.out hlt
   have hsn:=List.take_succ_eq_append_getElem hlt
   generalize l[k]=x at *
   have HSN:=yD hsn;clear hsn
   obtain ⟨x0,x1,x2⟩:=x
   obtain ⟨qv0,qhe,q_0,q_1,q_2,q_3⟩:=jf qr
   simp only [List.cons.injEq,and_true] at qhe
   obtain ⟨rfl,rfl,rfl⟩:=qhe
   obtain ⟨qa0,qp0,rfl,ql0⟩:=Rep.sl q_1
   have px0:kZ.rd wr _ x0:=⟨q_0,hbd.1⟩
   go_wp2_with fail
   refine (zX px0).mono ?_
   rintro e wT ⟨tc,rfl,OT,hbT⟩
   obtain ⟨tv0,rfl,t_0⟩:=kR OT.raw
   obtain ⟨ta0,tp0,rfl,_⟩:=Rep.sl t_0
   clear t_0
   go_upto_region 6 with fail
   generalize hwC:World.alloc wT _=wC
   have EC:Below wT.heap.size wT wC:=mE
   have K0:wC.cell? ⟨wT.heap.size,0,none⟩=some (.slice ta0 x0.length tp0):=nK
   clear hwC
   have ER:=(tQ hbT EC)
   replace Aq0:=cL ER Aq0
   replace Aq1:=cL ER Aq1
   replace Aq2:=cL ER Aq2
   have FX:=yD (fun (W:World) (hW:Below wC.heap.size wC W)=>kDa hW K0 Aq0 Aq1 Aq2)
   refine zN (fun W=>Below wC.heap.size wC W) [true,true,true,true,true,true,true,true,true,true,true,true,true,false] rA rA gI (bR.drew) ?_
   intro wS HS
   iterate 13
    all_goals refine wkR ?_
   all_goals first|(refine kL rfl HS ?_)|(refine jE rfl (fun K hK=>?_);go_simp;refine hK _ _ (HS.alloc HS.size _) ?_;clear hK K)
   all_goals refine wkP ?_
   all_goals refine yF ?_
   have hsW:=HS.size
   have hsC:=EC.size
   have hrC:=hbel.size
   have hsT:=hbT.size
   have hbS:Below wr.heap.size wr wS:=(tQ ER HS)
   replace HO:=yD (HO.out.below hbS)
   have hbW:=(tQ hbel hbS)
   go_wp2_with (at_builtin;refine Rep.jU rfl _ _ 40 rfl (r:=kG) (e:=166) Tryz.underlying40 kHz rfl rG rG (B:=w.heap.size) HO.out rO rO rfl (Rep.own.wide (T:=Btw wr.heap.size wT.heap.size) (Rep.jv (OT.below (tQ EC HS)) (Rep.jY (Rep.kr q_2) (Rep.kr q_3))) dM) rfl dX gP dM rJ mZ ?_)
   intro v2 w2 hown2 hbel2 hz2
   replace hown2:=Rep.kQ.cast hown2 (HSN.out.symm)
   have HO2:=yD hown2
   have hbel3:=hbW.trans hbel2
   clear hown2 HO hbel2
   go_wp2
   go_roundw
   case rel=>exact ⟨k + 1,by omega,by go_num,HO2,hbel3⟩
   simp [intOf];omega
 obtain rfl:k=l.length:=rJ
 go_wp2
 go_ret
 exact ⟨_,rfl,Rep.kQ.cast HO.out rM,hbel⟩
def kQm (x:yZ) (w:World) (e:Ending) (w':World):Prop :=
  ∃ (v:Value) (ds:List Value) (mid:Nat),e=.returned (.agg (v :: ds).toArray)∧Rep.kQ 113 kg w' v x.1 (Btw w.heap.size mid)∧(Rep.pair kH (Rep.pair (Rep.slice 77 kD) (Rep.pair (Rep.slice 157 kI) (Rep.pair (Rep.slice 159 kM) (Rep.pair (Rep.slice 166 kG) Rep.int))))).own w' ds x.2 (Btw mid w'.heap.size)∧w.heap.size≤mid∧mid≤w'.heap.size∧Below w.heap.size w w'
theorem kQm.made {x:yZ} {w:World} {e:Ending} {w':World} (h:kQm x w e w') (hb:jM.bdd Big x):yK jM x w e w':=by
 obtain ⟨v,ds,mid,rfl,h1,h2,h3,h4,h5⟩:=h
 refine ⟨v :: ds,rfl,?_,h5⟩
 exact Rep.jZ (r:=Rep.slice 113 kg) (q:=(Rep.pair kH (Rep.pair (Rep.slice 77 kD) (Rep.pair (Rep.slice 157 kI) (Rep.pair (Rep.slice 159 kM) (Rep.pair (Rep.slice 166 kG) Rep.int)))))) (cs:=[v]) (ds:=ds) (x:=x.1) (y:=x.2) (S:=Btw w.heap.size w'.heap.size) (h1.own hb.1.1) h2 gP gQ dX
theorem kRe {w:World} {cx:List Value} {x:yZ} (hx:jM.rd w cx x):Calls Tryz.prog 27 #[.agg cx.toArray] w (kQm x w):=by
 obtain ⟨q0,q1,q2,q3,q4,q5,q6⟩:=hx.2
 have HB0:Hid (x.1.length≤Big):=yD q0.1
 have HB2:Hid (x.2.2.1.length≤Big):=yD q2.1
 have HB3:Hid (x.2.2.2.1.length≤Big):=yD q3.1
 have HB4:Hid (x.2.2.2.2.1.length≤Big):=yD q4.1
 have HB5:Hid (x.2.2.2.2.2.1.length≤Big):=yD q5.1
 obtain ⟨av0,av2,av3,av4,av5,av6,rfl,a_0,a_1,a_2,a_3,a_4,a_5,a_6,a_7,a_8⟩:=jm hx.1
 obtain ⟨aa0,ap0,rfl,al0⟩:=Rep.sl a_0
 obtain ⟨aa2,ap2,rfl,al2⟩:=Rep.sl a_3
 obtain ⟨aa3,ap3,rfl,al3⟩:=Rep.sl a_4
 obtain ⟨aa4,ap4,rfl,al4⟩:=Rep.sl a_5
 obtain ⟨aa5,ap5,rfl,al5⟩:=Rep.sl a_6
 obtain ⟨aa6,ap6,rfl,al6⟩:=Rep.sl a_7
 have RD0:Hid ((Rep.slice 113 kg).rd w [.slice aa0 x.1.length ap0] x.1):=yD ⟨a_0,q0⟩
 have RD1:Hid (kH.rd w [.int .i64 x.2.1.1,.slice aa2 x.2.1.2.length ap2] x.2.1):=yD ⟨a_1,q1⟩
 have RD2:Hid ((Rep.slice 77 kD).rd w [.slice aa3 x.2.2.1.length ap3] x.2.2.1):=yD ⟨a_4,q2⟩
 have RD3:Hid ((Rep.slice 157 kI).rd w [.slice aa4 x.2.2.2.1.length ap4] x.2.2.2.1):=yD ⟨a_5,q3⟩
 have RD4:Hid ((Rep.slice 159 kM).rd w [.slice aa5 x.2.2.2.2.1.length ap5] x.2.2.2.2.1):=yD ⟨a_6,q4⟩
 have RD5:Hid ((Rep.slice 166 kG).rd w [.slice aa6 x.2.2.2.2.2.1.length ap6] x.2.2.2.2.2.1):=yD ⟨a_7,q5⟩
 have HDR:=yD a_8
 clear hx q0 q1 q2 q3 q4 q5 q6 a_0 a_1 a_2 a_3 a_4 a_5 a_6 a_7 a_8
 go_enter Tryz.func27,Tryz.ntmps27
 go_upto_region 1 with fail
 generalize hwB:World.alloc (World.alloc w _) _=wB
 have EB:Below w.heap.size w wB:=by rw [← hwB];exact bD
 have K0:wB.cell? ⟨w.heap.size,0,none⟩=some (.slice aa0 x.1.length ap0):=nJ
 have K1:wB.cell? ⟨w.heap.size,1,none⟩=some (.int .i64 x.2.1.1):=nJ
 have K2:wB.cell? ⟨w.heap.size,2,none⟩=some (.slice aa2 x.2.1.2.length ap2):=nJ
 have K3:wB.cell? ⟨w.heap.size,3,none⟩=some (.slice aa3 x.2.2.1.length ap3):=nJ
 have K4:wB.cell? ⟨w.heap.size,4,none⟩=some (.slice aa4 x.2.2.2.1.length ap4):=nJ
 have K5:wB.cell? ⟨w.heap.size,5,none⟩=some (.slice aa5 x.2.2.2.2.1.length ap5):=nJ
 have K6:wB.cell? ⟨w.heap.size,6,none⟩=some (.slice aa6 x.2.2.2.2.2.1.length ap6):=nJ
 have K7:wB.cell? ⟨w.heap.size,7,none⟩=some (.int .i64 x.2.2.2.2.2.2):=nJ
 have XR:wB.heap[w.heap.size + 1]?=some (.cells #[.slice none 0 0,.int .i64 0,.slice none 0 0,.slice none 0 0,.slice none 0 0,.slice none 0 0,.slice none 0 0,.int .i64 0] 42 (0,0)):=by rw [← hwB];exact kW rM
 have hzB:wB.heap.size=w.heap.size + 2:=qF
 clear hwB
 have FX:=yD (fun (W:World) (hW:Below wB.heap.size wB W)=>cLs8 hW K0 K1 K2 K3 K4 K5 K6 K7)
 refine jw (fun W=>Below wB.heap.size wB W) [(0,true),(1,true),(3,true),(4,true),(6,true),(7,true),(9,true),(10,true),(12,true),(13,true),(15,true),(16,true),(18,true),(19,true),(2,false),(5,false),(8,false),(11,false),(14,false),(17,false),(20,true)] rA rA gI (bR.drew) ?_
 intro wS HS
 simp only [jO,List.length_cons,List.length_nil,List.getElem?_cons_succ,List.getElem?_cons_zero,List.map_cons,List.map_nil,List.cons_append,List.nil_append,List.drop_succ_cons,List.drop_zero]
 iterate 14
  all_goals refine wkR ?_
 all_goals first|(refine kL rfl HS ?_)|(refine jE rfl (fun K hK=>?_);go_simp;refine (kPf (RD0.out.below (tQ EB HS))).mono ?_;rintro e u0 ⟨v1,rfl,O1,hbU⟩;obtain ⟨ba0,bn0,bp0,hv1,HN0⟩:=O1.parts;obtain rfl:=hv1;have HO0:=yD O1;clear O1;have hz0:=hbU.size;have hs0:=HS.size;replace HS:=(tQ HS hbU);refine hK _ _ HS ?_;clear hK K hbU)
 all_goals refine wkP ?_
 all_goals first|(refine kL rfl HS ?_)|(refine jE rfl (fun K hK=>?_);go_simp;refine (kJv (RD1.out.below (tQ EB HS))).mono ?_;rintro e u1 ⟨cs,rfl,O2,hbU⟩;obtain ⟨cv,rfl,c_0,c_1⟩:=jG O2.raw;obtain ⟨ba1,bp1,rfl,_⟩:=Rep.sl c_1;have HO1:=yD O2;clear O2 c_0 c_1;replace HO0:=yD (HO0.out.below hbU);have hz1:=hbU.size;have hs1:=HS.size;replace HS:=(tQ HS hbU);refine hK _ _ HS ?_;clear hK K hbU)
 all_goals refine wkP ?_
 all_goals first|(refine kL rfl HS ?_)|(refine jE rfl (fun K hK=>?_);go_simp;refine (kFg (RD2.out.below (tQ EB HS))).mono ?_;rintro e u2 ⟨v1,rfl,O1,hbU⟩;obtain ⟨ba2,bn2,bp2,hv1,HN2⟩:=O1.parts;obtain rfl:=hv1;have HO2:=yD (O1.own HB2.out);clear O1;replace HO0:=yD (HO0.out.below hbU);replace HO1:=yD (HO1.out.below hbU);have hz2:=hbU.size;have hs2:=HS.size;replace HS:=(tQ HS hbU);refine hK _ _ HS ?_;clear hK K hbU)
 all_goals refine wkP ?_
 all_goals first|(refine kL rfl HS ?_)|(refine jE rfl (fun K hK=>?_);go_simp;refine (kJu (RD3.out.below (tQ EB HS))).mono ?_;rintro e u3 ⟨v1,rfl,O1,hbU⟩;obtain ⟨ba3,bn3,bp3,hv1,HN3⟩:=O1.parts;obtain rfl:=hv1;have HO3:=yD (O1.own HB3.out);clear O1;replace HO0:=yD (HO0.out.below hbU);replace HO1:=yD (HO1.out.below hbU);replace HO2:=yD (HO2.out.below hbU);have hz3:=hbU.size;have hs3:=HS.size;replace HS:=(tQ HS hbU);refine hK _ _ HS ?_;clear hK K hbU)
 all_goals refine wkP ?_
 all_goals first|(refine kL rfl HS ?_)|(refine jE rfl (fun K hK=>?_);go_simp;refine (kTn (RD4.out.below (tQ EB HS))).mono ?_;rintro e u4 ⟨v1,rfl,O1,hbU⟩;obtain ⟨ba4,bn4,bp4,hv1,HN4⟩:=O1.parts;obtain rfl:=hv1;have HO4:=yD (O1.own HB4.out);clear O1;replace HO0:=yD (HO0.out.below hbU);replace HO1:=yD (HO1.out.below hbU);replace HO2:=yD (HO2.out.below hbU);replace HO3:=yD (HO3.out.below hbU);have hz4:=hbU.size;have hs4:=HS.size;replace HS:=(tQ HS hbU);refine hK _ _ HS ?_;clear hK K hbU)
 all_goals refine wkP ?_
 all_goals first|(refine kL rfl HS ?_)|(refine jE rfl (fun K hK=>?_);go_simp;refine (kTm (RD5.out.below (tQ EB HS))).mono ?_;rintro e u5 ⟨v1,rfl,O1,hbU⟩;obtain ⟨ba5,bn5,bp5,hv1,HN5⟩:=O1.parts;obtain rfl:=hv1;have HO5:=yD (O1.own HB5.out);clear O1;replace HO0:=yD (HO0.out.below hbU);replace HO1:=yD (HO1.out.below hbU);replace HO2:=yD (HO2.out.below hbU);replace HO3:=yD (HO3.out.below hbU);replace HO4:=yD (HO4.out.below hbU);have hz5:=hbU.size;have hs5:=HS.size;replace HS:=(tQ HS hbU);refine hK _ _ HS ?_;clear hK K hbU)
 all_goals refine wkP ?_
 all_goals refine wkR ?_
 all_goals refine yF ?_
 have X1:=kE XR HS
 have E1:=(tQ EB HS)
 have M0:=kN (b:=w.heap.size + 1) X1 (j:=0) rfl
 have F0:=frozen_of_row u5 (w.heap.size + 1) 0 _ _ X1
 have M1:=kN (b:=w.heap.size + 1) X1 (j:=1) rfl
 have F1:=frozen_of_row u5 (w.heap.size + 1) 1 _ _ X1
 have M2:=kN (b:=w.heap.size + 1) X1 (j:=2) rfl
 have F2:=frozen_of_row u5 (w.heap.size + 1) 2 _ _ X1
 have M3:=kN (b:=w.heap.size + 1) X1 (j:=3) rfl
 have F3:=frozen_of_row u5 (w.heap.size + 1) 3 _ _ X1
 have M4:=kN (b:=w.heap.size + 1) X1 (j:=4) rfl
 have F4:=frozen_of_row u5 (w.heap.size + 1) 4 _ _ X1
 have M5:=kN (b:=w.heap.size + 1) X1 (j:=5) rfl
 have F5:=frozen_of_row u5 (w.heap.size + 1) 5 _ _ X1
 have M6:=kN (b:=w.heap.size + 1) X1 (j:=6) rfl
 have F6:=frozen_of_row u5 (w.heap.size + 1) 6 _ _ X1
 have M7:=kN (b:=w.heap.size + 1) X1 (j:=7) rfl
 have F7:=frozen_of_row u5 (w.heap.size + 1) 7 _ _ X1
 go_wp2
 refine bodyPost_ret (v:=.agg #[.slice ba0 bn0 bp0,.int .i64 x.2.1.1,.slice ba1 x.2.1.2.length bp1,.slice ba2 bn2 bp2,.slice ba3 bn3 bp3,.slice ba4 bn4 bp4,.slice ba5 bn5 bp5,.int .i64 x.2.2.2.2.2.2]) (by simp [results,Tryz.results27,go_sem,M0,F0,M1,F1,M2,F2,M3,F3,M4,F4,M5,F5,M6,F6,M7,F7]) rfl ⟨_,[_,_,_,_,_,_,_],u0.heap.size,rfl,?_,?_,by have:=E1.size;omega,by simp [World.setCell];omega,?_⟩
 · refine Rep.kQ.wide (S:=Btw wS.heap.size u0.heap.size) (Rep.kQ.keep HO0.out ?_) ?_
   · exact (fun j h1 h2=>by have p1:=h1.1;have p2:=h1.2;simp (discharger:=(simp;omega)) only [heap_setCell_other])
   exact gQ
 · refine Rep.own.wide (S:=Btw (u0.heap.size) (u5.heap.size)) ?_ cK
   exact Rep.jZ (r:=kH) (q:=(Rep.pair (Rep.slice 77 kD) (Rep.pair (Rep.slice 157 kI) (Rep.pair (Rep.slice 159 kM) (Rep.pair (Rep.slice 166 kG) Rep.int))))) (cs:=[.int .i64 x.2.1.1,.slice ba1 x.2.1.2.length bp1]) (ds:=[.slice ba2 bn2 bp2,.slice ba3 bn3 bp3,.slice ba4 bn4 bp4,.slice ba5 bn5 bp5,.int .i64 x.2.2.2.2.2.2]) (x:=x.2.1) (y:=x.2.2) (S:=Btw (u0.heap.size) (u5.heap.size)) (Rep.own.out HO1.out cB) (Rep.jZ (r:=(Rep.slice 77 kD)) (q:=(Rep.pair (Rep.slice 157 kI) (Rep.pair (Rep.slice 159 kM) (Rep.pair (Rep.slice 166 kG) Rep.int)))) (cs:=[.slice ba2 bn2 bp2]) (ds:=[.slice ba3 bn3 bp3,.slice ba4 bn4 bp4,.slice ba5 bn5 bp5,.int .i64 x.2.2.2.2.2.2]) (x:=x.2.2.1) (y:=x.2.2.2) (S:=Btw (u1.heap.size) (u5.heap.size)) (Rep.own.out HO2.out cB) (Rep.jZ (r:=(Rep.slice 157 kI)) (q:=(Rep.pair (Rep.slice 159 kM) (Rep.pair (Rep.slice 166 kG) Rep.int))) (cs:=[.slice ba3 bn3 bp3]) (ds:=[.slice ba4 bn4 bp4,.slice ba5 bn5 bp5,.int .i64 x.2.2.2.2.2.2]) (x:=x.2.2.2.1) (y:=x.2.2.2.2) (S:=Btw (u2.heap.size) (u5.heap.size)) (Rep.own.out HO3.out cB) (Rep.jZ (r:=(Rep.slice 159 kM)) (q:=(Rep.pair (Rep.slice 166 kG) Rep.int)) (cs:=[.slice ba4 bn4 bp4]) (ds:=[.slice ba5 bn5 bp5,.int .i64 x.2.2.2.2.2.2]) (x:=x.2.2.2.2.1) (y:=x.2.2.2.2.2) (S:=Btw (u3.heap.size) (u5.heap.size)) (Rep.own.out HO4.out cB) (Rep.jv (r:=(Rep.slice 166 kG)) (q:=Rep.int) (cs:=[.slice ba5 bn5 bp5]) (ds:=[.int .i64 x.2.2.2.2.2.2]) (x:=x.2.2.2.2.2.1) (y:=x.2.2.2.2.2.2) (Rep.own.out HO5.out cB) (Rep.kr HDR.out)) gP gQ dX) gP gQ dX) gP gQ dX) gP gQ dX
 repeat (first|(with_reducible exact E1) | refine Below.setCell ?_ mF _)
theorem kHo {w:World} {cx:List Value} {x:yZ} (hx:jM.rd w cx x):Calls Tryz.prog 27 #[.agg cx.toArray] w (yK jM x w) :=
  (kRe hx).mono fun e w' h=>h.made hx.2
theorem kSi {w:World} {cx:List Value} {x:yZ} (hx:jM.rd w cx x):Calls Tryz.prog 41 #[.agg cx.toArray] w (kQm x w):=by
 obtain ⟨q0,q1,q2,q3,q4,q5,q6⟩:=hx.2
 have HB0:Hid (x.1.length≤Big):=yD q0.1
 have HB2:Hid (x.2.2.1.length≤Big):=yD q2.1
 have HB3:Hid (x.2.2.2.1.length≤Big):=yD q3.1
 have HB4:Hid (x.2.2.2.2.1.length≤Big):=yD q4.1
 have HB5:Hid (x.2.2.2.2.2.1.length≤Big):=yD q5.1
 obtain ⟨av0,av2,av3,av4,av5,av6,rfl,a_0,a_1,a_2,a_3,a_4,a_5,a_6,a_7,a_8⟩:=jm hx.1
 obtain ⟨aa0,ap0,rfl,al0⟩:=Rep.sl a_0
 obtain ⟨aa2,ap2,rfl,al2⟩:=Rep.sl a_3
 obtain ⟨aa3,ap3,rfl,al3⟩:=Rep.sl a_4
 obtain ⟨aa4,ap4,rfl,al4⟩:=Rep.sl a_5
 obtain ⟨aa5,ap5,rfl,al5⟩:=Rep.sl a_6
 obtain ⟨aa6,ap6,rfl,al6⟩:=Rep.sl a_7
 have RD0:Hid ((Rep.slice 113 kg).rd w [.slice aa0 x.1.length ap0] x.1):=yD ⟨a_0,q0⟩
 have RD1:Hid (kH.rd w [.int .i64 x.2.1.1,.slice aa2 x.2.1.2.length ap2] x.2.1):=yD ⟨a_1,q1⟩
 have RD2:Hid ((Rep.slice 77 kD).rd w [.slice aa3 x.2.2.1.length ap3] x.2.2.1):=yD ⟨a_4,q2⟩
 have RD3:Hid ((Rep.slice 157 kI).rd w [.slice aa4 x.2.2.2.1.length ap4] x.2.2.2.1):=yD ⟨a_5,q3⟩
 have RD4:Hid ((Rep.slice 159 kM).rd w [.slice aa5 x.2.2.2.2.1.length ap5] x.2.2.2.2.1):=yD ⟨a_6,q4⟩
 have RD5:Hid ((Rep.slice 166 kG).rd w [.slice aa6 x.2.2.2.2.2.1.length ap6] x.2.2.2.2.2.1):=yD ⟨a_7,q5⟩
 have HDR:=yD a_8
 clear hx q0 q1 q2 q3 q4 q5 q6 a_0 a_1 a_2 a_3 a_4 a_5 a_6 a_7 a_8
 go_enter Tryz.func41,Tryz.ntmps41
 go_upto_region 1 with fail
 generalize hwB:World.alloc (World.alloc w _) _=wB
 have EB:Below w.heap.size w wB:=by rw [← hwB];exact bD
 have K0:wB.cell? ⟨w.heap.size,0,none⟩=some (.slice aa0 x.1.length ap0):=nJ
 have K1:wB.cell? ⟨w.heap.size,1,none⟩=some (.int .i64 x.2.1.1):=nJ
 have K2:wB.cell? ⟨w.heap.size,2,none⟩=some (.slice aa2 x.2.1.2.length ap2):=nJ
 have K3:wB.cell? ⟨w.heap.size,3,none⟩=some (.slice aa3 x.2.2.1.length ap3):=nJ
 have K4:wB.cell? ⟨w.heap.size,4,none⟩=some (.slice aa4 x.2.2.2.1.length ap4):=nJ
 have K5:wB.cell? ⟨w.heap.size,5,none⟩=some (.slice aa5 x.2.2.2.2.1.length ap5):=nJ
 have K6:wB.cell? ⟨w.heap.size,6,none⟩=some (.slice aa6 x.2.2.2.2.2.1.length ap6):=nJ
 have K7:wB.cell? ⟨w.heap.size,7,none⟩=some (.int .i64 x.2.2.2.2.2.2):=nJ
 have XR:wB.heap[w.heap.size + 1]?=some (.cells #[.slice none 0 0,.int .i64 0,.slice none 0 0,.slice none 0 0,.slice none 0 0,.slice none 0 0,.slice none 0 0,.int .i64 0] 42 (0,0)):=by rw [← hwB];exact kW rM
 have hzB:wB.heap.size=w.heap.size + 2:=qF
 clear hwB
 have FX:=yD (fun (W:World) (hW:Below wB.heap.size wB W)=>cLs8 hW K0 K1 K2 K3 K4 K5 K6 K7)
 refine jw (fun W=>Below wB.heap.size wB W) [(0,true),(1,true),(3,true),(4,true),(6,true),(7,true),(9,true),(10,true),(12,true),(13,true),(15,true),(16,true),(18,true),(19,true),(2,false),(5,false),(8,false),(11,false),(14,false),(17,false),(20,true)] rA rA gI (bR.drew) ?_
 intro wS HS
 simp only [jO,List.length_cons,List.length_nil,List.getElem?_cons_succ,List.getElem?_cons_zero,List.map_cons,List.map_nil,List.cons_append,List.nil_append,List.drop_succ_cons,List.drop_zero]
 iterate 14
  all_goals refine wkR ?_
 all_goals first|(refine kL rfl HS ?_)|(refine jE rfl (fun K hK=>?_);go_simp;refine (kPo (RD0.out.below (tQ EB HS))).mono ?_;rintro e u0 ⟨v1,rfl,O1,hbU⟩;obtain ⟨ba0,bn0,bp0,hv1,HN0⟩:=O1.parts;obtain rfl:=hv1;have HO0:=yD O1;clear O1;have hz0:=hbU.size;have hs0:=HS.size;replace HS:=(tQ HS hbU);refine hK _ _ HS ?_;clear hK K hbU)
 all_goals refine wkP ?_
 all_goals first|(refine kL rfl HS ?_)|(refine jE rfl (fun K hK=>?_);go_simp;refine (kHb (RD1.out.below (tQ EB HS))).mono ?_;rintro e u1 ⟨cs,rfl,O2,hbU⟩;obtain ⟨cv,rfl,c_0,c_1⟩:=jG O2.raw;obtain ⟨ba1,bp1,rfl,_⟩:=Rep.sl c_1;have HO1:=yD O2;clear O2 c_0 c_1;replace HO0:=yD (HO0.out.below hbU);have hz1:=hbU.size;have hs1:=HS.size;replace HS:=(tQ HS hbU);refine hK _ _ HS ?_;clear hK K hbU)
 all_goals refine wkP ?_
 all_goals first|(refine kL rfl HS ?_)|(refine jE rfl (fun K hK=>?_);go_simp;refine (kFa (RD2.out.below (tQ EB HS))).mono ?_;rintro e u2 ⟨v1,rfl,O1,hbU⟩;obtain ⟨ba2,bn2,bp2,hv1,HN2⟩:=O1.parts;obtain rfl:=hv1;have HO2:=yD (O1.own HB2.out);clear O1;replace HO0:=yD (HO0.out.below hbU);replace HO1:=yD (HO1.out.below hbU);have hz2:=hbU.size;have hs2:=HS.size;replace HS:=(tQ HS hbU);refine hK _ _ HS ?_;clear hK K hbU)
 all_goals refine wkP ?_
 all_goals first|(refine kL rfl HS ?_)|(refine jE rfl (fun K hK=>?_);go_simp;refine (kIa (RD3.out.below (tQ EB HS))).mono ?_;rintro e u3 ⟨v1,rfl,O1,hbU⟩;obtain ⟨ba3,bn3,bp3,hv1,HN3⟩:=O1.parts;obtain rfl:=hv1;have HO3:=yD (O1.own HB3.out);clear O1;replace HO0:=yD (HO0.out.below hbU);replace HO1:=yD (HO1.out.below hbU);replace HO2:=yD (HO2.out.below hbU);have hz3:=hbU.size;have hs3:=HS.size;replace HS:=(tQ HS hbU);refine hK _ _ HS ?_;clear hK K hbU)
 all_goals refine wkP ?_
 all_goals first|(refine kL rfl HS ?_)|(refine jE rfl (fun K hK=>?_);go_simp;refine (kFt (RD4.out.below (tQ EB HS))).mono ?_;rintro e u4 ⟨v1,rfl,O1,hbU⟩;obtain ⟨ba4,bn4,bp4,hv1,HN4⟩:=O1.parts;obtain rfl:=hv1;have HO4:=yD (O1.own HB4.out);clear O1;replace HO0:=yD (HO0.out.below hbU);replace HO1:=yD (HO1.out.below hbU);replace HO2:=yD (HO2.out.below hbU);replace HO3:=yD (HO3.out.below hbU);have hz4:=hbU.size;have hs4:=HS.size;replace HS:=(tQ HS hbU);refine hK _ _ HS ?_;clear hK K hbU)
 all_goals refine wkP ?_
 all_goals first|(refine kL rfl HS ?_)|(refine jE rfl (fun K hK=>?_);go_simp;refine (kGj (RD5.out.below (tQ EB HS))).mono ?_;rintro e u5 ⟨v1,rfl,O1,hbU⟩;obtain ⟨ba5,bn5,bp5,hv1,HN5⟩:=O1.parts;obtain rfl:=hv1;have HO5:=yD (O1.own HB5.out);clear O1;replace HO0:=yD (HO0.out.below hbU);replace HO1:=yD (HO1.out.below hbU);replace HO2:=yD (HO2.out.below hbU);replace HO3:=yD (HO3.out.below hbU);replace HO4:=yD (HO4.out.below hbU);have hz5:=hbU.size;have hs5:=HS.size;replace HS:=(tQ HS hbU);refine hK _ _ HS ?_;clear hK K hbU)
 all_goals refine wkP ?_
 all_goals refine wkR ?_
 all_goals refine yF ?_
 have X1:=kE XR HS
 have E1:=(tQ EB HS)
 have M0:=kN (b:=w.heap.size + 1) X1 (j:=0) rfl
 have F0:=frozen_of_row u5 (w.heap.size + 1) 0 _ _ X1
 have M1:=kN (b:=w.heap.size + 1) X1 (j:=1) rfl
 have F1:=frozen_of_row u5 (w.heap.size + 1) 1 _ _ X1
 have M2:=kN (b:=w.heap.size + 1) X1 (j:=2) rfl
 have F2:=frozen_of_row u5 (w.heap.size + 1) 2 _ _ X1
 have M3:=kN (b:=w.heap.size + 1) X1 (j:=3) rfl
 have F3:=frozen_of_row u5 (w.heap.size + 1) 3 _ _ X1
 have M4:=kN (b:=w.heap.size + 1) X1 (j:=4) rfl
 have F4:=frozen_of_row u5 (w.heap.size + 1) 4 _ _ X1
 have M5:=kN (b:=w.heap.size + 1) X1 (j:=5) rfl
 have F5:=frozen_of_row u5 (w.heap.size + 1) 5 _ _ X1
 have M6:=kN (b:=w.heap.size + 1) X1 (j:=6) rfl
 have F6:=frozen_of_row u5 (w.heap.size + 1) 6 _ _ X1
 have M7:=kN (b:=w.heap.size + 1) X1 (j:=7) rfl
 have F7:=frozen_of_row u5 (w.heap.size + 1) 7 _ _ X1
 go_wp2
 refine bodyPost_ret (v:=.agg #[.slice ba0 bn0 bp0,.int .i64 x.2.1.1,.slice ba1 x.2.1.2.length bp1,.slice ba2 bn2 bp2,.slice ba3 bn3 bp3,.slice ba4 bn4 bp4,.slice ba5 bn5 bp5,.int .i64 x.2.2.2.2.2.2]) (by simp [results,Tryz.results41,go_sem,M0,F0,M1,F1,M2,F2,M3,F3,M4,F4,M5,F5,M6,F6,M7,F7]) rfl ⟨_,[_,_,_,_,_,_,_],u0.heap.size,rfl,?_,?_,by have:=E1.size;omega,by simp [World.setCell];omega,?_⟩
 · refine Rep.kQ.wide (S:=Btw wS.heap.size u0.heap.size) (Rep.kQ.keep HO0.out ?_) ?_
   · exact (fun j h1 h2=>by have p1:=h1.1;have p2:=h1.2;simp (discharger:=(simp;omega)) only [heap_setCell_other])
   exact gQ
 · refine Rep.own.wide (S:=Btw (u0.heap.size) (u5.heap.size)) ?_ cK
   exact Rep.jZ (r:=kH) (q:=(Rep.pair (Rep.slice 77 kD) (Rep.pair (Rep.slice 157 kI) (Rep.pair (Rep.slice 159 kM) (Rep.pair (Rep.slice 166 kG) Rep.int))))) (cs:=[.int .i64 x.2.1.1,.slice ba1 x.2.1.2.length bp1]) (ds:=[.slice ba2 bn2 bp2,.slice ba3 bn3 bp3,.slice ba4 bn4 bp4,.slice ba5 bn5 bp5,.int .i64 x.2.2.2.2.2.2]) (x:=x.2.1) (y:=x.2.2) (S:=Btw (u0.heap.size) (u5.heap.size)) (Rep.own.out HO1.out cB) (Rep.jZ (r:=(Rep.slice 77 kD)) (q:=(Rep.pair (Rep.slice 157 kI) (Rep.pair (Rep.slice 159 kM) (Rep.pair (Rep.slice 166 kG) Rep.int)))) (cs:=[.slice ba2 bn2 bp2]) (ds:=[.slice ba3 bn3 bp3,.slice ba4 bn4 bp4,.slice ba5 bn5 bp5,.int .i64 x.2.2.2.2.2.2]) (x:=x.2.2.1) (y:=x.2.2.2) (S:=Btw (u1.heap.size) (u5.heap.size)) (Rep.own.out HO2.out cB) (Rep.jZ (r:=(Rep.slice 157 kI)) (q:=(Rep.pair (Rep.slice 159 kM) (Rep.pair (Rep.slice 166 kG) Rep.int))) (cs:=[.slice ba3 bn3 bp3]) (ds:=[.slice ba4 bn4 bp4,.slice ba5 bn5 bp5,.int .i64 x.2.2.2.2.2.2]) (x:=x.2.2.2.1) (y:=x.2.2.2.2) (S:=Btw (u2.heap.size) (u5.heap.size)) (Rep.own.out HO3.out cB) (Rep.jZ (r:=(Rep.slice 159 kM)) (q:=(Rep.pair (Rep.slice 166 kG) Rep.int)) (cs:=[.slice ba4 bn4 bp4]) (ds:=[.slice ba5 bn5 bp5,.int .i64 x.2.2.2.2.2.2]) (x:=x.2.2.2.2.1) (y:=x.2.2.2.2.2) (S:=Btw (u3.heap.size) (u5.heap.size)) (Rep.own.out HO4.out cB) (Rep.jv (r:=(Rep.slice 166 kG)) (q:=Rep.int) (cs:=[.slice ba5 bn5 bp5]) (ds:=[.int .i64 x.2.2.2.2.2.2]) (x:=x.2.2.2.2.2.1) (y:=x.2.2.2.2.2.2) (Rep.own.out HO5.out cB) (Rep.kr HDR.out)) gP gQ dX) gP gQ dX) gP gQ dX) gP gQ dX
 repeat (first|(with_reducible exact E1) | refine Below.setCell ?_ mF _)
theorem kSh {w:World} {cx:List Value} {x:yZ} (hx:jM.rd w cx x):Calls Tryz.prog 41 #[.agg cx.toArray] w (yK jM x w) :=
  (kSi hx).mono fun e w' h=>h.made hx.2
end Go.Proofs.YtomdenfcfbkfbaaGreat

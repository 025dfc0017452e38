/-
  Copies of pending interests and of nonces seen.
-/
import Derived.Test.YtpgnbablhdknnaaDrawN
import Derived.Test.YtpgnbablhdknnaaClone
set_option linter.unusedVariables false
set_option linter.unusedSimpArgs false
set_option linter.unnecessarySimpa false
set_option maxRecDepth 100000
set_option maxHeartbeats 4000000
namespace Go.Proofs.Ytpgnbablhdknnaa
open Go.RowKit
theorem kAj {w:World} {vl:Value} {l:List kD} (hl:(Rep.slice 67 kE).rd w [vl] l) :
    Calls Try.prog 34 #[vl] w (kFz 67 kE l w):=by
 have HL:=yD hl
 obtain ⟨la,lp,rfl,ll⟩:=Rep.sl hl.1
 have hlb:l.length≤16777216:=hl.2.1
 clear hl
 go_enter Try.func34,Try.ntmps34
 go_wp2
 have O0:Rep.kT 67 kE (w.alloc (.cells #[] 67)) (.slice (some ⟨w.heap.size,0,none⟩) 0 0) [] (Btw w.heap.size (w.alloc (.cells #[] 67)).heap.size) :=
   Rep.jf (e:=67) (r:=kE) (w:=w) (cs:=[]) (xs:=[]) (T:=fun _=>False) gW gW rfl (fun _ h=>h.elim) ⟨Nat.le_refl _,by simp⟩
 go_loopw [3,9] (fun v i wr=>∃ k:Nat,k≤l.length∧i=.int .i64 k∧Hid (Rep.kT 67 kE wr v (l.take k) (Btw w.heap.size wr.heap.size))∧Below w.heap.size w wr) (fun _ i _=>l.length - (intOf i).toNat)
 case atStart=>exact ⟨0,Nat.zero_le _,rfl,yD O0,bR.alloc nL _⟩
 clear O0
 obtain ⟨k,hk,rfl,HO,hbel⟩:=hrel
 obtain ⟨oa,on,oc,ho,HON⟩:=HO.out.parts;obtain rfl:=ho
 have hlk:(l.take k).length≤k:=gQ
 by_cases hlt:k < l.length
 · obtain ⟨qb,qo,rfl,qc0,qc1,qc2,qr,Aq0,Aq1,Aq2⟩:=Rep.yP (HL.out.1.below hbel) hlt rfl
   have hbd:=Rep.zg HL.out hlt
   have hsn:=List.take_succ_eq_append_getElem hlt
   generalize l[k]=x at *
   have HSN:=yD hsn;clear hsn
   obtain ⟨x0,x1,x2⟩:=x
   obtain ⟨qv0,qv1,qhe,q_0,q_1,q_2,q_3⟩:=kM qr
   simp only [List.cons.injEq,and_true] at qhe
   obtain ⟨rfl,rfl,rfl⟩:=qhe
   obtain ⟨qa0,qp0,rfl,ql0⟩:=Rep.sl q_1
   obtain ⟨qa1,qp1,rfl,ql1⟩:=Rep.sl q_2
   have px0:kZ.rd wr _ x0:=⟨q_0,hbd.1⟩
   have px1:(Rep.slice 56 kF).rd wr _ x1:=⟨q_2,hbd.2.1⟩
   go_upto_region 5 with fail
   generalize hwC:World.alloc wr _=wC
   have EC:Below wr.heap.size wr wC:=dI
   have hzC:wC.heap.size=wr.heap.size + 1:=by rw [← hwC];simp
   have M0:wC.cell? ⟨wr.heap.size,0,none⟩=some (.slice qa0 (x0).length qp0):=dY
   have M1:wC.cell? ⟨wr.heap.size,1,none⟩=some (.slice qa1 (x1).length qp1):=dY
   have M2:wC.cell? ⟨wr.heap.size,2,none⟩=some (.int .i64 x2):=dY
   clear hwC
   have FX:=yD (fun (W:World) (hW:Below wC.heap.size wC W)=>cLs3 hW M0 M1 M2)
   refine jT (fun W=>Below wC.heap.size wC W) [(0,true),(1,true),(2,true),(4,true),(5,true),(7,true),(8,true),(3,false),(6,false),(9,true),(10,false)] gP gP bX (bR.drew) ?_
   intro wS HS
   simp only [kg,List.length_cons,List.length_nil,List.getElem?_cons_succ,List.getElem?_cons_zero,List.map_cons,List.map_nil,List.cons_append,List.nil_append,List.drop_succ_cons,List.drop_zero]
   iterate 7
    all_goals refine wkR ?_
   all_goals first|(refine kG rfl HS ?_)|(refine kQ rfl (fun K hK=>?_);go_simp;refine (yh (px0.below (tQ EC HS))).mono ?_;rintro e wT0 ⟨t0_c,rfl,OT0,hbT⟩;obtain ⟨t0_qv0,rfl,t0_q_0⟩:=kY OT0.raw;obtain ⟨t0_qa0,t0_qp0,rfl,t0_ql0⟩:=Rep.sl t0_q_0;skip;clear t0_q_0;replace OT0:=yD OT0;have hs0:=hbT.size;have hr0:=HS.size;replace HS:=(tQ HS hbT);refine hK _ _ HS ?_;clear hK K hbT)
   all_goals refine wkP ?_
   all_goals first|(refine kG rfl HS ?_)|(refine kQ rfl (fun K hK=>?_);go_simp;refine (kEx (px1.below (tQ EC HS))).mono ?_;rintro e wT1 ⟨t1_v,rfl,OT1,hbT⟩;obtain ⟨t1_a,t1_p,rfl,_⟩:=Rep.sl OT1.raw;skip;replace OT1:=yD OT1;have hs1:=hbT.size;have hr1:=HS.size;replace OT0:=yD (OT0.out.below hbT);replace HS:=(tQ HS hbT);refine hK _ _ HS ?_;clear hK K hbT)
   all_goals refine wkP ?_
   all_goals refine wkR ?_
   all_goals first|(refine kG rfl HS ?_)|(refine kQ rfl (fun K hK=>?_);go_simp;refine hK _ _ (HS.alloc HS.size _) ?_;clear hK K)
   all_goals refine wkP ?_
   all_goals refine jb ?_
   have hsW:=HS.size
   have hsC:=EC.size
   have hrC:=hbel.size
   have hbS:Below wr.heap.size wr _:=(tQ EC HS)
   replace HO:=yD (HO.out.below hbS)
   have hbW:=(tQ hbel hbS)
   go_wp2_with (at_builtin;refine Rep.jH rfl _ _ 24 rfl (r:=kE) (e:=67) Try.underlying24 kV rfl gU gU (B:=w.heap.size) HO.out gX gX rfl (Rep.own.wide (T:=Btw wr.heap.size wT1.heap.size) (Rep.jV (S:=Btw (wS.heap.size) (wT1.heap.size)) (OT0.out) (Rep.jm (OT1.out) (Rep.kW q_3)) bK bK bM) bK) rfl bM dC bK gV dW ?_)
   intro v2 w2 hown2 hbel2 hz2
   replace hown2:=Rep.kT.cast hown2 (HSN.out.symm)
   have HO2:=yD hown2
   have hbel3:=hbW.trans hbel2
   clear hown2 HO hbel2
   go_wp2
   go_roundw
   case rel=>exact ⟨k + 1,by omega,by go_num,HO2,hbel3⟩
   simp [intOf];omega
 obtain rfl:k=l.length:=gV
 go_wp2
 go_ret
 exact ⟨_,rfl,Rep.kT.cast HO.out gW,hbel⟩
theorem zI {w:World} {vl:Value} {l:List kD} (hl:(Rep.slice 67 kE).rd w [vl] l) :
    Calls Try.prog 44 #[vl] w (kFz 67 kE l w):=by
 have HL:=yD hl
 obtain ⟨la,lp,rfl,ll⟩:=Rep.sl hl.1
 have hlb:l.length≤16777216:=hl.2.1
 clear hl
 go_enter Try.func44,Try.ntmps44
 go_wp2
 have O0:Rep.kT 67 kE (w.alloc (.cells #[] 67)) (.slice (some ⟨w.heap.size,0,none⟩) 0 0) [] (Btw w.heap.size (w.alloc (.cells #[] 67)).heap.size) :=
   Rep.jf (e:=67) (r:=kE) (w:=w) (cs:=[]) (xs:=[]) (T:=fun _=>False) gW gW rfl (fun _ h=>h.elim) ⟨Nat.le_refl _,by simp⟩
 go_loopw [3,4] (fun v i wr=>∃ k:Nat,k≤l.length∧i=.int .i64 k∧Hid (Rep.kT 67 kE wr v (l.take k) (Btw w.heap.size wr.heap.size))∧Below w.heap.size w wr) (fun _ i _=>l.length - (intOf i).toNat)
 case atStart=>exact ⟨0,Nat.zero_le _,rfl,yD O0,bR.alloc nL _⟩
 clear O0
 obtain ⟨k,hk,rfl,HO,hbel⟩:=hrel
 obtain ⟨oa,on,oc,ho,HON⟩:=HO.out.parts;obtain rfl:=ho
 have hlk:(l.take k).length≤k:=gQ
 by_cases hlt:k < l.length
 · obtain ⟨qb,qo,rfl,qc0,qc1,qc2,qr,Aq0,Aq1,Aq2⟩:=Rep.yP (HL.out.1.below hbel) hlt rfl
   have hbd:=Rep.zg HL.out hlt
   have hsn:=List.take_succ_eq_append_getElem hlt
   generalize l[k]=x at *
   have HSN:=yD hsn;clear hsn
   obtain ⟨x0,x1,x2⟩:=x
   obtain ⟨qv0,qv1,qhe,q_0,q_1,q_2,q_3⟩:=kM qr
   simp only [List.cons.injEq,and_true] at qhe
   obtain ⟨rfl,rfl,rfl⟩:=qhe
   obtain ⟨qa0,qp0,rfl,ql0⟩:=Rep.sl q_1
   obtain ⟨qa1,qp1,rfl,ql1⟩:=Rep.sl q_2
   have px0:kZ.rd wr _ x0:=⟨q_0,hbd.1⟩
   go_wp2_with fail
   refine (yZ px0).mono ?_
   rintro e wT ⟨tc,rfl,OT,hbT⟩
   obtain ⟨tv0,rfl,t_0⟩:=kY OT.raw
   obtain ⟨ta0,tp0,rfl,_⟩:=Rep.sl t_0
   clear t_0
   go_upto_region 6 with fail
   generalize hwC:World.alloc wT _=wC
   have EC:Below wT.heap.size wT wC:=dI
   have K0:wC.cell? ⟨wT.heap.size,0,none⟩=some (.slice ta0 x0.length tp0):=dY
   clear hwC
   have ER:=(tQ hbT EC)
   replace Aq0:=cL ER Aq0
   replace Aq1:=cL ER Aq1
   replace Aq2:=cL ER Aq2
   have px1:(Rep.slice 56 kF).rd wC _ x1:=⟨Rep.raw.below q_2 ER,hbd.2.1⟩
   have FX:=yD (fun (W:World) (hW:Below wC.heap.size wC W)=>zi hW K0 Aq0 Aq1 Aq2)
   refine jT (fun W=>Below wC.heap.size wC W) [(0,true),(1,true),(3,true),(4,true),(5,true),(6,true),(7,true),(9,true),(10,true),(11,true),(12,true),(13,true),(2,false),(8,false),(14,true),(15,false)] gP gP bX (bR.drew) ?_
   intro wS HS
   simp only [kg,List.length_cons,List.length_nil,List.getElem?_cons_succ,List.getElem?_cons_zero,List.map_cons,List.map_nil,List.cons_append,List.nil_append,List.drop_succ_cons,List.drop_zero]
   iterate 12
    all_goals refine wkR ?_
   all_goals first|(refine kG rfl HS ?_)|(refine kQ rfl (fun K hK=>?_);go_simp;generalize hwU:World.alloc wS _=wU;have hzU:wU.heap.size=wS.heap.size + 1:=(by rw [← hwU];simp);have hzS:=HS.size;replace HS:Below wC.heap.size wC wU:=(by rw [← hwU];exact HS.alloc HS.size _);clear hwU;refine hK _ _ HS ?_;clear hK K)
   all_goals refine wkP ?_
   all_goals first|(refine kG rfl HS ?_)|(refine kQ rfl (fun K hK=>?_);obtain ⟨rv1,wV,hrV,hoV,hbV,hzV⟩:=Rep.kIl (P:=Try.prog) (t:=36) (ty:=36) (r:=kF) (e:=56) (w:=wU) (v:=.slice (some ⟨wS.heap.size,0,none⟩) 0 0) (xs:=[]) (S:=fun _=>False) (B:=wU.heap.size) Try.underlying36 jC rfl gU gU yB Rep.kT.void (px1.below HS) (fun _ h=>h.elim) nL (by have:=px1.2.1;simp;unfold Big at this;omega);refine Rep.jW _ _ _ rfl gX gX hrV ?_;obtain ⟨ra1,rp1,hrv1⟩:=hoV.zO;obtain rfl:=hrv1;replace HS:=(tQ HS hbV);have HOV:=yD (hoV.own px1.2.1);refine hK _ _ HS ?_;clear hK K hrV hoV)
   all_goals refine wkP ?_
   all_goals refine wkR ?_
   all_goals first|(refine kG rfl HS ?_)|(refine kQ rfl (fun K hK=>?_);go_simp;refine hK _ _ (HS.alloc HS.size _) ?_;clear hK K)
   all_goals refine wkP ?_
   all_goals refine jb ?_
   have hsW:=HS.size
   have hsC:=EC.size
   have hrC:=hbel.size
   have hsT:=hbT.size
   have hbS:Below wr.heap.size wr wV:=(tQ ER HS)
   replace HO:=yD (HO.out.below hbS)
   have hbW:=(tQ hbel hbS)
   go_wp2_with (at_builtin;refine Rep.jH rfl _ _ 24 rfl (r:=kE) (e:=67) Try.underlying24 kV rfl gU gU (B:=w.heap.size) HO.out gX gX rfl (Rep.own.wide (T:=Btw wr.heap.size wV.heap.size) (Rep.jV (S:=Btw (wr.heap.size) (wV.heap.size)) (OT.below (tQ EC HS)) (Rep.jm (HOV.out) (Rep.kW q_3)) bK bK bM) bK) rfl bM dC bK gV dW ?_)
   intro v2 w2 hown2 hbel2 hz2
   replace hown2:=Rep.kT.cast hown2 (HSN.out.symm)
   have HO2:=yD hown2
   have hbel3:=hbW.trans hbel2
   clear hown2 HO hbel2
   go_wp2
   go_roundw
   case rel=>exact ⟨k + 1,by omega,by go_num,HO2,hbel3⟩
   simp [intOf];omega
 obtain rfl:k=l.length:=gV
 go_wp2
 go_ret
 exact ⟨_,rfl,Rep.kT.cast HO.out gW,hbel⟩
theorem kHy {w:World} {vl:Value} {l:List kz} (hl:(Rep.slice 77 ky).rd w [vl] l) :
    Calls Try.prog 96 #[vl] w (kFz 77 ky l w):=by
 have HL:=yD hl
 obtain ⟨la,lp,rfl,ll⟩:=Rep.sl hl.1
 have hlb:l.length≤16777216:=hl.2.1
 clear hl
 go_enter Try.func96,Try.ntmps96
 go_wp2
 have O0:Rep.kT 77 ky (w.alloc (.cells #[] 77)) (.slice (some ⟨w.heap.size,0,none⟩) 0 0) [] (Btw w.heap.size (w.alloc (.cells #[] 77)).heap.size) :=
   Rep.jf (e:=77) (r:=ky) (w:=w) (cs:=[]) (xs:=[]) (T:=fun _=>False) gW gW rfl (fun _ h=>h.elim) ⟨Nat.le_refl _,by simp⟩
 go_loopw [3,4] (fun v i wr=>∃ k:Nat,k≤l.length∧i=.int .i64 k∧Hid (Rep.kT 77 ky wr v (l.take k) (Btw w.heap.size wr.heap.size))∧Below w.heap.size w wr) (fun _ i _=>l.length - (intOf i).toNat)
 case atStart=>exact ⟨0,Nat.zero_le _,rfl,yD O0,bR.alloc nL _⟩
 clear O0
 obtain ⟨k,hk,rfl,HO,hbel⟩:=hrel
 obtain ⟨oa,on,oc,ho,HON⟩:=HO.out.parts;obtain rfl:=ho
 have hlk:(l.take k).length≤k:=gQ
 by_cases hlt:k < l.length
 · obtain ⟨qb,qo,rfl,qc0,qc1,qr,Aq0,Aq1⟩:=Rep.get2 (HL.out.1.below hbel) hlt rfl
   have hbd:=Rep.zg HL.out hlt
   have hsn:=List.take_succ_eq_append_getElem hlt
   generalize l[k]=x at *
   have HSN:=yD hsn;clear hsn
   obtain ⟨x0,x1⟩:=x
   obtain ⟨qv0,qhe,q_0,q_1,q_2⟩:=yj qr
   simp only [List.cons.injEq,and_true] at qhe
   obtain ⟨rfl,rfl⟩:=qhe
   obtain ⟨qa0,qp0,rfl,ql0⟩:=Rep.sl q_1
   have px0:kZ.rd wr _ x0:=⟨q_0,hbd.1⟩
   go_wp2_with fail
   refine (yZ px0).mono ?_
   rintro e wT ⟨tc,rfl,OT,hbT⟩
   obtain ⟨tv0,rfl,t_0⟩:=kY OT.raw
   obtain ⟨ta0,tp0,rfl,_⟩:=Rep.sl t_0
   clear t_0
   go_upto_region 6 with fail
   generalize hwC:World.alloc wT _=wC
   have EC:Below wT.heap.size wT wC:=dI
   have K0:wC.cell? ⟨wT.heap.size,0,none⟩=some (.slice ta0 x0.length tp0):=dY
   clear hwC
   have ER:=(tQ hbT EC)
   replace Aq0:=cL ER Aq0
   replace Aq1:=cL ER Aq1
   have FX:=yD (fun (W:World) (hW:Below wC.heap.size wC W)=>cLs3 hW K0 Aq0 Aq1)
   refine jE (fun W=>Below wC.heap.size wC W) [true,true,true,true,true,true,true,true,false] gP gP bX (bR.drew) ?_
   intro wS HS
   iterate 8
    all_goals refine wkR ?_
   all_goals first|(refine kG rfl HS ?_)|(refine kQ rfl (fun K hK=>?_);go_simp;refine hK _ _ (HS.alloc HS.size _) ?_;clear hK K)
   all_goals refine wkP ?_
   all_goals refine jb ?_
   have hsW:=HS.size
   have hsC:=EC.size
   have hrC:=hbel.size
   have hsT:=hbT.size
   have hbS:Below wr.heap.size wr wS:=(tQ ER HS)
   replace HO:=yD (HO.out.below hbS)
   have hbW:=(tQ hbel hbS)
   go_wp2_with (at_builtin;refine Rep.jH rfl _ _ 43 rfl (r:=ky) (e:=77) Try.underlying43 kBq rfl gU gU (B:=w.heap.size) HO.out gX gX rfl (Rep.own.wide (T:=Btw wr.heap.size wT.heap.size) (Rep.jm (OT.below (tQ EC HS)) (Rep.kW q_2)) bK) rfl bM dC bK gV dW ?_)
   intro v2 w2 hown2 hbel2 hz2
   replace hown2:=Rep.kT.cast hown2 (HSN.out.symm)
   have HO2:=yD hown2
   have hbel3:=hbW.trans hbel2
   clear hown2 HO hbel2
   go_wp2
   go_roundw
   case rel=>exact ⟨k + 1,by omega,by go_num,HO2,hbel3⟩
   simp [intOf];omega
 obtain rfl:k=l.length:=gV
 go_wp2
 go_ret
 exact ⟨_,rfl,Rep.kT.cast HO.out gW,hbel⟩
end Go.Proofs.Ytpgnbablhdknnaa

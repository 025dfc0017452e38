/-
  Copies of routes and measurements.
  A route found.
-/
import Derived.Test.YthpgoddjglnoiaaGreatDoorDrawN
set_option linter.unusedVariables false
set_option linter.unusedSimpArgs false
set_option linter.unnecessarySimpa false
set_option maxRecDepth 100000
set_option maxHeartbeats 4000000
namespace Go.Proofs.YthpgoddjglnoiaaGreatDoor
open Go.RowKit
theorem jY {w:World} {vl:Value} {l:List kD} (hl:(Rep.slice 29 kE).rd w [vl] l) :
    Calls Tryz.prog 33 #[vl] w (kFq 29 kE l w):=by
 have HL:=yD hl
 obtain ⟨la,lp,rfl,ll⟩:=Rep.sl hl.1
 have hlb:l.length≤16777216:=hl.2.1
 clear hl
 go_enter Tryz.func33,Tryz.ntmps33
 go_wp2
 have O0:Rep.kH 29 kE (w.alloc (.cells #[] 29)) (.slice (some ⟨w.heap.size,0,none⟩) 0 0) [] (Btw w.heap.size (w.alloc (.cells #[] 29)).heap.size) :=
   Rep.je (e:=29) (r:=kE) (w:=w) (cs:=[]) (xs:=[]) (T:=fun _=>False) fZ fZ rfl (fun _ h=>h.elim) ⟨Nat.le_refl _,by simp⟩
 go_loopw [3,9] (fun v i wr=>∃ k:Nat,k≤l.length∧i=.int .i64 k∧Hid (Rep.kH 29 kE wr v (l.take k) (Btw w.heap.size wr.heap.size))∧Below w.heap.size w wr) (fun _ i _=>l.length - (intOf i).toNat)
 case atStart=>exact ⟨0,Nat.zero_le _,rfl,yD O0,bR.alloc nL _⟩
 clear O0
 obtain ⟨k,hk,rfl,HO,hbel⟩:=hrel
 obtain ⟨oa,on,oc,ho,HON⟩:=HO.out.parts;obtain rfl:=ho
 have hlk:(l.take k).length≤k:=fQ
 by_cases hlt:k < l.length
 · obtain ⟨qb,qo,rfl,qc0,qc1,qc2,qr,Aq0,Aq1,Aq2⟩:=Rep.yg (HL.out.1.below hbel) hlt rfl
   have hbd:=Rep.yJ HL.out hlt
   have hsn:=List.take_succ_eq_append_getElem hlt
   generalize l[k]=x at *
   have HSN:=yD hsn;clear hsn
   obtain ⟨x0,x1,x2⟩:=x
   obtain ⟨qv0,qhe,q_0,q_1,q_2,q_3⟩:=kG qr
   simp only [List.cons.injEq,and_true] at qhe
   obtain ⟨rfl,rfl,rfl⟩:=qhe
   obtain ⟨qa0,qp0,rfl,ql0⟩:=Rep.sl q_1
   have px0:kV.rd wr _ x0:=⟨q_0,hbd.1⟩
   go_upto_region 5 with fail
   generalize hwC:World.alloc wr _=wC
   have EC:Below wr.heap.size wr wC:=dD
   have hzC:wC.heap.size=wr.heap.size + 1:=by rw [← hwC];simp
   have M0:wC.cell? ⟨wr.heap.size,0,none⟩=some (.slice qa0 (x0).length qp0):=dM
   have M1:wC.cell? ⟨wr.heap.size,1,none⟩=some (.int .i64 x1):=dM
   have M2:wC.cell? ⟨wr.heap.size,2,none⟩=some (.int .i64 x2):=dM
   clear hwC
   have FX:=yD (fun (W:World) (hW:Below wC.heap.size wC W)=>cLs3 hW M0 M1 M2)
   refine jh (fun W=>Below wC.heap.size wC W) [(0,true),(1,true),(2,true),(4,true),(5,true),(6,true),(7,true),(3,false),(8,true),(9,false)] fP fP bW (bR.drew) ?_
   intro wS HS
   simp only [kK,List.length_cons,List.length_nil,List.getElem?_cons_succ,List.getElem?_cons_zero,List.map_cons,List.map_nil,List.cons_append,List.nil_append,List.drop_succ_cons,List.drop_zero]
   iterate 7
    all_goals refine wkR ?_
   all_goals first|(refine kJ rfl HS ?_)|(refine jF rfl (fun K hK=>?_);go_simp;refine (zg (px0.below (tQ EC HS))).mono ?_;rintro e wT0 ⟨t0_c,rfl,OT0,hbT⟩;obtain ⟨t0_qv0,rfl,t0_q_0⟩:=kN OT0.raw;obtain ⟨t0_qa0,t0_qp0,rfl,t0_ql0⟩:=Rep.sl t0_q_0;skip;clear t0_q_0;replace OT0:=yD OT0;have hs0:=hbT.size;have hr0:=HS.size;replace HS:=(tQ HS hbT);refine hK _ _ HS ?_;clear hK K hbT)
   all_goals refine wkP ?_
   all_goals refine wkR ?_
   all_goals first|(refine kJ rfl HS ?_)|(refine jF rfl (fun K hK=>?_);go_simp;refine hK _ _ (HS.alloc HS.size _) ?_;clear hK K)
   all_goals refine wkP ?_
   all_goals refine jV ?_
   have hsW:=HS.size
   have hsC:=EC.size
   have hrC:=hbel.size
   have hbS:Below wr.heap.size wr _:=(tQ EC HS)
   replace HO:=yD (HO.out.below hbS)
   have hbW:=(tQ hbel hbS)
   go_wp2_with (at_builtin;refine Rep.ky rfl _ _ 24 rfl (r:=kE) (e:=29) Tryz.underlying24 jX rfl fU fU (B:=w.heap.size) HO.out gB gB rfl (Rep.own.wide (T:=Btw wr.heap.size wT0.heap.size) (Rep.kAm (OT0.out) (Rep.zT (Rep.jN q_2) (Rep.jN q_3))) bI) rfl bL cK bI fV dJ ?_)
   intro v2 w2 hown2 hbel2 hz2
   replace hown2:=Rep.kH.cast hown2 (HSN.out.symm)
   have HO2:=yD hown2
   have hbel3:=hbW.trans hbel2
   clear hown2 HO hbel2
   go_wp2
   go_roundw
   case rel=>exact ⟨k + 1,by omega,by go_num,HO2,hbel3⟩
   simp [intOf];omega
 obtain rfl:k=l.length:=fV
 go_wp2
 go_ret
 exact ⟨_,rfl,Rep.kH.cast HO.out fZ,hbel⟩
theorem yC {w:World} {vl:Value} {l:List kD} (hl:(Rep.slice 29 kE).rd w [vl] l) :
    Calls Tryz.prog 36 #[vl] w (kFq 29 kE l w):=by
 have HL:=yD hl
 obtain ⟨la,lp,rfl,ll⟩:=Rep.sl hl.1
 have hlb:l.length≤16777216:=hl.2.1
 clear hl
 go_enter Tryz.func36,Tryz.ntmps36
 go_wp2
 have O0:Rep.kH 29 kE (w.alloc (.cells #[] 29)) (.slice (some ⟨w.heap.size,0,none⟩) 0 0) [] (Btw w.heap.size (w.alloc (.cells #[] 29)).heap.size) :=
   Rep.je (e:=29) (r:=kE) (w:=w) (cs:=[]) (xs:=[]) (T:=fun _=>False) fZ fZ rfl (fun _ h=>h.elim) ⟨Nat.le_refl _,by simp⟩
 go_loopw [3,4] (fun v i wr=>∃ k:Nat,k≤l.length∧i=.int .i64 k∧Hid (Rep.kH 29 kE wr v (l.take k) (Btw w.heap.size wr.heap.size))∧Below w.heap.size w wr) (fun _ i _=>l.length - (intOf i).toNat)
 case atStart=>exact ⟨0,Nat.zero_le _,rfl,yD O0,bR.alloc nL _⟩
 clear O0
 obtain ⟨k,hk,rfl,HO,hbel⟩:=hrel
 obtain ⟨oa,on,oc,ho,HON⟩:=HO.out.parts;obtain rfl:=ho
 have hlk:(l.take k).length≤k:=fQ
 by_cases hlt:k < l.length
 · obtain ⟨qb,qo,rfl,qc0,qc1,qc2,qr,Aq0,Aq1,Aq2⟩:=Rep.yg (HL.out.1.below hbel) hlt rfl
   have hbd:=Rep.yJ HL.out hlt
   have hsn:=List.take_succ_eq_append_getElem hlt
   generalize l[k]=x at *
   have HSN:=yD hsn;clear hsn
   obtain ⟨x0,x1,x2⟩:=x
   obtain ⟨qv0,qhe,q_0,q_1,q_2,q_3⟩:=kG qr
   simp only [List.cons.injEq,and_true] at qhe
   obtain ⟨rfl,rfl,rfl⟩:=qhe
   obtain ⟨qa0,qp0,rfl,ql0⟩:=Rep.sl q_1
   have px0:kV.rd wr _ x0:=⟨q_0,hbd.1⟩
   go_wp2_with fail
   refine (zO px0).mono ?_
   rintro e wT ⟨tc,rfl,OT,hbT⟩
   obtain ⟨tv0,rfl,t_0⟩:=kN OT.raw
   obtain ⟨ta0,tp0,rfl,_⟩:=Rep.sl t_0
   clear t_0
   go_upto_region 6 with fail
   generalize hwC:World.alloc wT _=wC
   have EC:Below wT.heap.size wT wC:=dD
   have K0:wC.cell? ⟨wT.heap.size,0,none⟩=some (.slice ta0 x0.length tp0):=dM
   clear hwC
   have ER:=(tQ hbT EC)
   replace Aq0:=cL ER Aq0
   replace Aq1:=cL ER Aq1
   replace Aq2:=cL ER Aq2
   have FX:=yD (fun (W:World) (hW:Below wC.heap.size wC W)=>cLs4 hW K0 Aq0 Aq1 Aq2)
   refine jS (fun W=>Below wC.heap.size wC W) [true,true,true,true,true,true,true,true,true,true,true,true,true,false] fP fP bW (bR.drew) ?_
   intro wS HS
   iterate 13
    all_goals refine wkR ?_
   all_goals first|(refine kJ rfl HS ?_)|(refine jF rfl (fun K hK=>?_);go_simp;refine hK _ _ (HS.alloc HS.size _) ?_;clear hK K)
   all_goals refine wkP ?_
   all_goals refine jV ?_
   have hsW:=HS.size
   have hsC:=EC.size
   have hrC:=hbel.size
   have hsT:=hbT.size
   have hbS:Below wr.heap.size wr wS:=(tQ ER HS)
   replace HO:=yD (HO.out.below hbS)
   have hbW:=(tQ hbel hbS)
   go_wp2_with (at_builtin;refine Rep.ky rfl _ _ 24 rfl (r:=kE) (e:=29) Tryz.underlying24 jX rfl fU fU (B:=w.heap.size) HO.out gB gB rfl (Rep.own.wide (T:=Btw wr.heap.size wT.heap.size) (Rep.kAm (OT.below (tQ EC HS)) (Rep.zT (Rep.jN q_2) (Rep.jN q_3))) bI) rfl bL cK bI fV dJ ?_)
   intro v2 w2 hown2 hbel2 hz2
   replace hown2:=Rep.kH.cast hown2 (HSN.out.symm)
   have HO2:=yD hown2
   have hbel3:=hbW.trans hbel2
   clear hown2 HO hbel2
   go_wp2
   go_roundw
   case rel=>exact ⟨k + 1,by omega,by go_num,HO2,hbel3⟩
   simp [intOf];omega
 obtain rfl:k=l.length:=fV
 go_wp2
 go_ret
 exact ⟨_,rfl,Rep.kH.cast HO.out fZ,hbel⟩
def kZ (n:kR) (f:Int) (m:kD):Bool:=(m.2.1==f) && eqN m.1 n
theorem kCm {w:World} {vl:Value} {l:(List kD)} (hl:(Rep.slice 29 kE).raw w [vl] l) {cn:List Value} {n:kR} (hn:kV.raw w cn n) {f:Int} :
    Calls Tryz.prog 37 #[vl,.agg cn.toArray,.int .i64 f] w fun e w'=>e=.returned (.int .i64 (idxOf (kZ n f) l))∧Below w.heap.size w w':=by
 obtain ⟨al,pl,rfl,ll⟩:=Rep.sl hl
 have Hn:=yD hn
 obtain ⟨fnv0,rfl,fn_0⟩:=kN hn
 obtain ⟨fna0,fnp0,rfl,fnl0⟩:=Rep.sl fn_0
 go_enter Tryz.func37,Tryz.ntmps37
 go_wp2
 generalize hwB:World.alloc w _=wB
 have EB:Below w.heap.size w wB:=by rw [← hwB];exact bB
 have K4_0:wB.cell? ⟨w.heap.size,0,none⟩=some (.slice fna0 (n).length fnp0):=dL
 clear hwB
 replace hl:=hl.below EB
 go_loopw [7] (fun i wr=>∃ k:Nat,k≤l.length∧i=.int .i64 k∧Hid (∀ j,(h:j < k)→(h2:j < l.length)→(kZ n f) l[j]=false)∧Below wB.heap.size wB wr) (fun i _=>l.length - (intOf i).toNat)
 case atStart=>exact ⟨0,Nat.zero_le _,rfl,yD (fun _ h=>by omega),bR⟩
 obtain ⟨k,hk,rfl,HN,hbel⟩:=hrel
 replace K4_0:=cL hbel K4_0
 by_cases hlt:k < l.length
 · obtain ⟨qb,qo,rfl,qc0,qc1,qc2,qr,Aq0,Aq1,Aq2⟩:=Rep.yg (hl.below hbel) (i:=k) fV rfl
   have hhit:=fun q=>idxOf_hit hlt q HN.out
   have hmis:=fun q=>kIy hlt q HN.out
   generalize l[k]=x at *
   have HD:=yD hhit;have HX:=yD hmis;clear hhit hmis
   obtain ⟨x0,x1,x2⟩:=x
   obtain ⟨qv0,qhe,q_0,q_1,q_2,q_3⟩:=kG qr
   simp only [List.cons.injEq,and_true] at qhe
   obtain ⟨rfl,rfl,rfl⟩:=qhe
   obtain ⟨qa0,qp0,rfl,ql0⟩:=Rep.sl q_1
   go_upto_region 4 with fail
   have FX:=yD (fun (W:World) (hW:Below wr.heap.size wr W)=>cLs4 hW K4_0 Aq0 Aq1 Aq2)
   refine kI (fun W=>Below wr.heap.size wr W) [true,true,true,true,true,true,true,true,true,true,true,true,true,true,false,true] fP fP bW (bR.drew) ?_
   intro wS HS
   iterate 7
    all_goals refine wkR ?_
   all_goals (have hg7:=True.intro;first|(refine wkG (fun b hg7=>?_);cases b;all_goals first | exact Bool.noConfusion hg7 | simp only [zU,zV] at hg7 | skip) | refine wkR ?_)
   all_goals refine wkP ?_
   iterate 6
    all_goals refine wkR ?_
   all_goals first | refine wkB (yY (Rep.raw.below q_0 HS) (Rep.raw.below Hn.out ((tQ EB (tQ hbel HS))))) (fun wS1 HS=>?_) | refine wkR ?_
   all_goals (have hg15:=True.intro;first|(refine wkG (fun b hg15=>?_);cases b;all_goals first | exact Bool.noConfusion hg15 | simp only [zU,zV] at hg15 | skip) | refine wkR ?_)
   all_goals refine wkP ?_
   all_goals refine kQ ?_
   all_goals have EG:=(tQ hbel HS)
   all_goals first
     | (have HT:=yD (HD.out (show _=true by simp only [kZ,Bool.not_true,Bool.not_false,Bool.and_true,Bool.true_and,Bool.and_false,Bool.false_and,Bool.or_true,Bool.true_or,Bool.or_false,Bool.false_or,Bool.not_not,hg7,hg15]));clear HD HX;go_wp2;go_ret;exact ⟨jB HT.out.symm,(tQ EB EG)⟩)
     | (have HT:=yD (HX.out (show _=false by simp only [kZ,Bool.not_true,Bool.not_false,Bool.and_true,Bool.true_and,Bool.and_false,Bool.false_and,Bool.or_true,Bool.true_or,Bool.or_false,Bool.false_or,Bool.not_not,hg7,hg15]));clear HD HX;go_wp2;go_roundw;(case rel=>exact ⟨k + 1,by omega,by go_num,HT,EG⟩);(case measure=>simp [intOf];omega))
 have HT:=yD (idxOf_miss hlt HN.out)
 go_wp2
 go_ret
 exact ⟨jB HT.out.symm,(tQ EB hbel)⟩
theorem kGv {w:World} {cm:List Value} {m:kD} (hm:kE.raw w cm m) {f:Int} {Bf:Nat} (Af0:w.cell? ⟨Bf,0,none⟩=some (.int .i64 f)) {n:kR} {nc0:Value} {Bn:Nat} (nr:kV.raw w [nc0] n) (An0:w.cell? ⟨Bn,0,none⟩=some nc0) :
    Calls Tryz.prog 69 (#[.agg cm.toArray]++#[.pointer (some ⟨Bf,0,none⟩),.pointer (some ⟨Bn,0,none⟩)]) w fun e w'=>e=.returned (.bool (kZ n f m))∧Below w.heap.size w w':=by
 have Hm:=yD hm
 obtain ⟨fmv0,rfl,fm_0,fm_1,fm_2,fm_3⟩:=kG hm
 obtain ⟨fma0,fmp0,rfl,fml0⟩:=Rep.sl fm_1
 obtain ⟨nv0,nhe,n_0⟩:=kN nr
 simp only [List.cons.injEq,and_true] at nhe
 obtain rfl:=nhe
 obtain ⟨na0,np0,rfl,nl0⟩:=Rep.sl n_0
 show Calls Tryz.prog 69 #[_,_,_] w _
 go_enter Tryz.func69,Tryz.ntmps69
 go_upto_region 1 with fail
 generalize hwB:World.alloc w _=wB
 have EB:Below w.heap.size w wB:=by rw [← hwB];exact bB
 have K3_0:wB.cell? ⟨w.heap.size,0,none⟩=some (.slice fma0 (m.1).length fmp0):=dL
 have K3_1:wB.cell? ⟨w.heap.size,1,none⟩=some (.int .i64 m.2.1):=dL
 have K3_2:wB.cell? ⟨w.heap.size,2,none⟩=some (.int .i64 m.2.2):=dL
 clear hwB
 replace Af0:=cL EB Af0
 replace An0:=cL EB An0
 have FX:=yD (fun (W:World) (hW:Below wB.heap.size wB W)=>cLs5 hW K3_0 K3_1 K3_2 Af0 An0)
 refine kg (fun W=>Below wB.heap.size wB W) [true,true,true,true,true,true,true,true,false,true,true] bR ?_
 intro wS HS
 iterate 4
  all_goals refine wkR ?_
 all_goals (have hg4:=True.intro;first|(refine wkG (fun b hg4=>?_);cases b;all_goals first | exact Bool.noConfusion hg4 | simp only [zU,zV] at hg4 | skip) | refine wkR ?_)
 all_goals refine wkP ?_
 iterate 3
  all_goals refine wkR ?_
 all_goals first | refine wkB (yA (Rep.raw.below fm_0 (tQ EB HS)) (Rep.raw.below nr (tQ EB HS))) (fun wS1 HS=>?_) | refine wkR ?_
 all_goals refine wkR ?_
 all_goals (have hg10:=True.intro;first|(refine wkG (fun b hg10=>?_);cases b;all_goals first | exact Bool.noConfusion hg10 | simp only [zU,zV] at hg10 | skip) | refine wkR ?_)
 all_goals refine wkP ?_
 all_goals refine kQ ?_
 all_goals have EG:=(tQ EB HS)
 all_goals first
   | (have HT:=yD (show (kZ n f m)=false by simp only [kZ,Bool.not_true,Bool.not_false,Bool.and_true,Bool.true_and,Bool.and_false,Bool.false_and,Bool.or_true,Bool.true_or,Bool.or_false,Bool.false_or,Bool.not_not,hg4,hg10]);go_wp2;go_ret;exact ⟨kP HT.out.symm,EG⟩)
   | (have HT:=yD (show (kZ n f m)=true by simp only [kZ,Bool.not_true,Bool.not_false,Bool.and_true,Bool.true_and,Bool.and_false,Bool.false_and,Bool.or_true,Bool.true_or,Bool.or_false,Bool.false_or,Bool.not_not,hg4,hg10]);go_wp2;go_ret;exact ⟨kP HT.out.symm,EG⟩)
theorem kAs:kY Tryz.prog 69:=yN Tryz.func69 fP fP
theorem kCp {w:World} {vl:Value} {l:(List kD)} (hl:(Rep.slice 29 kE).raw w [vl] l) {cn:List Value} {n:kR} (hn:kV.raw w cn n) {f:Int} :
    Calls Tryz.prog 34 #[vl,.agg cn.toArray,.int .i64 f] w fun e w'=>e=.returned (.int .i64 (idxOf (kZ n f) l))∧Below w.heap.size w w':=by
 obtain ⟨al,pl,rfl,ll⟩:=Rep.sl hl
 have Hn:=yD hn
 obtain ⟨fnv0,rfl,fn_0⟩:=kN hn
 obtain ⟨fna0,fnp0,rfl,fnl0⟩:=Rep.sl fn_0
 go_enter Tryz.func34,Tryz.ntmps34
 go_upto_region 1 with fail
 generalize hwB:World.alloc (World.alloc w _) _=wB
 have EB:Below w.heap.size w wB:=by rw [← hwB];exact bB
 have K4_0:wB.cell? ⟨w.heap.size,0,none⟩=some (.slice fna0 (n).length fnp0):=dL
 have K5_0:wB.cell? ⟨w.heap.size + 1,0,none⟩=some (.int .i64 f):=dL
 clear hwB
 go_wp2_with fail
 refine (zx (kZ n f) kAs (Rep.raw.below hl EB) ?_).mono ?_
 · intro wr hb i h cs hr
   exact kGv hr (cL hb K5_0) (Rep.raw.below Hn.out (tQ EB hb)) (cL hb K4_0)
 rintro e w1 ⟨rfl,hb1⟩
 have EG:Below w.heap.size w w1:=(tQ EB hb1)
 clear hb1
 go_wp2
 go_ret
 exact ⟨rfl,EG⟩
end Go.Proofs.YthpgoddjglnoiaaGreatDoor

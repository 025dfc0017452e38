/-
  Content stores, copied.
  Data found by their names: in a list, in a content store.
-/
import Derived.Test.YtomdenfcfbkfbaaGreatCopyD
set_option linter.unusedVariables false
set_option linter.unusedSimpArgs false
set_option linter.unnecessarySimpa false
set_option maxRecDepth 100000
set_option maxHeartbeats 4000000
namespace Go.Proofs.YtomdenfcfbkfbaaGreat
open Go.RowKit
def kWr (x:jH) (w:World):Ending→World→Prop:=fun e w'=>∃ v,e=.returned (.agg #[.int .i64 x.1,v])∧Rep.kQ 169 kK w' v x.2 (Btw w.heap.size w'.heap.size)∧Below w.heap.size w w'
theorem kWr.made {x:jH} {w:World} {e:Ending} {w':World} (hr:-9223372036854775808≤x.1∧x.1≤9223372036854775807) (hl:x.2.length≤Big) (h:kWr x w e w'):yK kH x w e w':=by
 obtain ⟨v,rfl,O,hb⟩:=h
 exact ⟨[_,_],rfl,Rep.kCu (r:=Rep.int) (q:=Rep.slice 169 kK) (cs:=[_]) (Rep.kr hr) (O.own hl),hb⟩
theorem store_hr {w:World} {cs:List Value} {x:jH} (hx:kH.rd w cs x):-9223372036854775808≤x.1∧x.1≤9223372036854775807:=by
 obtain ⟨sv,_,s_r,_⟩:=jG hx.1
 exact s_r
theorem kTp {w:World} {cs:List Value} {x:jH} (hx:kH.rd w cs x):Calls Tryz.prog 104 #[.agg cs.toArray] w (kWr x w):=by
 obtain ⟨hx,hbd⟩:=hx
 obtain ⟨sv,rfl,s_r,hl⟩:=jG hx
 obtain ⟨la,lp,rfl,_⟩:=Rep.sl hl
 obtain ⟨c,l⟩:=x
 have HL:Hid ((Rep.slice 169 kK).rd w [.slice la l.length lp] l):=yD ⟨hl,hbd.2⟩
 have hlb:l.length≤16777216:=hbd.2.1
 have HCR:=yD s_r
 clear hx s_r hl hbd
 go_enter Tryz.func104,Tryz.ntmps104
 go_wp2
 generalize hwA:World.alloc (World.alloc (World.alloc w _) _) _=wA
 have HZ:Hid (wA.heap.size=w.heap.size + 3):=yD (by rw [← hwA];simp)
 have EA:Below w.heap.size w wA:=by rw [← hwA];exact bD
 have XB:Hid (wA.heap[w.heap.size]?=some (.cells #[.int .i64 c,.slice la l.length lp] 36 (0,0))):=yD (by rw [← hwA];exact jb (jb (kW rfl)))
 have XR:Hid (wA.heap[w.heap.size + 1]?=some (.cells #[.int .i64 0,.slice none 0 0] 36 (0,0))):=yD (by rw [← hwA];exact jb (kW rM))
 have XO:Hid (wA.heap[w.heap.size + 1 + 1]?=some (.cells #[.int .i64 c,.slice none 0 0] 36 (0,0))):=yD (by rw [← hwA];exact kW rM)
 clear hwA
 go_loopw [4] (fun i wr=>∃ (k:Nat) (v:Value),k≤l.length∧i=.int .i64 k∧Hid (wr.heap[w.heap.size + 1 + 1]?=some (.cells #[.int .i64 c,v] 36 (0,0)))∧Hid (Rep.kQ 169 kK wr v (l.take k) (Btw (w.heap.size + 3) wr.heap.size))∧Below (w.heap.size + 1 + 1) wA wr∧w.heap.size + 3≤wr.heap.size) (fun i _=>l.length - (intOf i).toNat)
 case atStart=>exact ⟨0,_,Nat.zero_le _,rfl,XO,yD Rep.kQ.nil,bR,by have:=HZ.out;omega⟩
 obtain ⟨k,v,hk,rfl,XV,HO,hbel,hge⟩:=hrel
 obtain ⟨oa,on,oc,ho,HON⟩:=HO.out.parts;obtain rfl:=ho
 have L0:=kN ((hbel.block _ (show w.heap.size < w.heap.size + 1 + 1 by omega)).trans XB.out) (j:=0) (v:=.int .i64 c) rfl
 have L1:=kN ((hbel.block _ (show w.heap.size < w.heap.size + 1 + 1 by omega)).trans XB.out) (j:=1) (v:=.slice la l.length lp) rfl
 have EW:Below w.heap.size w wr:=EA.trans (hbel.mono rJ)
 have hkn:=Int.natCast_nonneg k
 by_cases hlt:k < l.length
 · obtain ⟨qb,qo,rfl,qc0,qc1,qc2,qc3,qc4,qc5,qr,Aq0,Aq1,Aq2,Aq3,Aq4,Aq5⟩:=Rep.get6 (HL.out.1.below EW) hlt rfl
   have hbd:=Rep.jq HL.out hlt
   have HSN:=yD (List.take_succ_eq_append_getElem hlt)
   generalize l[k]=x at *
   obtain ⟨qv0,qv1,qv2,qhe,q_0,q_1,q_2,q_3,q_4,q_5,q_6,q_7,q_8⟩:=jW qr
   simp only [List.cons.injEq,and_true] at qhe
   obtain ⟨rfl,rfl,rfl,rfl,rfl,rfl⟩:=qhe
   obtain ⟨qa0,qp0,rfl,ql0⟩:=Rep.sl q_2
   obtain ⟨qa1,qp1,rfl,ql1⟩:=Rep.sl q_3
   obtain ⟨qa2,qp2,rfl,ql2⟩:=Rep.sl q_5
   have PX:kg.rd wr _ x.1:=⟨q_0,hbd.1⟩
   have HU:=yD q_8
   go_wp2_with fail
   refine (kDw PX).mono ?_
   rintro e wT ⟨tc,rfl,OT,hbT⟩
   obtain ⟨tv0,tv1,tv2,rfl,t_0,t_1,t_2,t_3,t_4,t_5,t_6⟩:=jS OT.raw
   obtain ⟨ta0,tp0,rfl,tl0⟩:=Rep.sl t_1
   obtain ⟨ta1,tp1,rfl,tl1⟩:=Rep.sl t_2
   obtain ⟨ta2,tp2,rfl,tl2⟩:=Rep.sl t_4
   clear t_0 t_1 t_2 t_3 t_4 t_5 t_6
   have hsT:=hbT.size
   go_upto_region 6 with fail
   generalize hwD:World.alloc wT _=wD
   have ED:Below wT.heap.size wT wD:=mO
   have hsD:=ED.size
   have D0:wD.cell? ⟨wT.heap.size,0,none⟩=some (.slice ta0 x.1.1.length tp0):=nM
   have D1:wD.cell? ⟨wT.heap.size,1,none⟩=some (.slice ta1 x.1.2.1.length tp1):=nM
   have D2:wD.cell? ⟨wT.heap.size,2,none⟩=some (.slice ta2 x.1.2.2.1.length tp2):=nM
   have D3:wD.cell? ⟨wT.heap.size,3,none⟩=some (.int .i64 x.1.2.2.2.1):=nM
   have D4:wD.cell? ⟨wT.heap.size,4,none⟩=some (.int .i64 x.1.2.2.2.2):=nM
   clear hwD
   have hbS:=(tQ hbT ED)
   have XS:=kE XV.out hbS
   have M0:=kN XS (j:=0) (v:=.int .i64 c) rfl
   have M1:=kN XS (j:=1) rfl
   replace L0:=cL hbS L0
   replace L1:=cL hbS L1
   replace Aq5:=cL hbS Aq5
   have FX:=yD (fun (W:World) (hW:Below wD.heap.size wD W)=>cLs10 hW L0 L1 M0 M1 Aq5 D0 D1 D2 D3 D4)
   refine zN (fun W=>Below wD.heap.size wD W) [true,true,true,true,true,true,true,true,true,true,false] rA rA gI (bR.drew) ?_
   intro wS HS
   iterate 10
    all_goals refine wkR ?_
   all_goals first|(refine kL rfl HS ?_)|(refine jE rfl (fun K hK=>?_);go_simp;refine hK _ _ (HS.alloc HS.size _) ?_;clear hK K)
   all_goals refine wkP ?_
   all_goals refine yF ?_
   have hsW:=HS.size
   have hbSW:=(tQ hbS HS)
   have XW:=kE XV.out hbSW
   have hbelW:=hbel.trans (hbSW.mono rJ)
   replace HO:=yD (HO.out.below hbSW)
   have hol:(l.take k).length≤16777216:=rC
   go_wp2_with (at_builtin;refine Rep.jU rfl _ _ 34 rfl (r:=kK) (e:=169) Tryz.underlying34 kKc rfl rG rG (B:=w.heap.size + 3) HO.out rO rO rfl (Rep.own.wide (T:=Btw wr.heap.size wT.heap.size) (Rep.jv (r:=kg) (q:=Rep.int) (cs:=[.slice ta0 x.1.1.length tp0,.slice ta1 x.1.2.1.length tp1,.slice ta2 x.1.2.2.1.length tp2,.int .i64 x.1.2.2.2.1,.int .i64 x.1.2.2.2.2]) (ds:=[.int .i64 x.2]) (x:=x.1) (y:=x.2) (OT.below (tQ ED HS)) (Rep.kr HU.out)) (fun j hj=>hj)) rfl dX gP dM rJ rJ ?_)
   intro v2 w2 hown2 hbel2 hz2
   obtain ⟨va2,vn2,vc2,hv2,HV2N⟩:=hown2.parts;obtain rfl:=hv2
   have XV2:=(hbel2.block _ rJ).trans XW
   have N1:=kN XV2 (j:=1) rfl
   have NF:=frozen_of_row w2 (w.heap.size + 1 + 1) 1 _ _ XV2
   have hbel3:=hbelW.trans (hbel2.mono rJ)
   have HX2:=yD XV2
   have HO2:=yD (Rep.kQ.cast hown2 (HSN.out.symm))
   clear XV2 hown2 HO hbel2 hbel
   go_wp2
   go_roundw
   case rel=>exact ⟨k + 1,_,by omega,by go_num,yD (heap_setCell_same w2 _ 1 _ _ _ HX2.out),yD ((HO2.out.setCell cZ).wide dL),hbel3.setCell rM _,by simp [World.setCell];omega⟩
   simp [intOf];omega
 obtain rfl:k=l.length:=rJ
 skip
 have M0:=kN XV.out (j:=0) (v:=.int .i64 c) rfl
 have M1:=kN XV.out (j:=1) rfl
 have R0:=kN ((hbel.block _ (show w.heap.size + 1 < w.heap.size + 1 + 1 by omega)).trans XR.out) (j:=0) (v:=.int .i64 0) rfl
 have R1:=kN ((hbel.block _ (show w.heap.size + 1 < w.heap.size + 1 + 1 by omega)).trans XR.out) (j:=1) (v:=.slice none 0 0) rfl
 have F0:=fun j=>frozen_of_row wr (w.heap.size + 1) j _ _ ((hbel.block _ (show w.heap.size + 1 < w.heap.size + 1 + 1 by omega)).trans XR.out)
 have F00:=F0 0
 have F01:=F0 1
 clear F0
 have HF:=yD (HO.out.cast pF)
 have HFL:Hid (l.length≤Big):=yD qC
 go_wp2
 refine bodyPost_ret (v:=.agg #[.int .i64 c,.slice oa on oc]) (by simp [results,Tryz.results104,go_sem,R0,R1,F00,F01]) rfl ⟨_,rfl,?_,?_⟩
 · exact (((HF.out.setCell cZ).setCell cZ)).wide dB
 exact (EW.setCell rM _).setCell rM _
theorem kJv {w:World} {cs:List Value} {x:jH} (hx:kH.rd w cs x):Calls Tryz.prog 104 #[.agg cs.toArray] w (yK kH x w) :=
  (kTp hx).mono fun _ _ h=>h.made (store_hr hx) hx.2.2.1
theorem kPm {w:World} {cs:List Value} {x:jH} {g:FuncId} {cp:Array Value} (p:jJ→Bool) (hg:jB Tryz.prog g) (hx:kH.rd w cs x)
    (hcl:∀ wr,Below w.heap.size w wr→∀ y ds,kK.raw wr ds y→Calls Tryz.prog g (#[.agg ds.toArray]++cp) wr (fun e w'=>e=.returned (.bool (p y))∧Below wr.heap.size wr w')) :
    Calls Tryz.prog 142 #[.agg cs.toArray,.func (.func g) #[] cp] w (kWr (x.1,x.2.filter p) w):=by
 have HCL:=yD hcl
 unfold jB at hg
 clear hcl
 obtain ⟨hx,hbd⟩:=hx
 obtain ⟨sv,rfl,s_r,hl⟩:=jG hx
 obtain ⟨la,lp,rfl,_⟩:=Rep.sl hl
 obtain ⟨c,l⟩:=x
 have HL:Hid ((Rep.slice 169 kK).rd w [.slice la l.length lp] l):=yD ⟨hl,hbd.2⟩
 have hlb:l.length≤16777216:=hbd.2.1
 have HCR:=yD s_r
 clear hx s_r hl hbd
 go_enter Tryz.func142,Tryz.ntmps142
 go_wp2
 generalize hwA:World.alloc (World.alloc (World.alloc w _) _) _=wA
 have HZ:Hid (wA.heap.size=w.heap.size + 3):=yD (by rw [← hwA];simp)
 have EA:Below w.heap.size w wA:=by rw [← hwA];exact bD
 have XB:Hid (wA.heap[w.heap.size]?=some (.cells #[.int .i64 c,.slice la l.length lp] 36 (0,0))):=yD (by rw [← hwA];exact jb (jb (kW rfl)))
 have XR:Hid (wA.heap[w.heap.size + 1]?=some (.cells #[.int .i64 0,.slice none 0 0] 36 (0,0))):=yD (by rw [← hwA];exact jb (kW rM))
 have XO:Hid (wA.heap[w.heap.size + 1 + 1]?=some (.cells #[.int .i64 c,.slice none 0 0] 36 (0,0))):=yD (by rw [← hwA];exact kW rM)
 clear hwA
 go_loopw [14] (fun i wr=>∃ (k:Nat) (v:Value),k≤l.length∧i=.int .i64 k∧Hid (wr.heap[w.heap.size + 1 + 1]?=some (.cells #[.int .i64 c,v] 36 (0,0)))∧Hid (Rep.kQ 169 kK wr v ((l.take k).filter p) (Btw (w.heap.size + 3) wr.heap.size))∧Below (w.heap.size + 1 + 1) wA wr∧w.heap.size + 3≤wr.heap.size) (fun i _=>l.length - (intOf i).toNat)
 case atStart=>exact ⟨0,_,Nat.zero_le _,rfl,XO,yD Rep.kQ.nil,bR,by have:=HZ.out;omega⟩
 obtain ⟨k,v,hk,rfl,XV,HO,hbel,hge⟩:=hrel
 obtain ⟨oa,on,oc,ho,HON⟩:=HO.out.parts;obtain rfl:=ho
 have L0:=kN ((hbel.block _ (show w.heap.size < w.heap.size + 1 + 1 by omega)).trans XB.out) (j:=0) (v:=.int .i64 c) rfl
 have L1:=kN ((hbel.block _ (show w.heap.size < w.heap.size + 1 + 1 by omega)).trans XB.out) (j:=1) (v:=.slice la l.length lp) rfl
 have EW:Below w.heap.size w wr:=EA.trans (hbel.mono rJ)
 have hkn:=Int.natCast_nonneg k
 by_cases hlt:k < l.length
 · obtain ⟨qb,qo,rfl,qc0,qc1,qc2,qc3,qc4,qc5,qr,Aq0,Aq1,Aq2,Aq3,Aq4,Aq5⟩:=Rep.get6 (HL.out.1.below EW) hlt rfl
   have hbd:=Rep.jq HL.out hlt
   have hfy:=fun q=>kDe (p:=p) hlt q
   have hfn:=fun q=>kBr (p:=p) hlt q
   have hol:((l.take k).filter p).length≤16777216:=by have h2:=zf (p:=p) (l:=l) (k:=k) rJ;omega
   generalize l[k]=x at *
   have HFY:=yD hfy;have HFN:=yD hfn;clear hfy hfn
   have HXR:=yD qr
   obtain ⟨qv0,qv1,qv2,qhe,q_0,q_1,q_2,q_3,q_4,q_5,q_6,q_7,q_8⟩:=jW qr
   simp only [List.cons.injEq,and_true] at qhe
   obtain ⟨rfl,rfl,rfl,rfl,rfl,rfl⟩:=qhe
   obtain ⟨qa0,qp0,rfl,ql0⟩:=Rep.sl q_2
   obtain ⟨qa1,qp1,rfl,ql1⟩:=Rep.sl q_3
   obtain ⟨qa2,qp2,rfl,ql2⟩:=Rep.sl q_5
   have PX:Hid (kg.rd wr _ x.1):=yD ⟨q_0,hbd.1⟩
   have HU:=yD q_8
   go_wp2_with fail
   generalize hwC:World.alloc wr _=wC
   have EC:Below wr.heap.size wr wC:=mE
   have M0:wC.cell? ⟨wr.heap.size,0,none⟩=some (.slice qa0 x.1.1.length qp0):=nK
   have M1:wC.cell? ⟨wr.heap.size,1,none⟩=some (.slice qa1 x.1.2.1.length qp1):=nK
   have M2:wC.cell? ⟨wr.heap.size,2,none⟩=some (.slice qa2 x.1.2.2.1.length qp2):=nK
   have M3:wC.cell? ⟨wr.heap.size,3,none⟩=some (.int .i64 x.1.2.2.2.1):=nK
   have M4:wC.cell? ⟨wr.heap.size,4,none⟩=some (.int .i64 x.1.2.2.2.2):=nK
   have M5:wC.cell? ⟨wr.heap.size,5,none⟩=some (.int .i64 x.2):=nK
   clear hwC
   have hsC:=EC.size
   refine (HCL.out wC (tQ EW EC) _ _ (HXR.out.below EC)).mono ?_
   rintro e wD ⟨rfl,hbD⟩
   replace M0:=cL hbD M0
   replace M1:=cL hbD M1
   replace M2:=cL hbD M2
   replace M3:=cL hbD M3
   replace M4:=cL hbD M4
   replace M5:=cL hbD M5
   have hbS:=(tQ EC hbD)
   have hsD:=hbD.size
   have XS:=kE XV.out hbS
   have hbelS:=hbel.trans (hbS.mono rJ)
   have HOS:=yD (HO.out.below hbS)
   clear hbD
   cases hp:p x
   · have HT:=yD (HFN.out hp)
     clear HFY HFN hp
     have HX2:=yD XS
     clear XS
     go_wp2
     go_roundw
     case rel=>exact ⟨k + 1,_,by omega,by go_num,HX2,yD ((HOS.out.cast HT.out.symm).wide gP),hbelS,by omega⟩
     simp [intOf];omega
   have HSN:=yD (HFY.out hp)
   clear HFY HFN hp
   have B0:=kN XS (j:=0) (v:=.int .i64 c) rfl
   have B1:=kN XS (j:=1) rfl
   go_upto_region 6 with fail
   have FX:=yD (fun (W:World) (hW:Below wD.heap.size wD W)=>cLs8 hW B0 B1 M0 M1 M2 M3 M4 M5)
   refine jw (fun W=>Below wD.heap.size wD W) [(0,true),(1,true),(2,true),(3,true),(5,true),(6,true),(4,false),(7,true),(8,false)] rA rA gI (bR.drew) ?_
   intro wS HS
   simp only [jO,List.length_cons,List.length_nil,List.getElem?_cons_succ,List.getElem?_cons_zero,List.map_cons,List.map_nil,List.cons_append,List.nil_append,List.drop_succ_cons,List.drop_zero]
   iterate 6
    all_goals refine wkR ?_
   all_goals first|(refine kL rfl HS ?_)|(refine jE rfl (fun K hK=>?_);go_simp;refine (kCr (PX.out.below (tQ hbS HS))).mono ?_;rintro e wT ⟨tc,rfl,OT,hbT⟩;obtain ⟨tv0,tv1,tv2,rfl,t_0,t_1,t_2,t_3,t_4,t_5,t_6⟩:=jS OT.raw;obtain ⟨ta0,tp0,rfl,tl0⟩:=Rep.sl t_1;skip;obtain ⟨ta1,tp1,rfl,tl1⟩:=Rep.sl t_2;skip;obtain ⟨ta2,tp2,rfl,tl2⟩:=Rep.sl t_4;skip;clear t_0 t_1 t_2 t_3 t_4 t_5 t_6;have hsT:=hbT.size;have hrS:=HS.size;have HOT:=yD OT;replace HS:=(tQ HS hbT);refine hK _ _ HS ?_;clear hK K hbT OT)
   all_goals refine wkP ?_
   all_goals refine wkR ?_
   all_goals first|(refine kL rfl HS ?_)|(refine jE rfl (fun K hK=>?_);go_simp;refine hK _ _ (HS.alloc HS.size _) ?_;clear hK K)
   all_goals refine wkP ?_
   all_goals refine yF ?_
   have hsW:=HS.size
   have hbSW:=(tQ hbS HS)
   have XW:=kE XV.out hbSW
   have hbelW:=hbel.trans (hbSW.mono rJ)
   replace HO:=yD (HO.out.below hbSW)
   go_wp2_with (at_builtin;refine Rep.jU rfl _ _ 34 rfl (r:=kK) (e:=169) Tryz.underlying34 kKc rfl rG rG (B:=w.heap.size + 3) HO.out rO rO rfl (Rep.own.wide (T:=Btw wr.heap.size wT.heap.size) (Rep.jv (r:=kg) (q:=Rep.int) (cs:=[.slice ta0 x.1.1.length tp0,.slice ta1 x.1.2.1.length tp1,.slice ta2 x.1.2.2.1.length tp2,.int .i64 x.1.2.2.2.1,.int .i64 x.1.2.2.2.2]) (ds:=[.int .i64 x.2]) (x:=x.1) (y:=x.2) (HOT.out) (Rep.kr HU.out)) gQ) rfl dX gP dM rJ rJ ?_)
   intro v2 w2 hown2 hbel2 hz2
   obtain ⟨va2,vn2,vc2,hv2,HV2N⟩:=hown2.parts;obtain rfl:=hv2
   have XV2:=(hbel2.block _ rJ).trans XW
   have N1:=kN XV2 (j:=1) rfl
   have NF:=frozen_of_row w2 (w.heap.size + 1 + 1) 1 _ _ XV2
   have hbel3:=hbelW.trans (hbel2.mono rJ)
   have HX2:=yD XV2
   have HO2:=yD (Rep.kQ.cast hown2 (HSN.out.symm))
   clear XV2 hown2 HO hbel2 hbel
   go_wp2
   go_roundw
   case rel=>exact ⟨k + 1,_,by omega,by go_num,yD (heap_setCell_same w2 _ 1 _ _ _ HX2.out),yD ((HO2.out.setCell cZ).wide dL),hbel3.setCell rM _,by simp [World.setCell];omega⟩
   simp [intOf];omega
 obtain rfl:k=l.length:=rJ
 skip
 have M0:=kN XV.out (j:=0) (v:=.int .i64 c) rfl
 have M1:=kN XV.out (j:=1) rfl
 have R0:=kN ((hbel.block _ (show w.heap.size + 1 < w.heap.size + 1 + 1 by omega)).trans XR.out) (j:=0) (v:=.int .i64 0) rfl
 have R1:=kN ((hbel.block _ (show w.heap.size + 1 < w.heap.size + 1 + 1 by omega)).trans XR.out) (j:=1) (v:=.slice none 0 0) rfl
 have F0:=fun j=>frozen_of_row wr (w.heap.size + 1) j _ _ ((hbel.block _ (show w.heap.size + 1 < w.heap.size + 1 + 1 by omega)).trans XR.out)
 have F00:=F0 0
 have F01:=F0 1
 clear F0
 have HF:=yD (HO.out.cast pF)
 have HFL:Hid ((l.filter p).length≤Big):=yD (by have:=List.length_filter_le p l;unfold Big;omega)
 go_wp2
 refine bodyPost_ret (v:=.agg #[.int .i64 c,.slice oa on oc]) (by simp [results,Tryz.results142,go_sem,R0,R1,F00,F01]) rfl ⟨_,rfl,?_,?_⟩
 · exact (((HF.out.setCell cZ).setCell cZ)).wide dB
 exact (EW.setCell rM _).setCell rM _
theorem kPn {w:World} {cs:List Value} {x:jH} {g:FuncId} {cp:Array Value} (p:jJ→Bool) (hg:jB Tryz.prog g) (hx:kH.rd w cs x)
    (hcl:∀ wr,Below w.heap.size w wr→∀ y ds,kK.raw wr ds y→Calls Tryz.prog g (#[.agg ds.toArray]++cp) wr (fun e w'=>e=.returned (.bool (p y))∧Below wr.heap.size wr w')) :
    Calls Tryz.prog 142 #[.agg cs.toArray,.func (.func g) #[] cp] w (yK kH (x.1,x.2.filter p) w) :=
  (kPm p hg hx hcl).mono fun _ _ h=>h.made (x:=(x.1,x.2.filter p)) (store_hr (x:=x) hx) (Nat.le_trans (List.length_filter_le _ _) hx.2.2.1)
theorem kNq {w:World} {ds:List Value} {y:jJ} (hy:kK.raw w ds y):Calls Tryz.prog 191 (#[.agg ds.toArray]++#[]) w fun e w'=>e=.returned (.bool true)∧Below w.heap.size w w':=by
 obtain ⟨av0,av1,av2,rfl,a_0,a_1,a_2,a_3,a_4,a_5,a_6,a_7,a_8⟩:=jW hy
 obtain ⟨aa0,ap0,rfl,al0⟩:=Rep.sl a_2
 obtain ⟨aa1,ap1,rfl,al1⟩:=Rep.sl a_3
 obtain ⟨aa2,ap2,rfl,al2⟩:=Rep.sl a_5
 clear hy a_0 a_1 a_2 a_3 a_4 a_5 a_6 a_7 a_8
 show Calls Tryz.prog 191 #[_] w _
 go_enter Tryz.func191,Tryz.ntmps191
 go_wp2
 go_ret
 exact ⟨rfl,bD⟩
theorem kJi:jB Tryz.prog 191:=yh Tryz.func191 rA rA
theorem kHb {w:World} {cs:List Value} {x:jH} (hx:kH.rd w cs x):Calls Tryz.prog 126 #[.agg cs.toArray] w (yK kH x w):=by
 have HX:=yD hx
 obtain ⟨hx,hbd⟩:=hx
 obtain ⟨sv,rfl,s_r,hl⟩:=jG hx
 obtain ⟨la,lp,rfl,_⟩:=Rep.sl hl
 obtain ⟨c,l⟩:=x
 have HL:Hid ((Rep.slice 169 kK).rd w [.slice la l.length lp] l):=yD ⟨hl,hbd.2⟩
 have hlb:l.length≤16777216:=hbd.2.1
 have HCR:=yD s_r
 clear hx s_r hl hbd
 have HFT:Hid (l.filter (fun _=>true)=l):=yD rM
 go_enter Tryz.func126,Tryz.ntmps126
 go_wp2_with fail
 generalize hwB:World.alloc (World.alloc w _) _=wB
 have EB:Below w.heap.size w wB:=by rw [← hwB];exact bD
 have XR:Hid (wB.heap[w.heap.size + 1]?=some (.cells #[.int .i64 0,.slice none 0 0] 36 (0,0))):=yD mQ
 clear hwB
 have hzB:=EB.size
 refine (kPn (fun _=>true) kJi (HX.out.below EB) (fun wr _ y ds hy=>kNq hy)).mono ?_
 rintro e w1 ⟨oc,rfl,O1,hb1⟩
 replace O1:=show kH.own w1 oc (c,l) _ from HFT.out ▸ O1
 obtain ⟨ov,rfl,o_r,o_l⟩:=jG O1.raw
 obtain ⟨oa,op,rfl,_⟩:=Rep.sl o_l
 have X1:=kE XR.out hb1
 have M0:=kN (b:=w.heap.size + 1) X1 (j:=0) rfl
 have M1:=kN (b:=w.heap.size + 1) X1 (j:=1) rfl
 have F0:=frozen_of_row w1 (w.heap.size + 1) 0 _ _ X1
 have F1:=frozen_of_row w1 (w.heap.size + 1) 1 _ _ X1
 have HO1:=yD O1
 have E1:=(tQ EB hb1)
 have hbz:w.heap.size + 2≤wB.heap.size:=by have:=(Array.getElem?_eq_some_iff.1 XR.out).1;omega
 clear o_r o_l O1 hb1
 go_wp2
 refine bodyPost_ret (v:=.agg #[.int .i64 c,.slice oa l.length op]) (by simp [results,Tryz.results126,go_sem,M0,M1,F0,F1]) rfl ⟨[_,_],rfl,?_,?_⟩
 · exact ((HO1.out.setCell cZ).setCell cZ).wide dB
 exact (E1.setCell rM _).setCell rM _
def isD (n:ky) (x:yX):Bool:=eqN x.1 n
def fresh (t:Int) (x:yX):Bool:=decide (t≤x.2.2.2.1)
def kIc (n:ky) (t:Int) (x:jJ):Bool:=eqN x.1.1 n && fresh t x.1
def voidD:yX:=([],[],[],0,0)
def lkD (n:ky) (t:Int) (l:List jJ):yX:=if idxOf (kIc n t) l < 0 then voidD else (l.getD (idxOf (kIc n t) l).toNat (voidD,0)).1
def lkOk (n:ky) (t:Int) (l:List jJ):Bool:=!decide (idxOf (kIc n t) l < 0)
theorem lk_no {n:ky} {t:Int} {l:List jJ} (h:idxOf (kIc n t) l=-1):lkOk n t l=false∧lkD n t l=voidD:=by simp [lkOk,lkD,h]
theorem lk_yes {n:ky} {t:Int} {l:List jJ} {j:Nat} (hj:j < l.length) (h:idxOf (kIc n t) l=j):lkOk n t l=true∧lkD n t l=l[j].1:=by
 unfold lkOk lkD
 rw [h,Int.toNat_natCast,zL hj,if_neg rJ,decide_eq_false rJ]
 exact ⟨rfl,rfl⟩
theorem kIv {α β:Type} {e:TypeId} {r:Rep α} {q:Rep β} {w:World} {ds:List Value} {y:β} {S:Nat→Prop} (h:q.own w ds y S):(Rep.pair (Rep.slice e r) q).own w ([.slice none 0 0]++ds) ([],y) S :=
  Rep.jZ (A:=fun _=>False) (B:=S) Rep.kAs h (fun _ h=>h.elim) (fun _ h=>h) (fun _ h _=>h)
theorem kNa {w:World} {S:Nat→Prop}:kg.own w [.slice none 0 0,.slice none 0 0,.slice none 0 0,.int .i64 0,.int .i64 0] voidD S :=
  kIv (kIv (kIv (Rep.jZ (A:=fun _=>False) (B:=fun _=>False) (cs:=[.int .i64 0]) (ds:=[.int .i64 0]) (Rep.flat.own (Rep.kr (n:=0) rJ)) (Rep.flat.own (Rep.kr (n:=0) rJ)) (fun _ h=>h.elim) (fun _ h=>h.elim) (fun _ h _=>h))))
theorem kTk {w:World} {vl:Value} {l:(List yX)} (hl:(Rep.slice 113 kg).raw w [vl] l) {cn:List Value} {n:ky} (hn:kZ.raw w cn n) :
    Calls Tryz.prog 161 #[vl,.agg cn.toArray] w fun e w'=>e=.returned (.int .i64 (idxOf (isD n) l))∧Below w.heap.size w w':=by
 obtain ⟨al,pl,rfl,ll⟩:=Rep.sl hl
 have Hn:=yD hn
 obtain ⟨fnv0,rfl,fn_0⟩:=kR hn
 obtain ⟨fna0,fnp0,rfl,fnl0⟩:=Rep.sl fn_0
 go_enter Tryz.func161,Tryz.ntmps161
 go_wp2
 generalize hwB:World.alloc w _=wB
 have EB:Below w.heap.size w wB:=by rw [← hwB];exact bD
 have K3_0:wB.cell? ⟨w.heap.size,0,none⟩=some (.slice fna0 (n).length fnp0):=nJ
 clear hwB
 replace hl:=hl.below EB
 go_loopw [5] (fun i wr=>∃ k:Nat,k≤l.length∧i=.int .i64 k∧Hid (∀ j,(h:j < k)→(h2:j < l.length)→(isD n) l[j]=false)∧Below wB.heap.size wB wr) (fun i _=>l.length - (intOf i).toNat)
 case atStart=>exact ⟨0,Nat.zero_le _,rfl,yD (fun _ h=>by omega),bR⟩
 obtain ⟨k,hk,rfl,HN,hbel⟩:=hrel
 replace K3_0:=cL hbel K3_0
 by_cases hlt:k < l.length
 · obtain ⟨qb,qo,rfl,qc0,qc1,qc2,qc3,qc4,qr,Aq0,Aq1,Aq2,Aq3,Aq4⟩:=Rep.get5 (hl.below hbel) (i:=k) rJ rfl
   have hhit:=fun q=>idxOf_hit hlt q HN.out
   have hmis:=fun q=>kAl hlt q HN.out
   generalize l[k]=x at *
   have HD:=yD hhit;have HX:=yD hmis;clear hhit hmis
   obtain ⟨x0,x1,x2,x3,x4⟩:=x
   obtain ⟨qv0,qv1,qv2,qhe,q_0,q_1,q_2,q_3,q_4,q_5,q_6⟩:=jS qr
   simp only [List.cons.injEq,and_true] at qhe
   obtain ⟨rfl,rfl,rfl,rfl,rfl⟩:=qhe
   obtain ⟨qa0,qp0,rfl,ql0⟩:=Rep.sl q_1
   obtain ⟨qa1,qp1,rfl,ql1⟩:=Rep.sl q_2
   obtain ⟨qa2,qp2,rfl,ql2⟩:=Rep.sl q_4
   go_upto_region 4 with fail
   have FX:=yD (fun (W:World) (hW:Below wr.heap.size wr W)=>kLb hW K3_0 Aq0 Aq1 Aq2 Aq3 Aq4)
   refine kV (fun W=>Below wr.heap.size wr W) [true,true,true,true,true,true,false] rA rA gI (bR.drew) ?_
   intro wS HS
   iterate 6
    all_goals refine wkR ?_
   all_goals first | refine wkB (je (Rep.raw.below q_0 HS) (Rep.raw.below Hn.out ((tQ EB (tQ hbel HS))))) (fun wS1 HS=>?_) | refine wkR ?_
   all_goals refine ko ?_
   all_goals cases hg6:eqN x0 n
   all_goals have EG:=(tQ hbel HS)
   all_goals first
     | (have HT:=yD (HD.out (show _=true by simp only [isD,Bool.not_true,Bool.not_false,Bool.and_true,Bool.true_and,Bool.and_false,Bool.false_and,Bool.or_true,Bool.true_or,Bool.or_false,Bool.false_or,Bool.not_not,hg6]));clear HD HX;go_wp2;go_ret;exact ⟨jI HT.out.symm,(tQ EB EG)⟩)
     | (have HT:=yD (HX.out (show _=false by simp only [isD,Bool.not_true,Bool.not_false,Bool.and_true,Bool.true_and,Bool.and_false,Bool.false_and,Bool.or_true,Bool.true_or,Bool.or_false,Bool.false_or,Bool.not_not,hg6]));clear HD HX;go_wp2;go_roundw;(case rel=>exact ⟨k + 1,by omega,by go_num,HT,EG⟩);(case measure=>simp [intOf];omega))
 have HT:=yD (idxOf_miss hlt HN.out)
 go_wp2
 go_ret
 exact ⟨jI HT.out.symm,(tQ EB hbel)⟩
theorem kSd {w:World} {cx:List Value} {x:yX} (hx:kg.raw w cx x) {n:ky} {nc0:Value} {Bn:Nat} (nr:kZ.raw w [nc0] n) (An0:w.cell? ⟨Bn,0,none⟩=some nc0) :
    Calls Tryz.prog 220 (#[.agg cx.toArray]++#[.pointer (some ⟨Bn,0,none⟩)]) w fun e w'=>e=.returned (.bool (isD n x))∧Below w.heap.size w w':=by
 have Hx:=yD hx
 obtain ⟨fxv0,fxv1,fxv2,rfl,fx_0,fx_1,fx_2,fx_3,fx_4,fx_5,fx_6⟩:=jS hx
 obtain ⟨fxa0,fxp0,rfl,fxl0⟩:=Rep.sl fx_1
 obtain ⟨fxa1,fxp1,rfl,fxl1⟩:=Rep.sl fx_2
 obtain ⟨fxa2,fxp2,rfl,fxl2⟩:=Rep.sl fx_4
 obtain ⟨nv0,nhe,n_0⟩:=kR nr
 simp only [List.cons.injEq,and_true] at nhe
 obtain rfl:=nhe
 obtain ⟨na0,np0,rfl,nl0⟩:=Rep.sl n_0
 show Calls Tryz.prog 220 #[_,_] w _
 go_enter Tryz.func220,Tryz.ntmps220
 go_upto_region 1 with fail
 generalize hwB:World.alloc w _=wB
 have EB:Below w.heap.size w wB:=by rw [← hwB];exact bD
 have K2_0:wB.cell? ⟨w.heap.size,0,none⟩=some (.slice fxa0 (x.1).length fxp0):=nJ
 have K2_1:wB.cell? ⟨w.heap.size,1,none⟩=some (.slice fxa1 (x.2.1).length fxp1):=nJ
 have K2_2:wB.cell? ⟨w.heap.size,2,none⟩=some (.slice fxa2 (x.2.2.1).length fxp2):=nJ
 have K2_3:wB.cell? ⟨w.heap.size,3,none⟩=some (.int .i64 x.2.2.2.1):=nJ
 have K2_4:wB.cell? ⟨w.heap.size,4,none⟩=some (.int .i64 x.2.2.2.2):=nJ
 clear hwB
 replace An0:=cL EB An0
 have FX:=yD (fun (W:World) (hW:Below wB.heap.size wB W)=>kLb hW K2_0 K2_1 K2_2 K2_3 K2_4 An0)
 refine ku (fun W=>Below wB.heap.size wB W) [true,true,true,false,true] bR ?_
 intro wS HS
 iterate 3
  all_goals refine wkR ?_
 all_goals first | refine wkB (yz (Rep.raw.below fx_0 (tQ EB HS)) (Rep.raw.below nr (tQ EB HS))) (fun wS1 HS=>?_) | refine wkR ?_
 all_goals (have hg4:=True.intro;first|(refine wkG (fun b hg4=>?_);cases b;all_goals first | exact Bool.noConfusion hg4 | simp only [zU,zV] at hg4 | skip) | refine wkR ?_)
 all_goals refine wkP ?_
 all_goals refine ko ?_
 all_goals have EG:=(tQ EB HS)
 all_goals first
   | (have HT:=yD (show (isD n x)=false by simp only [isD,Bool.not_true,Bool.not_false,Bool.and_true,Bool.true_and,Bool.and_false,Bool.false_and,Bool.or_true,Bool.true_or,Bool.or_false,Bool.false_or,Bool.not_not,hg4]);go_wp2;go_ret;exact ⟨kP HT.out.symm,EG⟩)
   | (have HT:=yD (show (isD n x)=true by simp only [isD,Bool.not_true,Bool.not_false,Bool.and_true,Bool.true_and,Bool.and_false,Bool.false_and,Bool.or_true,Bool.true_or,Bool.or_false,Bool.false_or,Bool.not_not,hg4]);go_wp2;go_ret;exact ⟨kP HT.out.symm,EG⟩)
theorem kFw:jB Tryz.prog 220:=yh Tryz.func220 rA rA
theorem kTu {w:World} {vl:Value} {l:(List yX)} (hl:(Rep.slice 113 kg).raw w [vl] l) {cn:List Value} {n:ky} (hn:kZ.raw w cn n) :
    Calls Tryz.prog 171 #[vl,.agg cn.toArray] w fun e w'=>e=.returned (.int .i64 (idxOf (isD n) l))∧Below w.heap.size w w':=by
 obtain ⟨al,pl,rfl,ll⟩:=Rep.sl hl
 have Hn:=yD hn
 obtain ⟨fnv0,rfl,fn_0⟩:=kR hn
 obtain ⟨fna0,fnp0,rfl,fnl0⟩:=Rep.sl fn_0
 go_enter Tryz.func171,Tryz.ntmps171
 go_upto_region 1 with fail
 generalize hwB:World.alloc w _=wB
 have EB:Below w.heap.size w wB:=by rw [← hwB];exact bD
 have K3_0:wB.cell? ⟨w.heap.size,0,none⟩=some (.slice fna0 (n).length fnp0):=nJ
 clear hwB
 go_wp2_with fail
 refine (kOj (isD n) kFw (Rep.raw.below hl EB) ?_).mono ?_
 · intro wr hb i h cs hr
   exact kSd hr (Rep.raw.below Hn.out (tQ EB hb)) (cL hb K3_0)
 rintro e w1 ⟨rfl,hb1⟩
 have EG:Below w.heap.size w w1:=(tQ EB hb1)
 clear hb1
 go_wp2
 go_ret
 exact ⟨rfl,EG⟩
theorem kTq {w:World} {cx:List Value} {x:yX} (hx:kg.raw w cx x) {t:Int} :
    Calls Tryz.prog 117 #[.agg cx.toArray,.int .i64 t] w fun e w'=>e=.returned (.bool (fresh t x))∧Below w.heap.size w w':=by
 obtain ⟨v0,v1,v2,rfl,a_0,a_1,a_2,a_3,a_4,a_5,a_6⟩:=jS hx
 have HT:=yD (show fresh t x=decide (t≤x.2.2.2.1) from rfl)
 clear hx a_0 a_1 a_2 a_3 a_4 a_5 a_6
 go_enter Tryz.func117,Tryz.ntmps117
 go_wp2
 go_ret
 exact ⟨kP HT.out.symm,bD⟩
theorem kTx {w:World} {cx:List Value} {x:yX} (hx:kg.raw w cx x) {t:Int} :
    Calls Tryz.prog 144 #[.agg cx.toArray,.int .i64 t] w fun e w'=>e=.returned (.bool (fresh t x))∧Below w.heap.size w w':=by
 obtain ⟨v0,v1,v2,rfl,a_0,a_1,a_2,a_3,a_4,a_5,a_6⟩:=jS hx
 have HT:=yD (show fresh t x=decide (t≤x.2.2.2.1) from rfl)
 clear hx a_0 a_1 a_2 a_3 a_4 a_5 a_6
 go_enter Tryz.func144,Tryz.ntmps144
 go_wp2
 go_ret
 exact ⟨kP HT.out.symm,bD⟩
theorem kLr {w:World} {cs:List Value} {x:jH} (hx:kH.rd w cs x) {cn:List Value} {n:ky} (hn:kZ.rd w cn n) {t:Int} :
    Calls Tryz.prog 162 #[.agg cs.toArray,.agg cn.toArray,.int .i64 t] w fun e w'=>∃ ds,e=.returned (.tuple #[.agg ds.toArray,.bool (lkOk n t x.2)])∧kg.own w' ds (lkD n t x.2) (Btw w.heap.size w'.heap.size)∧Below w.heap.size w w':=by
 have HN:=yD hn
 obtain ⟨sv,rfl,s_r,s_0⟩:=jG hx.1
 have HL0:=yD (show (Rep.slice 169 kK).rd w [sv] x.2 from ⟨s_0,hx.2.2⟩)
 obtain ⟨c,l⟩:=x
 have HL:Hid ((Rep.slice 169 kK).rd w [sv] l):=HL0
 clear HL0
 obtain ⟨nv,rfl,n_0⟩:=kR hn.1
 obtain ⟨an,capn,rfl,ln⟩:=Rep.sl n_0
 obtain ⟨aa,capa,rfl,la⟩:=Rep.sl s_0
 clear hn hx n_0 s_r s_0
 show Calls Tryz.prog 162 _ w fun e w'=>∃ ds,e=.returned (.tuple #[.agg ds.toArray,.bool (lkOk n t l)])∧kg.own w' ds (lkD n t l) (Btw w.heap.size w'.heap.size)∧Below w.heap.size w w'
 go_enter Tryz.func162,Tryz.ntmps162
 go_wp2
 generalize hwB:World.alloc (World.alloc (World.alloc w _) _) _=wB
 have EB:Below w.heap.size w wB:=by rw [← hwB];exact bD
 have hsz:wB.heap.size=w.heap.size + 3:=qF
 have K1:wB.cell? ⟨w.heap.size,1,none⟩=some (.slice aa l.length capa):=nJ
 have K2:wB.cell? ⟨w.heap.size + 1,0,none⟩=some (.slice an n.length capn):=nJ
 have XR:Hid (wB.heap[w.heap.size + 2]?=some (.cells #[.slice none 0 0,.slice none 0 0,.slice none 0 0,.int .i64 0,.int .i64 0] 113 (0,0))):=yD mQ
 clear hwB
 replace HL:=yD (Rep.rd.below HL.out EB)
 go_loopw [8] (fun i wr=>∃ k:Nat,k≤l.length∧i=.int .i64 k∧Hid (∀ j,(h:j < k)→(h2:j < l.length)→kIc n t l[j]=false)∧Below wB.heap.size wB wr) (fun i _=>l.length - (intOf i).toNat)
 case atStart=>exact ⟨0,Nat.zero_le _,rfl,yD (fun _ h=>by omega),bR⟩
 obtain ⟨k,hk,rfl,HW,hbel⟩:=hrel
 replace K1:=cL hbel K1
 replace K2:=cL hbel K2
 replace XR:=yD (kE XR.out hbel)
 by_cases hlt:k < l.length
 · have hbd:=(Rep.jq HL.out hlt).1
   have hk0:=Int.natCast_nonneg k
   have hk2:=Int.ofNat_lt.2 hlt
   obtain ⟨qb,qo,rfl,qc0,qc1,qc2,qc3,qc4,qc5,qr,Aq0,Aq1,Aq2,Aq3,Aq4,Aq5⟩:=Rep.get6 (HL.out.1.below hbel) (i:=k) rJ rfl
   have hhit:=fun q=>lk_yes hlt (idxOf_hit (p:=kIc n t) hlt q HW.out)
   have hmis:=fun q=>kAl (p:=kIc n t) hlt q HW.out
   generalize l[k]=x at *
   have HD:=yD hhit;have HX:=yD hmis;clear hhit hmis
   obtain ⟨qv0,qv1,qv2,qhe,q_0,q_1,q_2,q_3,q_4,q_5,q_6,q_7,q_8⟩:=jW qr
   simp only [List.cons.injEq,and_true] at qhe
   obtain ⟨rfl,rfl,rfl,rfl,rfl,rfl⟩:=qhe
   obtain ⟨qa0,qp0,rfl,ql0⟩:=Rep.sl q_2
   obtain ⟨qa1,qp1,rfl,ql1⟩:=Rep.sl q_3
   obtain ⟨qa2,qp2,rfl,ql2⟩:=Rep.sl q_5
   have HR:=yD (show kg.rd wr _ x.1 from ⟨q_0,hbd⟩)
   clear hbd
   go_upto_region 4 with fail
   have FX:=yD (fun (W:World) (hW:Below wr.heap.size wr W)=>cLs8 hW K1 K2 Aq0 Aq1 Aq2 Aq3 Aq4 Aq5)
   refine kV (fun W=>Below wr.heap.size wr W) [true,true,true,true,true,true,true,true,false,true,true,true,true,true,true,true,true,false,true] rA rA gI (bR.drew) ?_
   intro wS HS
   iterate 8
    all_goals refine wkR ?_
   all_goals first | refine wkB (je (Rep.raw.below q_1 HS) (HN.out.1.below ((tQ EB (tQ hbel HS))))) (fun wS1 HS=>?_) | refine wkR ?_
   all_goals (have hg9:=True.intro;first|(refine wkG (fun b hg9=>?_);cases b;all_goals first | exact Bool.noConfusion hg9 | simp only [zU,zV] at hg9 | skip) | refine wkR ?_)
   all_goals refine wkP ?_
   iterate 7
    all_goals refine wkR ?_
   all_goals first | refine wkB (kTq (Rep.raw.below q_0 HS)) (fun wS1 HS=>?_) | refine wkR ?_
   all_goals (have hg18:=True.intro;first|(refine wkG (fun b hg18=>?_);cases b;all_goals first | exact Bool.noConfusion hg18 | simp only [zU,zV] at hg18 | skip) | refine wkR ?_)
   all_goals refine wkP ?_
   all_goals refine ko ?_
   all_goals have EG:=(tQ EB (tQ hbel HS))
   all_goals have hlw:w.heap.size + 3≤wr.heap.size:=pE
   all_goals cases hv:kIc n t x
   all_goals first
     | (exfalso;simp only [kIc,Bool.not_true,Bool.not_false,Bool.and_true,Bool.true_and,Bool.and_false,Bool.false_and,Bool.or_true,Bool.true_or,Bool.or_false,Bool.false_or,Bool.not_not,hg9,hg18] at hv;exact Bool.noConfusion hv)
     | have HT:=yD (HD.out hv)
     | have HT:=yD (HX.out hv)
   all_goals clear HD HX hv
   all_goals first
     | (go_wp2;go_roundw;(case rel=>exact ⟨k + 1,by omega,by go_num,HT,(tQ hbel HS)⟩);(case measure=>simp [intOf];omega);done)
     | skip
   replace Aq0:=cL HS Aq0
   replace Aq1:=cL HS Aq1
   replace Aq2:=cL HS Aq2
   replace Aq3:=cL HS Aq3
   replace Aq4:=cL HS Aq4
   replace Aq5:=cL HS Aq5
   replace K1:=cL HS K1
   have RX:=HR.out.below HS
   have hS2:=Below.size HS
   have XR2:=yD (kE (kE XR.out HS) bR)
   clear HS XR HR
   go_wp2_with fail
   refine (kDw (RX.below bD)).mono ?_
   rintro e w2 ⟨cd,rfl,O2,hb2⟩
   obtain ⟨v0,v1,v2,rfl,d_0,d_1,d_2,d_3,d_4,d_5,d_6⟩:=jS O2.raw
   obtain ⟨a0,p0,rfl,_⟩:=Rep.sl d_1
   obtain ⟨a1,p1,rfl,_⟩:=Rep.sl d_2
   obtain ⟨a2,p2,rfl,_⟩:=Rep.sl d_4
   clear d_0 d_1 d_2 d_3 d_4 d_5 d_6
   have EF:Below w.heap.size w w2:=EG.trans (Below.mono (Below.trans bD hb2) EG.size)
   have HO:=yD O2
   have hgz:=EG.size
   have X1:=kE XR2.out (Below.trans bD hb2)
   clear O2 hb2 RX XR2 EG
   have R0:=kN (b:=w.heap.size + 2) X1 (j:=0) rfl
   have F0:=frozen_of_row w2 (w.heap.size + 2) 0 _ _ X1
   have R1:=kN (b:=w.heap.size + 2) X1 (j:=1) rfl
   have F1:=frozen_of_row w2 (w.heap.size + 2) 1 _ _ X1
   have R2:=kN (b:=w.heap.size + 2) X1 (j:=2) rfl
   have F2:=frozen_of_row w2 (w.heap.size + 2) 2 _ _ X1
   have R3:=kN (b:=w.heap.size + 2) X1 (j:=3) rfl
   have F3:=frozen_of_row w2 (w.heap.size + 2) 3 _ _ X1
   have R4:=kN (b:=w.heap.size + 2) X1 (j:=4) rfl
   have F4:=frozen_of_row w2 (w.heap.size + 2) 4 _ _ X1
   go_wp2
   refine bodyPost_ret (v:=.tuple #[.agg #[.slice a0 x.1.1.length p0,.slice a1 x.1.2.1.length p1,.slice a2 x.1.2.2.1.length p2,.int .i64 x.1.2.2.2.1,.int .i64 x.1.2.2.2.2],.bool true]) (by simp [results,Tryz.results162,go_sem,R0,F0,R1,F1,R2,F2,R3,F3,R4,F4]) rfl ⟨[_,_,_,_,_],by rw [HT.out.1],?_,?_⟩
   · rw [HT.out.2]
     exact (Rep.own.out HO.out cB).wide dB
   repeat (first|(with_reducible exact EF) | refine Below.setCell ?_ mH _)
 have HT:=yD (lk_no (idxOf_miss (p:=kIc n t) hlt HW.out))
 have EG:=(tQ EB hbel)
 have X1:=XR.out
 have hkn:¬ (k:Int) < l.length:=rJ
 have R0:=kN (b:=w.heap.size + 2) X1 (j:=0) rfl
 have F0:=frozen_of_row wr (w.heap.size + 2) 0 _ _ X1
 have R1:=kN (b:=w.heap.size + 2) X1 (j:=1) rfl
 have F1:=frozen_of_row wr (w.heap.size + 2) 1 _ _ X1
 have R2:=kN (b:=w.heap.size + 2) X1 (j:=2) rfl
 have F2:=frozen_of_row wr (w.heap.size + 2) 2 _ _ X1
 have R3:=kN (b:=w.heap.size + 2) X1 (j:=3) rfl
 have F3:=frozen_of_row wr (w.heap.size + 2) 3 _ _ X1
 have R4:=kN (b:=w.heap.size + 2) X1 (j:=4) rfl
 have F4:=frozen_of_row wr (w.heap.size + 2) 4 _ _ X1
 go_wp2
 refine bodyPost_ret (v:=.tuple #[.agg #[.slice none 0 0,.slice none 0 0,.slice none 0 0,.int .i64 0,.int .i64 0],.bool false]) (by simp [results,Tryz.results162,go_sem,R0,F0,R1,F1,R2,F2,R3,F3,R4,F4]) rfl ⟨[_,_,_,_,_],by rw [HT.out.1],?_,?_⟩
 · rw [HT.out.2];exact kNa
 repeat (first|(with_reducible exact EG) | refine Below.setCell ?_ mH _)
theorem kMg {w:World} {cs:List Value} {x:jH} (hx:kH.rd w cs x) {cn:List Value} {n:ky} (hn:kZ.rd w cn n) {t:Int} :
    Calls Tryz.prog 173 #[.agg cs.toArray,.agg cn.toArray,.int .i64 t] w fun e w'=>∃ ds,e=.returned (.tuple #[.agg ds.toArray,.bool (lkOk n t x.2)])∧kg.own w' ds (lkD n t x.2) (Btw w.heap.size w'.heap.size)∧Below w.heap.size w w':=by
 have HN:=yD hn
 obtain ⟨sv,rfl,s_r,s_0⟩:=jG hx.1
 have HL0:=yD (show (Rep.slice 169 kK).rd w [sv] x.2 from ⟨s_0,hx.2.2⟩)
 obtain ⟨c,l⟩:=x
 have HL:Hid ((Rep.slice 169 kK).rd w [sv] l):=HL0
 clear HL0
 obtain ⟨nv,rfl,n_0⟩:=kR hn.1
 obtain ⟨an,capn,rfl,ln⟩:=Rep.sl n_0
 obtain ⟨aa,capa,rfl,la⟩:=Rep.sl s_0
 clear hn hx n_0 s_r s_0
 show Calls Tryz.prog 173 _ w fun e w'=>∃ ds,e=.returned (.tuple #[.agg ds.toArray,.bool (lkOk n t l)])∧kg.own w' ds (lkD n t l) (Btw w.heap.size w'.heap.size)∧Below w.heap.size w w'
 go_enter Tryz.func173,Tryz.ntmps173
 go_wp2
 generalize hwB:World.alloc (World.alloc (World.alloc w _) _) _=wB
 have EB:Below w.heap.size w wB:=by rw [← hwB];exact bD
 have hsz:wB.heap.size=w.heap.size + 3:=qF
 have K1:wB.cell? ⟨w.heap.size,1,none⟩=some (.slice aa l.length capa):=nJ
 have K2:wB.cell? ⟨w.heap.size + 1,0,none⟩=some (.slice an n.length capn):=nJ
 have XR:Hid (wB.heap[w.heap.size + 2]?=some (.cells #[.slice none 0 0,.slice none 0 0,.slice none 0 0,.int .i64 0,.int .i64 0] 113 (0,0))):=yD mQ
 clear hwB
 replace HL:=yD (Rep.rd.below HL.out EB)
 go_loopw [13] (fun i wr=>∃ k:Nat,k≤l.length∧i=.int .i64 k∧Hid (∀ j,(h:j < k)→(h2:j < l.length)→kIc n t l[j]=false)∧Below wB.heap.size wB wr) (fun i _=>l.length - (intOf i).toNat)
 case atStart=>exact ⟨0,Nat.zero_le _,rfl,yD (fun _ h=>by omega),bR⟩
 obtain ⟨k,hk,rfl,HW,hbel⟩:=hrel
 replace K1:=cL hbel K1
 replace K2:=cL hbel K2
 replace XR:=yD (kE XR.out hbel)
 by_cases hlt:k < l.length
 · have hbd:=(Rep.jq HL.out hlt).1
   have hk0:=Int.natCast_nonneg k
   have hk2:=Int.ofNat_lt.2 hlt
   obtain ⟨qb,qo,rfl,qc0,qc1,qc2,qc3,qc4,qc5,qr,Aq0,Aq1,Aq2,Aq3,Aq4,Aq5⟩:=Rep.get6 (HL.out.1.below hbel) (i:=k) rJ rfl
   have hhit:=fun q=>lk_yes hlt (idxOf_hit (p:=kIc n t) hlt q HW.out)
   have hmis:=fun q=>kAl (p:=kIc n t) hlt q HW.out
   generalize l[k]=x at *
   have HD:=yD hhit;have HX:=yD hmis;clear hhit hmis
   obtain ⟨qv0,qv1,qv2,qhe,q_0,q_1,q_2,q_3,q_4,q_5,q_6,q_7,q_8⟩:=jW qr
   simp only [List.cons.injEq,and_true] at qhe
   obtain ⟨rfl,rfl,rfl,rfl,rfl,rfl⟩:=qhe
   obtain ⟨qa0,qp0,rfl,ql0⟩:=Rep.sl q_2
   obtain ⟨qa1,qp1,rfl,ql1⟩:=Rep.sl q_3
   obtain ⟨qa2,qp2,rfl,ql2⟩:=Rep.sl q_5
   have HR:=yD (show kg.rd wr _ x.1 from ⟨q_0,hbd⟩)
   clear hbd
   go_upto_region 4 with fail
   generalize hwC:World.alloc wr _=wC
   have EC:Below wr.heap.size wr wC:=mE
   have M0:wC.cell? ⟨wr.heap.size,0,none⟩=some (.slice qa0 x.1.1.length qp0):=nK
   have M1:wC.cell? ⟨wr.heap.size,1,none⟩=some (.slice qa1 x.1.2.1.length qp1):=nK
   have M2:wC.cell? ⟨wr.heap.size,2,none⟩=some (.slice qa2 x.1.2.2.1.length qp2):=nK
   have M3:wC.cell? ⟨wr.heap.size,3,none⟩=some (.int .i64 x.1.2.2.2.1):=nK
   have M4:wC.cell? ⟨wr.heap.size,4,none⟩=some (.int .i64 x.1.2.2.2.2):=nK
   have M5:wC.cell? ⟨wr.heap.size,5,none⟩=some (.int .i64 x.2):=nK
   replace K2:=cL EC K2
   clear hwC
   have FX:=yD (fun (W:World) (hW:Below wC.heap.size wC W)=>cLs7 hW K2 M0 M1 M2 M3 M4 M5)
   refine ku (fun W=>Below wC.heap.size wC W) [true,true,true,true,false,true,true,true,true,false,true] bR ?_
   intro wS HS
   iterate 4
    all_goals refine wkR ?_
   all_goals first | refine wkB (yz (Rep.raw.below q_1 (tQ EC HS)) (HN.out.1.below ((tQ EB ((tQ hbel (tQ EC HS))))))) (fun wS1 HS=>?_) | refine wkR ?_
   all_goals (have hg5:=True.intro;first|(refine wkG (fun b hg5=>?_);cases b;all_goals first | exact Bool.noConfusion hg5 | simp only [zU,zV] at hg5 | skip) | refine wkR ?_)
   all_goals refine wkP ?_
   iterate 3
    all_goals refine wkR ?_
   all_goals first | refine wkB (kTx (Rep.raw.below q_0 (tQ EC HS))) (fun wS1 HS=>?_) | refine wkR ?_
   all_goals (have hg10:=True.intro;first|(refine wkG (fun b hg10=>?_);cases b;all_goals first | exact Bool.noConfusion hg10 | simp only [zU,zV] at hg10 | skip) | refine wkR ?_)
   all_goals refine wkP ?_
   all_goals refine ko ?_
   all_goals have EG:=(tQ EB ((tQ hbel (tQ EC HS))))
   all_goals have hlw:w.heap.size + 3≤wr.heap.size:=pE
   all_goals cases hv:kIc n t x
   all_goals first
     | (exfalso;simp only [kIc,Bool.not_true,Bool.not_false,Bool.and_true,Bool.true_and,Bool.and_false,Bool.false_and,Bool.or_true,Bool.true_or,Bool.or_false,Bool.false_or,Bool.not_not,hg5,hg10] at hv;exact Bool.noConfusion hv)
     | have HT:=yD (HD.out hv)
     | have HT:=yD (HX.out hv)
   all_goals clear HD HX hv
   all_goals first
     | (go_wp2;go_roundw;(case rel=>exact ⟨k + 1,by omega,by go_num,HT,((tQ hbel (tQ EC HS)))⟩);(case measure=>simp [intOf];omega);done)
     | skip
   replace M0:=cL HS M0
   replace M1:=cL HS M1
   replace M2:=cL HS M2
   replace M3:=cL HS M3
   replace M4:=cL HS M4
   replace M5:=cL HS M5
   have RX:=HR.out.below (tQ EC HS)
   have hS2:=Below.size (tQ EC HS)
   have XR2:=yD (kE (kE XR.out (tQ EC HS)) bR)
   clear HS XR HR
   go_wp2_with fail
   refine (kCr (RX.below bD)).mono ?_
   rintro e w2 ⟨cd,rfl,O2,hb2⟩
   obtain ⟨v0,v1,v2,rfl,d_0,d_1,d_2,d_3,d_4,d_5,d_6⟩:=jS O2.raw
   obtain ⟨a0,p0,rfl,_⟩:=Rep.sl d_1
   obtain ⟨a1,p1,rfl,_⟩:=Rep.sl d_2
   obtain ⟨a2,p2,rfl,_⟩:=Rep.sl d_4
   clear d_0 d_1 d_2 d_3 d_4 d_5 d_6
   have EF:Below w.heap.size w w2:=EG.trans (Below.mono (Below.trans bD hb2) EG.size)
   have HO:=yD O2
   have hgz:=EG.size
   have X1:=kE XR2.out (Below.trans bD hb2)
   clear O2 hb2 RX XR2 EG
   have R0:=kN (b:=w.heap.size + 2) X1 (j:=0) rfl
   have F0:=frozen_of_row w2 (w.heap.size + 2) 0 _ _ X1
   have R1:=kN (b:=w.heap.size + 2) X1 (j:=1) rfl
   have F1:=frozen_of_row w2 (w.heap.size + 2) 1 _ _ X1
   have R2:=kN (b:=w.heap.size + 2) X1 (j:=2) rfl
   have F2:=frozen_of_row w2 (w.heap.size + 2) 2 _ _ X1
   have R3:=kN (b:=w.heap.size + 2) X1 (j:=3) rfl
   have F3:=frozen_of_row w2 (w.heap.size + 2) 3 _ _ X1
   have R4:=kN (b:=w.heap.size + 2) X1 (j:=4) rfl
   have F4:=frozen_of_row w2 (w.heap.size + 2) 4 _ _ X1
   go_wp2
   refine bodyPost_ret (v:=.tuple #[.agg #[.slice a0 x.1.1.length p0,.slice a1 x.1.2.1.length p1,.slice a2 x.1.2.2.1.length p2,.int .i64 x.1.2.2.2.1,.int .i64 x.1.2.2.2.2],.bool true]) (by simp [results,Tryz.results173,go_sem,R0,F0,R1,F1,R2,F2,R3,F3,R4,F4]) rfl ⟨[_,_,_,_,_],by rw [HT.out.1],?_,?_⟩
   · rw [HT.out.2]
     exact (Rep.own.out HO.out cB).wide dB
   repeat (first|(with_reducible exact EF) | refine Below.setCell ?_ mH _)
 have HT:=yD (lk_no (idxOf_miss (p:=kIc n t) hlt HW.out))
 have EG:=(tQ EB hbel)
 have X1:=XR.out
 have hkn:¬ (k:Int) < l.length:=rJ
 have R0:=kN (b:=w.heap.size + 2) X1 (j:=0) rfl
 have F0:=frozen_of_row wr (w.heap.size + 2) 0 _ _ X1
 have R1:=kN (b:=w.heap.size + 2) X1 (j:=1) rfl
 have F1:=frozen_of_row wr (w.heap.size + 2) 1 _ _ X1
 have R2:=kN (b:=w.heap.size + 2) X1 (j:=2) rfl
 have F2:=frozen_of_row wr (w.heap.size + 2) 2 _ _ X1
 have R3:=kN (b:=w.heap.size + 2) X1 (j:=3) rfl
 have F3:=frozen_of_row wr (w.heap.size + 2) 3 _ _ X1
 have R4:=kN (b:=w.heap.size + 2) X1 (j:=4) rfl
 have F4:=frozen_of_row wr (w.heap.size + 2) 4 _ _ X1
 go_wp2
 refine bodyPost_ret (v:=.tuple #[.agg #[.slice none 0 0,.slice none 0 0,.slice none 0 0,.int .i64 0,.int .i64 0],.bool false]) (by simp [results,Tryz.results173,go_sem,R0,F0,R1,F1,R2,F2,R3,F3,R4,F4]) rfl ⟨[_,_,_,_,_],by rw [HT.out.1],?_,?_⟩
 · rw [HT.out.2];exact kNa
 repeat (first|(with_reducible exact EG) | refine Below.setCell ?_ mH _)
end Go.Proofs.YtomdenfcfbkfbaaGreat

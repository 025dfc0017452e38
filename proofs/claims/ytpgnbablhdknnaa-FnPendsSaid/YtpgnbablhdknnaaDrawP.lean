/-
  Interests drawn.
-/
import Derived.Test.YtpgnbablhdknnaaDrawM
set_option linter.unusedVariables false
set_option linter.unusedSimpArgs false
set_option linter.unnecessarySimpa false
set_option maxRecDepth 100000
set_option maxHeartbeats 4000000
namespace Go.Proofs.Ytpgnbablhdknnaa
open Go.RowKit
theorem int_own {w:World} {v:Value} {ps:kw} {n h t:Int} {S:Nat→Prop} (k:(Rep.slice 9 Rep.str).own w [v] ps S) (hn:-1≤n∧n≤1000001) (hh:-1≤h∧h≤17) (ht:0≤t∧t≤21):jl.own w [v,.int .i64 n,.int .i64 h,.int .i64 t] (ps,n,h,t) S :=
  Rep.jm (r:=kZ) (cs:=[v]) (ds:=[.int .i64 n,.int .i64 h,.int .i64 t]) k (Rep.jA (cs:=[.int .i64 n]) (Rep.kW gV) (Rep.jA (cs:=[.int .i64 h]) (Rep.kW gV) (Rep.kW gV)))
theorem kBi {w0 w:World} {p:Nat} (hc:Cur w0 w p) :
    Calls Try.prog 82 #[.pointer (some ⟨p,0,none⟩)] w fun e w'=>∃ a c ps n h t,e=.returned (.agg #[.slice a ps.length c,.int .i64 n,.int .i64 h,.int .i64 t])∧kZ.own w' [.slice a ps.length c] ps (Btw w.heap.size w'.heap.size)∧ps.length≤8∧(-1≤n∧n≤1000001)∧(-1≤h∧h≤17)∧(0≤t∧t≤21)∧Cur w0 w' p∧Touch (fun k=>k=p) w w':=by
 go_enter Try.func82,Try.ntmps82
 obtain ⟨hp0,hp1⟩:=hc.lt
 go_upto_region 1 with fail
 generalize hw_:World.alloc w _=w1
 have E_w1:Below w.heap.size w w1:=dH
 have R:w1.heap[w.heap.size]?=some (.cells #[.slice none 0 0,.int .i64 0,.int .i64 0,.int .i64 0] 29 (0,0)):=fC
 have z_w1:w.heap.size + 1≤w1.heap.size:=fU
 clear hw_
 replace hc:=hc.below E_w1
 have TE:Touch (fun k=>k=p) w w1:=Touch.of_below E_w1
 clear E_w1
 go_wp2_with fail
 refine (kEe hc).mono ?_
 rintro e w2 ⟨a,n,c,ps,rfl,hO,hps,hcN,htN⟩
 have z_w2:=htN.size
 replace R:=htN.kI R gV
 replace TE:=TE.trans htN
 clear hc htN
 have hc:=hcN
 clear hcN
 have HO:=yD (hO.wide (T:=fun j=>w1.heap.size≤j∧j < w2.heap.size) (fun _ h=>h))
 clear hO
 go_upto_region 2 with fail
 generalize hw_:World.alloc w2 _=w3
 have E_w3:Below w2.heap.size w2 w3:=dH
 have B:w3.heap[w2.heap.size]?=some (.cells #[.slice a n c] 27 (0,0)):=fC
 have z_w3:w2.heap.size + 1≤w3.heap.size:=fU
 clear hw_
 replace R:=kI R E_w3
 replace HO:=yD (HO.out.below E_w3)
 replace hc:=hc.below E_w3
 replace TE:=TE.trans (Touch.of_below E_w3)
 clear E_w3
 have KB_0:w3.cell? ⟨w2.heap.size,0,none⟩=some (.slice a n c):=kL B rfl
 obtain ⟨_,_,_,hpe,HPN⟩:=HO.out.parts
 simp only [Value.slice.injEq] at hpe
 have HNL:=yD (hpe.2.1.trans HPN.out)
 clear hpe HPN
 by_cases hz:n=0
 · subst hz
   obtain rfl:ps=[]:=List.eq_nil_of_length_eq_zero HNL.out.symm
   clear KB_0
   have KB_0:w3.cell? ⟨w2.heap.size,0,none⟩=some (.slice a 0 c):=kL B rfl
   have FB_0:w3.frozen? ⟨w2.heap.size,0,none⟩=false:=frozen_of_row w3 (w2.heap.size) 0 _ _ B
   have GB:(World.alloc w3 (.cells #[.string { data:=#[97] }] 9)).frozen? ⟨w2.heap.size,0,none⟩=false:=(frozen?_alloc_cells _ _ _ _).trans FB_0
   have HB:(World.alloc w3 (.cells #[.string { data:=#[97] }] 9)).cell? ⟨w2.heap.size,0,none⟩=some (.slice a 0 c):=kL (kI B (bR.alloc nL _)) rfl
   go_upto_region 4 with fail
   clear GB HB
   have HLit:=yD (Rep.kEo (e:=9) w3 (Rep.zy (s:={ data:=#[97] }) gU))
   generalize hw_:World.alloc w3 _=w4 at HLit ⊢
   have E_w4:Below w3.heap.size w3 w4:=dH
   have z_w4:w3.heap.size + 1≤w4.heap.size:=fU
   clear hw_ HO
   replace R:=kI R E_w4
   replace B:=kI B E_w4
   replace hc:=hc.below E_w4
   replace TE:=TE.trans (Touch.of_below E_w4)
   clear KB_0 FB_0
   clear E_w4
   have HO:=yD (Rep.kT.wide (T:=fun j=>w1.heap.size≤j∧j < w4.heap.size∧j≠w2.heap.size) HLit.out (fun j q=>⟨by omega,by omega,by omega⟩))
   clear HLit
   generalize hw_:World.setCell w4 _ _=w5
   have T_w5:Touch (fun k=>k=w2.heap.size) w4 w5:=by rw [← hw_];exact kC w4 (w2.heap.size) 0 _
   replace B:w5.heap[w2.heap.size]?=some (.cells #[.slice (some ⟨w3.heap.size,0,none⟩) 1 1] 27 (0,0)):=fF
   have z_w5:=T_w5.size
   clear hw_
   replace R:=T_w5.kI R gV
   replace HO:=yD (HO.out.touch T_w5 bW)
   replace hc:=hc.touch T_w5 gV fT
   replace TE:=TE.ku T_w5 gV
   clear T_w5
   go_upto_region 4 with fail
   have FX:=yD (fun (W:World) (hW:Touch (fun k=>k=p) w5 W∧Cur w0 W p)=>kL (hW.1.kI B gV) (j:=0) (v:=.slice (some ⟨w3.heap.size,0,none⟩) 1 1) rfl)
   refine jT (fun W=>Touch (fun k=>k=p) w5 W∧Cur w0 W p) [(0,true),(1,true),(3,true),(5,true),(2,false),(4,false),(6,false),(7,true),(8,true)] gP gP bX (⟨Touch.of_below bR.drew,hc.below bR.drew⟩) ?_
   intro wS HS
   simp only [kg,List.length_cons,List.length_nil,List.getElem?_cons_succ,List.getElem?_cons_zero,List.map_cons,List.map_nil,List.cons_append,List.nil_append,List.drop_succ_cons,List.drop_zero]
   iterate 4
    refine wkR ?_
   refine kQ rfl (fun K hK=>?_);go_simp;refine (kX (n:=9) HS.2 gU).mono ?_;rintro e wS1 ⟨x,hx0,hx1,hx2,rfl,hcS,htS⟩;replace hx1:=hx1 gU;clear hx2;replace HS:=And.intro (HS.1.trans htS) hcS;clear hcS htS;refine hK _ _ HS ?_;clear hK K
   refine wkP ?_
   refine kQ rfl (fun K hK=>?_);go_simp;refine (kX (n:=5) HS.2 gU).mono ?_;rintro e wS1 ⟨y,hy0,hy1,hy2,rfl,hcS,htS⟩;replace hy1:=hy1 gU;clear hy2;replace HS:=And.intro (HS.1.trans htS) hcS;clear hcS htS;refine hK _ _ HS ?_;clear hK K
   refine wkP ?_
   refine kQ rfl (fun K hK=>?_);go_simp;refine (kX (n:=6) HS.2 gU).mono ?_;rintro e wS1 ⟨z,hz0,hz1,hz2,rfl,hcS,htS⟩;replace hz1:=hz1 gU;clear hz2;replace HS:=And.intro (HS.1.trans htS) hcS;clear hcS htS;have hw:IntKind.i64.wrap (1 + z)=1 + z:=IntWalk.i64_in _ gV;refine hK _ _ HS ?_;clear hK K
   refine wkP ?_
   refine wkR ?_
   refine wkR ?_
   refine jb ?_
   have hzs:=HS.1.size
   have R5:=HS.1.kI R gV
   have TE5:=TE.trans HS.1
   have hc5:=HS.2
   have HO5:=yD (HO.out.touch HS.1 bW)
   have FR_0:wS1.frozen? ⟨w.heap.size,0,none⟩=false:=frozen_of_row wS1 w.heap.size 0 _ _ R5
   have FR_1:wS1.frozen? ⟨w.heap.size,1,none⟩=false:=frozen_of_row wS1 w.heap.size 1 _ _ R5
   have FR_2:wS1.frozen? ⟨w.heap.size,2,none⟩=false:=frozen_of_row wS1 w.heap.size 2 _ _ R5
   have FR_3:wS1.frozen? ⟨w.heap.size,3,none⟩=false:=frozen_of_row wS1 w.heap.size 3 _ _ R5
   have KR_0:=kL R5 (j:=0) (v:=.slice none 0 0) rfl
   have KR_1:=kL R5 (j:=1) (v:=.int .i64 0) rfl
   have KR_2:=kL R5 (j:=2) (v:=.int .i64 0) rfl
   have KR_3:=kL R5 (j:=3) (v:=.int .i64 0) rfl
   go_wp2
   refine bodyPost_ret (v:=.agg #[.slice (some ⟨w3.heap.size,0,none⟩) 1 1,.int .i64 x,.int .i64 y,.int .i64 (1 + z)]) (by simp [results,Try.results82,go_sem,KR_0,KR_1,KR_2,KR_3,FR_0,FR_1,FR_2,FR_3]) rfl ⟨_,_,[({ data:=#[97] }:ByteArray)],x,y,1 + z,rfl,?_,by decide,by omega,by omega,by omega,hc5.touch ((((kC _ _ _ _).trans (kC _ _ _ _)).trans (kC _ _ _ _)).trans (kC _ _ _ _)) gV fT,TE5.ku ((((kC _ _ _ _).trans (kC _ _ _ _)).trans (kC _ _ _ _)).trans (kC _ _ _ _)) gV⟩
   exact (((HO5.out.touch ((((kC _ _ _ _).trans (kC _ _ _ _)).trans (kC _ _ _ _)).trans (kC _ _ _ _)) dZ).own gU).wide (fun j hj=>⟨by have:=hj.1;omega,by have:=hj.2.1;simp [World.setCell];omega⟩))
 have hzI:¬ (n:Int)=0:=gV
 skip
 go_upto_region 4 with fail
 clear KB_0
 have FX:=yD (fun (W:World) (hW:Touch (fun k=>k=p) w3 W∧Cur w0 W p)=>kL (hW.1.kI B gV) (j:=0) (v:=.slice a n c) rfl)
 refine jT (fun W=>Touch (fun k=>k=p) w3 W∧Cur w0 W p) [(0,true),(1,true),(3,true),(5,true),(2,false),(4,false),(6,false),(7,true),(8,true)] gP gP bX (⟨Touch.of_below bR.drew,hc.below bR.drew⟩) ?_
 intro wS HS
 simp only [kg,List.length_cons,List.length_nil,List.getElem?_cons_succ,List.getElem?_cons_zero,List.map_cons,List.map_nil,List.cons_append,List.nil_append,List.drop_succ_cons,List.drop_zero]
 iterate 4
  refine wkR ?_
 refine kQ rfl (fun K hK=>?_);go_simp;refine (kX (n:=9) HS.2 gU).mono ?_;rintro e wS1 ⟨x,hx0,hx1,hx2,rfl,hcS,htS⟩;replace hx1:=hx1 gU;clear hx2;replace HS:=And.intro (HS.1.trans htS) hcS;clear hcS htS;refine hK _ _ HS ?_;clear hK K
 refine wkP ?_
 refine kQ rfl (fun K hK=>?_);go_simp;refine (kX (n:=5) HS.2 gU).mono ?_;rintro e wS1 ⟨y,hy0,hy1,hy2,rfl,hcS,htS⟩;replace hy1:=hy1 gU;clear hy2;replace HS:=And.intro (HS.1.trans htS) hcS;clear hcS htS;refine hK _ _ HS ?_;clear hK K
 refine wkP ?_
 refine kQ rfl (fun K hK=>?_);go_simp;refine (kX (n:=6) HS.2 gU).mono ?_;rintro e wS1 ⟨z,hz0,hz1,hz2,rfl,hcS,htS⟩;replace hz1:=hz1 gU;clear hz2;replace HS:=And.intro (HS.1.trans htS) hcS;clear hcS htS;have hw:IntKind.i64.wrap (1 + z)=1 + z:=IntWalk.i64_in _ gV;refine hK _ _ HS ?_;clear hK K
 refine wkP ?_
 refine wkR ?_
 refine wkR ?_
 refine jb ?_
 have hzs:=HS.1.size
 have R5:=HS.1.kI R gV
 have TE5:=TE.trans HS.1
 have hc5:=HS.2
 have HO5:=yD (HO.out.touch HS.1 bW)
 have FR_0:wS1.frozen? ⟨w.heap.size,0,none⟩=false:=frozen_of_row wS1 w.heap.size 0 _ _ R5
 have FR_1:wS1.frozen? ⟨w.heap.size,1,none⟩=false:=frozen_of_row wS1 w.heap.size 1 _ _ R5
 have FR_2:wS1.frozen? ⟨w.heap.size,2,none⟩=false:=frozen_of_row wS1 w.heap.size 2 _ _ R5
 have FR_3:wS1.frozen? ⟨w.heap.size,3,none⟩=false:=frozen_of_row wS1 w.heap.size 3 _ _ R5
 have KR_0:=kL R5 (j:=0) (v:=.slice none 0 0) rfl
 have KR_1:=kL R5 (j:=1) (v:=.int .i64 0) rfl
 have KR_2:=kL R5 (j:=2) (v:=.int .i64 0) rfl
 have KR_3:=kL R5 (j:=3) (v:=.int .i64 0) rfl
 go_wp2
 refine bodyPost_ret (v:=.agg #[.slice a n c,.int .i64 x,.int .i64 y,.int .i64 (1 + z)]) (by simp [results,Try.results82,go_sem,KR_0,KR_1,KR_2,KR_3,FR_0,FR_1,FR_2,FR_3]) rfl ⟨_,_,ps,x,y,1 + z,by rw [HNL.out],?_,by omega,by omega,by omega,by omega,hc5.touch ((((kC _ _ _ _).trans (kC _ _ _ _)).trans (kC _ _ _ _)).trans (kC _ _ _ _)) gV fT,TE5.ku ((((kC _ _ _ _).trans (kC _ _ _ _)).trans (kC _ _ _ _)).trans (kC _ _ _ _)) gV⟩
 rw [← HNL.out]
 exact (((HO5.out.touch ((((kC _ _ _ _).trans (kC _ _ _ _)).trans (kC _ _ _ _)).trans (kC _ _ _ _)) dZ).own fQ).wide bF)
theorem specl7Any_c {w0 w:World} {p:Nat} (hc:Cur w0 w p) :
    Calls Try.prog 74 #[.pointer (some ⟨p,0,none⟩)] w fun e w'=>∃ a c ps n h t,e=.returned (.agg #[.slice a ps.length c,.int .i64 n,.int .i64 h,.int .i64 t])∧kZ.own w' [.slice a ps.length c] ps (Btw w.heap.size w'.heap.size)∧ps.length≤8∧(-1≤n∧n≤1000001)∧(-1≤h∧h≤17)∧(0≤t∧t≤21)∧Cur w0 w' p∧Touch (fun k=>k=p) w w':=by
 go_enter Try.func74,Try.ntmps74
 obtain ⟨hp0,hp1⟩:=hc.lt
 go_upto_region 1 with fail
 generalize hw_:World.alloc w _=w1
 have E_w1:Below w.heap.size w w1:=dH
 have R:w1.heap[w.heap.size]?=some (.cells #[.slice none 0 0,.int .i64 0,.int .i64 0,.int .i64 0] 29 (0,0)):=fC
 have z_w1:w.heap.size + 1≤w1.heap.size:=fU
 clear hw_
 replace hc:=hc.below E_w1
 have TE:Touch (fun k=>k=p) w w1:=Touch.of_below E_w1
 clear E_w1
 go_wp2_with fail
 refine (kBi hc).mono ?_
 rintro e w2 ⟨a,c,ps,n,h,t,rfl,hO,hps,hn,hh,ht,hcN,htN⟩
 have z_w2:=htN.size
 replace R:=htN.kI R gV
 replace TE:=TE.trans htN
 clear hc htN
 have hc:=hcN
 clear hcN
 have HO:=yD (hO.wide (T:=fun j=>w1.heap.size≤j∧j < w2.heap.size) (fun _ h=>h))
 clear hO
 go_upto_region 2 with fail
 generalize hw_:World.alloc w2 _=w3
 have E_w3:Below w2.heap.size w2 w3:=dH
 have B:w3.heap[w2.heap.size]?=some (.cells #[.slice a ps.length c,.int .i64 n,.int .i64 h,.int .i64 t] 29 (0,0)):=fC
 have z_w3:w2.heap.size + 1≤w3.heap.size:=fU
 clear hw_
 replace R:=kI R E_w3
 replace HO:=yD (HO.out.below E_w3)
 replace hc:=hc.below E_w3
 replace TE:=TE.trans (Touch.of_below E_w3)
 clear E_w3
 go_wp2_with fail
 refine (kX (n:=12) hc gU).mono ?_
 rintro e w4 ⟨x,hx0,hx1,hx2,rfl,hcN,htN⟩
 have z_w4:=htN.size
 replace R:=htN.kI R gV
 replace B:=htN.kI B gV
 replace HO:=yD (HO.out.touch htN bW)
 replace TE:=TE.trans htN
 clear hc htN
 have hc:=hcN
 clear hcN
 replace hx1:=hx1 gU
 clear hx2
 obtain ⟨m,rfl⟩:=Int.eq_ofNat_of_zero_le hx0
 by_cases hm:m=0
 · have hmk:(m:Int)=0:=gV
   subst hm
   go_wp2_with fail
   refine (kFu hc).mono ?_
   rintro e w5 ⟨a2,c2,qs,rfl,hQ,hqs,hcN,htN⟩
   have z_w5:=htN.size
   replace R:=htN.kI R gV
   replace B:=htN.kI B gV
   replace HO:=yD (HO.out.touch htN bW)
   replace TE:=TE.trans htN
   clear hc htN
   have hc:=hcN
   clear hcN
   have HQ:=yD (hQ.wide (T:=fun j=>w1.heap.size≤j∧j < w5.heap.size∧j≠w2.heap.size) bJ)
   clear hQ HO
   obtain ⟨KB_0,KB_1,KB_2,KB_3⟩:=jL B
   obtain ⟨FB_0,FB_1,FB_2,FB_3⟩:=yJ B
   go_upto_region 11 with fail
   generalize hw_:World.setCell w5 _ _=w6
   have T_w6:Touch (fun k=>k=w2.heap.size) w5 w6:=by rw [← hw_];exact kC w5 (w2.heap.size) 0 _
   replace B:w6.heap[w2.heap.size]?=some (.cells #[.slice a2 qs.length c2,.int .i64 n,.int .i64 h,.int .i64 t] 29 (0,0)):=fF
   have z_w6:=T_w6.size
   clear hw_
   replace R:=T_w6.kI R gV
   replace HQ:=yD (HQ.out.touch T_w6 bW)
   replace hc:=hc.touch T_w6 gV fT
   replace TE:=TE.ku T_w6 gV
   clear KB_0 KB_1 KB_2 KB_3 FB_0 FB_1 FB_2 FB_3
   clear T_w6
   have HQ2:=yD (HQ.out.wide (T:=fun j=>w1.heap.size≤j∧j < w6.heap.size) dF)
   obtain ⟨KR_0,KR_1,KR_2,KR_3⟩:=jL R
   obtain ⟨KB_0,KB_1,KB_2,KB_3⟩:=jL B
   obtain ⟨FR_0,FR_1,FR_2,FR_3⟩:=yJ R
   go_wp2
   refine bodyPost_ret (v:=.agg #[.slice a2 qs.length c2,.int .i64 n,.int .i64 h,.int .i64 t]) bD rfl ⟨a2,c2,qs,n,h,t,rfl,?_,by omega,by omega,by omega,by omega,hc.touch ((((kC _ _ _ _).trans (kC _ _ _ _)).trans (kC _ _ _ _)).trans (kC _ _ _ _)) gV fT,TE.ku ((((kC _ _ _ _).trans (kC _ _ _ _)).trans (kC _ _ _ _)).trans (kC _ _ _ _)) gV⟩
   exact (HQ2.out.touch ((((kC _ _ _ _).trans (kC _ _ _ _)).trans (kC _ _ _ _)).trans (kC _ _ _ _)) dZ).wide bF
 have hm0:¬ (m:Int)=0:=gV
 by_cases hm1_:m=1
 · subst hm1_
   go_wp2_with fail
   refine (kAg (hc.below (bR.alloc nL _)) (Rep.kGl _ [-1,1000000,1000001] gU gU) gV gU gU).mono ?_
   rintro e w5 ⟨y,hyM,hyR,rfl,hcN,htN⟩
   replace htN:=(Touch.of_below (S:=fun k=>k=p) (bR.alloc nL _)).trans htN
   have z_w5:=htN.size
   replace R:=htN.kI R gV
   replace B:=htN.kI B gV
   replace HO:=yD (HO.out.touch htN bW)
   replace TE:=TE.trans htN
   clear hc htN
   have hc:=hcN
   clear hcN
   have hyb:-1≤y∧y≤1000001:=by simp at hyM;omega
   clear hyM hyR
   obtain ⟨KB_0,KB_1,KB_2,KB_3⟩:=jL B
   obtain ⟨FB_0,FB_1,FB_2,FB_3⟩:=yJ B
   go_upto_region 11 with fail
   generalize hw_:World.setCell w5 _ _=w6
   have T_w6:Touch (fun k=>k=w2.heap.size) w5 w6:=by rw [← hw_];exact kC w5 (w2.heap.size) 1 _
   replace B:w6.heap[w2.heap.size]?=some (.cells #[.slice a ps.length c,.int .i64 y,.int .i64 h,.int .i64 t] 29 (0,0)):=by rw [← hw_];exact jJ B 1
   have z_w6:=T_w6.size
   clear hw_
   replace R:=T_w6.kI R gV
   replace HO:=yD (HO.out.touch T_w6 bW)
   replace hc:=hc.touch T_w6 gV fT
   replace TE:=TE.ku T_w6 gV
   clear KB_0 KB_1 KB_2 KB_3 FB_0 FB_1 FB_2 FB_3
   clear T_w6
   obtain ⟨KR_0,KR_1,KR_2,KR_3⟩:=jL R
   obtain ⟨KB_0,KB_1,KB_2,KB_3⟩:=jL B
   obtain ⟨FR_0,FR_1,FR_2,FR_3⟩:=yJ R
   go_wp2
   refine bodyPost_ret (v:=.agg #[.slice a ps.length c,.int .i64 y,.int .i64 h,.int .i64 t]) bD rfl ⟨a,c,ps,y,h,t,rfl,?_,by omega,by omega,by omega,by omega,hc.touch ((((kC _ _ _ _).trans (kC _ _ _ _)).trans (kC _ _ _ _)).trans (kC _ _ _ _)) gV fT,TE.ku ((((kC _ _ _ _).trans (kC _ _ _ _)).trans (kC _ _ _ _)).trans (kC _ _ _ _)) gV⟩
   exact (HO.out.touch ((((kC _ _ _ _).trans (kC _ _ _ _)).trans (kC _ _ _ _)).trans (kC _ _ _ _)) dZ).wide bF
 have hm1:¬ (m:Int)=1:=gV
 by_cases hm2_:m=2
 · subst hm2_
   go_wp2_with fail
   refine (kAg (hc.below (bR.alloc nL _)) (Rep.kGl _ [-1,16,17] gU gU) gV gU gU).mono ?_
   rintro e w5 ⟨y,hyM,hyR,rfl,hcN,htN⟩
   replace htN:=(Touch.of_below (S:=fun k=>k=p) (bR.alloc nL _)).trans htN
   have z_w5:=htN.size
   replace R:=htN.kI R gV
   replace B:=htN.kI B gV
   replace HO:=yD (HO.out.touch htN bW)
   replace TE:=TE.trans htN
   clear hc htN
   have hc:=hcN
   clear hcN
   have hyb:-1≤y∧y≤17:=by simp at hyM;omega
   clear hyM hyR
   obtain ⟨KB_0,KB_1,KB_2,KB_3⟩:=jL B
   obtain ⟨FB_0,FB_1,FB_2,FB_3⟩:=yJ B
   go_upto_region 11 with fail
   generalize hw_:World.setCell w5 _ _=w6
   have T_w6:Touch (fun k=>k=w2.heap.size) w5 w6:=by rw [← hw_];exact kC w5 (w2.heap.size) 2 _
   replace B:w6.heap[w2.heap.size]?=some (.cells #[.slice a ps.length c,.int .i64 n,.int .i64 y,.int .i64 t] 29 (0,0)):=by rw [← hw_];exact jJ B 2
   have z_w6:=T_w6.size
   clear hw_
   replace R:=T_w6.kI R gV
   replace HO:=yD (HO.out.touch T_w6 bW)
   replace hc:=hc.touch T_w6 gV fT
   replace TE:=TE.ku T_w6 gV
   clear KB_0 KB_1 KB_2 KB_3 FB_0 FB_1 FB_2 FB_3
   clear T_w6
   obtain ⟨KR_0,KR_1,KR_2,KR_3⟩:=jL R
   obtain ⟨KB_0,KB_1,KB_2,KB_3⟩:=jL B
   obtain ⟨FR_0,FR_1,FR_2,FR_3⟩:=yJ R
   go_wp2
   refine bodyPost_ret (v:=.agg #[.slice a ps.length c,.int .i64 n,.int .i64 y,.int .i64 t]) bD rfl ⟨a,c,ps,n,y,t,rfl,?_,by omega,by omega,by omega,by omega,hc.touch ((((kC _ _ _ _).trans (kC _ _ _ _)).trans (kC _ _ _ _)).trans (kC _ _ _ _)) gV fT,TE.ku ((((kC _ _ _ _).trans (kC _ _ _ _)).trans (kC _ _ _ _)).trans (kC _ _ _ _)) gV⟩
   exact (HO.out.touch ((((kC _ _ _ _).trans (kC _ _ _ _)).trans (kC _ _ _ _)).trans (kC _ _ _ _)) dZ).wide bF
 have hm2:¬ (m:Int)=2:=gV
 by_cases hm3_:m=3
 · subst hm3_
   go_wp2_with fail
   refine (kAg (hc.below (bR.alloc nL _)) (Rep.kGl _ [0,20,21] gU gU) gV gU gU).mono ?_
   rintro e w5 ⟨y,hyM,hyR,rfl,hcN,htN⟩
   replace htN:=(Touch.of_below (S:=fun k=>k=p) (bR.alloc nL _)).trans htN
   have z_w5:=htN.size
   replace R:=htN.kI R gV
   replace B:=htN.kI B gV
   replace HO:=yD (HO.out.touch htN bW)
   replace TE:=TE.trans htN
   clear hc htN
   have hc:=hcN
   clear hcN
   have hyb:0≤y∧y≤21:=by simp at hyM;omega
   clear hyM hyR
   obtain ⟨KB_0,KB_1,KB_2,KB_3⟩:=jL B
   obtain ⟨FB_0,FB_1,FB_2,FB_3⟩:=yJ B
   go_upto_region 11 with fail
   generalize hw_:World.setCell w5 _ _=w6
   have T_w6:Touch (fun k=>k=w2.heap.size) w5 w6:=by rw [← hw_];exact kC w5 (w2.heap.size) 3 _
   replace B:w6.heap[w2.heap.size]?=some (.cells #[.slice a ps.length c,.int .i64 n,.int .i64 h,.int .i64 y] 29 (0,0)):=by rw [← hw_];exact jJ B 3
   have z_w6:=T_w6.size
   clear hw_
   replace R:=T_w6.kI R gV
   replace HO:=yD (HO.out.touch T_w6 bW)
   replace hc:=hc.touch T_w6 gV fT
   replace TE:=TE.ku T_w6 gV
   clear KB_0 KB_1 KB_2 KB_3 FB_0 FB_1 FB_2 FB_3
   clear T_w6
   obtain ⟨KR_0,KR_1,KR_2,KR_3⟩:=jL R
   obtain ⟨KB_0,KB_1,KB_2,KB_3⟩:=jL B
   obtain ⟨FR_0,FR_1,FR_2,FR_3⟩:=yJ R
   go_wp2
   refine bodyPost_ret (v:=.agg #[.slice a ps.length c,.int .i64 n,.int .i64 h,.int .i64 y]) bD rfl ⟨a,c,ps,n,h,y,rfl,?_,by omega,by omega,by omega,by omega,hc.touch ((((kC _ _ _ _).trans (kC _ _ _ _)).trans (kC _ _ _ _)).trans (kC _ _ _ _)) gV fT,TE.ku ((((kC _ _ _ _).trans (kC _ _ _ _)).trans (kC _ _ _ _)).trans (kC _ _ _ _)) gV⟩
   exact (HO.out.touch ((((kC _ _ _ _).trans (kC _ _ _ _)).trans (kC _ _ _ _)).trans (kC _ _ _ _)) dZ).wide bF
 have hm3:¬ (m:Int)=3:=gV
 obtain ⟨KR_0,KR_1,KR_2,KR_3⟩:=jL R
 obtain ⟨KB_0,KB_1,KB_2,KB_3⟩:=jL B
 obtain ⟨FR_0,FR_1,FR_2,FR_3⟩:=yJ R
 go_wp2
 refine bodyPost_ret (v:=.agg #[.slice a ps.length c,.int .i64 n,.int .i64 h,.int .i64 t]) bD rfl ⟨a,c,ps,n,h,t,rfl,?_,by omega,by omega,by omega,by omega,hc.touch ((((kC _ _ _ _).trans (kC _ _ _ _)).trans (kC _ _ _ _)).trans (kC _ _ _ _)) gV fT,TE.ku ((((kC _ _ _ _).trans (kC _ _ _ _)).trans (kC _ _ _ _)).trans (kC _ _ _ _)) gV⟩
 exact (HO.out.touch ((((kC _ _ _ _).trans (kC _ _ _ _)).trans (kC _ _ _ _)).trans (kC _ _ _ _)) dZ).wide bF
end Go.Proofs.Ytpgnbablhdknnaa

/-
  Nodes, copied.
  Parts of a node, set anew.
  Small functions on numbers: ranges, comparisons; the library's cmp.Compare and cmp.Or.
  Names: compared.
  Data found by their names: in a list, in a content store.
  An action: a node and what it sends.
  Entries of a store found by their names; lists of data likewise.
-/
import Derived.Test.YtlfblpgkegeaeaaGreatCopyR
set_option linter.unusedVariables false
set_option linter.unusedSimpArgs false
set_option linter.unnecessarySimpa false
set_option maxRecDepth 100000
set_option maxHeartbeats 4000000
namespace Go.Proofs.YtlfblpgkegeaeaaGreat
open Go.RowKit
def kQn (x:kAf) (w:World) (e:Ending) (w':World):Prop :=
  ∃ (v:Value) (ds:List Value) (mid:Nat),e=.returned (.agg (v :: ds).toArray)∧Rep.kg 66 kP w' v x.1 (Btw w.heap.size mid)∧(Rep.pair kI (Rep.pair (Rep.slice 175 kE) (Rep.pair (Rep.slice 178 kJ) (Rep.pair (Rep.slice 181 kX) (Rep.pair (Rep.slice 184 kF) Rep.int))))).own w' ds x.2 (Btw mid w'.heap.size)∧w.heap.size≤mid∧mid≤w'.heap.size∧Below w.heap.size w w'
theorem kQn.made {x:kAf} {w:World} {e:Ending} {w':World} (h:kQn x w e w') (hb:jC.bdd Big x):yM jC x w e w':=by
 obtain ⟨v,ds,mid,rfl,h1,h2,h3,h4,h5⟩:=h
 refine ⟨v :: ds,rfl,?_,h5⟩
 exact Rep.jW (r:=Rep.slice 66 kP) (q:=(Rep.pair kI (Rep.pair (Rep.slice 175 kE) (Rep.pair (Rep.slice 178 kJ) (Rep.pair (Rep.slice 181 kX) (Rep.pair (Rep.slice 184 kF) Rep.int)))))) (cs:=[v]) (ds:=ds) (x:=x.1) (y:=x.2) (S:=Btw w.heap.size w'.heap.size) (h1.own hb.1.1) h2 mH mI fP
theorem kRe {w:World} {cx:List Value} {x:kAf} (hx:jC.rd w cx x):Calls Tryz.prog 62 #[.agg cx.toArray] w (kQn x w):=by
 obtain ⟨q0,q1,q2,q3,q4,q5,q6⟩:=hx.2
 have HB0:Hid (x.1.length≤Big):=yD q0.1
 have HB2:Hid (x.2.2.1.length≤Big):=yD q2.1
 have HB3:Hid (x.2.2.2.1.length≤Big):=yD q3.1
 have HB4:Hid (x.2.2.2.2.1.length≤Big):=yD q4.1
 have HB5:Hid (x.2.2.2.2.2.1.length≤Big):=yD q5.1
 obtain ⟨av0,av2,av3,av4,av5,av6,rfl,a_0,a_1,a_2,a_3,a_4,a_5,a_6,a_7,a_8⟩:=jo hx.1
 obtain ⟨aa0,ap0,rfl,al0⟩:=Rep.sl a_0
 obtain ⟨aa2,ap2,rfl,al2⟩:=Rep.sl a_3
 obtain ⟨aa3,ap3,rfl,al3⟩:=Rep.sl a_4
 obtain ⟨aa4,ap4,rfl,al4⟩:=Rep.sl a_5
 obtain ⟨aa5,ap5,rfl,al5⟩:=Rep.sl a_6
 obtain ⟨aa6,ap6,rfl,al6⟩:=Rep.sl a_7
 have RD0:Hid ((Rep.slice 66 kP).rd w [.slice aa0 x.1.length ap0] x.1):=yD ⟨a_0,q0⟩
 have RD1:Hid (kI.rd w [.int .i64 x.2.1.1,.slice aa2 x.2.1.2.length ap2] x.2.1):=yD ⟨a_1,q1⟩
 have RD2:Hid ((Rep.slice 175 kE).rd w [.slice aa3 x.2.2.1.length ap3] x.2.2.1):=yD ⟨a_4,q2⟩
 have RD3:Hid ((Rep.slice 178 kJ).rd w [.slice aa4 x.2.2.2.1.length ap4] x.2.2.2.1):=yD ⟨a_5,q3⟩
 have RD4:Hid ((Rep.slice 181 kX).rd w [.slice aa5 x.2.2.2.2.1.length ap5] x.2.2.2.2.1):=yD ⟨a_6,q4⟩
 have RD5:Hid ((Rep.slice 184 kF).rd w [.slice aa6 x.2.2.2.2.2.1.length ap6] x.2.2.2.2.2.1):=yD ⟨a_7,q5⟩
 have HDR:=yD a_8
 clear hx q0 q1 q2 q3 q4 q5 q6 a_0 a_1 a_2 a_3 a_4 a_5 a_6 a_7 a_8
 go_enter Tryz.func62,Tryz.ntmps62
 go_upto_region 1 with fail
 generalize hwB:World.alloc (World.alloc w _) _=wB
 have EB:Below w.heap.size w wB:=by rw [← hwB];exact bH
 have K0:wB.cell? ⟨w.heap.size,0,none⟩=some (.slice aa0 x.1.length ap0):=nV
 have K1:wB.cell? ⟨w.heap.size,1,none⟩=some (.int .i64 x.2.1.1):=nV
 have K2:wB.cell? ⟨w.heap.size,2,none⟩=some (.slice aa2 x.2.1.2.length ap2):=nV
 have K3:wB.cell? ⟨w.heap.size,3,none⟩=some (.slice aa3 x.2.2.1.length ap3):=nV
 have K4:wB.cell? ⟨w.heap.size,4,none⟩=some (.slice aa4 x.2.2.2.1.length ap4):=nV
 have K5:wB.cell? ⟨w.heap.size,5,none⟩=some (.slice aa5 x.2.2.2.2.1.length ap5):=nV
 have K6:wB.cell? ⟨w.heap.size,6,none⟩=some (.slice aa6 x.2.2.2.2.2.1.length ap6):=nV
 have K7:wB.cell? ⟨w.heap.size,7,none⟩=some (.int .i64 x.2.2.2.2.2.2):=nV
 have XR:wB.heap[w.heap.size + 1]?=some (.cells #[.slice none 0 0,.int .i64 0,.slice none 0 0,.slice none 0 0,.slice none 0 0,.slice none 0 0,.slice none 0 0,.int .i64 0] 56 (0,0)):=by rw [← hwB];exact kN rQ
 have hzB:wB.heap.size=w.heap.size + 2:=qK
 clear hwB
 have FX:=yD (fun (W:World) (hW:Below wB.heap.size wB W)=>cLs8 hW K0 K1 K2 K3 K4 K5 K6 K7)
 refine jf (fun W=>Below wB.heap.size wB W) [(0,true),(1,true),(3,true),(4,true),(6,true),(7,true),(9,true),(10,true),(12,true),(13,true),(15,true),(16,true),(18,true),(19,true),(2,false),(5,false),(8,false),(11,false),(14,false),(17,false),(20,true)] rF rF gX (bR.drew) ?_
 intro wS HS
 simp only [jY,List.length_cons,List.length_nil,List.getElem?_cons_succ,List.getElem?_cons_zero,List.map_cons,List.map_nil,List.cons_append,List.nil_append,List.drop_succ_cons,List.drop_zero]
 iterate 14
  all_goals refine wkR ?_
 all_goals first|(refine kU rfl HS ?_)|(refine ky rfl (fun K hK=>?_);go_simp;refine (kPm (RD0.out.below (tQ EB HS))).mono ?_;rintro e u0 ⟨v1,rfl,O1,hbU⟩;obtain ⟨ba0,bn0,bp0,hv1,HN0⟩:=O1.parts;obtain rfl:=hv1;have HO0:=yD O1;clear O1;have hz0:=hbU.size;have hs0:=HS.size;replace HS:=(tQ HS hbU);refine hK _ _ HS ?_;clear hK K hbU)
 all_goals refine wkP ?_
 all_goals first|(refine kU rfl HS ?_)|(refine ky rfl (fun K hK=>?_);go_simp;refine (kTj (RD1.out.below (tQ EB HS))).mono ?_;rintro e u1 ⟨cs,rfl,O2,hbU⟩;obtain ⟨cv,rfl,c_0,c_1⟩:=jI O2.raw;obtain ⟨ba1,bp1,rfl,_⟩:=Rep.sl c_1;have HO1:=yD O2;clear O2 c_0 c_1;replace HO0:=yD (HO0.out.below hbU);have hz1:=hbU.size;have hs1:=HS.size;replace HS:=(tQ HS hbU);refine hK _ _ HS ?_;clear hK K hbU)
 all_goals refine wkP ?_
 all_goals first|(refine kU rfl HS ?_)|(refine ky rfl (fun K hK=>?_);go_simp;refine (kKe (RD2.out.below (tQ EB HS))).mono ?_;rintro e u2 ⟨v1,rfl,O1,hbU⟩;obtain ⟨ba2,bn2,bp2,hv1,HN2⟩:=O1.parts;obtain rfl:=hv1;have HO2:=yD (O1.own HB2.out);clear O1;replace HO0:=yD (HO0.out.below hbU);replace HO1:=yD (HO1.out.below hbU);have hz2:=hbU.size;have hs2:=HS.size;replace HS:=(tQ HS hbU);refine hK _ _ HS ?_;clear hK K hbU)
 all_goals refine wkP ?_
 all_goals first|(refine kU rfl HS ?_)|(refine ky rfl (fun K hK=>?_);go_simp;refine (kKc (RD3.out.below (tQ EB HS))).mono ?_;rintro e u3 ⟨v1,rfl,O1,hbU⟩;obtain ⟨ba3,bn3,bp3,hv1,HN3⟩:=O1.parts;obtain rfl:=hv1;have HO3:=yD (O1.own HB3.out);clear O1;replace HO0:=yD (HO0.out.below hbU);replace HO1:=yD (HO1.out.below hbU);replace HO2:=yD (HO2.out.below hbU);have hz3:=hbU.size;have hs3:=HS.size;replace HS:=(tQ HS hbU);refine hK _ _ HS ?_;clear hK K hbU)
 all_goals refine wkP ?_
 all_goals first|(refine kU rfl HS ?_)|(refine ky rfl (fun K hK=>?_);go_simp;refine (kTi (RD4.out.below (tQ EB HS))).mono ?_;rintro e u4 ⟨v1,rfl,O1,hbU⟩;obtain ⟨ba4,bn4,bp4,hv1,HN4⟩:=O1.parts;obtain rfl:=hv1;have HO4:=yD (O1.own HB4.out);clear O1;replace HO0:=yD (HO0.out.below hbU);replace HO1:=yD (HO1.out.below hbU);replace HO2:=yD (HO2.out.below hbU);replace HO3:=yD (HO3.out.below hbU);have hz4:=hbU.size;have hs4:=HS.size;replace HS:=(tQ HS hbU);refine hK _ _ HS ?_;clear hK K hbU)
 all_goals refine wkP ?_
 all_goals first|(refine kU rfl HS ?_)|(refine ky rfl (fun K hK=>?_);go_simp;refine (kKb (RD5.out.below (tQ EB HS))).mono ?_;rintro e u5 ⟨v1,rfl,O1,hbU⟩;obtain ⟨ba5,bn5,bp5,hv1,HN5⟩:=O1.parts;obtain rfl:=hv1;have HO5:=yD (O1.own HB5.out);clear O1;replace HO0:=yD (HO0.out.below hbU);replace HO1:=yD (HO1.out.below hbU);replace HO2:=yD (HO2.out.below hbU);replace HO3:=yD (HO3.out.below hbU);replace HO4:=yD (HO4.out.below hbU);have hz5:=hbU.size;have hs5:=HS.size;replace HS:=(tQ HS hbU);refine hK _ _ HS ?_;clear hK K hbU)
 all_goals refine wkP ?_
 all_goals refine wkR ?_
 all_goals refine jv ?_
 have X1:=kD XR HS
 have E1:=(tQ EB HS)
 have M0:=kK (b:=w.heap.size + 1) X1 (j:=0) rfl
 have F0:=frozen_of_row u5 (w.heap.size + 1) 0 _ _ X1
 have M1:=kK (b:=w.heap.size + 1) X1 (j:=1) rfl
 have F1:=frozen_of_row u5 (w.heap.size + 1) 1 _ _ X1
 have M2:=kK (b:=w.heap.size + 1) X1 (j:=2) rfl
 have F2:=frozen_of_row u5 (w.heap.size + 1) 2 _ _ X1
 have M3:=kK (b:=w.heap.size + 1) X1 (j:=3) rfl
 have F3:=frozen_of_row u5 (w.heap.size + 1) 3 _ _ X1
 have M4:=kK (b:=w.heap.size + 1) X1 (j:=4) rfl
 have F4:=frozen_of_row u5 (w.heap.size + 1) 4 _ _ X1
 have M5:=kK (b:=w.heap.size + 1) X1 (j:=5) rfl
 have F5:=frozen_of_row u5 (w.heap.size + 1) 5 _ _ X1
 have M6:=kK (b:=w.heap.size + 1) X1 (j:=6) rfl
 have F6:=frozen_of_row u5 (w.heap.size + 1) 6 _ _ X1
 have M7:=kK (b:=w.heap.size + 1) X1 (j:=7) rfl
 have F7:=frozen_of_row u5 (w.heap.size + 1) 7 _ _ X1
 go_wp2
 refine bodyPost_ret (v:=.agg #[.slice ba0 bn0 bp0,.int .i64 x.2.1.1,.slice ba1 x.2.1.2.length bp1,.slice ba2 bn2 bp2,.slice ba3 bn3 bp3,.slice ba4 bn4 bp4,.slice ba5 bn5 bp5,.int .i64 x.2.2.2.2.2.2]) (by simp [results,Tryz.results62,go_sem,M0,F0,M1,F1,M2,F2,M3,F3,M4,F4,M5,F5,M6,F6,M7,F7]) rfl ⟨_,[_,_,_,_,_,_,_],u0.heap.size,rfl,?_,?_,by have:=E1.size;omega,by simp [World.setCell];omega,?_⟩
 · refine Rep.kg.wide (S:=Btw wS.heap.size u0.heap.size) (Rep.kg.keep HO0.out ?_) ?_
   · exact (fun j h1 h2=>by have p1:=h1.1;have p2:=h1.2;simp (discharger:=(simp;omega)) only [heap_setCell_other])
   exact mI
 · refine Rep.own.wide (S:=Btw (u0.heap.size) (u5.heap.size)) ?_ dN
   exact Rep.jW (r:=kI) (q:=(Rep.pair (Rep.slice 175 kE) (Rep.pair (Rep.slice 178 kJ) (Rep.pair (Rep.slice 181 kX) (Rep.pair (Rep.slice 184 kF) Rep.int))))) (cs:=[.int .i64 x.2.1.1,.slice ba1 x.2.1.2.length bp1]) (ds:=[.slice ba2 bn2 bp2,.slice ba3 bn3 bp3,.slice ba4 bn4 bp4,.slice ba5 bn5 bp5,.int .i64 x.2.2.2.2.2.2]) (x:=x.2.1) (y:=x.2.2) (S:=Btw (u0.heap.size) (u5.heap.size)) (Rep.own.out HO1.out dM) (Rep.jW (r:=(Rep.slice 175 kE)) (q:=(Rep.pair (Rep.slice 178 kJ) (Rep.pair (Rep.slice 181 kX) (Rep.pair (Rep.slice 184 kF) Rep.int)))) (cs:=[.slice ba2 bn2 bp2]) (ds:=[.slice ba3 bn3 bp3,.slice ba4 bn4 bp4,.slice ba5 bn5 bp5,.int .i64 x.2.2.2.2.2.2]) (x:=x.2.2.1) (y:=x.2.2.2) (S:=Btw (u1.heap.size) (u5.heap.size)) (Rep.own.out HO2.out dM) (Rep.jW (r:=(Rep.slice 178 kJ)) (q:=(Rep.pair (Rep.slice 181 kX) (Rep.pair (Rep.slice 184 kF) Rep.int))) (cs:=[.slice ba3 bn3 bp3]) (ds:=[.slice ba4 bn4 bp4,.slice ba5 bn5 bp5,.int .i64 x.2.2.2.2.2.2]) (x:=x.2.2.2.1) (y:=x.2.2.2.2) (S:=Btw (u2.heap.size) (u5.heap.size)) (Rep.own.out HO3.out dM) (Rep.jW (r:=(Rep.slice 181 kX)) (q:=(Rep.pair (Rep.slice 184 kF) Rep.int)) (cs:=[.slice ba4 bn4 bp4]) (ds:=[.slice ba5 bn5 bp5,.int .i64 x.2.2.2.2.2.2]) (x:=x.2.2.2.2.1) (y:=x.2.2.2.2.2) (S:=Btw (u3.heap.size) (u5.heap.size)) (Rep.own.out HO4.out dM) (Rep.jy (r:=(Rep.slice 184 kF)) (q:=Rep.int) (cs:=[.slice ba5 bn5 bp5]) (ds:=[.int .i64 x.2.2.2.2.2.2]) (x:=x.2.2.2.2.2.1) (y:=x.2.2.2.2.2.2) (Rep.own.out HO5.out dM) (Rep.jG HDR.out)) mH mI fP) mH mI fP) mH mI fP) mH mI fP
 repeat (first|(with_reducible exact E1) | refine Below.setCell ?_ mZ _)
theorem kIf {w:World} {cx:List Value} {x:kAf} (hx:jC.rd w cx x):Calls Tryz.prog 62 #[.agg cx.toArray] w (yM jC x w) :=
  (kRe hx).mono fun e w' h=>h.made hx.2
theorem kSf {w:World} {cx:List Value} {x:kAf} (hx:jC.rd w cx x):Calls Tryz.prog 70 #[.agg cx.toArray] w (kQn x w):=by
 obtain ⟨q0,q1,q2,q3,q4,q5,q6⟩:=hx.2
 have HB0:Hid (x.1.length≤Big):=yD q0.1
 have HB2:Hid (x.2.2.1.length≤Big):=yD q2.1
 have HB3:Hid (x.2.2.2.1.length≤Big):=yD q3.1
 have HB4:Hid (x.2.2.2.2.1.length≤Big):=yD q4.1
 have HB5:Hid (x.2.2.2.2.2.1.length≤Big):=yD q5.1
 obtain ⟨av0,av2,av3,av4,av5,av6,rfl,a_0,a_1,a_2,a_3,a_4,a_5,a_6,a_7,a_8⟩:=jo hx.1
 obtain ⟨aa0,ap0,rfl,al0⟩:=Rep.sl a_0
 obtain ⟨aa2,ap2,rfl,al2⟩:=Rep.sl a_3
 obtain ⟨aa3,ap3,rfl,al3⟩:=Rep.sl a_4
 obtain ⟨aa4,ap4,rfl,al4⟩:=Rep.sl a_5
 obtain ⟨aa5,ap5,rfl,al5⟩:=Rep.sl a_6
 obtain ⟨aa6,ap6,rfl,al6⟩:=Rep.sl a_7
 have RD0:Hid ((Rep.slice 66 kP).rd w [.slice aa0 x.1.length ap0] x.1):=yD ⟨a_0,q0⟩
 have RD1:Hid (kI.rd w [.int .i64 x.2.1.1,.slice aa2 x.2.1.2.length ap2] x.2.1):=yD ⟨a_1,q1⟩
 have RD2:Hid ((Rep.slice 175 kE).rd w [.slice aa3 x.2.2.1.length ap3] x.2.2.1):=yD ⟨a_4,q2⟩
 have RD3:Hid ((Rep.slice 178 kJ).rd w [.slice aa4 x.2.2.2.1.length ap4] x.2.2.2.1):=yD ⟨a_5,q3⟩
 have RD4:Hid ((Rep.slice 181 kX).rd w [.slice aa5 x.2.2.2.2.1.length ap5] x.2.2.2.2.1):=yD ⟨a_6,q4⟩
 have RD5:Hid ((Rep.slice 184 kF).rd w [.slice aa6 x.2.2.2.2.2.1.length ap6] x.2.2.2.2.2.1):=yD ⟨a_7,q5⟩
 have HDR:=yD a_8
 clear hx q0 q1 q2 q3 q4 q5 q6 a_0 a_1 a_2 a_3 a_4 a_5 a_6 a_7 a_8
 go_enter Tryz.func70,Tryz.ntmps70
 go_upto_region 1 with fail
 generalize hwB:World.alloc (World.alloc w _) _=wB
 have EB:Below w.heap.size w wB:=by rw [← hwB];exact bH
 have K0:wB.cell? ⟨w.heap.size,0,none⟩=some (.slice aa0 x.1.length ap0):=nV
 have K1:wB.cell? ⟨w.heap.size,1,none⟩=some (.int .i64 x.2.1.1):=nV
 have K2:wB.cell? ⟨w.heap.size,2,none⟩=some (.slice aa2 x.2.1.2.length ap2):=nV
 have K3:wB.cell? ⟨w.heap.size,3,none⟩=some (.slice aa3 x.2.2.1.length ap3):=nV
 have K4:wB.cell? ⟨w.heap.size,4,none⟩=some (.slice aa4 x.2.2.2.1.length ap4):=nV
 have K5:wB.cell? ⟨w.heap.size,5,none⟩=some (.slice aa5 x.2.2.2.2.1.length ap5):=nV
 have K6:wB.cell? ⟨w.heap.size,6,none⟩=some (.slice aa6 x.2.2.2.2.2.1.length ap6):=nV
 have K7:wB.cell? ⟨w.heap.size,7,none⟩=some (.int .i64 x.2.2.2.2.2.2):=nV
 have XR:wB.heap[w.heap.size + 1]?=some (.cells #[.slice none 0 0,.int .i64 0,.slice none 0 0,.slice none 0 0,.slice none 0 0,.slice none 0 0,.slice none 0 0,.int .i64 0] 56 (0,0)):=by rw [← hwB];exact kN rQ
 have hzB:wB.heap.size=w.heap.size + 2:=qK
 clear hwB
 have FX:=yD (fun (W:World) (hW:Below wB.heap.size wB W)=>cLs8 hW K0 K1 K2 K3 K4 K5 K6 K7)
 refine jf (fun W=>Below wB.heap.size wB W) [(0,true),(1,true),(3,true),(4,true),(6,true),(7,true),(9,true),(10,true),(12,true),(13,true),(15,true),(16,true),(18,true),(19,true),(2,false),(5,false),(8,false),(11,false),(14,false),(17,false),(20,true)] rF rF gX (bR.drew) ?_
 intro wS HS
 simp only [jY,List.length_cons,List.length_nil,List.getElem?_cons_succ,List.getElem?_cons_zero,List.map_cons,List.map_nil,List.cons_append,List.nil_append,List.drop_succ_cons,List.drop_zero]
 iterate 14
  all_goals refine wkR ?_
 all_goals first|(refine kU rfl HS ?_)|(refine ky rfl (fun K hK=>?_);go_simp;refine (kPu (RD0.out.below (tQ EB HS))).mono ?_;rintro e u0 ⟨v1,rfl,O1,hbU⟩;obtain ⟨ba0,bn0,bp0,hv1,HN0⟩:=O1.parts;obtain rfl:=hv1;have HO0:=yD O1;clear O1;have hz0:=hbU.size;have hs0:=HS.size;replace HS:=(tQ HS hbU);refine hK _ _ HS ?_;clear hK K hbU)
 all_goals refine wkP ?_
 all_goals first|(refine kU rfl HS ?_)|(refine ky rfl (fun K hK=>?_);go_simp;refine (kHo (RD1.out.below (tQ EB HS))).mono ?_;rintro e u1 ⟨cs,rfl,O2,hbU⟩;obtain ⟨cv,rfl,c_0,c_1⟩:=jI O2.raw;obtain ⟨ba1,bp1,rfl,_⟩:=Rep.sl c_1;have HO1:=yD O2;clear O2 c_0 c_1;replace HO0:=yD (HO0.out.below hbU);have hz1:=hbU.size;have hs1:=HS.size;replace HS:=(tQ HS hbU);refine hK _ _ HS ?_;clear hK K hbU)
 all_goals refine wkP ?_
 all_goals first|(refine kU rfl HS ?_)|(refine ky rfl (fun K hK=>?_);go_simp;refine (kFq (RD2.out.below (tQ EB HS))).mono ?_;rintro e u2 ⟨v1,rfl,O1,hbU⟩;obtain ⟨ba2,bn2,bp2,hv1,HN2⟩:=O1.parts;obtain rfl:=hv1;have HO2:=yD (O1.own HB2.out);clear O1;replace HO0:=yD (HO0.out.below hbU);replace HO1:=yD (HO1.out.below hbU);have hz2:=hbU.size;have hs2:=HS.size;replace HS:=(tQ HS hbU);refine hK _ _ HS ?_;clear hK K hbU)
 all_goals refine wkP ?_
 all_goals first|(refine kU rfl HS ?_)|(refine ky rfl (fun K hK=>?_);go_simp;refine (kIm (RD3.out.below (tQ EB HS))).mono ?_;rintro e u3 ⟨v1,rfl,O1,hbU⟩;obtain ⟨ba3,bn3,bp3,hv1,HN3⟩:=O1.parts;obtain rfl:=hv1;have HO3:=yD (O1.own HB3.out);clear O1;replace HO0:=yD (HO0.out.below hbU);replace HO1:=yD (HO1.out.below hbU);replace HO2:=yD (HO2.out.below hbU);have hz3:=hbU.size;have hs3:=HS.size;replace HS:=(tQ HS hbU);refine hK _ _ HS ?_;clear hK K hbU)
 all_goals refine wkP ?_
 all_goals first|(refine kU rfl HS ?_)|(refine ky rfl (fun K hK=>?_);go_simp;refine (kNt (RD4.out.below (tQ EB HS))).mono ?_;rintro e u4 ⟨v1,rfl,O1,hbU⟩;obtain ⟨ba4,bn4,bp4,hv1,HN4⟩:=O1.parts;obtain rfl:=hv1;have HO4:=yD (O1.own HB4.out);clear O1;replace HO0:=yD (HO0.out.below hbU);replace HO1:=yD (HO1.out.below hbU);replace HO2:=yD (HO2.out.below hbU);replace HO3:=yD (HO3.out.below hbU);have hz4:=hbU.size;have hs4:=HS.size;replace HS:=(tQ HS hbU);refine hK _ _ HS ?_;clear hK K hbU)
 all_goals refine wkP ?_
 all_goals first|(refine kU rfl HS ?_)|(refine ky rfl (fun K hK=>?_);go_simp;refine (kDn (RD5.out.below (tQ EB HS))).mono ?_;rintro e u5 ⟨v1,rfl,O1,hbU⟩;obtain ⟨ba5,bn5,bp5,hv1,HN5⟩:=O1.parts;obtain rfl:=hv1;have HO5:=yD (O1.own HB5.out);clear O1;replace HO0:=yD (HO0.out.below hbU);replace HO1:=yD (HO1.out.below hbU);replace HO2:=yD (HO2.out.below hbU);replace HO3:=yD (HO3.out.below hbU);replace HO4:=yD (HO4.out.below hbU);have hz5:=hbU.size;have hs5:=HS.size;replace HS:=(tQ HS hbU);refine hK _ _ HS ?_;clear hK K hbU)
 all_goals refine wkP ?_
 all_goals refine wkR ?_
 all_goals refine jv ?_
 have X1:=kD XR HS
 have E1:=(tQ EB HS)
 have M0:=kK (b:=w.heap.size + 1) X1 (j:=0) rfl
 have F0:=frozen_of_row u5 (w.heap.size + 1) 0 _ _ X1
 have M1:=kK (b:=w.heap.size + 1) X1 (j:=1) rfl
 have F1:=frozen_of_row u5 (w.heap.size + 1) 1 _ _ X1
 have M2:=kK (b:=w.heap.size + 1) X1 (j:=2) rfl
 have F2:=frozen_of_row u5 (w.heap.size + 1) 2 _ _ X1
 have M3:=kK (b:=w.heap.size + 1) X1 (j:=3) rfl
 have F3:=frozen_of_row u5 (w.heap.size + 1) 3 _ _ X1
 have M4:=kK (b:=w.heap.size + 1) X1 (j:=4) rfl
 have F4:=frozen_of_row u5 (w.heap.size + 1) 4 _ _ X1
 have M5:=kK (b:=w.heap.size + 1) X1 (j:=5) rfl
 have F5:=frozen_of_row u5 (w.heap.size + 1) 5 _ _ X1
 have M6:=kK (b:=w.heap.size + 1) X1 (j:=6) rfl
 have F6:=frozen_of_row u5 (w.heap.size + 1) 6 _ _ X1
 have M7:=kK (b:=w.heap.size + 1) X1 (j:=7) rfl
 have F7:=frozen_of_row u5 (w.heap.size + 1) 7 _ _ X1
 go_wp2
 refine bodyPost_ret (v:=.agg #[.slice ba0 bn0 bp0,.int .i64 x.2.1.1,.slice ba1 x.2.1.2.length bp1,.slice ba2 bn2 bp2,.slice ba3 bn3 bp3,.slice ba4 bn4 bp4,.slice ba5 bn5 bp5,.int .i64 x.2.2.2.2.2.2]) (by simp [results,Tryz.results70,go_sem,M0,F0,M1,F1,M2,F2,M3,F3,M4,F4,M5,F5,M6,F6,M7,F7]) rfl ⟨_,[_,_,_,_,_,_,_],u0.heap.size,rfl,?_,?_,by have:=E1.size;omega,by simp [World.setCell];omega,?_⟩
 · refine Rep.kg.wide (S:=Btw wS.heap.size u0.heap.size) (Rep.kg.keep HO0.out ?_) ?_
   · exact (fun j h1 h2=>by have p1:=h1.1;have p2:=h1.2;simp (discharger:=(simp;omega)) only [heap_setCell_other])
   exact mI
 · refine Rep.own.wide (S:=Btw (u0.heap.size) (u5.heap.size)) ?_ dN
   exact Rep.jW (r:=kI) (q:=(Rep.pair (Rep.slice 175 kE) (Rep.pair (Rep.slice 178 kJ) (Rep.pair (Rep.slice 181 kX) (Rep.pair (Rep.slice 184 kF) Rep.int))))) (cs:=[.int .i64 x.2.1.1,.slice ba1 x.2.1.2.length bp1]) (ds:=[.slice ba2 bn2 bp2,.slice ba3 bn3 bp3,.slice ba4 bn4 bp4,.slice ba5 bn5 bp5,.int .i64 x.2.2.2.2.2.2]) (x:=x.2.1) (y:=x.2.2) (S:=Btw (u0.heap.size) (u5.heap.size)) (Rep.own.out HO1.out dM) (Rep.jW (r:=(Rep.slice 175 kE)) (q:=(Rep.pair (Rep.slice 178 kJ) (Rep.pair (Rep.slice 181 kX) (Rep.pair (Rep.slice 184 kF) Rep.int)))) (cs:=[.slice ba2 bn2 bp2]) (ds:=[.slice ba3 bn3 bp3,.slice ba4 bn4 bp4,.slice ba5 bn5 bp5,.int .i64 x.2.2.2.2.2.2]) (x:=x.2.2.1) (y:=x.2.2.2) (S:=Btw (u1.heap.size) (u5.heap.size)) (Rep.own.out HO2.out dM) (Rep.jW (r:=(Rep.slice 178 kJ)) (q:=(Rep.pair (Rep.slice 181 kX) (Rep.pair (Rep.slice 184 kF) Rep.int))) (cs:=[.slice ba3 bn3 bp3]) (ds:=[.slice ba4 bn4 bp4,.slice ba5 bn5 bp5,.int .i64 x.2.2.2.2.2.2]) (x:=x.2.2.2.1) (y:=x.2.2.2.2) (S:=Btw (u2.heap.size) (u5.heap.size)) (Rep.own.out HO3.out dM) (Rep.jW (r:=(Rep.slice 181 kX)) (q:=(Rep.pair (Rep.slice 184 kF) Rep.int)) (cs:=[.slice ba4 bn4 bp4]) (ds:=[.slice ba5 bn5 bp5,.int .i64 x.2.2.2.2.2.2]) (x:=x.2.2.2.2.1) (y:=x.2.2.2.2.2) (S:=Btw (u3.heap.size) (u5.heap.size)) (Rep.own.out HO4.out dM) (Rep.jy (r:=(Rep.slice 184 kF)) (q:=Rep.int) (cs:=[.slice ba5 bn5 bp5]) (ds:=[.int .i64 x.2.2.2.2.2.2]) (x:=x.2.2.2.2.2.1) (y:=x.2.2.2.2.2.2) (Rep.own.out HO5.out dM) (Rep.jG HDR.out)) mH mI fP) mH mI fP) mH mI fP) mH mI fP
 repeat (first|(with_reducible exact E1) | refine Below.setCell ?_ mZ _)
theorem kSe {w:World} {cx:List Value} {x:kAf} (hx:jC.rd w cx x):Calls Tryz.prog 70 #[.agg cx.toArray] w (yM jC x w) :=
  (kSf hx).mono fun e w' h=>h.made hx.2
theorem kWd {l:List jK} {n:kW} {x:Int}:(zY l n x).length≤max l.length 24:=by
 unfold zY
 split
 · simp;omega
 simp at *;omega
theorem kLs {n:kW}:∀ (rs:List jP) (s:List jK),(rs.foldl (fun s r=>zY s n r.2.1) s).length≤max s.length 24
  | [],s=>by simp;omega
  | r :: rs,s=>by
    have h1:=kLs (n:=n) rs (zY s n r.2.1)
    have h2:=kWd (l:=s) (n:=n) (x:=r.2.1)
    simp only [List.foldl_cons]
    omega
theorem kTn {n:kW} {rs:List jP} {s:List jK} {j:Nat} (h:j < rs.length):(rs.take (j + 1)).foldl (fun s r=>zY s n r.2.1) s=zY ((rs.take j).foldl (fun s r=>zY s n r.2.1) s) n rs[j].2.1:=by
 rw [List.take_succ_eq_append_getElem h,List.foldl_append];rfl
theorem kJc {w:World} {c0 c1 c2 c3 c4 c5 c6 c7:Value} {x0:List jJ} {x1:kr} {x2:List kS} {x3:List jK} {x4:List yA} {x5:List kZ} {x6:Int} (h:jC.rd w [c0,c1,c2,c3,c4,c5,c6,c7] (x0,x1,x2,x3,x4,x5,x6)):(Rep.slice 178 kJ).rd w [c4] x3:=by
 obtain ⟨v0,v2,v3,v4,v5,v6,he,a0,a1,a2,a3,a4,a5,a6,a7,a8⟩:=jo h.1
 simp only [List.cons.injEq,and_true] at he
 obtain ⟨rfl,rfl,rfl,rfl,rfl,rfl,rfl,rfl⟩:=he
 exact ⟨a5,h.2.2.2.2.1⟩
theorem kLv {w:World} {c0 c1 c2 c3 c4 c5 c6 c7 v:Value} {x0:List jJ} {x1:kr} {x2 y:List kS} {x3:List jK} {x4:List yA} {x5:List kZ} {x6:Int} {S T:Nat→Prop}
    (h:jC.own w [c0,c1,c2,c3,c4,c5,c6,c7] (x0,x1,x2,x3,x4,x5,x6) S) (hv:(Rep.slice 175 kE).own w [v] y T) (hd:∀ k,S k→T k→False):jC.own w [c0,c1,c2,v,c4,c5,c6,c7] (x0,x1,y,x3,x4,x5,x6) (fun k=>S k∨T k) :=
  Rep.set_right (c:=[c0]) h rfl (fun B hB hq=>Rep.set_right (c:=[c1,c2]) hq rfl (fun B2 hB2 hq2=>Rep.set_left (c:=[c3]) (c':=[v]) hq2 rfl hv (fun k a b=>hd k (hB k (hB2 k a)) b)) (fun k a b=>hd k (hB k a) b)) hd
theorem kEr {w:World} {c0 c1 c2 c3 c4 c5 c6 c7 v:Value} {x0:List jJ} {x1:kr} {x2:List kS} {x3 y:List jK} {x4:List yA} {x5:List kZ} {x6:Int} {S T:Nat→Prop}
    (h:jC.own w [c0,c1,c2,c3,c4,c5,c6,c7] (x0,x1,x2,x3,x4,x5,x6) S) (hv:(Rep.slice 178 kJ).own w [v] y T) (hd:∀ k,S k→T k→False):jC.own w [c0,c1,c2,c3,v,c5,c6,c7] (x0,x1,x2,y,x4,x5,x6) (fun k=>S k∨T k) :=
  Rep.set_right (c:=[c0]) h rfl (fun B hB hq=>Rep.set_right (c:=[c1,c2]) hq rfl (fun B2 hB2 hq2=>Rep.set_right (c:=[c3]) hq2 rfl (fun B3 hB3 hq3=>Rep.set_left (c:=[c4]) (c':=[v]) hq3 rfl hv (fun k a b=>hd k (hB k (hB2 k (hB3 k a))) b)) (fun k a b=>hd k (hB k (hB2 k a)) b)) (fun k a b=>hd k (hB k a) b)) hd
theorem kEs {w:World} {c0 c1 c2 c3 c4 c5 c6 c7 v:Value} {x0:List jJ} {x1:kr} {x2:List kS} {x3:List jK} {x4:List yA} {x5 y:List kZ} {x6:Int} {S T:Nat→Prop}
    (h:jC.own w [c0,c1,c2,c3,c4,c5,c6,c7] (x0,x1,x2,x3,x4,x5,x6) S) (hv:(Rep.slice 184 kF).own w [v] y T) (hd:∀ k,S k→T k→False):jC.own w [c0,c1,c2,c3,c4,c5,v,c7] (x0,x1,x2,x3,x4,y,x6) (fun k=>S k∨T k) :=
  Rep.set_right (c:=[c0]) h rfl (fun B hB hq=>Rep.set_right (c:=[c1,c2]) hq rfl (fun B2 hB2 hq2=>Rep.set_right (c:=[c3]) hq2 rfl (fun B3 hB3 hq3=>Rep.set_right (c:=[c4]) hq3 rfl (fun B4 hB4 hq4=>Rep.set_right (c:=[c5]) hq4 rfl (fun B5 hB5 hq5=>Rep.set_left (c:=[c6]) (c':=[v]) hq5 rfl hv (fun k a b=>hd k (hB k (hB2 k (hB3 k (hB4 k (hB5 k a))))) b)) (fun k a b=>hd k (hB k (hB2 k (hB3 k (hB4 k a)))) b)) (fun k a b=>hd k (hB k (hB2 k (hB3 k a))) b)) (fun k a b=>hd k (hB k (hB2 k a)) b)) (fun k a b=>hd k (hB k a) b)) hd
theorem kKi {w:World} {c0 c1 c2 c3 c4 c5 c6 c7 v u:Value} {x0:List jJ} {x1 y:kr} {x2:List kS} {x3:List jK} {x4:List yA} {x5:List kZ} {x6:Int} {S T:Nat→Prop}
    (h:jC.own w [c0,c1,c2,c3,c4,c5,c6,c7] (x0,x1,x2,x3,x4,x5,x6) S) (hv:kI.own w [u,v] y T) (hd:∀ k,S k→T k→False):jC.own w [c0,u,v,c3,c4,c5,c6,c7] (x0,y,x2,x3,x4,x5,x6) (fun k=>S k∨T k) :=
  Rep.set_right (c:=[c0]) h rfl (fun B hB hq=>Rep.set_left (c:=[c1,c2]) (c':=[u,v]) hq rfl hv (fun k a b=>hd k (hB k a) b)) hd
def inR (n a b:Int):Bool:=decide (a≤n) && decide (n≤b)
theorem kBf {w:World} {n a b:Int}:Calls Tryz.prog 173 #[.int .i64 n,.int .i64 a,.int .i64 b] w fun e w'=>e=.returned (.bool (inR n a b))∧w'=w:=by
 go_enter Tryz.func173,Tryz.ntmps173
 by_cases h:n ≥ a
 · have hd:decide (n ≥ a)=true:=rD
   go_wp2
   go_ret
   exact ⟨kG (by simp [inR,h]),rfl⟩
 have hd:decide (n ≥ a)=false:=rD
 go_wp2
 go_ret
 exact ⟨kG (by simp [inR];omega),rfl⟩
theorem kBp {w:World} {n a b:Int}:Calls Tryz.prog 184 #[.int .i64 n,.int .i64 a,.int .i64 b] w fun e w'=>e=.returned (.bool (inR n a b))∧w'=w:=by
 go_enter Tryz.func184,Tryz.ntmps184
 by_cases h:a≤n
 · have hd:decide (a≤n)=true:=rD
   go_wp2
   go_ret
   exact ⟨kG (by simp [inR,h]),rfl⟩
 have hd:decide (a≤n)=false:=rD
 go_wp2
 go_ret
 exact ⟨kG (by simp [inR];omega),rfl⟩
theorem kGp:∀ l:List UInt8,Op.bytesLess l l=false
  | []=>rfl
  | a :: l=>by simp [Op.bytesLess,kGp l]
def kHd (a b:ByteArray):Int:=if Op.bytesLess a.toList b.toList then -1 else if a=b then 0 else 1
theorem kEw {a b:ByteArray}:kHd a b=0↔a=b:=by
 unfold kHd
 constructor
 · intro h
   split at h
   · omega
   split at h
   · assumption
   omega
 rintro rfl
 simp [kGp]
def kHw:List ByteArray→List ByteArray→Int
  | [],[]=>0
  | [],_ :: _=>-1
  | _ :: _,[]=>1
  | a :: x,b :: y=>if kHd a b=0 then kHw x y else kHd a b
theorem kVf:∀ {x y:List ByteArray},kHw x y=0↔x=y
  | [],[]=>by simp [kHw]
  | [],_ :: _=>by simp [kHw]
  | _ :: _,[]=>by simp [kHw]
  | a :: x,b :: y=>by
    unfold kHw
    by_cases h:kHd a b=0
    · rw [if_pos h,kVf (x:=x) (y:=y)]
      have:=kEw.1 h
      subst this
      simp
    · rw [if_neg h]
      constructor
      · intro q;exact absurd q h
      · intro q
        simp only [List.cons.injEq] at q
        exact absurd (kEw.2 q.1) h
theorem kVg:∀ {x y:List ByteArray} {k:Nat} (hx:k < x.length) (hy:k < y.length),x.take k=y.take k→¬ kHd x[k] y[k]=0→kHw x y=kHd x[k] y[k]
  | [],_,_,hx,_,_,_=>by simp at hx
  | _ :: _,[],_,_,hy,_,_=>by simp at hy
  | a :: x,b :: y,0,_,_,_,h=>by
    simp at h
    simp [kHw,h]
  | a :: x,b :: y,k + 1,hx,hy,ht,h=>by
    simp only [List.take_succ_cons,List.cons.injEq] at ht
    simp only [List.getElem_cons_succ] at h ⊢
    have h0:=kEw.2 ht.1
    simp only [kHw,h0,if_true]
    exact kVg (by simpa using hx) (by simpa using hy) ht.2 h
theorem cmpN_end:∀ {x y:List ByteArray} {k:Nat},k≤x.length→k≤y.length→x.take k=y.take k→¬ (k < x.length∧k < y.length)→kHw x y=if x.length < y.length then -1 else if y.length < x.length then 1 else 0
  | [],[],_,_,_,_,_=>by simp [kHw]
  | [],b :: y,_,_,_,_,_=>by simp [kHw]
  | a :: x,[],_,_,_,_,_=>by simp [kHw]
  | a :: x,b :: y,0,_,_,_,h=>by simp at h
  | a :: x,b :: y,k + 1,hx,hy,ht,h=>by
    simp only [List.take_succ_cons,List.cons.injEq] at ht
    have h0:=kEw.2 ht.1
    simp only [kHw,h0,if_true,List.length_cons]
    rw [cmpN_end (k:=k) (by simpa using hx) (by simpa using hy) ht.2 rD]
    simp
theorem take_next {x y:List ByteArray} {k:Nat} (hx:k < x.length) (hy:k < y.length) (h:x.take k=y.take k) (e:kHd x[k] y[k]=0):x.take (k + 1)=y.take (k + 1) :=
  yC h hx hy (kEw.1 e)
def eqN (a b:kW):Bool:=decide (a=b)
theorem specl4Cmp_c {w:World} {a b:ByteArray}:Calls Tryz.prog 221 #[.string a,.string b] w fun e w'=>e=.returned (.int .i64 (kHd a b))∧w'=w:=by
 go_enter Tryz.func221,Tryz.ntmps221
 cases h1:Op.bytesLess a.toList b.toList
 · cases h2:(a.toList==b.toList)
   · have HT:=yD (show kHd a b=1 by
       unfold kHd
       rw [h1]
       rw [kLb] at h2
       simp at h2
       simp [h2])
     go_wp2
     go_ret
     exact ⟨ku HT.out.symm,rfl⟩
   have HT:=yD (show kHd a b=0 by
     rw [kLb] at h2
     simp at h2
     exact kEw.2 h2)
   go_wp2
   go_ret
   exact ⟨ku HT.out.symm,rfl⟩
 have HT:=yD (show kHd a b=-1 by simp [kHd,h1])
 go_wp2
 go_ret
 exact ⟨ku HT.out.symm,rfl⟩
theorem kKn {w:World} {ca cb:List Value} {a b:kW} (ha:kL.raw w ca a) (hb:kL.raw w cb b) :
    Calls Tryz.prog 188 #[.agg ca.toArray,.agg cb.toArray] w fun e w'=>e=.returned (.int .i64 (kHw a b))∧Below w.heap.size w w':=by
 obtain ⟨av,rfl,a_0⟩:=kM ha
 obtain ⟨bv,rfl,b_0⟩:=kM hb
 clear ha hb
 obtain ⟨aa,capa,rfl,la⟩:=Rep.sl a_0
 obtain ⟨ab,capb,rfl,lb⟩:=Rep.sl b_0
 go_enter Tryz.func188,Tryz.ntmps188
 go_wp2
 generalize hwB:World.alloc (World.alloc w _) _=wB
 have EB:Below w.heap.size w wB:=by rw [← hwB];exact bH
 have K0:wB.cell? ⟨w.heap.size,0,none⟩=some (.slice aa a.length capa):=nV
 have K1:wB.cell? ⟨w.heap.size + 1,0,none⟩=some (.slice ab b.length capb):=nV
 clear hwB
 replace a_0:=a_0.below EB
 replace b_0:=b_0.below EB
 go_loopw [5] (fun i wr=>∃ k:Nat,k≤a.length∧k≤b.length∧i=.int .i64 k∧Hid (a.take k=b.take k)∧Below wB.heap.size wB wr) (fun i _=>a.length - (intOf i).toNat)
 case atStart=>exact ⟨0,Nat.zero_le _,Nat.zero_le _,rfl,yD rfl,bR⟩
 obtain ⟨k,hk,hk2,rfl,HN,hbel⟩:=hrel
 replace K0:=cL hbel K0
 replace K1:=cL hbel K1
 by_cases hc:k < a.length∧k < b.length
 · obtain ⟨hlt,hlt2⟩:=hc
   have hd:decide ((k:Int) < a.length)=true:=by simpa using hlt
   have hdn:decide (k < a.length)=true:=by simpa using hlt
   obtain ⟨ba,offa,rfl,c0,hr,A0⟩:=Rep.kAy (a_0.below hbel) hlt rfl
   obtain ⟨bb,offb,rfl,d0,hr2,B0⟩:=Rep.kAy (b_0.below hbel) hlt2 rfl
   obtain ⟨he,_⟩:=Rep.yQ hr
   obtain rfl:c0=_:=by simpa using he
   obtain ⟨he2,_⟩:=Rep.yQ hr2
   obtain rfl:d0=_:=by simpa using he2
   clear he he2 hr hr2
   have hdf:=fun q=>kVg hlt hlt2 HN.out q
   have hnx:=fun q=>take_next hlt hlt2 HN.out q
   generalize a[k]=x at *
   generalize b[k]=y at *
   have HD:=yD hdf
   have HX:=yD hnx
   clear hdf hnx
   go_wp2_with fail
   have FX:=yD (fun (W:World) (hW:Below wr.heap.size wr W)=>cLs4 hW K0 K1 A0 B0)
   refine jB (fun W=>Below wr.heap.size wr W) [true,true,true,true,true,true,true,true,true,true,false,true] rF rF gX (bR.drew) ?_
   intro wS HS
   iterate 10
    all_goals refine wkR ?_
   all_goals first | refine wkC (specl4Cmp_c) ?_ | refine wkR ?_
   all_goals refine wkR ?_
   all_goals refine jA ?_
   have EF:=(tQ EB (tQ hbel HS))
   have EG:=(tQ hbel HS)
   by_cases hz:kHd x y=0
   · have HT:=yD (HX.out hz)
     clear HD HX
     have hz':(kHd x y==0)=true:=qZ
     have hz2:(kHd x y != 0)=false:=qZ
     clear hz
     go_wp2
     go_roundw
     case rel=>exact ⟨k + 1,by omega,by omega,by go_num,HT,EG⟩
     simp [intOf];omega
   have HT:=yD (HD.out hz)
   clear HD HX
   have hz':(kHd x y==0)=false:=qZ
   have hz2:(kHd x y != 0)=true:=qZ
   go_wp2
   go_ret
   exact ⟨ku HT.out.symm,EF⟩
 have HT:=yD (cmpN_end hk hk2 HN.out hc)
 have EF:=(tQ EB hbel)
 by_cases h1:k < a.length
 · have hd:decide ((k:Int) < a.length)=true:=qW
   have hdn:decide (k < a.length)=true:=qW
   have h2:¬ k < b.length:=fun q=>hc ⟨h1,q⟩
   have h3:¬ (a.length:Int) < b.length:=rP
   have h4:(b.length:Int) < a.length:=rP
   have HU:=yD (show kHw a b=1 by rw [HT.out,if_neg rP,if_pos rP])
   clear hc HT
   go_wp2
   all_goals go_ret
   all_goals exact ⟨ku HU.out.symm,EF⟩
 have hd:decide ((k:Int) < a.length)=false:=qW
 have hdn:decide (k < a.length)=false:=qW
 clear hc
 by_cases h3:a.length < b.length
 · have HU:=yD (show kHw a b=-1 by rw [HT.out,if_pos h3])
   clear HT
   go_wp2
   go_ret
   exact ⟨ku HU.out.symm,EF⟩
 have h4:¬ b.length < a.length:=rP
 have HU:=yD (show kHw a b=0 by rw [HT.out,if_neg h3,if_neg h4])
 clear HT
 go_wp2
 go_ret
 exact ⟨ku HU.out.symm,EF⟩
theorem zD {w:World} {ca cb:List Value} {a b:kW} (ha:kL.raw w ca a) (hb:kL.raw w cb b) :
    Calls Tryz.prog 130 #[.agg ca.toArray,.agg cb.toArray] w fun e w'=>e=.returned (.bool (eqN a b))∧Below w.heap.size w w':=by
 have HA:=yD ha
 have HB:=yD hb
 obtain ⟨av,rfl,a_0⟩:=kM ha
 obtain ⟨bv,rfl,b_0⟩:=kM hb
 clear ha hb
 obtain ⟨aa,capa,rfl,la⟩:=Rep.sl a_0
 obtain ⟨ab,capb,rfl,lb⟩:=Rep.sl b_0
 go_enter Tryz.func130,Tryz.ntmps130
 go_wp2_with fail
 refine (kKn (HA.out.below bH) (HB.out.below bH)).mono ?_
 rintro e w1 ⟨rfl,hb1⟩
 have EF:Below w.heap.size w w1:=Below.trans bH (hb1.mono qO)
 clear hb1
 go_wp2
 go_ret
 exact ⟨kG (by unfold eqN;rw [Bool.eq_iff_iff];simp [kVf]),EF⟩
theorem kIy {w:World} {va vb:Value} {a b:List ByteArray} (a_0:(Rep.slice 9 Rep.str).raw w [va] a) (b_0:(Rep.slice 9 Rep.str).raw w [vb] b) :
    Calls Tryz.prog 193 #[va,vb] w fun e w'=>e=.returned (.bool (eqN a b))∧Below w.heap.size w w':=by
 obtain ⟨aa,capa,rfl,la⟩:=Rep.sl a_0
 obtain ⟨ab,capb,rfl,lb⟩:=Rep.sl b_0
 go_enter Tryz.func193,Tryz.ntmps193
 by_cases hl:a.length=b.length
 case neg =>
  have HT:=yD (show eqN a b=false by unfold eqN;simp;rintro rfl;exact hl rfl)
  have hz:((a.length:Int) != b.length)=true:=rG
  have hzn:(a.length != b.length)=true:=qU
  go_wp2
  go_ret
  exact ⟨kG HT.out.symm,bR⟩
 have hz:((a.length:Int) != b.length)=false:=rG
 have hzn:(a.length != b.length)=false:=qU
 have HL:=yD hl;clear hl
 go_wp2
 go_loopw [13] (fun i wr=>∃ k:Nat,k≤a.length∧i=.int .i64 k∧Hid (a.take k=b.take k)∧Below w.heap.size w wr) (fun i _=>a.length - (intOf i).toNat)
 case atStart=>exact ⟨0,Nat.zero_le _,rfl,yD rfl,bR⟩
 obtain ⟨k,hk,rfl,HN,hbel⟩:=hrel
 by_cases hlt:k < a.length
 · have hlt2:k < b.length:=by have:=HL.out;omega
   obtain ⟨ba,offa,rfl,c0,hr,A0⟩:=Rep.kAy (a_0.below hbel) hlt rfl
   obtain ⟨bb,offb,rfl,d0,hr2,B0⟩:=Rep.kAy (b_0.below hbel) hlt2 rfl
   obtain ⟨he,_⟩:=Rep.yQ hr
   obtain rfl:c0=_:=by simpa using he
   obtain ⟨he2,_⟩:=Rep.yQ hr2
   obtain rfl:d0=_:=by simpa using he2
   clear he he2 hr hr2
   have hne:=fun q=>zm hlt hlt2 q
   have hnx:=fun q=>yC HN.out hlt hlt2 q
   generalize a[k]=x at *
   generalize b[k]=y at *
   have HD:=yD hne
   have HX:=yD hnx
   clear hne hnx
   go_wp2_with fail
   have FX:=yD (fun (W:World) (hW:Below wr.heap.size wr W)=>cLs2 hW A0 B0)
   refine jB (fun W=>Below wr.heap.size wr W) [true,true,true,true,true,true,true,true,true] rF rF gX (bR.drew) ?_
   intro wS HS
   iterate 9
    all_goals refine wkR ?_
   all_goals refine jA ?_
   have EG:=(tQ hbel HS)
   cases hz:(x.toList==y.toList)
   · have HT:=yD (show eqN a b=false by
       rw [kLb] at hz;simp at hz;unfold eqN;simp;exact HD.out hz)
     clear HD HX
     go_wp2
     go_ret
     exact ⟨kG HT.out.symm,EG⟩
   have HT:=yD (HX.out (by rw [kLb] at hz;simpa using hz))
   clear HD HX
   go_wp2
   go_roundw
   case rel=>exact ⟨k + 1,by omega,by go_num,HT,EG⟩
   simp [intOf];omega
 have HT:=yD (show eqN a b=true by unfold eqN;simp;exact yx HN.out hlt HL.out)
 go_wp2
 go_ret
 exact ⟨kG HT.out.symm,hbel⟩
theorem zq {w:World} {ca cb:List Value} {a b:kW} (ha:kL.raw w ca a) (hb:kL.raw w cb b) :
    Calls Tryz.prog 146 #[.agg ca.toArray,.agg cb.toArray] w fun e w'=>e=.returned (.bool (eqN a b))∧Below w.heap.size w w':=by
 obtain ⟨av,rfl,a_0⟩:=kM ha
 obtain ⟨bv,rfl,b_0⟩:=kM hb
 clear ha hb
 obtain ⟨aa,capa,rfl,la⟩:=Rep.sl a_0
 obtain ⟨ab,capb,rfl,lb⟩:=Rep.sl b_0
 go_enter Tryz.func146,Tryz.ntmps146
 go_wp2_with fail
 refine (kIy (a_0.below bH) (b_0.below bH)).mono ?_
 rintro e w1 ⟨rfl,hb1⟩
 have EF:Below w.heap.size w w1:=Below.trans bH (hb1.mono qO)
 clear hb1
 go_wp2
 go_ret
 exact ⟨rfl,EF⟩
def isD (n:kW) (x:jJ):Bool:=eqN x.1 n
def fresh (t:Int) (x:jJ):Bool:=decide (t≤x.2.2.2.1)
def voidD:jJ:=([],[],[],0,0)
theorem own_voidL {α β:Type} {e:TypeId} {r:Rep α} {q:Rep β} {w:World} {ds:List Value} {y:β} {S:Nat→Prop} (h:q.own w ds y S):(Rep.pair (Rep.slice e r) q).own w ([.slice none 0 0]++ds) ([],y) S :=
  Rep.jW (A:=fun _=>False) (B:=S) Rep.kCk h (fun _ h=>h.elim) (fun _ h=>h) (fun _ h _=>h)
theorem kTg {w:World} {vl:Value} {l:(List jJ)} (hl:(Rep.slice 66 kP).raw w [vl] l) {cn:List Value} {n:kW} (hn:kL.raw w cn n) :
    Calls Tryz.prog 66 #[vl,.agg cn.toArray] w fun e w'=>e=.returned (.int .i64 (idxOf (isD n) l))∧Below w.heap.size w w':=by
 obtain ⟨al,pl,rfl,ll⟩:=Rep.sl hl
 have Hn:=yD hn
 obtain ⟨fnv0,rfl,fn_0⟩:=kM hn
 obtain ⟨fna0,fnp0,rfl,fnl0⟩:=Rep.sl fn_0
 go_enter Tryz.func66,Tryz.ntmps66
 go_wp2
 generalize hwB:World.alloc w _=wB
 have EB:Below w.heap.size w wB:=by rw [← hwB];exact bH
 have K3_0:wB.cell? ⟨w.heap.size,0,none⟩=some (.slice fna0 (n).length fnp0):=nV
 clear hwB
 replace hl:=hl.below EB
 go_loopw [5] (fun i wr=>∃ k:Nat,k≤l.length∧i=.int .i64 k∧Hid (∀ j,(h:j < k)→(h2:j < l.length)→(isD n) l[j]=false)∧Below wB.heap.size wB wr) (fun i _=>l.length - (intOf i).toNat)
 case atStart=>exact ⟨0,Nat.zero_le _,rfl,yD (fun _ h=>by omega),bR⟩
 obtain ⟨k,hk,rfl,HN,hbel⟩:=hrel
 replace K3_0:=cL hbel K3_0
 by_cases hlt:k < l.length
 · obtain ⟨qb,qo,rfl,qc0,qc1,qc2,qc3,qc4,qr,Aq0,Aq1,Aq2,Aq3,Aq4⟩:=Rep.get5 (hl.below hbel) (i:=k) rP rfl
   have hhit:=fun q=>idxOf_hit hlt q HN.out
   have hmis:=fun q=>kAk hlt q HN.out
   generalize l[k]=x at *
   have HD:=yD hhit;have HX:=yD hmis;clear hhit hmis
   obtain ⟨x0,x1,x2,x3,x4⟩:=x
   obtain ⟨qv0,qv1,qv2,qhe,q_0,q_1,q_2,q_3,q_4,q_5,q_6⟩:=kY qr
   simp only [List.cons.injEq,and_true] at qhe
   obtain ⟨rfl,rfl,rfl,rfl,rfl⟩:=qhe
   obtain ⟨qa0,qp0,rfl,ql0⟩:=Rep.sl q_1
   obtain ⟨qa1,qp1,rfl,ql1⟩:=Rep.sl q_2
   obtain ⟨qa2,qp2,rfl,ql2⟩:=Rep.sl q_4
   go_upto_region 4 with fail
   have FX:=yD (fun (W:World) (hW:Below wr.heap.size wr W)=>cLs6 hW K3_0 Aq0 Aq1 Aq2 Aq3 Aq4)
   refine jB (fun W=>Below wr.heap.size wr W) [true,true,true,true,true,true,false] rF rF gX (bR.drew) ?_
   intro wS HS
   iterate 6
    all_goals refine wkR ?_
   all_goals first | refine wkB (zD (Rep.raw.below q_0 HS) (Rep.raw.below Hn.out ((tQ EB (tQ hbel HS))))) (fun wS1 HS=>?_) | refine wkR ?_
   all_goals refine jA ?_
   all_goals cases hg6:eqN x0 n
   all_goals have EG:=(tQ hbel HS)
   all_goals first
     | (have HT:=yD (HD.out (show _=true by simp only [isD,Bool.not_true,Bool.not_false,Bool.and_true,Bool.true_and,Bool.and_false,Bool.false_and,Bool.or_true,Bool.true_or,Bool.or_false,Bool.false_or,Bool.not_not,hg6]));clear HD HX;go_wp2;go_ret;exact ⟨ku HT.out.symm,(tQ EB EG)⟩)
     | (have HT:=yD (HX.out (show _=false by simp only [isD,Bool.not_true,Bool.not_false,Bool.and_true,Bool.true_and,Bool.and_false,Bool.false_and,Bool.or_true,Bool.true_or,Bool.or_false,Bool.false_or,Bool.not_not,hg6]));clear HD HX;go_wp2;go_roundw;(case rel=>exact ⟨k + 1,by omega,by go_num,HT,EG⟩);(case measure=>simp [intOf];omega))
 have HT:=yD (idxOf_miss hlt HN.out)
 go_wp2
 go_ret
 exact ⟨ku HT.out.symm,(tQ EB hbel)⟩
theorem kSc {w:World} {cx:List Value} {x:jJ} (hx:kP.raw w cx x) {n:kW} {nc0:Value} {Bn:Nat} (nr:kL.raw w [nc0] n) (An0:w.cell? ⟨Bn,0,none⟩=some nc0) :
    Calls Tryz.prog 145 (#[.agg cx.toArray]++#[.pointer (some ⟨Bn,0,none⟩)]) w fun e w'=>e=.returned (.bool (isD n x))∧Below w.heap.size w w':=by
 have Hx:=yD hx
 obtain ⟨fxv0,fxv1,fxv2,rfl,fx_0,fx_1,fx_2,fx_3,fx_4,fx_5,fx_6⟩:=kY hx
 obtain ⟨fxa0,fxp0,rfl,fxl0⟩:=Rep.sl fx_1
 obtain ⟨fxa1,fxp1,rfl,fxl1⟩:=Rep.sl fx_2
 obtain ⟨fxa2,fxp2,rfl,fxl2⟩:=Rep.sl fx_4
 obtain ⟨nv0,nhe,n_0⟩:=kM nr
 simp only [List.cons.injEq,and_true] at nhe
 obtain rfl:=nhe
 obtain ⟨na0,np0,rfl,nl0⟩:=Rep.sl n_0
 show Calls Tryz.prog 145 #[_,_] w _
 go_enter Tryz.func145,Tryz.ntmps145
 go_upto_region 1 with fail
 generalize hwB:World.alloc w _=wB
 have EB:Below w.heap.size w wB:=by rw [← hwB];exact bH
 have K2_0:wB.cell? ⟨w.heap.size,0,none⟩=some (.slice fxa0 (x.1).length fxp0):=nV
 have K2_1:wB.cell? ⟨w.heap.size,1,none⟩=some (.slice fxa1 (x.2.1).length fxp1):=nV
 have K2_2:wB.cell? ⟨w.heap.size,2,none⟩=some (.slice fxa2 (x.2.2.1).length fxp2):=nV
 have K2_3:wB.cell? ⟨w.heap.size,3,none⟩=some (.int .i64 x.2.2.2.1):=nV
 have K2_4:wB.cell? ⟨w.heap.size,4,none⟩=some (.int .i64 x.2.2.2.2):=nV
 clear hwB
 replace An0:=cL EB An0
 have FX:=yD (fun (W:World) (hW:Below wB.heap.size wB W)=>cLs6 hW K2_0 K2_1 K2_2 K2_3 K2_4 An0)
 refine jE (fun W=>Below wB.heap.size wB W) [true,true,true,false,true] bR ?_
 intro wS HS
 iterate 3
  all_goals refine wkR ?_
 all_goals first | refine wkB (zq (Rep.raw.below fx_0 (tQ EB HS)) (Rep.raw.below nr (tQ EB HS))) (fun wS1 HS=>?_) | refine wkR ?_
 all_goals (have hg4:=True.intro;first|(refine wkG (fun b hg4=>?_);cases b;all_goals first | exact Bool.noConfusion hg4 | simp only [zU,zV] at hg4 | skip) | refine wkR ?_)
 all_goals refine wkP ?_
 all_goals refine jA ?_
 all_goals have EG:=(tQ EB HS)
 all_goals first
   | (have HT:=yD (show (isD n x)=false by simp only [isD,Bool.not_true,Bool.not_false,Bool.and_true,Bool.true_and,Bool.and_false,Bool.false_and,Bool.or_true,Bool.true_or,Bool.or_false,Bool.false_or,Bool.not_not,hg4]);go_wp2;go_ret;exact ⟨kG HT.out.symm,EG⟩)
   | (have HT:=yD (show (isD n x)=true by simp only [isD,Bool.not_true,Bool.not_false,Bool.and_true,Bool.true_and,Bool.and_false,Bool.false_and,Bool.or_true,Bool.true_or,Bool.or_false,Bool.false_or,Bool.not_not,hg4]);go_wp2;go_ret;exact ⟨kG HT.out.symm,EG⟩)
theorem kGo:jm Tryz.prog 145:=kAn Tryz.func145 rF rF
theorem kTq {w:World} {vl:Value} {l:(List jJ)} (hl:(Rep.slice 66 kP).raw w [vl] l) {cn:List Value} {n:kW} (hn:kL.raw w cn n) :
    Calls Tryz.prog 74 #[vl,.agg cn.toArray] w fun e w'=>e=.returned (.int .i64 (idxOf (isD n) l))∧Below w.heap.size w w':=by
 obtain ⟨al,pl,rfl,ll⟩:=Rep.sl hl
 have Hn:=yD hn
 obtain ⟨fnv0,rfl,fn_0⟩:=kM hn
 obtain ⟨fna0,fnp0,rfl,fnl0⟩:=Rep.sl fn_0
 go_enter Tryz.func74,Tryz.ntmps74
 go_upto_region 1 with fail
 generalize hwB:World.alloc w _=wB
 have EB:Below w.heap.size w wB:=by rw [← hwB];exact bH
 have K3_0:wB.cell? ⟨w.heap.size,0,none⟩=some (.slice fna0 (n).length fnp0):=nV
 clear hwB
 go_wp2_with fail
 refine (kGs (isD n) kGo (Rep.raw.below hl EB) ?_).mono ?_
 · intro wr hb i h cs hr
   exact kSc hr (Rep.raw.below Hn.out (tQ EB hb)) (cL hb K3_0)
 rintro e w1 ⟨rfl,hb1⟩
 have EG:Below w.heap.size w w1:=(tQ EB hb1)
 clear hb1
 go_wp2
 go_ret
 exact ⟨rfl,EG⟩
theorem kTl {w:World} {cx:List Value} {x:jJ} (hx:kP.raw w cx x) {t:Int} :
    Calls Tryz.prog 203 #[.agg cx.toArray,.int .i64 t] w fun e w'=>e=.returned (.bool (fresh t x))∧Below w.heap.size w w':=by
 obtain ⟨v0,v1,v2,rfl,a_0,a_1,a_2,a_3,a_4,a_5,a_6⟩:=kY hx
 have HT:=yD (show fresh t x=decide (t≤x.2.2.2.1) from rfl)
 clear hx a_0 a_1 a_2 a_3 a_4 a_5 a_6
 go_enter Tryz.func203,Tryz.ntmps203
 go_wp2
 go_ret
 exact ⟨kG HT.out.symm,bH⟩
theorem kTs {w:World} {cx:List Value} {x:jJ} (hx:kP.raw w cx x) {t:Int} :
    Calls Tryz.prog 214 #[.agg cx.toArray,.int .i64 t] w fun e w'=>e=.returned (.bool (fresh t x))∧Below w.heap.size w w':=by
 obtain ⟨v0,v1,v2,rfl,a_0,a_1,a_2,a_3,a_4,a_5,a_6⟩:=kY hx
 have HT:=yD (show fresh t x=decide (t≤x.2.2.2.1) from rfl)
 clear hx a_0 a_1 a_2 a_3 a_4 a_5 a_6
 go_enter Tryz.func214,Tryz.ntmps214
 go_wp2
 go_ret
 exact ⟨kG HT.out.symm,bH⟩
theorem wrap_rng (z:Int):-9223372036854775808≤wrap64 z∧wrap64 z≤9223372036854775807:=by unfold wrap64;omega
def zI:kEb:=([],0,0,0)
def kSn (x:kAf):kAf:=kUk x (wrap64 (x.2.2.2.2.2.2 + 1))
theorem kSm {x0:List jJ} {x1:kr} {x2:List kS} {x3:List jK} {x4:List yA} {x5:List kZ} {x6:Int}:kSn (x0,x1,x2,x3,x4,x5,x6)=(x0,x1,x2,x3,x4,x5,wrap64 (x6 + 1)):=rfl
theorem zI_own {w:World} {S:Nat→Prop}:kCh.own w [.slice none 0 0,.int .i64 0,.int .i64 0,.int .i64 0] zI S :=
  own_voidL (Rep.kCc (cs:=[.int .i64 0]) (Rep.jG rP) (Rep.kCc (cs:=[.int .i64 0]) (Rep.jG rP) (Rep.flat.own (Rep.jG rP))))
theorem out1_own {w:World} {f:Int} {dc:List Value} {D:jJ} {S:Nat→Prop} (hf:-9223372036854775808≤f∧f≤9223372036854775807) (h:kP.own w dc D S) :
    kR.own w ([.int .i64 f,.bool false,.slice none 0 0,.int .i64 0,.int .i64 0,.int .i64 0]++dc) (f,false,zI,D) S :=
  Rep.kCc (r:=Rep.int) (q:=Rep.pair Rep.bool (Rep.pair kCh kP)) (cs:=[.int .i64 f]) (Rep.jG hf) (Rep.kCc (r:=Rep.bool) (q:=Rep.pair kCh kP) (cs:=[.bool false]) (Rep.flat_bool false)
    (Rep.jW (r:=kCh) (q:=kP) (cs:=[.slice none 0 0,.int .i64 0,.int .i64 0,.int .i64 0]) (A:=fun _=>False) (B:=S) zI_own h (fun _ h=>h.elim) (fun _ h=>h) (fun _ h _=>h)))
theorem kGa {w:World} {c0 c1 c2 c3 c4 c5 c6 c7 v:Value} {x:kAf} {l:List jV} {A B S:Nat→Prop} (h:jC.own w [c0,c1,c2,c3,c4,c5,c6,c7] x A) (k:(Rep.slice 128 kR).own w [v] l B) (hA:∀ j,A j→S j) (hB:∀ j,B j→S j) (hd:∀ j,A j→B j→False) :
    yP.own w [c0,c1,c2,c3,c4,c5,c6,c7,v] (x,l) S:=Rep.jW (r:=jC) (q:=(Rep.slice 128 kR)) (cs:=[c0,c1,c2,c3,c4,c5,c6,c7]) (ds:=[v]) h k hA hB hd
theorem kLw {w:World} {c0 c1 c2 c3 c4 c5 c6 c7:Value} {x0:List jJ} {x1:kr} {x2:List kS} {x3:List jK} {x4:List yA} {x5:List kZ} {x6 y:Int} {S:Nat→Prop} (h:jC.own w [c0,c1,c2,c3,c4,c5,c6,c7] (x0,x1,x2,x3,x4,x5,x6) S) (hy:-9223372036854775808≤y∧y≤9223372036854775807) :
    jC.own w [c0,c1,c2,c3,c4,c5,c6,.int .i64 y] (x0,x1,x2,x3,x4,x5,y) S:=⟨RNode_set7 y hy h.1,h.2⟩
theorem kTf {w:World} {cx:List Value} {x:kAf} (hx:jC.rd w cx x) :
    Calls Tryz.prog 61 #[.agg cx.toArray] w (yM yP (kSn x,[]) w):=by
 obtain ⟨x0,⟨xc,xe⟩,x2,x3,x4,x5,x6⟩:=x
 have HX:=yD hx
 obtain ⟨av0,av2,av3,av4,av5,av6,rfl,a_0,a_1,a_2,a_3,a_4,a_5,a_6,a_7,a_8⟩:=jo hx.1
 obtain ⟨aa0,ap0,rfl,al0⟩:=Rep.sl a_0
 obtain ⟨aa2,ap2,rfl,al2⟩:=Rep.sl a_3
 obtain ⟨aa3,ap3,rfl,al3⟩:=Rep.sl a_4
 obtain ⟨aa4,ap4,rfl,al4⟩:=Rep.sl a_5
 obtain ⟨aa5,ap5,rfl,al5⟩:=Rep.sl a_6
 obtain ⟨aa6,ap6,rfl,al6⟩:=Rep.sl a_7
 clear hx
 clear a_0 a_1 a_2 a_3 a_4 a_5 a_6 a_7 a_8
 go_enter Tryz.func61,Tryz.ntmps61
 go_upto_region 1 with fail
 generalize hw_:World.alloc (World.alloc w _) _=w1
 have EE:Below w.heap.size w w1:=by rw [← hw_];exact bH
 have BX:w1.heap[w.heap.size]?=some (.cells #[.slice aa0 x0.length ap0,.int .i64 xc,.slice aa2 xe.length ap2,.slice aa3 x2.length ap3,.slice aa4 x3.length ap4,.slice aa5 x4.length ap5,.slice aa6 x5.length ap6,.int .i64 x6] 56 (0,0)):=by rw [← hw_];exact jD (kN rfl)
 have BR:w1.heap[w.heap.size + 1]?=some (.cells #[.slice none 0 0,.int .i64 0,.slice none 0 0,.slice none 0 0,.slice none 0 0,.slice none 0 0,.slice none 0 0,.int .i64 0,.slice none 0 0] 74 (0,0)):=by rw [← hw_];exact kN rQ
 have z_w1:w.heap.size + 2≤w1.heap.size:=qJ
 clear hw_
 obtain ⟨KBX_0,KBX_1,KBX_2,KBX_3,KBX_4,KBX_5,KBX_6,KBX_7⟩:=kBj BX
 go_wp2_with fail
 refine (kIf (HX.out.below EE)).mono ?_
 rintro e w2 ⟨cs,rfl,O,hb⟩
 have z_w2:=hb.size
 replace BX:=kD BX hb
 replace BR:=kD BR hb
 replace EE:=(tQ EE hb)
 clear KBX_0 KBX_1 KBX_2 KBX_3 KBX_4 KBX_5 KBX_6 KBX_7
 clear hb
 obtain ⟨ov0,ov2,ov3,ov4,ov5,ov6,rfl,o_0,o_1,o_2,o_3,o_4,o_5,o_6,o_7,o_8⟩:=jo O.raw
 obtain ⟨oa0,op0,rfl,ol0⟩:=Rep.sl o_0
 obtain ⟨oa2,op2,rfl,ol2⟩:=Rep.sl o_3
 obtain ⟨oa3,op3,rfl,ol3⟩:=Rep.sl o_4
 obtain ⟨oa4,op4,rfl,ol4⟩:=Rep.sl o_5
 obtain ⟨oa5,op5,rfl,ol5⟩:=Rep.sl o_6
 obtain ⟨oa6,op6,rfl,ol6⟩:=Rep.sl o_7
 clear o_0 o_1 o_2 o_3 o_4 o_5 o_6 o_7 o_8
 go_upto_region 2 with fail
 have HO:=yD O
 clear O
 replace HO:=yD (HO.out.wide (T:=(fun j=>w.heap.size + 2≤j∧j < w2.heap.size∧j≠w2.heap.size)) dS)
 generalize hw_:World.alloc w2 _=w3
 have E_w3:Below w2.heap.size w2 w3:=nC
 have BO:w3.heap[w2.heap.size]?=some (.cells #[.slice oa0 x0.length op0,.int .i64 xc,.slice oa2 xe.length op2,.slice oa3 x2.length op3,.slice oa4 x3.length op4,.slice oa5 x4.length op5,.slice oa6 x5.length op6,.int .i64 x6] 56 (0,0)):=pF
 have z_w3:w2.heap.size + 1≤w3.heap.size:=qJ
 clear hw_
 replace BX:=kD BX E_w3
 replace BR:=kD BR E_w3
 replace HO:=yD (HO.out.below E_w3)
 replace EE:=(tQ EE E_w3)
 clear E_w3
 obtain ⟨KBO_0,KBO_1,KBO_2,KBO_3,KBO_4,KBO_5,KBO_6,KBO_7⟩:=kBj BO
 obtain ⟨FBO_0,FBO_1,FBO_2,FBO_3,FBO_4,FBO_5,FBO_6,FBO_7⟩:=rowF8 BO
 go_upto_region 3 with fail
 generalize hy6:wrap64 (x6 + 1)=y6
 have HY6:Hid (-9223372036854775808≤y6∧y6≤9223372036854775807):=yD (by rw [← hy6];exact wrap_rng _)
 have HD:=yD (show kSn (x0,(xc,xe),x2,x3,x4,x5,x6)=(x0,(xc,xe),x2,x3,x4,x5,y6) by rw [kSm,hy6])
 clear hy6
 generalize hw_:World.setCell w3 _ _=w4
 have T_w4:Touch (fun k=>k=w2.heap.size) w3 w4:=by rw [← hw_];exact kC w3 (w2.heap.size) 7 _
 replace BO:w4.heap[w2.heap.size]?=some (.cells #[.slice oa0 x0.length op0,.int .i64 xc,.slice oa2 xe.length op2,.slice oa3 x2.length op3,.slice oa4 x3.length op4,.slice oa5 x4.length op5,.slice oa6 x5.length op6,.int .i64 y6] 56 (0,0)):=by rw [← hw_];exact jF BO 7
 have z_w4:=T_w4.size
 clear hw_
 replace BX:=T_w4.kD BX rP
 replace BR:=T_w4.kD BR rP
 replace HO:=yD (HO.out.touch T_w4 gN)
 replace EE:=EE.trans (T_w4.below EE.size qI)
 clear KBO_0 KBO_1 KBO_2 KBO_3 KBO_4 KBO_5 KBO_6 KBO_7 FBO_0 FBO_1 FBO_2 FBO_3 FBO_4 FBO_5 FBO_6 FBO_7
 clear T_w4
 replace HO:=yD (kLw HO.out HY6.out)
 obtain ⟨KBO_0,KBO_1,KBO_2,KBO_3,KBO_4,KBO_5,KBO_6,KBO_7⟩:=kBj BO
 obtain ⟨KBR_0,KBR_1,KBR_2,KBR_3,KBR_4,KBR_5,KBR_6,KBR_7,KBR_8⟩:=ji BR
 obtain ⟨FBR_0,FBR_1,FBR_2,FBR_3,FBR_4,FBR_5,FBR_6,FBR_7,FBR_8⟩:=zJ BR
 have GBR_0:(World.alloc w4 (.cells #[] 128)).frozen? ⟨w.heap.size + 1,0,none⟩=false:=(frozen?_alloc_cells _ _ _ _).trans FBR_0
 have HBR_0:(World.alloc w4 (.cells #[] 128)).cell? ⟨w.heap.size + 1,0,none⟩=some (.slice none 0 0):=kK (kD BR (bR.alloc nL _)) rfl
 have GBR_1:(World.alloc w4 (.cells #[] 128)).frozen? ⟨w.heap.size + 1,1,none⟩=false:=(frozen?_alloc_cells _ _ _ _).trans FBR_1
 have HBR_1:(World.alloc w4 (.cells #[] 128)).cell? ⟨w.heap.size + 1,1,none⟩=some (.int .i64 0):=kK (kD BR (bR.alloc nL _)) rfl
 have GBR_2:(World.alloc w4 (.cells #[] 128)).frozen? ⟨w.heap.size + 1,2,none⟩=false:=(frozen?_alloc_cells _ _ _ _).trans FBR_2
 have HBR_2:(World.alloc w4 (.cells #[] 128)).cell? ⟨w.heap.size + 1,2,none⟩=some (.slice none 0 0):=kK (kD BR (bR.alloc nL _)) rfl
 have GBR_3:(World.alloc w4 (.cells #[] 128)).frozen? ⟨w.heap.size + 1,3,none⟩=false:=(frozen?_alloc_cells _ _ _ _).trans FBR_3
 have HBR_3:(World.alloc w4 (.cells #[] 128)).cell? ⟨w.heap.size + 1,3,none⟩=some (.slice none 0 0):=kK (kD BR (bR.alloc nL _)) rfl
 have GBR_4:(World.alloc w4 (.cells #[] 128)).frozen? ⟨w.heap.size + 1,4,none⟩=false:=(frozen?_alloc_cells _ _ _ _).trans FBR_4
 have HBR_4:(World.alloc w4 (.cells #[] 128)).cell? ⟨w.heap.size + 1,4,none⟩=some (.slice none 0 0):=kK (kD BR (bR.alloc nL _)) rfl
 have GBR_5:(World.alloc w4 (.cells #[] 128)).frozen? ⟨w.heap.size + 1,5,none⟩=false:=(frozen?_alloc_cells _ _ _ _).trans FBR_5
 have HBR_5:(World.alloc w4 (.cells #[] 128)).cell? ⟨w.heap.size + 1,5,none⟩=some (.slice none 0 0):=kK (kD BR (bR.alloc nL _)) rfl
 have GBR_6:(World.alloc w4 (.cells #[] 128)).frozen? ⟨w.heap.size + 1,6,none⟩=false:=(frozen?_alloc_cells _ _ _ _).trans FBR_6
 have HBR_6:(World.alloc w4 (.cells #[] 128)).cell? ⟨w.heap.size + 1,6,none⟩=some (.slice none 0 0):=kK (kD BR (bR.alloc nL _)) rfl
 have GBR_7:(World.alloc w4 (.cells #[] 128)).frozen? ⟨w.heap.size + 1,7,none⟩=false:=(frozen?_alloc_cells _ _ _ _).trans FBR_7
 have HBR_7:(World.alloc w4 (.cells #[] 128)).cell? ⟨w.heap.size + 1,7,none⟩=some (.int .i64 0):=kK (kD BR (bR.alloc nL _)) rfl
 have GBR_8:(World.alloc w4 (.cells #[] 128)).frozen? ⟨w.heap.size + 1,8,none⟩=false:=(frozen?_alloc_cells _ _ _ _).trans FBR_8
 have HBR_8:(World.alloc w4 (.cells #[] 128)).cell? ⟨w.heap.size + 1,8,none⟩=some (.slice none 0 0):=kK (kD BR (bR.alloc nL _)) rfl
 go_wp2
 refine bodyPost_ret (v:=.agg #[.slice oa0 x0.length op0,.int .i64 xc,.slice oa2 xe.length op2,.slice oa3 x2.length op3,.slice oa4 x3.length op4,.slice oa5 x4.length op5,.slice oa6 x5.length op6,.int .i64 y6,.slice (some ⟨w4.heap.size,0,none⟩) 0 0]) (by simp [results,Tryz.results61,go_sem,HBR_0,GBR_0,HBR_1,GBR_1,HBR_2,GBR_2,HBR_3,GBR_3,HBR_4,GBR_4,HBR_5,GBR_5,HBR_6,GBR_6,HBR_7,GBR_7,HBR_8,GBR_8]) rfl ⟨[.slice oa0 x0.length op0,.int .i64 xc,.slice oa2 xe.length op2,.slice oa3 x2.length op3,.slice oa4 x3.length op4,.slice oa5 x4.length op5,.slice oa6 x5.length op6,.int .i64 y6,.slice (some ⟨w4.heap.size,0,none⟩) 0 0],rfl,?_,?_⟩
 · rw [HD.out];exact kGa (A:=fun j=>w.heap.size + 2≤j∧j < w4.heap.size∧j≠w2.heap.size) (B:=fun _=>False) (((HO.out.wide (T:=fun j=>w.heap.size + 2≤j∧j < w4.heap.size∧j≠w2.heap.size) gL).below (bR.alloc nL _)).touch (((((((((kC _ _ _ _).trans (kC _ _ _ _)).trans (kC _ _ _ _)).trans (kC _ _ _ _)).trans (kC _ _ _ _)).trans (kC _ _ _ _)).trans (kC _ _ _ _)).trans (kC _ _ _ _)).trans (kC _ _ _ _)) nJ) Rep.kCk dO (fun _ h=>h.elim) (fun _ _ h=>h)
 exact EE.trans (Below.trans (bR.alloc EE.size _) (Touch.below (((((((((kC _ _ _ _).trans (kC _ _ _ _)).trans (kC _ _ _ _)).trans (kC _ _ _ _)).trans (kC _ _ _ _)).trans (kC _ _ _ _)).trans (kC _ _ _ _)).trans (kC _ _ _ _)).trans (kC _ _ _ _)) (by simp;have:=EE.size;omega) qI))
def isC (n:kW) (x:ko):Bool:=eqN x.1.1 n
theorem kKf {w:World} {vl:Value} {l:(List ko)} (hl:(Rep.slice 212 kH).raw w [vl] l) {cn:List Value} {n:kW} (hn:kL.raw w cn n) :
    Calls Tryz.prog 131 #[vl,.agg cn.toArray] w fun e w'=>e=.returned (.int .i64 (idxOf (isC n) l))∧Below w.heap.size w w':=by
 obtain ⟨al,pl,rfl,ll⟩:=Rep.sl hl
 have Hn:=yD hn
 obtain ⟨fnv0,rfl,fn_0⟩:=kM hn
 obtain ⟨fna0,fnp0,rfl,fnl0⟩:=Rep.sl fn_0
 go_enter Tryz.func131,Tryz.ntmps131
 go_wp2
 generalize hwB:World.alloc w _=wB
 have EB:Below w.heap.size w wB:=by rw [← hwB];exact bH
 have K3_0:wB.cell? ⟨w.heap.size,0,none⟩=some (.slice fna0 (n).length fnp0):=nV
 clear hwB
 replace hl:=hl.below EB
 go_loopw [5] (fun i wr=>∃ k:Nat,k≤l.length∧i=.int .i64 k∧Hid (∀ j,(h:j < k)→(h2:j < l.length)→(isC n) l[j]=false)∧Below wB.heap.size wB wr) (fun i _=>l.length - (intOf i).toNat)
 case atStart=>exact ⟨0,Nat.zero_le _,rfl,yD (fun _ h=>by omega),bR⟩
 obtain ⟨k,hk,rfl,HN,hbel⟩:=hrel
 replace K3_0:=cL hbel K3_0
 by_cases hlt:k < l.length
 · obtain ⟨qb,qo,rfl,qc0,qc1,qc2,qc3,qc4,qc5,qr,Aq0,Aq1,Aq2,Aq3,Aq4,Aq5⟩:=Rep.get6 (hl.below hbel) (i:=k) rP rfl
   have hhit:=fun q=>idxOf_hit hlt q HN.out
   have hmis:=fun q=>kAk hlt q HN.out
   generalize l[k]=x at *
   have HD:=yD hhit;have HX:=yD hmis;clear hhit hmis
   obtain ⟨x0,x1⟩:=x
   obtain ⟨qv0,qv1,qv2,qhe,q_0,q_1,q_2,q_3,q_4,q_5,q_6,q_7,q_8⟩:=jQ qr
   simp only [List.cons.injEq,and_true] at qhe
   obtain ⟨rfl,rfl,rfl,rfl,rfl,rfl⟩:=qhe
   obtain ⟨qa0,qp0,rfl,ql0⟩:=Rep.sl q_2
   obtain ⟨qa1,qp1,rfl,ql1⟩:=Rep.sl q_3
   obtain ⟨qa2,qp2,rfl,ql2⟩:=Rep.sl q_5
   go_upto_region 4 with fail
   have FX:=yD (fun (W:World) (hW:Below wr.heap.size wr W)=>cLs7 hW K3_0 Aq0 Aq1 Aq2 Aq3 Aq4 Aq5)
   refine jB (fun W=>Below wr.heap.size wr W) [true,true,true,true,true,true,true,false] rF rF gX (bR.drew) ?_
   intro wS HS
   iterate 7
    all_goals refine wkR ?_
   all_goals first | refine wkB (zD (Rep.raw.below q_1 HS) (Rep.raw.below Hn.out ((tQ EB (tQ hbel HS))))) (fun wS1 HS=>?_) | refine wkR ?_
   all_goals refine jA ?_
   all_goals cases hg7:eqN x0.1 n
   all_goals have EG:=(tQ hbel HS)
   all_goals first
     | (have HT:=yD (HD.out (show _=true by simp only [isC,Bool.not_true,Bool.not_false,Bool.and_true,Bool.true_and,Bool.and_false,Bool.false_and,Bool.or_true,Bool.true_or,Bool.or_false,Bool.false_or,Bool.not_not,hg7]));clear HD HX;go_wp2;go_ret;exact ⟨ku HT.out.symm,(tQ EB EG)⟩)
     | (have HT:=yD (HX.out (show _=false by simp only [isC,Bool.not_true,Bool.not_false,Bool.and_true,Bool.true_and,Bool.and_false,Bool.false_and,Bool.or_true,Bool.true_or,Bool.or_false,Bool.false_or,Bool.not_not,hg7]));clear HD HX;go_wp2;go_roundw;(case rel=>exact ⟨k + 1,by omega,by go_num,HT,EG⟩);(case measure=>simp [intOf];omega))
 have HT:=yD (idxOf_miss hlt HN.out)
 go_wp2
 go_ret
 exact ⟨ku HT.out.symm,(tQ EB hbel)⟩
end Go.Proofs.YtlfblpgkegeaeaaGreat

/-
  Nodes, copied.
-/
import Derived.Test.YtomdenfcfbkfbaaGreatBase
import Derived.Test.YtomdenfcfbkfbaaGreatCopyS
import Derived.Test.YtomdenfcfbkfbaaGreatCopyE
import Derived.Test.YtomdenfcfbkfbaaGreatCopyP
import Derived.Test.YtomdenfcfbkfbaaGreatCopyR
import Derived.IntWalk
import Derived.Deep.Cut
import Derived.WalkSpells
import Derived.WalkLawsBesides
namespace Go.Proofs.YtomdenfcfbkfbaaGreat
open Go.RowKit
set_option linter.unusedVariables false
set_option linter.unusedSimpArgs false
set_option linter.unnecessarySimpa false
def CopiedN (x:LNode) (w:World) (e:Ending) (w':World):Prop :=
  ∃ (v:Value) (ds:List Value) (mid:Nat),e=.returned (.agg (v :: ds).toArray)∧Rep.own0 113 RData w' v x.1 (Btw w.heap.size mid)∧(Rep.pair kJ (Rep.pair (Rep.slice 77 kH) (Rep.pair (Rep.slice 157 kK) (Rep.pair (Rep.slice 159 RRoute) (Rep.pair (Rep.slice 166 kI) Rep.int))))).own w' ds x.2 (Btw mid w'.heap.size)∧w.heap.size≤mid∧mid≤w'.heap.size∧Below w.heap.size w w'
theorem CopiedN.made {x:LNode} {w:World} {e:Ending} {w':World} (h:CopiedN x w e w') (hb:RNode.bdd Big x):MadeAgg RNode x w e w':=by
 obtain ⟨v,ds,mid,rfl,h1,h2,h3,h4,h5⟩:=h
 refine ⟨v :: ds,rfl,?_,h5⟩
 exact Rep.own_pair (r:=Rep.slice 113 RData) (q:=(Rep.pair kJ (Rep.pair (Rep.slice 77 kH) (Rep.pair (Rep.slice 157 kK) (Rep.pair (Rep.slice 159 RRoute) (Rep.pair (Rep.slice 166 kI) Rep.int)))))) (cs:=[v]) (ds:=ds) (x:=x.1) (y:=x.2) (S:=Btw w.heap.size w'.heap.size) (h1.own hb.1.1) h2 (fun j hj=>⟨hj.1,by have:=hj.2;omega⟩) (fun j hj=>⟨by have:=hj.1;omega,hj.2⟩) (fun j h1 h2=>by have p:=h1.2;have q:=h2.1;omega)
set_option maxRecDepth 100000 in
set_option maxHeartbeats 4000000 in
theorem specCopyNode_0 {w:World} {cx:List Value} {x:LNode} (hx:RNode.rd w cx x):Calls Tryz.prog 27 #[.agg cx.toArray] w (CopiedN x w):=by
 obtain ⟨q0,q1,q2,q3,q4,q5,q6⟩:=hx.2
 have HB0:Hid (x.1.length≤Big):=hD q0.1
 have HB2:Hid (x.2.2.1.length≤Big):=hD q2.1
 have HB3:Hid (x.2.2.2.1.length≤Big):=hD q3.1
 have HB4:Hid (x.2.2.2.2.1.length≤Big):=hD q4.1
 have HB5:Hid (x.2.2.2.2.2.1.length≤Big):=hD q5.1
 obtain ⟨av0,av2,av3,av4,av5,av6,rfl,a_0,a_1,a_2,a_3,a_4,a_5,a_6,a_7,a_8⟩:=RNode_raw hx.1
 obtain ⟨aa0,ap0,ah0,al0⟩:=Rep.kR a_0;obtain rfl:av0=_:=by simpa using ah0
 clear ah0
 obtain ⟨aa2,ap2,ah2,al2⟩:=Rep.kR a_3;obtain rfl:av2=_:=by simpa using ah2
 clear ah2
 obtain ⟨aa3,ap3,ah3,al3⟩:=Rep.kR a_4;obtain rfl:av3=_:=by simpa using ah3
 clear ah3
 obtain ⟨aa4,ap4,ah4,al4⟩:=Rep.kR a_5;obtain rfl:av4=_:=by simpa using ah4
 clear ah4
 obtain ⟨aa5,ap5,ah5,al5⟩:=Rep.kR a_6;obtain rfl:av5=_:=by simpa using ah5
 clear ah5
 obtain ⟨aa6,ap6,ah6,al6⟩:=Rep.kR a_7;obtain rfl:av6=_:=by simpa using ah6
 clear ah6
 have RD0:Hid ((Rep.slice 113 RData).rd w [.slice aa0 x.1.length ap0] x.1):=hD ⟨a_0,q0⟩
 have RD1:Hid (kJ.rd w [.int .i64 x.2.1.1,.slice aa2 x.2.1.2.length ap2] x.2.1):=hD ⟨a_1,q1⟩
 have RD2:Hid ((Rep.slice 77 kH).rd w [.slice aa3 x.2.2.1.length ap3] x.2.2.1):=hD ⟨a_4,q2⟩
 have RD3:Hid ((Rep.slice 157 kK).rd w [.slice aa4 x.2.2.2.1.length ap4] x.2.2.2.1):=hD ⟨a_5,q3⟩
 have RD4:Hid ((Rep.slice 159 RRoute).rd w [.slice aa5 x.2.2.2.2.1.length ap5] x.2.2.2.2.1):=hD ⟨a_6,q4⟩
 have RD5:Hid ((Rep.slice 166 kI).rd w [.slice aa6 x.2.2.2.2.2.1.length ap6] x.2.2.2.2.2.1):=hD ⟨a_7,q5⟩
 have HDR:=hD a_8
 clear hx q0 q1 q2 q3 q4 q5 q6 a_0 a_1 a_2 a_3 a_4 a_5 a_6 a_7 a_8
 go_enter Tryz.func27,Tryz.ntmps27
 go_upto_region 1 with fail
 generalize hwB:World.alloc (World.alloc w _) _=wB
 have EB:Below w.heap.size w wB:=by rw [← hwB];exact (by repeat (first|(with_reducible exact Below.refl _ _) | refine Below.alloc ?_ (by simp;try omega) _ | refine Below.drew ?_ | refine Below.setCell ?_ (by simp;try omega) _))
 have K0:wB.cell? ⟨w.heap.size,0,none⟩=some (.slice aa0 x.1.length ap0):=by rw [← hwB];simp [go_sem]
 have K1:wB.cell? ⟨w.heap.size,1,none⟩=some (.int .i64 x.2.1.1):=by rw [← hwB];simp [go_sem]
 have K2:wB.cell? ⟨w.heap.size,2,none⟩=some (.slice aa2 x.2.1.2.length ap2):=by rw [← hwB];simp [go_sem]
 have K3:wB.cell? ⟨w.heap.size,3,none⟩=some (.slice aa3 x.2.2.1.length ap3):=by rw [← hwB];simp [go_sem]
 have K4:wB.cell? ⟨w.heap.size,4,none⟩=some (.slice aa4 x.2.2.2.1.length ap4):=by rw [← hwB];simp [go_sem]
 have K5:wB.cell? ⟨w.heap.size,5,none⟩=some (.slice aa5 x.2.2.2.2.1.length ap5):=by rw [← hwB];simp [go_sem]
 have K6:wB.cell? ⟨w.heap.size,6,none⟩=some (.slice aa6 x.2.2.2.2.2.1.length ap6):=by rw [← hwB];simp [go_sem]
 have K7:wB.cell? ⟨w.heap.size,7,none⟩=some (.int .i64 x.2.2.2.2.2.2):=by rw [← hwB];simp [go_sem]
 have XR:wB.heap[w.heap.size + 1]?=some (.cells #[.slice none 0 0,.int .i64 0,.slice none 0 0,.slice none 0 0,.slice none 0 0,.slice none 0 0,.slice none 0 0,.int .i64 0] 42 (0,0)):=by rw [← hwB];exact heap_new_at (by simp)
 have hzB:wB.heap.size=w.heap.size + 2:=by rw [← hwB];simp
 clear hwB
 refine wp_region_softP_tail (fun W=>Below wB.heap.size wB W) [(0,true),(1,true),(3,true),(4,true),(6,true),(7,true),(9,true),(10,true),(12,true),(13,true),(15,true),(16,true),(18,true),(19,true),(2,false),(5,false),(8,false),(11,false),(14,false),(17,false),(20,true)] (by kernel_rfl) (by kernel_rfl) (fun c a d v w h=>by cases d <;> exact h) ((Below.refl _ _).drew) ?_
 intro wS HS
 simp only [pickOps,List.length_cons,List.length_nil,List.getElem?_cons_succ,List.getElem?_cons_zero,List.map_cons,List.map_nil,List.cons_append,List.nil_append,List.drop_succ_cons,List.drop_zero]
 iterate 7
  all_goals first|(refine kC rfl HS ?_)|(refine kD (v:=?_) rfl (fun W hW=>?_) ?_;rotate_left;(· go_simp;try with_reducible rfl))
  all_goals try simp only [Act.put,zA,zB,zC]
  all_goals first|(refine kC rfl HS ?_)|(refine kD (v:=?_) rfl (fun W hW=>?_) ?_;rotate_left;(· have A_K0:=cL hW K0;have A_K1:=cL hW K1;have A_K2:=cL hW K2;have A_K3:=cL hW K3;have A_K4:=cL hW K4;have A_K5:=cL hW K5;have A_K6:=cL hW K6;have A_K7:=cL hW K7;clear hW;go_simp;try with_reducible rfl))
  all_goals try simp only [Act.put,zA,zB,zC]
 all_goals first|(refine kC rfl HS ?_)|(refine kF rfl (fun K hK=>?_);go_simp;refine (specl11Things_c (RD0.out.below (EB.trans (HS.mono EB.size)))).mono ?_;rintro e u0 ⟨v1,rfl,O1,hbU⟩;obtain ⟨ba0,bn0,bp0,hv1,HN0⟩:=O1.parts;obtain rfl:=hv1;have HO0:=hD O1;clear O1;have hz0:=hbU.size;have hs0:=HS.size;replace HS:=HS.trans (hbU.mono HS.size);refine hK _ _ HS ?_;clear hK K hbU)
 all_goals try simp only [Act.put,zA,zB,zC]
 all_goals first|(refine kC rfl HS ?_)|(refine kF rfl (fun K hK=>?_);go_simp;refine (specl12Copy_c (RD1.out.below (EB.trans (HS.mono EB.size)))).mono ?_;rintro e u1 ⟨cs,rfl,O2,hbU⟩;obtain ⟨cv,rfl,c_0,c_1⟩:=RContentStore_raw O2.raw;obtain ⟨ba1,bp1,hcv,_⟩:=Rep.kR c_1;obtain rfl:cv=_:=(by simpa using hcv);have HO1:=hD O2;clear O2 c_0 c_1 hcv;replace HO0:=hD (HO0.out.below hbU);have hz1:=hbU.size;have hs1:=HS.size;replace HS:=HS.trans (hbU.mono HS.size);refine hK _ _ HS ?_;clear hK K hbU)
 all_goals try simp only [Act.put,zA,zB,zC]
 all_goals first|(refine kC rfl HS ?_)|(refine kF rfl (fun K hK=>?_);go_simp;refine (specl13Copy_c (RD2.out.below (EB.trans (HS.mono EB.size)))).mono ?_;rintro e u2 ⟨v1,rfl,O1,hbU⟩;obtain ⟨ba2,bn2,bp2,hv1,HN2⟩:=O1.parts;obtain rfl:=hv1;have HO2:=hD (O1.own HB2.out);clear O1;replace HO0:=hD (HO0.out.below hbU);replace HO1:=hD (HO1.out.below hbU);have hz2:=hbU.size;have hs2:=HS.size;replace HS:=HS.trans (hbU.mono HS.size);refine hK _ _ HS ?_;clear hK K hbU)
 all_goals try simp only [Act.put,zA,zB,zC]
 all_goals first|(refine kC rfl HS ?_)|(refine kF rfl (fun K hK=>?_);go_simp;refine (specl13Seen_c (RD3.out.below (EB.trans (HS.mono EB.size)))).mono ?_;rintro e u3 ⟨v1,rfl,O1,hbU⟩;obtain ⟨ba3,bn3,bp3,hv1,HN3⟩:=O1.parts;obtain rfl:=hv1;have HO3:=hD (O1.own HB3.out);clear O1;replace HO0:=hD (HO0.out.below hbU);replace HO1:=hD (HO1.out.below hbU);replace HO2:=hD (HO2.out.below hbU);have hz3:=hbU.size;have hs3:=HS.size;replace HS:=HS.trans (hbU.mono HS.size);refine hK _ _ HS ?_;clear hK K hbU)
 all_goals try simp only [Act.put,zA,zB,zC]
 all_goals first|(refine kC rfl HS ?_)|(refine kF rfl (fun K hK=>?_);go_simp;refine (specl14Copy_c (RD4.out.below (EB.trans (HS.mono EB.size)))).mono ?_;rintro e u4 ⟨v1,rfl,O1,hbU⟩;obtain ⟨ba4,bn4,bp4,hv1,HN4⟩:=O1.parts;obtain rfl:=hv1;have HO4:=hD (O1.own HB4.out);clear O1;replace HO0:=hD (HO0.out.below hbU);replace HO1:=hD (HO1.out.below hbU);replace HO2:=hD (HO2.out.below hbU);replace HO3:=hD (HO3.out.below hbU);have hz4:=hbU.size;have hs4:=HS.size;replace HS:=HS.trans (hbU.mono HS.size);refine hK _ _ HS ?_;clear hK K hbU)
 all_goals try simp only [Act.put,zA,zB,zC]
 all_goals first|(refine kC rfl HS ?_)|(refine kF rfl (fun K hK=>?_);go_simp;refine (specl15Copy_c (RD5.out.below (EB.trans (HS.mono EB.size)))).mono ?_;rintro e u5 ⟨v1,rfl,O1,hbU⟩;obtain ⟨ba5,bn5,bp5,hv1,HN5⟩:=O1.parts;obtain rfl:=hv1;have HO5:=hD (O1.own HB5.out);clear O1;replace HO0:=hD (HO0.out.below hbU);replace HO1:=hD (HO1.out.below hbU);replace HO2:=hD (HO2.out.below hbU);replace HO3:=hD (HO3.out.below hbU);replace HO4:=hD (HO4.out.below hbU);have hz5:=hbU.size;have hs5:=HS.size;replace HS:=HS.trans (hbU.mono HS.size);refine hK _ _ HS ?_;clear hK K hbU)
 all_goals try simp only [Act.put,zA,zB,zC]
 all_goals first|(refine kC rfl HS ?_)|(refine kD (v:=?_) rfl (fun W hW=>?_) ?_;rotate_left;(· go_simp;try with_reducible rfl))
 all_goals try simp only [Act.put,zA,zB,zC]
 all_goals refine soft_rest ?_
 have X1:=kN XR HS
 have E1:=EB.trans (HS.mono EB.size)
 have M0:=kG (b:=w.heap.size + 1) X1 (j:=0) rfl
 have F0:=frozen_of_row u5 (w.heap.size + 1) 0 _ _ X1
 have M1:=kG (b:=w.heap.size + 1) X1 (j:=1) rfl
 have F1:=frozen_of_row u5 (w.heap.size + 1) 1 _ _ X1
 have M2:=kG (b:=w.heap.size + 1) X1 (j:=2) rfl
 have F2:=frozen_of_row u5 (w.heap.size + 1) 2 _ _ X1
 have M3:=kG (b:=w.heap.size + 1) X1 (j:=3) rfl
 have F3:=frozen_of_row u5 (w.heap.size + 1) 3 _ _ X1
 have M4:=kG (b:=w.heap.size + 1) X1 (j:=4) rfl
 have F4:=frozen_of_row u5 (w.heap.size + 1) 4 _ _ X1
 have M5:=kG (b:=w.heap.size + 1) X1 (j:=5) rfl
 have F5:=frozen_of_row u5 (w.heap.size + 1) 5 _ _ X1
 have M6:=kG (b:=w.heap.size + 1) X1 (j:=6) rfl
 have F6:=frozen_of_row u5 (w.heap.size + 1) 6 _ _ X1
 have M7:=kG (b:=w.heap.size + 1) X1 (j:=7) rfl
 have F7:=frozen_of_row u5 (w.heap.size + 1) 7 _ _ X1
 go_wp2
 refine bodyPost_ret (v:=.agg #[.slice ba0 bn0 bp0,.int .i64 x.2.1.1,.slice ba1 x.2.1.2.length bp1,.slice ba2 bn2 bp2,.slice ba3 bn3 bp3,.slice ba4 bn4 bp4,.slice ba5 bn5 bp5,.int .i64 x.2.2.2.2.2.2]) (by simp [results,Tryz.results27,go_sem,M0,F0,M1,F1,M2,F2,M3,F3,M4,F4,M5,F5,M6,F6,M7,F7]) rfl ⟨_,[_,_,_,_,_,_,_],u0.heap.size,rfl,?_,?_,by have:=E1.size;omega,by simp [World.setCell];omega,?_⟩
 · refine Rep.own0.wide (S:=Btw wS.heap.size u0.heap.size) (Rep.own0.keep HO0.out ?_) ?_
   · exact (fun j h1 h2=>by have p1:=h1.1;have p2:=h1.2;simp (discharger:=(simp;omega)) only [heap_setCell_other])
   exact (fun j hj=>⟨by have:=hj.1;omega,hj.2⟩)
 · refine Rep.own.wide (S:=Btw (u0.heap.size) (u5.heap.size)) ?_ (fun j hj=>⟨by have:=hj.1;omega,by have:=hj.2;simp [World.setCell];omega⟩)
   exact Rep.own_pair (r:=kJ) (q:=(Rep.pair (Rep.slice 77 kH) (Rep.pair (Rep.slice 157 kK) (Rep.pair (Rep.slice 159 RRoute) (Rep.pair (Rep.slice 166 kI) Rep.int))))) (cs:=[.int .i64 x.2.1.1,.slice ba1 x.2.1.2.length bp1]) (ds:=[.slice ba2 bn2 bp2,.slice ba3 bn3 bp3,.slice ba4 bn4 bp4,.slice ba5 bn5 bp5,.int .i64 x.2.2.2.2.2.2]) (x:=x.2.1) (y:=x.2.2) (S:=Btw (u0.heap.size) (u5.heap.size)) (Rep.own.out HO1.out (fun j h1 h2=>by simp (discharger:=(simp;omega)) only [heap_setCell_other])) (Rep.own_pair (r:=(Rep.slice 77 kH)) (q:=(Rep.pair (Rep.slice 157 kK) (Rep.pair (Rep.slice 159 RRoute) (Rep.pair (Rep.slice 166 kI) Rep.int)))) (cs:=[.slice ba2 bn2 bp2]) (ds:=[.slice ba3 bn3 bp3,.slice ba4 bn4 bp4,.slice ba5 bn5 bp5,.int .i64 x.2.2.2.2.2.2]) (x:=x.2.2.1) (y:=x.2.2.2) (S:=Btw (u1.heap.size) (u5.heap.size)) (Rep.own.out HO2.out (fun j h1 h2=>by simp (discharger:=(simp;omega)) only [heap_setCell_other])) (Rep.own_pair (r:=(Rep.slice 157 kK)) (q:=(Rep.pair (Rep.slice 159 RRoute) (Rep.pair (Rep.slice 166 kI) Rep.int))) (cs:=[.slice ba3 bn3 bp3]) (ds:=[.slice ba4 bn4 bp4,.slice ba5 bn5 bp5,.int .i64 x.2.2.2.2.2.2]) (x:=x.2.2.2.1) (y:=x.2.2.2.2) (S:=Btw (u2.heap.size) (u5.heap.size)) (Rep.own.out HO3.out (fun j h1 h2=>by simp (discharger:=(simp;omega)) only [heap_setCell_other])) (Rep.own_pair (r:=(Rep.slice 159 RRoute)) (q:=(Rep.pair (Rep.slice 166 kI) Rep.int)) (cs:=[.slice ba4 bn4 bp4]) (ds:=[.slice ba5 bn5 bp5,.int .i64 x.2.2.2.2.2.2]) (x:=x.2.2.2.2.1) (y:=x.2.2.2.2.2) (S:=Btw (u3.heap.size) (u5.heap.size)) (Rep.own.out HO4.out (fun j h1 h2=>by simp (discharger:=(simp;omega)) only [heap_setCell_other])) (Rep.own_flat (r:=(Rep.slice 166 kI)) (q:=Rep.int) (cs:=[.slice ba5 bn5 bp5]) (ds:=[.int .i64 x.2.2.2.2.2.2]) (x:=x.2.2.2.2.2.1) (y:=x.2.2.2.2.2.2) (Rep.own.out HO5.out (fun j h1 h2=>by simp (discharger:=(simp;omega)) only [heap_setCell_other])) (Rep.flat_int HDR.out)) (fun j hj=>⟨hj.1,by have:=hj.2;omega⟩) (fun j hj=>⟨by have:=hj.1;omega,hj.2⟩) (fun j h1 h2=>by have p:=h1.2;have q:=h2.1;omega)) (fun j hj=>⟨hj.1,by have:=hj.2;omega⟩) (fun j hj=>⟨by have:=hj.1;omega,hj.2⟩) (fun j h1 h2=>by have p:=h1.2;have q:=h2.1;omega)) (fun j hj=>⟨hj.1,by have:=hj.2;omega⟩) (fun j hj=>⟨by have:=hj.1;omega,hj.2⟩) (fun j h1 h2=>by have p:=h1.2;have q:=h2.1;omega)) (fun j hj=>⟨hj.1,by have:=hj.2;omega⟩) (fun j hj=>⟨by have:=hj.1;omega,hj.2⟩) (fun j h1 h2=>by have p:=h1.2;have q:=h2.1;omega)
 repeat (first|(with_reducible exact E1) | refine Below.setCell ?_ (by first|(simp;done)|(simp;omega)) _)
theorem specCopyNode_c {w:World} {cx:List Value} {x:LNode} (hx:RNode.rd w cx x):Calls Tryz.prog 27 #[.agg cx.toArray] w (MadeAgg RNode x w) :=
  (specCopyNode_0 hx).mono fun e w' h=>h.made hx.2
set_option maxRecDepth 100000 in
set_option maxHeartbeats 4000000 in
theorem implCopyNode_0 {w:World} {cx:List Value} {x:LNode} (hx:RNode.rd w cx x):Calls Tryz.prog 41 #[.agg cx.toArray] w (CopiedN x w):=by
 obtain ⟨q0,q1,q2,q3,q4,q5,q6⟩:=hx.2
 have HB0:Hid (x.1.length≤Big):=hD q0.1
 have HB2:Hid (x.2.2.1.length≤Big):=hD q2.1
 have HB3:Hid (x.2.2.2.1.length≤Big):=hD q3.1
 have HB4:Hid (x.2.2.2.2.1.length≤Big):=hD q4.1
 have HB5:Hid (x.2.2.2.2.2.1.length≤Big):=hD q5.1
 obtain ⟨av0,av2,av3,av4,av5,av6,rfl,a_0,a_1,a_2,a_3,a_4,a_5,a_6,a_7,a_8⟩:=RNode_raw hx.1
 obtain ⟨aa0,ap0,ah0,al0⟩:=Rep.kR a_0;obtain rfl:av0=_:=by simpa using ah0
 clear ah0
 obtain ⟨aa2,ap2,ah2,al2⟩:=Rep.kR a_3;obtain rfl:av2=_:=by simpa using ah2
 clear ah2
 obtain ⟨aa3,ap3,ah3,al3⟩:=Rep.kR a_4;obtain rfl:av3=_:=by simpa using ah3
 clear ah3
 obtain ⟨aa4,ap4,ah4,al4⟩:=Rep.kR a_5;obtain rfl:av4=_:=by simpa using ah4
 clear ah4
 obtain ⟨aa5,ap5,ah5,al5⟩:=Rep.kR a_6;obtain rfl:av5=_:=by simpa using ah5
 clear ah5
 obtain ⟨aa6,ap6,ah6,al6⟩:=Rep.kR a_7;obtain rfl:av6=_:=by simpa using ah6
 clear ah6
 have RD0:Hid ((Rep.slice 113 RData).rd w [.slice aa0 x.1.length ap0] x.1):=hD ⟨a_0,q0⟩
 have RD1:Hid (kJ.rd w [.int .i64 x.2.1.1,.slice aa2 x.2.1.2.length ap2] x.2.1):=hD ⟨a_1,q1⟩
 have RD2:Hid ((Rep.slice 77 kH).rd w [.slice aa3 x.2.2.1.length ap3] x.2.2.1):=hD ⟨a_4,q2⟩
 have RD3:Hid ((Rep.slice 157 kK).rd w [.slice aa4 x.2.2.2.1.length ap4] x.2.2.2.1):=hD ⟨a_5,q3⟩
 have RD4:Hid ((Rep.slice 159 RRoute).rd w [.slice aa5 x.2.2.2.2.1.length ap5] x.2.2.2.2.1):=hD ⟨a_6,q4⟩
 have RD5:Hid ((Rep.slice 166 kI).rd w [.slice aa6 x.2.2.2.2.2.1.length ap6] x.2.2.2.2.2.1):=hD ⟨a_7,q5⟩
 have HDR:=hD a_8
 clear hx q0 q1 q2 q3 q4 q5 q6 a_0 a_1 a_2 a_3 a_4 a_5 a_6 a_7 a_8
 go_enter Tryz.func41,Tryz.ntmps41
 go_upto_region 1 with fail
 generalize hwB:World.alloc (World.alloc w _) _=wB
 have EB:Below w.heap.size w wB:=by rw [← hwB];exact (by repeat (first|(with_reducible exact Below.refl _ _) | refine Below.alloc ?_ (by simp;try omega) _ | refine Below.drew ?_ | refine Below.setCell ?_ (by simp;try omega) _))
 have K0:wB.cell? ⟨w.heap.size,0,none⟩=some (.slice aa0 x.1.length ap0):=by rw [← hwB];simp [go_sem]
 have K1:wB.cell? ⟨w.heap.size,1,none⟩=some (.int .i64 x.2.1.1):=by rw [← hwB];simp [go_sem]
 have K2:wB.cell? ⟨w.heap.size,2,none⟩=some (.slice aa2 x.2.1.2.length ap2):=by rw [← hwB];simp [go_sem]
 have K3:wB.cell? ⟨w.heap.size,3,none⟩=some (.slice aa3 x.2.2.1.length ap3):=by rw [← hwB];simp [go_sem]
 have K4:wB.cell? ⟨w.heap.size,4,none⟩=some (.slice aa4 x.2.2.2.1.length ap4):=by rw [← hwB];simp [go_sem]
 have K5:wB.cell? ⟨w.heap.size,5,none⟩=some (.slice aa5 x.2.2.2.2.1.length ap5):=by rw [← hwB];simp [go_sem]
 have K6:wB.cell? ⟨w.heap.size,6,none⟩=some (.slice aa6 x.2.2.2.2.2.1.length ap6):=by rw [← hwB];simp [go_sem]
 have K7:wB.cell? ⟨w.heap.size,7,none⟩=some (.int .i64 x.2.2.2.2.2.2):=by rw [← hwB];simp [go_sem]
 have XR:wB.heap[w.heap.size + 1]?=some (.cells #[.slice none 0 0,.int .i64 0,.slice none 0 0,.slice none 0 0,.slice none 0 0,.slice none 0 0,.slice none 0 0,.int .i64 0] 42 (0,0)):=by rw [← hwB];exact heap_new_at (by simp)
 have hzB:wB.heap.size=w.heap.size + 2:=by rw [← hwB];simp
 clear hwB
 refine wp_region_softP_tail (fun W=>Below wB.heap.size wB W) [(0,true),(1,true),(3,true),(4,true),(6,true),(7,true),(9,true),(10,true),(12,true),(13,true),(15,true),(16,true),(18,true),(19,true),(2,false),(5,false),(8,false),(11,false),(14,false),(17,false),(20,true)] (by kernel_rfl) (by kernel_rfl) (fun c a d v w h=>by cases d <;> exact h) ((Below.refl _ _).drew) ?_
 intro wS HS
 simp only [pickOps,List.length_cons,List.length_nil,List.getElem?_cons_succ,List.getElem?_cons_zero,List.map_cons,List.map_nil,List.cons_append,List.nil_append,List.drop_succ_cons,List.drop_zero]
 iterate 7
  all_goals first|(refine kC rfl HS ?_)|(refine kD (v:=?_) rfl (fun W hW=>?_) ?_;rotate_left;(· go_simp;try with_reducible rfl))
  all_goals try simp only [Act.put,zA,zB,zC]
  all_goals first|(refine kC rfl HS ?_)|(refine kD (v:=?_) rfl (fun W hW=>?_) ?_;rotate_left;(· have A_K0:=cL hW K0;have A_K1:=cL hW K1;have A_K2:=cL hW K2;have A_K3:=cL hW K3;have A_K4:=cL hW K4;have A_K5:=cL hW K5;have A_K6:=cL hW K6;have A_K7:=cL hW K7;clear hW;go_simp;try with_reducible rfl))
  all_goals try simp only [Act.put,zA,zB,zC]
 all_goals first|(refine kC rfl HS ?_)|(refine kF rfl (fun K hK=>?_);go_simp;refine (implcopyDatas_c (RD0.out.below (EB.trans (HS.mono EB.size)))).mono ?_;rintro e u0 ⟨v1,rfl,O1,hbU⟩;obtain ⟨ba0,bn0,bp0,hv1,HN0⟩:=O1.parts;obtain rfl:=hv1;have HO0:=hD O1;clear O1;have hz0:=hbU.size;have hs0:=HS.size;replace HS:=HS.trans (hbU.mono HS.size);refine hK _ _ HS ?_;clear hK K hbU)
 all_goals try simp only [Act.put,zA,zB,zC]
 all_goals first|(refine kC rfl HS ?_)|(refine kF rfl (fun K hK=>?_);go_simp;refine (implcopyStore_c (RD1.out.below (EB.trans (HS.mono EB.size)))).mono ?_;rintro e u1 ⟨cs,rfl,O2,hbU⟩;obtain ⟨cv,rfl,c_0,c_1⟩:=RContentStore_raw O2.raw;obtain ⟨ba1,bp1,hcv,_⟩:=Rep.kR c_1;obtain rfl:cv=_:=(by simpa using hcv);have HO1:=hD O2;clear O2 c_0 c_1 hcv;replace HO0:=hD (HO0.out.below hbU);have hz1:=hbU.size;have hs1:=HS.size;replace HS:=HS.trans (hbU.mono HS.size);refine hK _ _ HS ?_;clear hK K hbU)
 all_goals try simp only [Act.put,zA,zB,zC]
 all_goals first|(refine kC rfl HS ?_)|(refine kF rfl (fun K hK=>?_);go_simp;refine (implcopyPending_c (RD2.out.below (EB.trans (HS.mono EB.size)))).mono ?_;rintro e u2 ⟨v1,rfl,O1,hbU⟩;obtain ⟨ba2,bn2,bp2,hv1,HN2⟩:=O1.parts;obtain rfl:=hv1;have HO2:=hD (O1.own HB2.out);clear O1;replace HO0:=hD (HO0.out.below hbU);replace HO1:=hD (HO1.out.below hbU);have hz2:=hbU.size;have hs2:=HS.size;replace HS:=HS.trans (hbU.mono HS.size);refine hK _ _ HS ?_;clear hK K hbU)
 all_goals try simp only [Act.put,zA,zB,zC]
 all_goals first|(refine kC rfl HS ?_)|(refine kF rfl (fun K hK=>?_);go_simp;refine (implcopySeen_c (RD3.out.below (EB.trans (HS.mono EB.size)))).mono ?_;rintro e u3 ⟨v1,rfl,O1,hbU⟩;obtain ⟨ba3,bn3,bp3,hv1,HN3⟩:=O1.parts;obtain rfl:=hv1;have HO3:=hD (O1.own HB3.out);clear O1;replace HO0:=hD (HO0.out.below hbU);replace HO1:=hD (HO1.out.below hbU);replace HO2:=hD (HO2.out.below hbU);have hz3:=hbU.size;have hs3:=HS.size;replace HS:=HS.trans (hbU.mono HS.size);refine hK _ _ HS ?_;clear hK K hbU)
 all_goals try simp only [Act.put,zA,zB,zC]
 all_goals first|(refine kC rfl HS ?_)|(refine kF rfl (fun K hK=>?_);go_simp;refine (implcopyRoutes_c (RD4.out.below (EB.trans (HS.mono EB.size)))).mono ?_;rintro e u4 ⟨v1,rfl,O1,hbU⟩;obtain ⟨ba4,bn4,bp4,hv1,HN4⟩:=O1.parts;obtain rfl:=hv1;have HO4:=hD (O1.own HB4.out);clear O1;replace HO0:=hD (HO0.out.below hbU);replace HO1:=hD (HO1.out.below hbU);replace HO2:=hD (HO2.out.below hbU);replace HO3:=hD (HO3.out.below hbU);have hz4:=hbU.size;have hs4:=HS.size;replace HS:=HS.trans (hbU.mono HS.size);refine hK _ _ HS ?_;clear hK K hbU)
 all_goals try simp only [Act.put,zA,zB,zC]
 all_goals first|(refine kC rfl HS ?_)|(refine kF rfl (fun K hK=>?_);go_simp;refine (implcopyMeasurements_c (RD5.out.below (EB.trans (HS.mono EB.size)))).mono ?_;rintro e u5 ⟨v1,rfl,O1,hbU⟩;obtain ⟨ba5,bn5,bp5,hv1,HN5⟩:=O1.parts;obtain rfl:=hv1;have HO5:=hD (O1.own HB5.out);clear O1;replace HO0:=hD (HO0.out.below hbU);replace HO1:=hD (HO1.out.below hbU);replace HO2:=hD (HO2.out.below hbU);replace HO3:=hD (HO3.out.below hbU);replace HO4:=hD (HO4.out.below hbU);have hz5:=hbU.size;have hs5:=HS.size;replace HS:=HS.trans (hbU.mono HS.size);refine hK _ _ HS ?_;clear hK K hbU)
 all_goals try simp only [Act.put,zA,zB,zC]
 all_goals first|(refine kC rfl HS ?_)|(refine kD (v:=?_) rfl (fun W hW=>?_) ?_;rotate_left;(· go_simp;try with_reducible rfl))
 all_goals try simp only [Act.put,zA,zB,zC]
 all_goals refine soft_rest ?_
 have X1:=kN XR HS
 have E1:=EB.trans (HS.mono EB.size)
 have M0:=kG (b:=w.heap.size + 1) X1 (j:=0) rfl
 have F0:=frozen_of_row u5 (w.heap.size + 1) 0 _ _ X1
 have M1:=kG (b:=w.heap.size + 1) X1 (j:=1) rfl
 have F1:=frozen_of_row u5 (w.heap.size + 1) 1 _ _ X1
 have M2:=kG (b:=w.heap.size + 1) X1 (j:=2) rfl
 have F2:=frozen_of_row u5 (w.heap.size + 1) 2 _ _ X1
 have M3:=kG (b:=w.heap.size + 1) X1 (j:=3) rfl
 have F3:=frozen_of_row u5 (w.heap.size + 1) 3 _ _ X1
 have M4:=kG (b:=w.heap.size + 1) X1 (j:=4) rfl
 have F4:=frozen_of_row u5 (w.heap.size + 1) 4 _ _ X1
 have M5:=kG (b:=w.heap.size + 1) X1 (j:=5) rfl
 have F5:=frozen_of_row u5 (w.heap.size + 1) 5 _ _ X1
 have M6:=kG (b:=w.heap.size + 1) X1 (j:=6) rfl
 have F6:=frozen_of_row u5 (w.heap.size + 1) 6 _ _ X1
 have M7:=kG (b:=w.heap.size + 1) X1 (j:=7) rfl
 have F7:=frozen_of_row u5 (w.heap.size + 1) 7 _ _ X1
 go_wp2
 refine bodyPost_ret (v:=.agg #[.slice ba0 bn0 bp0,.int .i64 x.2.1.1,.slice ba1 x.2.1.2.length bp1,.slice ba2 bn2 bp2,.slice ba3 bn3 bp3,.slice ba4 bn4 bp4,.slice ba5 bn5 bp5,.int .i64 x.2.2.2.2.2.2]) (by simp [results,Tryz.results41,go_sem,M0,F0,M1,F1,M2,F2,M3,F3,M4,F4,M5,F5,M6,F6,M7,F7]) rfl ⟨_,[_,_,_,_,_,_,_],u0.heap.size,rfl,?_,?_,by have:=E1.size;omega,by simp [World.setCell];omega,?_⟩
 · refine Rep.own0.wide (S:=Btw wS.heap.size u0.heap.size) (Rep.own0.keep HO0.out ?_) ?_
   · exact (fun j h1 h2=>by have p1:=h1.1;have p2:=h1.2;simp (discharger:=(simp;omega)) only [heap_setCell_other])
   exact (fun j hj=>⟨by have:=hj.1;omega,hj.2⟩)
 · refine Rep.own.wide (S:=Btw (u0.heap.size) (u5.heap.size)) ?_ (fun j hj=>⟨by have:=hj.1;omega,by have:=hj.2;simp [World.setCell];omega⟩)
   exact Rep.own_pair (r:=kJ) (q:=(Rep.pair (Rep.slice 77 kH) (Rep.pair (Rep.slice 157 kK) (Rep.pair (Rep.slice 159 RRoute) (Rep.pair (Rep.slice 166 kI) Rep.int))))) (cs:=[.int .i64 x.2.1.1,.slice ba1 x.2.1.2.length bp1]) (ds:=[.slice ba2 bn2 bp2,.slice ba3 bn3 bp3,.slice ba4 bn4 bp4,.slice ba5 bn5 bp5,.int .i64 x.2.2.2.2.2.2]) (x:=x.2.1) (y:=x.2.2) (S:=Btw (u0.heap.size) (u5.heap.size)) (Rep.own.out HO1.out (fun j h1 h2=>by simp (discharger:=(simp;omega)) only [heap_setCell_other])) (Rep.own_pair (r:=(Rep.slice 77 kH)) (q:=(Rep.pair (Rep.slice 157 kK) (Rep.pair (Rep.slice 159 RRoute) (Rep.pair (Rep.slice 166 kI) Rep.int)))) (cs:=[.slice ba2 bn2 bp2]) (ds:=[.slice ba3 bn3 bp3,.slice ba4 bn4 bp4,.slice ba5 bn5 bp5,.int .i64 x.2.2.2.2.2.2]) (x:=x.2.2.1) (y:=x.2.2.2) (S:=Btw (u1.heap.size) (u5.heap.size)) (Rep.own.out HO2.out (fun j h1 h2=>by simp (discharger:=(simp;omega)) only [heap_setCell_other])) (Rep.own_pair (r:=(Rep.slice 157 kK)) (q:=(Rep.pair (Rep.slice 159 RRoute) (Rep.pair (Rep.slice 166 kI) Rep.int))) (cs:=[.slice ba3 bn3 bp3]) (ds:=[.slice ba4 bn4 bp4,.slice ba5 bn5 bp5,.int .i64 x.2.2.2.2.2.2]) (x:=x.2.2.2.1) (y:=x.2.2.2.2) (S:=Btw (u2.heap.size) (u5.heap.size)) (Rep.own.out HO3.out (fun j h1 h2=>by simp (discharger:=(simp;omega)) only [heap_setCell_other])) (Rep.own_pair (r:=(Rep.slice 159 RRoute)) (q:=(Rep.pair (Rep.slice 166 kI) Rep.int)) (cs:=[.slice ba4 bn4 bp4]) (ds:=[.slice ba5 bn5 bp5,.int .i64 x.2.2.2.2.2.2]) (x:=x.2.2.2.2.1) (y:=x.2.2.2.2.2) (S:=Btw (u3.heap.size) (u5.heap.size)) (Rep.own.out HO4.out (fun j h1 h2=>by simp (discharger:=(simp;omega)) only [heap_setCell_other])) (Rep.own_flat (r:=(Rep.slice 166 kI)) (q:=Rep.int) (cs:=[.slice ba5 bn5 bp5]) (ds:=[.int .i64 x.2.2.2.2.2.2]) (x:=x.2.2.2.2.2.1) (y:=x.2.2.2.2.2.2) (Rep.own.out HO5.out (fun j h1 h2=>by simp (discharger:=(simp;omega)) only [heap_setCell_other])) (Rep.flat_int HDR.out)) (fun j hj=>⟨hj.1,by have:=hj.2;omega⟩) (fun j hj=>⟨by have:=hj.1;omega,hj.2⟩) (fun j h1 h2=>by have p:=h1.2;have q:=h2.1;omega)) (fun j hj=>⟨hj.1,by have:=hj.2;omega⟩) (fun j hj=>⟨by have:=hj.1;omega,hj.2⟩) (fun j h1 h2=>by have p:=h1.2;have q:=h2.1;omega)) (fun j hj=>⟨hj.1,by have:=hj.2;omega⟩) (fun j hj=>⟨by have:=hj.1;omega,hj.2⟩) (fun j h1 h2=>by have p:=h1.2;have q:=h2.1;omega)) (fun j hj=>⟨hj.1,by have:=hj.2;omega⟩) (fun j hj=>⟨by have:=hj.1;omega,hj.2⟩) (fun j h1 h2=>by have p:=h1.2;have q:=h2.1;omega)
 repeat (first|(with_reducible exact E1) | refine Below.setCell ?_ (by first|(simp;done)|(simp;omega)) _)
theorem implCopyNode_c {w:World} {cx:List Value} {x:LNode} (hx:RNode.rd w cx x):Calls Tryz.prog 41 #[.agg cx.toArray] w (MadeAgg RNode x w) :=
  (implCopyNode_0 hx).mono fun e w' h=>h.made hx.2
end Go.Proofs.YtomdenfcfbkfbaaGreat

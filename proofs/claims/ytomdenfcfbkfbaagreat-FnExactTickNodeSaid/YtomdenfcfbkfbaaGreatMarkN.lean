/-
  The laws' markings at more types. Printed by genmark.py.
-/
import Derived.Test.YtomdenfcfbkfbaaGreatBase
import Derived.Test.YtomdenfcfbkfbaaGreatMarkC
import Derived.Test.YtomdenfcfbkfbaaGreatProg
import Derived.Test.YtomdenfcfbkfbaaGreatTypes
import Derived.Test.YtomdenfcfbkfbaaGreatMarkT
import Derived.WalkKit
import Derived.WalkSpells
import Derived.WalkLawsBesides
import Derived.BigQuiet
import Derived.Deep.QuietTactic
import Derived.StillTailTactics
namespace Go.Proofs.YtomdenfcfbkfbaaGreat
open Go.RowKit
set_option linter.unusedVariables false
set_option linter.unusedSimpArgs false
set_option linter.unnecessarySimpa false
set_option maxRecDepth 100000 in
set_option maxHeartbeats 16000000 in
theorem markNode_c {w:World} {ca:List Value} {x:LNode} {k:Int} {S:Nat→Prop} (ha:RNode.own w ca x S) (hk0:0≤k) (hk1:k + (RNode.cnt:Nat)≤Top) :
    Calls Tryz.prog 10 #[.agg ca.toArray,.int .i64 k] w (MarkPost RNode false x k ca S w):=by
 have hl:=ha.live
 obtain ⟨av0,av2,av3,av4,av5,av6,rfl,a_0,a_1,a_2,a_3,a_4,a_5,a_6,a_7,a_8⟩:=RNode_raw ha.raw
 obtain ⟨x0,x1,x2,x3,x4,x5,x6⟩:=x
 clear a_0 a_1 a_2 a_3 a_4 a_5 a_6 a_7 a_8
 have HQ:=hD hk1;clear hk1
 have k2:k≤4611686018427387904:=by have:=HQ.out;unfold Top at this;omega
 go_enter Tryz.func10,Tryz.ntmps10
 go_wp2_with fail
 have O0:=hD (fun o=>Rep.own.alloc hl o)
 obtain ⟨A1,hA1,hAB1,bk1⟩:=RNode_sub_0 (O0.out _)
 refine (markDataS_c (k:=k) hA1 (by omega) (by have:=HQ.out;have e:RNode.cnt=(Rep.slice 113 RData).cnt + (kJ.cnt + ((Rep.slice 77 kH).cnt + ((Rep.slice 157 kK).cnt + ((Rep.slice 159 RRoute).cnt + ((Rep.slice 166 kI).cnt + (1)))))):=rfl;omega)).mono ?_
 rintro e w1 ⟨rfl,P1,X1⟩
 have O1x:=bk1 P1 X1
 have g1:=(Rep.slice 113 RData).mark_ge (e:=true) (x:=x0) (k:=k)
 have l1:((Rep.slice 113 RData).mark true x0 (k)).2≤k + ((Rep.slice 113 RData).cnt:Nat):=(Rep.slice 113 RData).mark_le (e:=true) (k:=k) hA1.2
 have u1:((Rep.slice 113 RData).mark true x0 (k)).2≤4611686018427387904:=by have:=HQ.out;have e:RNode.cnt=(Rep.slice 113 RData).cnt + (kJ.cnt + ((Rep.slice 77 kH).cnt + ((Rep.slice 157 kK).cnt + ((Rep.slice 159 RRoute).cnt + ((Rep.slice 166 kI).cnt + (1)))))):=rfl;unfold Top at *;omega
 have M1:=hD l1;clear l1
 have T1x:Touch S w w1:=(Touch.of_below (Rep.below_alloc w _)).trans (X1.wide (fun i hi=>(hAB1 i hi).1))
 have hz1:w.heap.size + 1≤w1.heap.size:=by have:=X1.size;simpa using this
 have hc1:∀ o,w1.cell? ⟨w.heap.size,o,none⟩=_:=fun o=>World.cell?_of_block (a:=⟨w.heap.size,o,none⟩) (X1.block w.heap.size (by simp) (fun q=>by have:=(hAB1 _ q).2;omega))
 have hf1:∀ o,w1.frozen? ⟨w.heap.size,o,none⟩=_:=fun o=>World.frozen?_of_block (a:=⟨w.heap.size,o,none⟩) (X1.block w.heap.size (by simp) (fun q=>by have:=(hAB1 _ q).2;omega))
 simp [go_sem] at hc1
 clear hA1 hAB1 bk1 P1 X1
 go_wp2_with fail
 obtain ⟨A2,hA2,hAB2,bk2⟩:=RNode_sub_1 O1x
 refine (markContentStore_c (k:=((Rep.slice 113 RData).mark true x0 (k)).2) hA2 (by omega) (by have:=HQ.out;have:=M1.out;have e:RNode.cnt=(Rep.slice 113 RData).cnt + (kJ.cnt + ((Rep.slice 77 kH).cnt + ((Rep.slice 157 kK).cnt + ((Rep.slice 159 RRoute).cnt + ((Rep.slice 166 kI).cnt + (1)))))):=rfl;omega)).mono ?_
 rintro e w2 ⟨rfl,P2,X2⟩
 have O2x:=bk2 P2 X2
 have g2:=kJ.mark_ge (e:=false) (x:=x1) (k:=((Rep.slice 113 RData).mark true x0 (k)).2)
 have l2:(kJ.mark false x1 (((Rep.slice 113 RData).mark true x0 (k)).2)).2≤((Rep.slice 113 RData).mark true x0 (k)).2 + (kJ.cnt:Nat):=kJ.mark_le (e:=false) (k:=((Rep.slice 113 RData).mark true x0 (k)).2) hA2.2
 have u2:(kJ.mark false x1 (((Rep.slice 113 RData).mark true x0 (k)).2)).2≤4611686018427387904:=by have:=HQ.out;have:=M1.out;have e:RNode.cnt=(Rep.slice 113 RData).cnt + (kJ.cnt + ((Rep.slice 77 kH).cnt + ((Rep.slice 157 kK).cnt + ((Rep.slice 159 RRoute).cnt + ((Rep.slice 166 kI).cnt + (1)))))):=rfl;unfold Top at *;omega
 have M2:=hD l2;clear l2
 have T2x:Touch S w w2:=T1x.trans (X2.wide (fun i hi=>(hAB2 i hi).1))
 have hz2:w.heap.size + 1≤w2.heap.size:=by have:=X2.size;omega
 have hc2:∀ o,w2.cell? ⟨w.heap.size,o,none⟩=_:=fun o=>(World.cell?_of_block (a:=⟨w.heap.size,o,none⟩) (X2.block w.heap.size (by omega) (fun q=>by have:=(hAB2 _ q).2;omega))).trans (hc1 o)
 clear hc1 hf1
 clear hA2 hAB2 bk2 P2 X2
 go_wp2_with fail
 obtain ⟨A3,hA3,hAB3,bk3⟩:=RNode_sub_2 O2x
 refine (markPendingInterestS_c (k:=(kJ.mark false x1 (((Rep.slice 113 RData).mark true x0 (k)).2)).2) hA3 (by omega) (by have:=HQ.out;have:=M1.out;have:=M2.out;have e:RNode.cnt=(Rep.slice 113 RData).cnt + (kJ.cnt + ((Rep.slice 77 kH).cnt + ((Rep.slice 157 kK).cnt + ((Rep.slice 159 RRoute).cnt + ((Rep.slice 166 kI).cnt + (1)))))):=rfl;omega)).mono ?_
 rintro e w3 ⟨rfl,P3,X3⟩
 have O3x:=bk3 P3 X3
 have g3:=(Rep.slice 77 kH).mark_ge (e:=true) (x:=x2) (k:=(kJ.mark false x1 (((Rep.slice 113 RData).mark true x0 (k)).2)).2)
 have l3:((Rep.slice 77 kH).mark true x2 ((kJ.mark false x1 (((Rep.slice 113 RData).mark true x0 (k)).2)).2)).2≤(kJ.mark false x1 (((Rep.slice 113 RData).mark true x0 (k)).2)).2 + ((Rep.slice 77 kH).cnt:Nat):=(Rep.slice 77 kH).mark_le (e:=true) (k:=(kJ.mark false x1 (((Rep.slice 113 RData).mark true x0 (k)).2)).2) hA3.2
 have u3:((Rep.slice 77 kH).mark true x2 ((kJ.mark false x1 (((Rep.slice 113 RData).mark true x0 (k)).2)).2)).2≤4611686018427387904:=by have:=HQ.out;have:=M1.out;have:=M2.out;have e:RNode.cnt=(Rep.slice 113 RData).cnt + (kJ.cnt + ((Rep.slice 77 kH).cnt + ((Rep.slice 157 kK).cnt + ((Rep.slice 159 RRoute).cnt + ((Rep.slice 166 kI).cnt + (1)))))):=rfl;unfold Top at *;omega
 have M3:=hD l3;clear l3
 have T3x:Touch S w w3:=T2x.trans (X3.wide (fun i hi=>(hAB3 i hi).1))
 have hz3:w.heap.size + 1≤w3.heap.size:=by have:=X3.size;omega
 have hc3:∀ o,w3.cell? ⟨w.heap.size,o,none⟩=_:=fun o=>(World.cell?_of_block (a:=⟨w.heap.size,o,none⟩) (X3.block w.heap.size (by omega) (fun q=>by have:=(hAB3 _ q).2;omega))).trans (hc2 o)
 clear hc2
 clear hA3 hAB3 bk3 P3 X3
 go_wp2_with fail
 obtain ⟨A4,hA4,hAB4,bk4⟩:=RNode_sub_3 O3x
 refine (markSeenNonceS_c (k:=((Rep.slice 77 kH).mark true x2 ((kJ.mark false x1 (((Rep.slice 113 RData).mark true x0 (k)).2)).2)).2) hA4 (by omega) (by have:=HQ.out;have:=M1.out;have:=M2.out;have:=M3.out;have e:RNode.cnt=(Rep.slice 113 RData).cnt + (kJ.cnt + ((Rep.slice 77 kH).cnt + ((Rep.slice 157 kK).cnt + ((Rep.slice 159 RRoute).cnt + ((Rep.slice 166 kI).cnt + (1)))))):=rfl;omega)).mono ?_
 rintro e w4 ⟨rfl,P4,X4⟩
 have O4x:=bk4 P4 X4
 have g4:=(Rep.slice 157 kK).mark_ge (e:=true) (x:=x3) (k:=((Rep.slice 77 kH).mark true x2 ((kJ.mark false x1 (((Rep.slice 113 RData).mark true x0 (k)).2)).2)).2)
 have l4:((Rep.slice 157 kK).mark true x3 (((Rep.slice 77 kH).mark true x2 ((kJ.mark false x1 (((Rep.slice 113 RData).mark true x0 (k)).2)).2)).2)).2≤((Rep.slice 77 kH).mark true x2 ((kJ.mark false x1 (((Rep.slice 113 RData).mark true x0 (k)).2)).2)).2 + ((Rep.slice 157 kK).cnt:Nat):=(Rep.slice 157 kK).mark_le (e:=true) (k:=((Rep.slice 77 kH).mark true x2 ((kJ.mark false x1 (((Rep.slice 113 RData).mark true x0 (k)).2)).2)).2) hA4.2
 have u4:((Rep.slice 157 kK).mark true x3 (((Rep.slice 77 kH).mark true x2 ((kJ.mark false x1 (((Rep.slice 113 RData).mark true x0 (k)).2)).2)).2)).2≤4611686018427387904:=by have:=HQ.out;have:=M1.out;have:=M2.out;have:=M3.out;have e:RNode.cnt=(Rep.slice 113 RData).cnt + (kJ.cnt + ((Rep.slice 77 kH).cnt + ((Rep.slice 157 kK).cnt + ((Rep.slice 159 RRoute).cnt + ((Rep.slice 166 kI).cnt + (1)))))):=rfl;unfold Top at *;omega
 have M4:=hD l4;clear l4
 have T4x:Touch S w w4:=T3x.trans (X4.wide (fun i hi=>(hAB4 i hi).1))
 have hz4:w.heap.size + 1≤w4.heap.size:=by have:=X4.size;omega
 have hc4:∀ o,w4.cell? ⟨w.heap.size,o,none⟩=_:=fun o=>(World.cell?_of_block (a:=⟨w.heap.size,o,none⟩) (X4.block w.heap.size (by omega) (fun q=>by have:=(hAB4 _ q).2;omega))).trans (hc3 o)
 clear hc3
 clear hA4 hAB4 bk4 P4 X4
 go_wp2_with fail
 obtain ⟨A5,hA5,hAB5,bk5⟩:=RNode_sub_4 O4x
 refine (markRouteS_c (k:=((Rep.slice 157 kK).mark true x3 (((Rep.slice 77 kH).mark true x2 ((kJ.mark false x1 (((Rep.slice 113 RData).mark true x0 (k)).2)).2)).2)).2) hA5 (by omega) (by have:=HQ.out;have:=M1.out;have:=M2.out;have:=M3.out;have:=M4.out;have e:RNode.cnt=(Rep.slice 113 RData).cnt + (kJ.cnt + ((Rep.slice 77 kH).cnt + ((Rep.slice 157 kK).cnt + ((Rep.slice 159 RRoute).cnt + ((Rep.slice 166 kI).cnt + (1)))))):=rfl;omega)).mono ?_
 rintro e w5 ⟨rfl,P5,X5⟩
 have O5x:=bk5 P5 X5
 have g5:=(Rep.slice 159 RRoute).mark_ge (e:=true) (x:=x4) (k:=((Rep.slice 157 kK).mark true x3 (((Rep.slice 77 kH).mark true x2 ((kJ.mark false x1 (((Rep.slice 113 RData).mark true x0 (k)).2)).2)).2)).2)
 have l5:((Rep.slice 159 RRoute).mark true x4 (((Rep.slice 157 kK).mark true x3 (((Rep.slice 77 kH).mark true x2 ((kJ.mark false x1 (((Rep.slice 113 RData).mark true x0 (k)).2)).2)).2)).2)).2≤((Rep.slice 157 kK).mark true x3 (((Rep.slice 77 kH).mark true x2 ((kJ.mark false x1 (((Rep.slice 113 RData).mark true x0 (k)).2)).2)).2)).2 + ((Rep.slice 159 RRoute).cnt:Nat):=(Rep.slice 159 RRoute).mark_le (e:=true) (k:=((Rep.slice 157 kK).mark true x3 (((Rep.slice 77 kH).mark true x2 ((kJ.mark false x1 (((Rep.slice 113 RData).mark true x0 (k)).2)).2)).2)).2) hA5.2
 have u5:((Rep.slice 159 RRoute).mark true x4 (((Rep.slice 157 kK).mark true x3 (((Rep.slice 77 kH).mark true x2 ((kJ.mark false x1 (((Rep.slice 113 RData).mark true x0 (k)).2)).2)).2)).2)).2≤4611686018427387904:=by have:=HQ.out;have:=M1.out;have:=M2.out;have:=M3.out;have:=M4.out;have e:RNode.cnt=(Rep.slice 113 RData).cnt + (kJ.cnt + ((Rep.slice 77 kH).cnt + ((Rep.slice 157 kK).cnt + ((Rep.slice 159 RRoute).cnt + ((Rep.slice 166 kI).cnt + (1)))))):=rfl;unfold Top at *;omega
 have M5:=hD l5;clear l5
 have T5x:Touch S w w5:=T4x.trans (X5.wide (fun i hi=>(hAB5 i hi).1))
 have hz5:w.heap.size + 1≤w5.heap.size:=by have:=X5.size;omega
 have hc5:∀ o,w5.cell? ⟨w.heap.size,o,none⟩=_:=fun o=>(World.cell?_of_block (a:=⟨w.heap.size,o,none⟩) (X5.block w.heap.size (by omega) (fun q=>by have:=(hAB5 _ q).2;omega))).trans (hc4 o)
 clear hc4
 clear hA5 hAB5 bk5 P5 X5
 go_wp2_with fail
 obtain ⟨A6,hA6,hAB6,bk6⟩:=RNode_sub_5 O5x
 refine (markMeasurementS_c (k:=((Rep.slice 159 RRoute).mark true x4 (((Rep.slice 157 kK).mark true x3 (((Rep.slice 77 kH).mark true x2 ((kJ.mark false x1 (((Rep.slice 113 RData).mark true x0 (k)).2)).2)).2)).2)).2) hA6 (by omega) (by have:=HQ.out;have:=M1.out;have:=M2.out;have:=M3.out;have:=M4.out;have:=M5.out;have e:RNode.cnt=(Rep.slice 113 RData).cnt + (kJ.cnt + ((Rep.slice 77 kH).cnt + ((Rep.slice 157 kK).cnt + ((Rep.slice 159 RRoute).cnt + ((Rep.slice 166 kI).cnt + (1)))))):=rfl;omega)).mono ?_
 rintro e w6 ⟨rfl,P6,X6⟩
 have O6x:=bk6 P6 X6
 have g6:=(Rep.slice 166 kI).mark_ge (e:=true) (x:=x5) (k:=((Rep.slice 159 RRoute).mark true x4 (((Rep.slice 157 kK).mark true x3 (((Rep.slice 77 kH).mark true x2 ((kJ.mark false x1 (((Rep.slice 113 RData).mark true x0 (k)).2)).2)).2)).2)).2)
 have l6:((Rep.slice 166 kI).mark true x5 (((Rep.slice 159 RRoute).mark true x4 (((Rep.slice 157 kK).mark true x3 (((Rep.slice 77 kH).mark true x2 ((kJ.mark false x1 (((Rep.slice 113 RData).mark true x0 (k)).2)).2)).2)).2)).2)).2≤((Rep.slice 159 RRoute).mark true x4 (((Rep.slice 157 kK).mark true x3 (((Rep.slice 77 kH).mark true x2 ((kJ.mark false x1 (((Rep.slice 113 RData).mark true x0 (k)).2)).2)).2)).2)).2 + ((Rep.slice 166 kI).cnt:Nat):=(Rep.slice 166 kI).mark_le (e:=true) (k:=((Rep.slice 159 RRoute).mark true x4 (((Rep.slice 157 kK).mark true x3 (((Rep.slice 77 kH).mark true x2 ((kJ.mark false x1 (((Rep.slice 113 RData).mark true x0 (k)).2)).2)).2)).2)).2) hA6.2
 have u6:((Rep.slice 166 kI).mark true x5 (((Rep.slice 159 RRoute).mark true x4 (((Rep.slice 157 kK).mark true x3 (((Rep.slice 77 kH).mark true x2 ((kJ.mark false x1 (((Rep.slice 113 RData).mark true x0 (k)).2)).2)).2)).2)).2)).2≤4611686018427387904:=by have:=HQ.out;have:=M1.out;have:=M2.out;have:=M3.out;have:=M4.out;have:=M5.out;have e:RNode.cnt=(Rep.slice 113 RData).cnt + (kJ.cnt + ((Rep.slice 77 kH).cnt + ((Rep.slice 157 kK).cnt + ((Rep.slice 159 RRoute).cnt + ((Rep.slice 166 kI).cnt + (1)))))):=rfl;unfold Top at *;omega
 have M6:=hD l6;clear l6
 have T6x:Touch S w w6:=T5x.trans (X6.wide (fun i hi=>(hAB6 i hi).1))
 have hz6:w.heap.size + 1≤w6.heap.size:=by have:=X6.size;omega
 have hc6:∀ o,w6.cell? ⟨w.heap.size,o,none⟩=_:=fun o=>(World.cell?_of_block (a:=⟨w.heap.size,o,none⟩) (X6.block w.heap.size (by omega) (fun q=>by have:=(hAB6 _ q).2;omega))).trans (hc5 o)
 clear hc5
 clear hA6 hAB6 bk6 P6 X6
 have OF:=hD (Rep.own.wide (T:=S) O6x (fun j hj=>hj.1));have TF:=hD T6x
 clear ha hl
 go_wp2
 go_ret
 exact ⟨rfl,OF.out,TF.out⟩
end Go.Proofs.YtomdenfcfbkfbaaGreat

/-
  The laws' readings of marks: they find the marks that are there. Printed by genheld.py.
-/
import Derived.Test.YtomdenfcfbkfbaaGreatBase
import Derived.Test.YtomdenfcfbkfbaaGreatMark
import Derived.Test.YtomdenfcfbkfbaaGreatSoft
namespace Go.Proofs.YtomdenfcfbkfbaaGreat
open Go.RowKit
set_option linter.unusedVariables false
set_option linter.unusedSimpArgs false
set_option linter.unnecessarySimpa false
set_option maxRecDepth 100000 in
set_option maxHeartbeats 1000000 in
theorem heldStringS_c {w:World} {va:Value} {x:List ByteArray} {k k':Int} (ha:(Rep.slice 9 Rep.str).raw w [va] x) (hh:(Rep.slice 9 Rep.str).held true x k=some k') (hk0:0≤k) (hk1:k'≤4611686018427387904) :
    Calls Tryz.prog 155 #[va,.int .i64 k] w fun e w'=>e=.returned (.int .i64 k')∧Below w.heap.size w w':=by
 obtain ⟨aa,capa,hva,la⟩:=Rep.kR ha;obtain rfl:va=_:=by simpa using hva
 clear hva
 have HH:=hD hh;clear hh
 go_enter Tryz.func155,Tryz.ntmps155
 go_wp2
 go_loopw [1,5] (fun l i wr=>∃ (j:Nat) (q:Int),j≤x.length∧i=.int .i64 j∧l=.int .i64 q∧0≤q∧q≤k'∧Rep.hdL Rep.str (x.drop j) q=some k'∧Below w.heap.size w wr) (fun _ i _=>x.length - (intOf i).toNat)
 case atStart=>exact ⟨0,k,Nat.zero_le _,rfl,rfl,hk0,(Rep.slice 9 Rep.str).held_ge (e:=true) HH.out,HH.out,Below.refl _ _⟩
 obtain ⟨j,q,hj,rfl,rfl,hq0,hq1,hl,hbel⟩:=hrel
 by_cases hlt:j < x.length
 · obtain ⟨b,off,rfl,c0_0,hr,C0_0⟩:=Rep.get1 (ha.below hbel) hlt rfl
   obtain ⟨qe,hle,hln,hq2,hq3⟩:=Rep.held_step hlt hl
   have HN:=hD hln;clear hln hl
   generalize x[j]=y at *
   obtain ⟨y0,rfl⟩:∃ y0,y0=y:=⟨_,rfl⟩
   obtain ⟨hce,_⟩:=Rep.str_raw hr
   obtain rfl:c0_0=_:=by simpa using hce
   clear hce hr
   obtain ⟨rfl,rfl⟩:=Rep.str_held hle
   go_wp2_with fail
   refine wp_region_soft (fun W=>Below wr.heap.size wr W) [true,true,true,true,true,false,true] (by kernel_rfl) (by kernel_rfl) (fun c a d v w h=>by cases d <;> exact h) ((Below.refl _ _).drew) ?_
   intro wS HS
   iterate 3
    all_goals first|(refine kC rfl HS ?_)|(refine kD (v:=?_) rfl (fun W hW=>?_) ?_;rotate_left;(· go_simp;try with_reducible rfl))
    all_goals try simp only [Act.put,zA,zB,zC]
   all_goals first|(refine kC rfl HS ?_)|(refine kD (v:=?_) rfl (fun W hW=>?_) ?_;rotate_left;(· have A_C0_0:=cL hW C0_0;clear hW;go_simp;try with_reducible rfl))
   all_goals try simp only [Act.put,zA,zB,zC]
   all_goals first|(refine kC rfl HS ?_)|(refine kD (v:=?_) rfl (fun W hW=>?_) ?_;rotate_left;(· go_simp;try with_reducible rfl))
   all_goals try simp only [Act.put,zA,zB,zC]
   all_goals first|(refine kC rfl HS ?_)|(refine kF rfl (fun K hK=>?_);go_simp;refine (markText_c (by omega) (by omega)).mono ?_;rintro e wS1 ⟨rfl,hbS⟩;replace HS:=HS.trans (hbS.mono HS.size);refine hK _ _ HS ?_;clear hK K hbS)
   all_goals try simp only [Act.put,zA,zB,zC]
   all_goals first|(refine kC rfl HS ?_)|(refine kD (v:=?_) rfl (fun W hW=>?_) ?_;rotate_left;(· go_simp;try with_reducible rfl))
   all_goals try simp only [Act.put,zA,zB,zC]
   all_goals refine soft_nil ?_
   have E1:=hbel.trans (HS.mono hbel.size)
   go_wp2
   go_roundw
   case rel=>exact ⟨j + 1,_,by omega,by go_num,rfl,by omega,by omega,HN.out,E1⟩
   simp [intOf];omega
 have HD:=hD (Rep.held_done hlt hl);clear hl
 go_wp2
 go_ret
 exact ⟨ret_int HD.out,hbel⟩
set_option maxRecDepth 100000 in
set_option maxHeartbeats 1000000 in
theorem heldByteS_c {w:World} {va:Value} {x:List UInt8} {k k':Int} (ha:(Rep.slice 5 Rep.byte).raw w [va] x) (hh:(Rep.slice 5 Rep.byte).held true x k=some k') (hk0:0≤k) (hk1:k'≤4611686018427387904) :
    Calls Tryz.prog 156 #[va,.int .i64 k] w fun e w'=>e=.returned (.int .i64 k')∧Below w.heap.size w w':=by
 obtain ⟨aa,capa,hva,la⟩:=Rep.kR ha;obtain rfl:va=_:=by simpa using hva
 clear hva
 have HH:=hD hh;clear hh
 go_enter Tryz.func156,Tryz.ntmps156
 go_wp2
 go_loopw [1,5] (fun l i wr=>∃ (j:Nat) (q:Int),j≤x.length∧i=.int .i64 j∧l=.int .i64 q∧0≤q∧q≤k'∧Rep.hdL Rep.byte (x.drop j) q=some k'∧Below w.heap.size w wr) (fun _ i _=>x.length - (intOf i).toNat)
 case atStart=>exact ⟨0,k,Nat.zero_le _,rfl,rfl,hk0,(Rep.slice 5 Rep.byte).held_ge (e:=true) HH.out,HH.out,Below.refl _ _⟩
 obtain ⟨j,q,hj,rfl,rfl,hq0,hq1,hl,hbel⟩:=hrel
 by_cases hlt:j < x.length
 · obtain ⟨b,off,rfl,c0_0,hr,C0_0⟩:=Rep.get1 (ha.below hbel) hlt rfl
   obtain ⟨qe,hle,hln,hq2,hq3⟩:=Rep.held_step hlt hl
   have HN:=hD hln;clear hln hl
   generalize x[j]=y at *
   obtain ⟨y0,rfl⟩:∃ y0,y0=y:=⟨_,rfl⟩
   obtain hce:=Rep.byte_raw hr
   obtain rfl:c0_0=_:=by simpa using hce
   clear hce hr
   obtain ⟨rfl,rfl⟩:=Rep.byte_held hle
   go_wp2
   go_roundw
   case rel=>exact ⟨j + 1,_,by omega,by go_num,rfl,by omega,by omega,HN.out,hbel⟩
   simp [intOf];omega
 have HD:=hD (Rep.held_done hlt hl);clear hl
 go_wp2
 go_ret
 exact ⟨ret_int HD.out,hbel⟩
set_option maxRecDepth 100000 in
set_option maxHeartbeats 1000000 in
theorem heldMeasurementS_c {w:World} {va:Value} {x:List kQ} {k k':Int} (ha:(Rep.slice 166 kI).raw w [va] x) (hh:(Rep.slice 166 kI).held true x k=some k') (hk0:0≤k) (hk1:k'≤4611686018427387904) :
    Calls Tryz.prog 66 #[va,.int .i64 k] w fun e w'=>e=.returned (.int .i64 k')∧Below w.heap.size w w':=by
 obtain ⟨aa,capa,hva,la⟩:=Rep.kR ha;obtain rfl:va=_:=by simpa using hva
 clear hva
 have HH:=hD hh;clear hh
 go_enter Tryz.func66,Tryz.ntmps66
 go_wp2
 go_loopw [1,5] (fun l i wr=>∃ (j:Nat) (q:Int),j≤x.length∧i=.int .i64 j∧l=.int .i64 q∧0≤q∧q≤k'∧Rep.hdL kI (x.drop j) q=some k'∧Below w.heap.size w wr) (fun _ i _=>x.length - (intOf i).toNat)
 case atStart=>exact ⟨0,k,Nat.zero_le _,rfl,rfl,hk0,(Rep.slice 166 kI).held_ge (e:=true) HH.out,HH.out,Below.refl _ _⟩
 obtain ⟨j,q,hj,rfl,rfl,hq0,hq1,hl,hbel⟩:=hrel
 by_cases hlt:j < x.length
 · obtain ⟨b,off,rfl,c0_0,c0_1,c0_2,hr,C0_0,C0_1,C0_2⟩:=Rep.get3 (ha.below hbel) hlt rfl
   obtain ⟨qe,hle,hln,hq2,hq3⟩:=Rep.held_step hlt hl
   have HN:=hD hln;clear hln hl
   generalize x[j]=y at *
   obtain ⟨y0,y1,y2⟩:=y
   obtain ⟨sv0,hce,s_0,s_1,s_2,s_3⟩:=RMeasurement_raw hr
   simp only [List.cons.injEq,and_true] at hce
   obtain ⟨rfl,rfl,rfl⟩:=hce
   clear hr s_0 s_2 s_3
   obtain ⟨k1,h1,r1,b1,d1⟩:=Rep.pair_held hle
   have HC0:=hD h1;clear h1
   obtain ⟨k2,h2,r2,b2,d2⟩:=Rep.pair_held r1
   obtain ⟨rfl,rfl⟩:=Rep.int_held h2
   obtain ⟨rfl,rfl⟩:=Rep.int_held r2
   go_wp2_with fail
   refine (heldStringS_c s_1 HC0.out (by omega) (by omega)).mono ?_
   rintro e w1 ⟨rfl,hb1⟩
   have E1:=hbel.trans (hb1.mono hbel.size)
   have B1:=hb1
   have C1_0:=cL hb1 C0_0
   have C1_1:=cL hb1 C0_1
   have C1_2:=cL hb1 C0_2
   clear hb1 C0_0 C0_1 C0_2
   go_wp2
   go_roundw
   case rel=>exact ⟨j + 1,_,by omega,by go_num,rfl,by omega,by omega,HN.out,E1⟩
   simp [intOf];omega
 have HD:=hD (Rep.held_done hlt hl);clear hl
 go_wp2
 go_ret
 exact ⟨ret_int HD.out,hbel⟩
set_option maxRecDepth 100000 in
set_option maxHeartbeats 1000000 in
theorem heldRouteS_c {w:World} {va:Value} {x:List LRoute} {k k':Int} (ha:(Rep.slice 159 RRoute).raw w [va] x) (hh:(Rep.slice 159 RRoute).held true x k=some k') (hk0:0≤k) (hk1:k'≤4611686018427387904) :
    Calls Tryz.prog 65 #[va,.int .i64 k] w fun e w'=>e=.returned (.int .i64 k')∧Below w.heap.size w w':=by
 obtain ⟨aa,capa,hva,la⟩:=Rep.kR ha;obtain rfl:va=_:=by simpa using hva
 clear hva
 have HH:=hD hh;clear hh
 go_enter Tryz.func65,Tryz.ntmps65
 go_wp2
 go_loopw [1,5] (fun l i wr=>∃ (j:Nat) (q:Int),j≤x.length∧i=.int .i64 j∧l=.int .i64 q∧0≤q∧q≤k'∧Rep.hdL RRoute (x.drop j) q=some k'∧Below w.heap.size w wr) (fun _ i _=>x.length - (intOf i).toNat)
 case atStart=>exact ⟨0,k,Nat.zero_le _,rfl,rfl,hk0,(Rep.slice 159 RRoute).held_ge (e:=true) HH.out,HH.out,Below.refl _ _⟩
 obtain ⟨j,q,hj,rfl,rfl,hq0,hq1,hl,hbel⟩:=hrel
 by_cases hlt:j < x.length
 · obtain ⟨b,off,rfl,c0_0,c0_1,c0_2,hr,C0_0,C0_1,C0_2⟩:=Rep.get3 (ha.below hbel) hlt rfl
   obtain ⟨qe,hle,hln,hq2,hq3⟩:=Rep.held_step hlt hl
   have HN:=hD hln;clear hln hl
   generalize x[j]=y at *
   obtain ⟨y0,y1,y2⟩:=y
   obtain ⟨sv0,hce,s_0,s_1,s_2,s_3⟩:=RRoute_raw hr
   simp only [List.cons.injEq,and_true] at hce
   obtain ⟨rfl,rfl,rfl⟩:=hce
   clear hr s_0 s_2 s_3
   obtain ⟨k1,h1,r1,b1,d1⟩:=Rep.pair_held hle
   have HC0:=hD h1;clear h1
   obtain ⟨k2,h2,r2,b2,d2⟩:=Rep.pair_held r1
   obtain ⟨rfl,rfl⟩:=Rep.int_held h2
   obtain ⟨rfl,rfl⟩:=Rep.int_held r2
   go_wp2_with fail
   refine (heldStringS_c s_1 HC0.out (by omega) (by omega)).mono ?_
   rintro e w1 ⟨rfl,hb1⟩
   have E1:=hbel.trans (hb1.mono hbel.size)
   have B1:=hb1
   have C1_0:=cL hb1 C0_0
   have C1_1:=cL hb1 C0_1
   have C1_2:=cL hb1 C0_2
   clear hb1 C0_0 C0_1 C0_2
   go_wp2
   go_roundw
   case rel=>exact ⟨j + 1,_,by omega,by go_num,rfl,by omega,by omega,HN.out,E1⟩
   simp [intOf];omega
 have HD:=hD (Rep.held_done hlt hl);clear hl
 go_wp2
 go_ret
 exact ⟨ret_int HD.out,hbel⟩
set_option maxRecDepth 100000 in
set_option maxHeartbeats 1000000 in
theorem heldRequesterS_c {w:World} {va:Value} {x:List LRequester} {k k':Int} (ha:(Rep.slice 81 kM).raw w [va] x) (hh:(Rep.slice 81 kM).held true x k=some k') (hk0:0≤k) (hk1:k'≤4611686018427387904) :
    Calls Tryz.prog 158 #[va,.int .i64 k] w fun e w'=>e=.returned (.int .i64 k')∧Below w.heap.size w w':=by
 obtain ⟨aa,capa,hva,la⟩:=Rep.kR ha;obtain rfl:va=_:=by simpa using hva
 clear hva
 have HH:=hD hh;clear hh
 go_enter Tryz.func158,Tryz.ntmps158
 go_wp2
 go_loopw [1,5] (fun l i wr=>∃ (j:Nat) (q:Int),j≤x.length∧i=.int .i64 j∧l=.int .i64 q∧0≤q∧q≤k'∧Rep.hdL kM (x.drop j) q=some k'∧Below w.heap.size w wr) (fun _ i _=>x.length - (intOf i).toNat)
 case atStart=>exact ⟨0,k,Nat.zero_le _,rfl,rfl,hk0,(Rep.slice 81 kM).held_ge (e:=true) HH.out,HH.out,Below.refl _ _⟩
 obtain ⟨j,q,hj,rfl,rfl,hq0,hq1,hl,hbel⟩:=hrel
 by_cases hlt:j < x.length
 · obtain ⟨b,off,rfl,c0_0,c0_1,c0_2,hr,C0_0,C0_1,C0_2⟩:=Rep.get3 (ha.below hbel) hlt rfl
   obtain ⟨qe,hle,hln,hq2,hq3⟩:=Rep.held_step hlt hl
   have HN:=hD hln;clear hln hl
   generalize x[j]=y at *
   obtain ⟨y0,y1,y2⟩:=y
   obtain ⟨hce,s_0,s_1,s_2⟩:=RRequester_raw hr
   simp only [List.cons.injEq,and_true] at hce
   obtain ⟨rfl,rfl,rfl⟩:=hce
   clear hr s_0 s_1 s_2
   obtain ⟨k1,h1,r1,b1,d1⟩:=Rep.pair_held hle
   obtain ⟨rfl,rfl⟩:=Rep.int_held h1
   obtain ⟨k2,h2,r2,b2,d2⟩:=Rep.pair_held r1
   obtain ⟨rfl,rfl⟩:=Rep.int_held h2
   obtain ⟨rfl,rfl⟩:=Rep.int_held r2
   go_wp2
   go_roundw
   case rel=>exact ⟨j + 1,_,by omega,by go_num,rfl,by omega,by omega,HN.out,hbel⟩
   simp [intOf];omega
 have HD:=hD (Rep.held_done hlt hl);clear hl
 go_wp2
 go_ret
 exact ⟨ret_int HD.out,hbel⟩
set_option maxRecDepth 100000 in
set_option maxHeartbeats 1000000 in
theorem heldPendingInterestS_c {w:World} {va:Value} {x:List kP} {k k':Int} (ha:(Rep.slice 77 kH).raw w [va] x) (hh:(Rep.slice 77 kH).held true x k=some k') (hk0:0≤k) (hk1:k'≤4611686018427387904) :
    Calls Tryz.prog 63 #[va,.int .i64 k] w fun e w'=>e=.returned (.int .i64 k')∧Below w.heap.size w w':=by
 obtain ⟨aa,capa,hva,la⟩:=Rep.kR ha;obtain rfl:va=_:=by simpa using hva
 clear hva
 have HH:=hD hh;clear hh
 go_enter Tryz.func63,Tryz.ntmps63
 go_wp2
 go_loopw [1,5] (fun l i wr=>∃ (j:Nat) (q:Int),j≤x.length∧i=.int .i64 j∧l=.int .i64 q∧0≤q∧q≤k'∧Rep.hdL kH (x.drop j) q=some k'∧Below w.heap.size w wr) (fun _ i _=>x.length - (intOf i).toNat)
 case atStart=>exact ⟨0,k,Nat.zero_le _,rfl,rfl,hk0,(Rep.slice 77 kH).held_ge (e:=true) HH.out,HH.out,Below.refl _ _⟩
 obtain ⟨j,q,hj,rfl,rfl,hq0,hq1,hl,hbel⟩:=hrel
 by_cases hlt:j < x.length
 · obtain ⟨b,off,rfl,c0_0,c0_1,c0_2,hr,C0_0,C0_1,C0_2⟩:=Rep.get3 (ha.below hbel) hlt rfl
   obtain ⟨qe,hle,hln,hq2,hq3⟩:=Rep.held_step hlt hl
   have HN:=hD hln;clear hln hl
   generalize x[j]=y at *
   obtain ⟨y0,y1,y2⟩:=y
   obtain ⟨sv0,sv1,hce,s_0,s_1,s_2,s_3⟩:=RPendingInterest_raw hr
   simp only [List.cons.injEq,and_true] at hce
   obtain ⟨rfl,rfl,rfl⟩:=hce
   clear hr s_0 s_3
   obtain ⟨k1,h1,r1,b1,d1⟩:=Rep.pair_held hle
   have HC0:=hD h1;clear h1
   obtain ⟨k2,h2,r2,b2,d2⟩:=Rep.pair_held r1
   have HC1:=hD h2;clear h2
   obtain ⟨rfl,rfl⟩:=Rep.int_held r2
   go_wp2_with fail
   refine (heldStringS_c s_1 HC0.out (by omega) (by omega)).mono ?_
   rintro e w1 ⟨rfl,hb1⟩
   have E1:=hbel.trans (hb1.mono hbel.size)
   have B1:=hb1
   have C1_0:=cL hb1 C0_0
   have C1_1:=cL hb1 C0_1
   have C1_2:=cL hb1 C0_2
   clear hb1 C0_0 C0_1 C0_2
   go_wp2_with fail
   refine (heldRequesterS_c (s_2.below B1) HC1.out (by omega) (by omega)).mono ?_
   rintro e w2 ⟨rfl,hb2⟩
   have E2:=E1.trans (hb2.mono E1.size)
   have B2:=B1.trans (hb2.mono B1.size)
   have C2_0:=cL hb2 C1_0
   have C2_1:=cL hb2 C1_1
   have C2_2:=cL hb2 C1_2
   clear hb2 C1_0 C1_1 C1_2
   go_wp2
   go_roundw
   case rel=>exact ⟨j + 1,_,by omega,by go_num,rfl,by omega,by omega,HN.out,E2⟩
   simp [intOf];omega
 have HD:=hD (Rep.held_done hlt hl);clear hl
 go_wp2
 go_ret
 exact ⟨ret_int HD.out,hbel⟩
set_option maxRecDepth 100000 in
set_option maxHeartbeats 1000000 in
theorem heldSeenNonceS_c {w:World} {va:Value} {x:List LSeenNonce} {k k':Int} (ha:(Rep.slice 157 kK).raw w [va] x) (hh:(Rep.slice 157 kK).held true x k=some k') (hk0:0≤k) (hk1:k'≤4611686018427387904) :
    Calls Tryz.prog 64 #[va,.int .i64 k] w fun e w'=>e=.returned (.int .i64 k')∧Below w.heap.size w w':=by
 obtain ⟨aa,capa,hva,la⟩:=Rep.kR ha;obtain rfl:va=_:=by simpa using hva
 clear hva
 have HH:=hD hh;clear hh
 go_enter Tryz.func64,Tryz.ntmps64
 go_wp2
 go_loopw [1,5] (fun l i wr=>∃ (j:Nat) (q:Int),j≤x.length∧i=.int .i64 j∧l=.int .i64 q∧0≤q∧q≤k'∧Rep.hdL kK (x.drop j) q=some k'∧Below w.heap.size w wr) (fun _ i _=>x.length - (intOf i).toNat)
 case atStart=>exact ⟨0,k,Nat.zero_le _,rfl,rfl,hk0,(Rep.slice 157 kK).held_ge (e:=true) HH.out,HH.out,Below.refl _ _⟩
 obtain ⟨j,q,hj,rfl,rfl,hq0,hq1,hl,hbel⟩:=hrel
 by_cases hlt:j < x.length
 · obtain ⟨b,off,rfl,c0_0,c0_1,hr,C0_0,C0_1⟩:=Rep.get2 (ha.below hbel) hlt rfl
   obtain ⟨qe,hle,hln,hq2,hq3⟩:=Rep.held_step hlt hl
   have HN:=hD hln;clear hln hl
   generalize x[j]=y at *
   obtain ⟨y0,y1⟩:=y
   obtain ⟨sv0,hce,s_0,s_1,s_2⟩:=RSeenNonce_raw hr
   simp only [List.cons.injEq,and_true] at hce
   obtain ⟨rfl,rfl⟩:=hce
   clear hr s_0 s_2
   obtain ⟨k1,h1,r1,b1,d1⟩:=Rep.pair_held hle
   have HC0:=hD h1;clear h1
   obtain ⟨rfl,rfl⟩:=Rep.int_held r1
   go_wp2_with fail
   refine (heldStringS_c s_1 HC0.out (by omega) (by omega)).mono ?_
   rintro e w1 ⟨rfl,hb1⟩
   have E1:=hbel.trans (hb1.mono hbel.size)
   have B1:=hb1
   have C1_0:=cL hb1 C0_0
   have C1_1:=cL hb1 C0_1
   clear hb1 C0_0 C0_1
   go_wp2
   go_roundw
   case rel=>exact ⟨j + 1,_,by omega,by go_num,rfl,by omega,by omega,HN.out,E1⟩
   simp [intOf];omega
 have HD:=hD (Rep.held_done hlt hl);clear hl
 go_wp2
 go_ret
 exact ⟨ret_int HD.out,hbel⟩
set_option maxRecDepth 100000 in
set_option maxHeartbeats 1000000 in
theorem heldDataS_c {w:World} {va:Value} {x:List LData} {k k':Int} (ha:(Rep.slice 113 RData).raw w [va] x) (hh:(Rep.slice 113 RData).held true x k=some k') (hk0:0≤k) (hk1:k'≤4611686018427387904) :
    Calls Tryz.prog 61 #[va,.int .i64 k] w fun e w'=>e=.returned (.int .i64 k')∧Below w.heap.size w w':=by
 obtain ⟨aa,capa,hva,la⟩:=Rep.kR ha;obtain rfl:va=_:=by simpa using hva
 clear hva
 have HH:=hD hh;clear hh
 go_enter Tryz.func61,Tryz.ntmps61
 go_wp2
 go_loopw [1,5] (fun l i wr=>∃ (j:Nat) (q:Int),j≤x.length∧i=.int .i64 j∧l=.int .i64 q∧0≤q∧q≤k'∧Rep.hdL RData (x.drop j) q=some k'∧Below w.heap.size w wr) (fun _ i _=>x.length - (intOf i).toNat)
 case atStart=>exact ⟨0,k,Nat.zero_le _,rfl,rfl,hk0,(Rep.slice 113 RData).held_ge (e:=true) HH.out,HH.out,Below.refl _ _⟩
 obtain ⟨j,q,hj,rfl,rfl,hq0,hq1,hl,hbel⟩:=hrel
 by_cases hlt:j < x.length
 · obtain ⟨b,off,rfl,c0_0,c0_1,c0_2,c0_3,c0_4,hr,C0_0,C0_1,C0_2,C0_3,C0_4⟩:=Rep.get5 (ha.below hbel) hlt rfl
   obtain ⟨qe,hle,hln,hq2,hq3⟩:=Rep.held_step hlt hl
   have HN:=hD hln;clear hln hl
   generalize x[j]=y at *
   obtain ⟨y0,y1,y2,y3,y4⟩:=y
   obtain ⟨sv0,sv1,sv2,hce,s_0,s_1,s_2,s_3,s_4,s_5,s_6⟩:=RData_raw hr
   simp only [List.cons.injEq,and_true] at hce
   obtain ⟨rfl,rfl,rfl,rfl,rfl⟩:=hce
   clear hr s_0 s_3 s_5 s_6
   obtain ⟨k1,h1,r1,b1,d1⟩:=Rep.pair_held hle
   have HC0:=hD h1;clear h1
   obtain ⟨k2,h2,r2,b2,d2⟩:=Rep.pair_held r1
   have HC1:=hD h2;clear h2
   obtain ⟨k3,h3,r3,b3,d3⟩:=Rep.pair_held r2
   have HC2:=hD h3;clear h3
   obtain ⟨k4,h4,r4,b4,d4⟩:=Rep.pair_held r3
   obtain ⟨rfl,rfl⟩:=Rep.int_held h4
   obtain ⟨rfl,rfl⟩:=Rep.int_held r4
   go_wp2_with fail
   refine (heldStringS_c s_1 HC0.out (by omega) (by omega)).mono ?_
   rintro e w1 ⟨rfl,hb1⟩
   have E1:=hbel.trans (hb1.mono hbel.size)
   have B1:=hb1
   have C1_0:=cL hb1 C0_0
   have C1_1:=cL hb1 C0_1
   have C1_2:=cL hb1 C0_2
   have C1_3:=cL hb1 C0_3
   have C1_4:=cL hb1 C0_4
   clear hb1 C0_0 C0_1 C0_2 C0_3 C0_4
   go_wp2_with fail
   refine (heldByteS_c (s_2.below B1) HC1.out (by omega) (by omega)).mono ?_
   rintro e w2 ⟨rfl,hb2⟩
   have E2:=E1.trans (hb2.mono E1.size)
   have B2:=B1.trans (hb2.mono B1.size)
   have C2_0:=cL hb2 C1_0
   have C2_1:=cL hb2 C1_1
   have C2_2:=cL hb2 C1_2
   have C2_3:=cL hb2 C1_3
   have C2_4:=cL hb2 C1_4
   clear hb2 C1_0 C1_1 C1_2 C1_3 C1_4
   go_wp2_with fail
   refine (heldStringS_c (s_4.below B2) HC2.out (by omega) (by omega)).mono ?_
   rintro e w3 ⟨rfl,hb3⟩
   have E3:=E2.trans (hb3.mono E2.size)
   have B3:=B2.trans (hb3.mono B2.size)
   have C3_0:=cL hb3 C2_0
   have C3_1:=cL hb3 C2_1
   have C3_2:=cL hb3 C2_2
   have C3_3:=cL hb3 C2_3
   have C3_4:=cL hb3 C2_4
   clear hb3 C2_0 C2_1 C2_2 C2_3 C2_4
   go_wp2
   go_roundw
   case rel=>exact ⟨j + 1,_,by omega,by go_num,rfl,by omega,by omega,HN.out,E3⟩
   simp [intOf];omega
 have HD:=hD (Rep.held_done hlt hl);clear hl
 go_wp2
 go_ret
 exact ⟨ret_int HD.out,hbel⟩
set_option maxRecDepth 100000 in
set_option maxHeartbeats 1000000 in
theorem heldCacheEntryS_c {w:World} {va:Value} {x:List LCacheEntry} {k k':Int} (ha:(Rep.slice 169 kL).raw w [va] x) (hh:(Rep.slice 169 kL).held true x k=some k') (hk0:0≤k) (hk1:k'≤4611686018427387904) :
    Calls Tryz.prog 157 #[va,.int .i64 k] w fun e w'=>e=.returned (.int .i64 k')∧Below w.heap.size w w':=by
 obtain ⟨aa,capa,hva,la⟩:=Rep.kR ha;obtain rfl:va=_:=by simpa using hva
 clear hva
 have HH:=hD hh;clear hh
 go_enter Tryz.func157,Tryz.ntmps157
 go_wp2
 go_loopw [1,5] (fun l i wr=>∃ (j:Nat) (q:Int),j≤x.length∧i=.int .i64 j∧l=.int .i64 q∧0≤q∧q≤k'∧Rep.hdL kL (x.drop j) q=some k'∧Below w.heap.size w wr) (fun _ i _=>x.length - (intOf i).toNat)
 case atStart=>exact ⟨0,k,Nat.zero_le _,rfl,rfl,hk0,(Rep.slice 169 kL).held_ge (e:=true) HH.out,HH.out,Below.refl _ _⟩
 obtain ⟨j,q,hj,rfl,rfl,hq0,hq1,hl,hbel⟩:=hrel
 by_cases hlt:j < x.length
 · obtain ⟨b,off,rfl,c0_0,c0_1,c0_2,c0_3,c0_4,c0_5,hr,C0_0,C0_1,C0_2,C0_3,C0_4,C0_5⟩:=Rep.get6 (ha.below hbel) hlt rfl
   obtain ⟨qe,hle,hln,hq2,hq3⟩:=Rep.held_step hlt hl
   have HN:=hD hln;clear hln hl
   generalize x[j]=y at *
   obtain ⟨⟨y0,y1,y2,y3,y4⟩,y5⟩:=y
   obtain ⟨sv0,sv1,sv2,hce,s_0,s_1,s_2,s_3,s_4,s_5,s_6,s_7,s_8⟩:=RCacheEntry_raw hr
   simp only [List.cons.injEq,and_true] at hce
   obtain ⟨rfl,rfl,rfl,rfl,rfl,rfl⟩:=hce
   clear hr s_0 s_1 s_4 s_6 s_7 s_8
   obtain ⟨k1,h1,r1,b1,d1⟩:=Rep.pair_held hle
   obtain ⟨k2,h2,r2,b2,d2⟩:=Rep.pair_held h1
   have HC0:=hD h2;clear h2
   obtain ⟨k3,h3,r3,b3,d3⟩:=Rep.pair_held r2
   have HC1:=hD h3;clear h3
   obtain ⟨k4,h4,r4,b4,d4⟩:=Rep.pair_held r3
   have HC2:=hD h4;clear h4
   obtain ⟨k5,h5,r5,b5,d5⟩:=Rep.pair_held r4
   obtain ⟨rfl,rfl⟩:=Rep.int_held h5
   obtain ⟨rfl,rfl⟩:=Rep.int_held r5
   obtain ⟨rfl,rfl⟩:=Rep.int_held r1
   go_wp2_with fail
   refine (heldStringS_c s_2 HC0.out (by omega) (by omega)).mono ?_
   rintro e w1 ⟨rfl,hb1⟩
   have E1:=hbel.trans (hb1.mono hbel.size)
   have B1:=hb1
   have C1_0:=cL hb1 C0_0
   have C1_1:=cL hb1 C0_1
   have C1_2:=cL hb1 C0_2
   have C1_3:=cL hb1 C0_3
   have C1_4:=cL hb1 C0_4
   have C1_5:=cL hb1 C0_5
   clear hb1 C0_0 C0_1 C0_2 C0_3 C0_4 C0_5
   go_wp2_with fail
   refine (heldByteS_c (s_3.below B1) HC1.out (by omega) (by omega)).mono ?_
   rintro e w2 ⟨rfl,hb2⟩
   have E2:=E1.trans (hb2.mono E1.size)
   have B2:=B1.trans (hb2.mono B1.size)
   have C2_0:=cL hb2 C1_0
   have C2_1:=cL hb2 C1_1
   have C2_2:=cL hb2 C1_2
   have C2_3:=cL hb2 C1_3
   have C2_4:=cL hb2 C1_4
   have C2_5:=cL hb2 C1_5
   clear hb2 C1_0 C1_1 C1_2 C1_3 C1_4 C1_5
   go_wp2_with fail
   refine (heldStringS_c (s_5.below B2) HC2.out (by omega) (by omega)).mono ?_
   rintro e w3 ⟨rfl,hb3⟩
   have E3:=E2.trans (hb3.mono E2.size)
   have B3:=B2.trans (hb3.mono B2.size)
   have C3_0:=cL hb3 C2_0
   have C3_1:=cL hb3 C2_1
   have C3_2:=cL hb3 C2_2
   have C3_3:=cL hb3 C2_3
   have C3_4:=cL hb3 C2_4
   have C3_5:=cL hb3 C2_5
   clear hb3 C2_0 C2_1 C2_2 C2_3 C2_4 C2_5
   go_wp2
   go_roundw
   case rel=>exact ⟨j + 1,_,by omega,by go_num,rfl,by omega,by omega,HN.out,E3⟩
   simp [intOf];omega
 have HD:=hD (Rep.held_done hlt hl);clear hl
 go_wp2
 go_ret
 exact ⟨ret_int HD.out,hbel⟩
set_option maxRecDepth 100000 in
set_option maxHeartbeats 1000000 in
theorem heldContentStore_c {w:World} {ca:List Value} {x:LContentStore} {k k':Int} (ha:kJ.raw w ca x) (hh:kJ.held false x k=some k') (hk0:0≤k) (hk1:k'≤4611686018427387904) :
    Calls Tryz.prog 62 #[.agg ca.toArray,.int .i64 k] w fun e w'=>e=.returned (.int .i64 k')∧Below w.heap.size w w':=by
 obtain ⟨av1,rfl,a_0,a_1⟩:=RContentStore_raw ha
 obtain ⟨x0,x1⟩:=x
 clear ha a_0
 obtain ⟨k0,h0,r0,b0,d0⟩:=Rep.pair_held hh
 obtain rfl:=Rep.int_held0 h0
 have HC1:=hD r0;clear r0
 have z1:=(Rep.slice 169 kL).held_ge (e:=true) HC1.out
 go_enter Tryz.func62,Tryz.ntmps62
 go_wp2_with fail
 refine (heldCacheEntryS_c (a_1.alloc _) HC1.out (by omega) (by omega)).mono ?_
 rintro e w1 ⟨rfl,hb1⟩
 have D1:=hb1
 have E1:Below w.heap.size w w1:=((Below.refl _ _).alloc (Nat.le_refl _) _).trans (hb1.mono (by simp))
 obtain ⟨hc1,hf1⟩:=bcell D1;clear hb1
 go_wp2
 go_ret
 exact ⟨rfl,E1⟩
set_option maxRecDepth 100000 in
set_option maxHeartbeats 1000000 in
theorem heldNode_c {w:World} {ca:List Value} {x:LNode} {k k':Int} (ha:RNode.raw w ca x) (hh:RNode.held false x k=some k') (hk0:0≤k) (hk1:k'≤4611686018427387904) :
    Calls Tryz.prog 11 #[.agg ca.toArray,.int .i64 k] w fun e w'=>e=.returned (.int .i64 k')∧Below w.heap.size w w':=by
 obtain ⟨av0,av2,av3,av4,av5,av6,rfl,a_0,a_1,a_2,a_3,a_4,a_5,a_6,a_7,a_8⟩:=RNode_raw ha
 obtain ⟨x0,x1,x2,x3,x4,x5,x6⟩:=x
 clear ha a_2 a_3 a_8
 obtain ⟨k0,h0,r0,b0,d0⟩:=Rep.pair_held hh
 have HC0:=hD h0;clear h0
 obtain ⟨k1,h1,r1,b1,d1⟩:=Rep.pair_held r0
 have HC1:=hD h1;clear h1
 obtain ⟨k2,h2,r2,b2,d2⟩:=Rep.pair_held r1
 have HC2:=hD h2;clear h2
 obtain ⟨k3,h3,r3,b3,d3⟩:=Rep.pair_held r2
 have HC3:=hD h3;clear h3
 obtain ⟨k4,h4,r4,b4,d4⟩:=Rep.pair_held r3
 have HC4:=hD h4;clear h4
 obtain ⟨k5,h5,r5,b5,d5⟩:=Rep.pair_held r4
 have HC5:=hD h5;clear h5
 obtain rfl:=Rep.int_held0 r5
 have z0:=(Rep.slice 113 RData).held_ge (e:=true) HC0.out
 have z1:=kJ.held_ge (e:=false) HC1.out
 have z2:=(Rep.slice 77 kH).held_ge (e:=true) HC2.out
 have z3:=(Rep.slice 157 kK).held_ge (e:=true) HC3.out
 have z4:=(Rep.slice 159 RRoute).held_ge (e:=true) HC4.out
 have z5:=(Rep.slice 166 kI).held_ge (e:=true) HC5.out
 go_enter Tryz.func11,Tryz.ntmps11
 go_wp2_with fail
 refine (heldDataS_c (a_0.alloc _) HC0.out (by omega) (by omega)).mono ?_
 rintro e w1 ⟨rfl,hb1⟩
 have D1:=hb1
 have E1:Below w.heap.size w w1:=((Below.refl _ _).alloc (Nat.le_refl _) _).trans (hb1.mono (by simp))
 obtain ⟨hc1,hf1⟩:=bcell D1;clear hb1
 go_wp2_with fail
 refine (heldContentStore_c (a_1.below E1) HC1.out (by omega) (by omega)).mono ?_
 rintro e w2 ⟨rfl,hb2⟩
 have D2:=D1.trans (hb2.mono D1.size)
 have E2:=E1.trans (hb2.mono E1.size)
 clear hc1 hf1 hb2
 obtain ⟨hc2,hf2⟩:=bcell D2
 go_wp2_with fail
 refine (heldPendingInterestS_c (a_4.below E2) HC2.out (by omega) (by omega)).mono ?_
 rintro e w3 ⟨rfl,hb3⟩
 have D3:=D2.trans (hb3.mono D2.size)
 have E3:=E2.trans (hb3.mono E2.size)
 clear hc2 hf2 hb3
 obtain ⟨hc3,hf3⟩:=bcell D3
 go_wp2_with fail
 refine (heldSeenNonceS_c (a_5.below E3) HC3.out (by omega) (by omega)).mono ?_
 rintro e w4 ⟨rfl,hb4⟩
 have D4:=D3.trans (hb4.mono D3.size)
 have E4:=E3.trans (hb4.mono E3.size)
 clear hc3 hf3 hb4
 obtain ⟨hc4,hf4⟩:=bcell D4
 go_wp2_with fail
 refine (heldRouteS_c (a_6.below E4) HC4.out (by omega) (by omega)).mono ?_
 rintro e w5 ⟨rfl,hb5⟩
 have D5:=D4.trans (hb5.mono D4.size)
 have E5:=E4.trans (hb5.mono E4.size)
 clear hc4 hf4 hb5
 obtain ⟨hc5,hf5⟩:=bcell D5
 go_wp2_with fail
 refine (heldMeasurementS_c (a_7.below E5) HC5.out (by omega) (by omega)).mono ?_
 rintro e w6 ⟨rfl,hb6⟩
 have D6:=D5.trans (hb6.mono D5.size)
 have E6:=E5.trans (hb6.mono E5.size)
 clear hc5 hf5 hb6
 obtain ⟨hc6,hf6⟩:=bcell D6
 go_wp2
 go_ret
 exact ⟨rfl,E6⟩
end Go.Proofs.YtomdenfcfbkfbaaGreat

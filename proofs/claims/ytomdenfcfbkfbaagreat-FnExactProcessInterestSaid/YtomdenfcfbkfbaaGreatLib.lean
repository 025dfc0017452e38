/-
  The laws' readings of marks: they find the marks that are there. Printed by genheld.py.
  The library's functions on slices, at the program's types. Printed by genlib.py.
-/
import Derived.Test.YtomdenfcfbkfbaaGreatSoft
set_option linter.unusedVariables false
set_option linter.unusedSimpArgs false
set_option linter.unnecessarySimpa false
set_option maxRecDepth 100000
set_option maxHeartbeats 4000000
namespace Go.Proofs.YtomdenfcfbkfbaaGreat
open Go.RowKit
theorem bool_b3 {x:Bool} {k k':Int} (h:Rep.bool.held true x k=some k'):(x==(k % 3==0))=true:=by
 obtain ⟨rfl,_⟩:=Rep.kVr h
 rw [beq_iff_eq,Bool.eq_iff_iff];simp
theorem yn {w:World} {va:Value} {x:List ByteArray} {k k':Int} (ha:(Rep.slice 9 Rep.str).raw w [va] x) (hh:(Rep.slice 9 Rep.str).held true x k=some k') (hk0:0≤k) (hk1:k'≤4611686018427387904) :
    Calls Tryz.prog 155 #[va,.int .i64 k] w fun e w'=>e=.returned (.int .i64 k')∧Below w.heap.size w w':=by
 obtain ⟨aa,capa,rfl,la⟩:=Rep.sl ha
 have HH:=yD hh;clear hh
 go_enter Tryz.func155,Tryz.ntmps155
 go_wp2
 go_loopw [1,5] (fun l i wr=>∃ (j:Nat) (q:Int),j≤x.length∧i=.int .i64 j∧l=.int .i64 q∧0≤q∧q≤k'∧Rep.hdL Rep.str (x.drop j) q=some k'∧Below w.heap.size w wr) (fun _ i _=>x.length - (intOf i).toNat)
 case atStart=>exact ⟨0,k,Nat.zero_le _,rfl,rfl,hk0,(Rep.slice 9 Rep.str).held_ge (e:=true) HH.out,HH.out,bR⟩
 obtain ⟨j,q,hj,rfl,rfl,hq0,hq1,hl,hbel⟩:=hrel
 by_cases hlt:j < x.length
 · obtain ⟨b,off,rfl,c0_0,hr,C0_0⟩:=Rep.kEo (ha.below hbel) hlt rfl
   obtain ⟨qe,hle,hln,hq2,hq3⟩:=Rep.kBa hlt hl
   have HN:=yD hln;clear hln hl
   generalize x[j]=y at *
   obtain ⟨y0,rfl⟩:∃ y0,y0=y:=⟨_,rfl⟩
   obtain ⟨hce,_⟩:=Rep.kBe hr
   obtain rfl:c0_0=_:=by simpa using hce
   clear hce hr
   obtain ⟨rfl,rfl⟩:=Rep.str_held hle
   go_wp2_with fail
   have FX:=yD (fun (W:World) (hW:Below wr.heap.size wr W)=>cL hW C0_0)
   refine kV (fun W=>Below wr.heap.size wr W) [true,true,true,true,true,false,true] rA rA gI (bR.drew) ?_
   intro wS HS
   iterate 5
    all_goals refine wkR ?_
   all_goals first | refine wkB (kRv rJ rJ) (fun wS1 HS=>?_) | refine wkR ?_
   all_goals refine wkR ?_
   all_goals refine ko ?_
   have E1:=(tQ hbel HS)
   go_wp2
   go_roundw
   case rel=>exact ⟨j + 1,_,by omega,by go_num,rfl,by omega,by omega,HN.out,E1⟩
   simp [intOf];omega
 have HD:=yD (Rep.kBb hlt hl);clear hl
 go_wp2
 go_ret
 exact ⟨jI HD.out,hbel⟩
theorem kId {w:World} {va:Value} {x:List UInt8} {k k':Int} (ha:(Rep.slice 5 Rep.byte).raw w [va] x) (hh:(Rep.slice 5 Rep.byte).held true x k=some k') (hk0:0≤k) (hk1:k'≤4611686018427387904) :
    Calls Tryz.prog 156 #[va,.int .i64 k] w fun e w'=>e=.returned (.int .i64 k')∧Below w.heap.size w w':=by
 obtain ⟨aa,capa,rfl,la⟩:=Rep.sl ha
 have HH:=yD hh;clear hh
 go_enter Tryz.func156,Tryz.ntmps156
 go_wp2
 go_loopw [1,5] (fun l i wr=>∃ (j:Nat) (q:Int),j≤x.length∧i=.int .i64 j∧l=.int .i64 q∧0≤q∧q≤k'∧Rep.hdL Rep.byte (x.drop j) q=some k'∧Below w.heap.size w wr) (fun _ i _=>x.length - (intOf i).toNat)
 case atStart=>exact ⟨0,k,Nat.zero_le _,rfl,rfl,hk0,(Rep.slice 5 Rep.byte).held_ge (e:=true) HH.out,HH.out,bR⟩
 obtain ⟨j,q,hj,rfl,rfl,hq0,hq1,hl,hbel⟩:=hrel
 by_cases hlt:j < x.length
 · obtain ⟨b,off,rfl,c0_0,hr,C0_0⟩:=Rep.kEo (ha.below hbel) hlt rfl
   obtain ⟨qe,hle,hln,hq2,hq3⟩:=Rep.kBa hlt hl
   have HN:=yD hln;clear hln hl
   generalize x[j]=y at *
   obtain ⟨y0,rfl⟩:∃ y0,y0=y:=⟨_,rfl⟩
   obtain hce:=Rep.kIm hr
   obtain rfl:c0_0=_:=by simpa using hce
   clear hce hr
   obtain ⟨rfl,rfl⟩:=Rep.byte_held hle
   go_wp2
   go_roundw
   case rel=>exact ⟨j + 1,_,by omega,by go_num,rfl,by omega,by omega,HN.out,hbel⟩
   simp [intOf];omega
 have HD:=yD (Rep.kBb hlt hl);clear hl
 go_wp2
 go_ret
 exact ⟨jI HD.out,hbel⟩
theorem kKw {w:World} {va:Value} {x:List kv} {k k':Int} (ha:(Rep.slice 166 kG).raw w [va] x) (hh:(Rep.slice 166 kG).held true x k=some k') (hk0:0≤k) (hk1:k'≤4611686018427387904) :
    Calls Tryz.prog 66 #[va,.int .i64 k] w fun e w'=>e=.returned (.int .i64 k')∧Below w.heap.size w w':=by
 obtain ⟨aa,capa,rfl,la⟩:=Rep.sl ha
 have HH:=yD hh;clear hh
 go_enter Tryz.func66,Tryz.ntmps66
 go_wp2
 go_loopw [1,5] (fun l i wr=>∃ (j:Nat) (q:Int),j≤x.length∧i=.int .i64 j∧l=.int .i64 q∧0≤q∧q≤k'∧Rep.hdL kG (x.drop j) q=some k'∧Below w.heap.size w wr) (fun _ i _=>x.length - (intOf i).toNat)
 case atStart=>exact ⟨0,k,Nat.zero_le _,rfl,rfl,hk0,(Rep.slice 166 kG).held_ge (e:=true) HH.out,HH.out,bR⟩
 obtain ⟨j,q,hj,rfl,rfl,hq0,hq1,hl,hbel⟩:=hrel
 by_cases hlt:j < x.length
 · obtain ⟨b,off,rfl,c0_0,c0_1,c0_2,hr,C0_0,C0_1,C0_2⟩:=Rep.zT (ha.below hbel) hlt rfl
   obtain ⟨qe,hle,hln,hq2,hq3⟩:=Rep.kBa hlt hl
   have HN:=yD hln;clear hln hl
   generalize x[j]=y at *
   obtain ⟨y0,y1,y2⟩:=y
   obtain ⟨sv0,hce,s_0,s_1,s_2,s_3⟩:=jf hr
   simp only [List.cons.injEq,and_true] at hce
   obtain ⟨rfl,rfl,rfl⟩:=hce
   clear hr s_0 s_2 s_3
   obtain ⟨k1,h1,r1,b1,d1⟩:=Rep.jP hle
   have HC0:=yD h1;clear h1
   obtain ⟨k2,h2,r2,b2,d2⟩:=Rep.jP r1
   obtain ⟨rfl,rfl⟩:=Rep.yx h2
   obtain ⟨rfl,rfl⟩:=Rep.yx r2
   go_wp2_with fail
   refine (yn s_1 HC0.out rJ rJ).mono ?_
   rintro e w1 ⟨rfl,hb1⟩
   have E1:=(tQ hbel hb1)
   have B1:=hb1
   have C1_0:=cL hb1 C0_0
   have C1_1:=cL hb1 C0_1
   have C1_2:=cL hb1 C0_2
   clear hb1 C0_0 C0_1 C0_2
   go_wp2
   go_roundw
   case rel=>exact ⟨j + 1,_,by omega,by go_num,rfl,by omega,by omega,HN.out,E1⟩
   simp [intOf];omega
 have HD:=yD (Rep.kBb hlt hl);clear hl
 go_wp2
 go_ret
 exact ⟨jI HD.out,hbel⟩
theorem kWk {w:World} {va:Value} {x:List jD} {k k':Int} (ha:(Rep.slice 159 kM).raw w [va] x) (hh:(Rep.slice 159 kM).held true x k=some k') (hk0:0≤k) (hk1:k'≤4611686018427387904) :
    Calls Tryz.prog 65 #[va,.int .i64 k] w fun e w'=>e=.returned (.int .i64 k')∧Below w.heap.size w w':=by
 obtain ⟨aa,capa,rfl,la⟩:=Rep.sl ha
 have HH:=yD hh;clear hh
 go_enter Tryz.func65,Tryz.ntmps65
 go_wp2
 go_loopw [1,5] (fun l i wr=>∃ (j:Nat) (q:Int),j≤x.length∧i=.int .i64 j∧l=.int .i64 q∧0≤q∧q≤k'∧Rep.hdL kM (x.drop j) q=some k'∧Below w.heap.size w wr) (fun _ i _=>x.length - (intOf i).toNat)
 case atStart=>exact ⟨0,k,Nat.zero_le _,rfl,rfl,hk0,(Rep.slice 159 kM).held_ge (e:=true) HH.out,HH.out,bR⟩
 obtain ⟨j,q,hj,rfl,rfl,hq0,hq1,hl,hbel⟩:=hrel
 by_cases hlt:j < x.length
 · obtain ⟨b,off,rfl,c0_0,c0_1,c0_2,hr,C0_0,C0_1,C0_2⟩:=Rep.zT (ha.below hbel) hlt rfl
   obtain ⟨qe,hle,hln,hq2,hq3⟩:=Rep.kBa hlt hl
   have HN:=yD hln;clear hln hl
   generalize x[j]=y at *
   obtain ⟨y0,y1,y2⟩:=y
   obtain ⟨sv0,hce,s_0,s_1,s_2,s_3⟩:=jK hr
   simp only [List.cons.injEq,and_true] at hce
   obtain ⟨rfl,rfl,rfl⟩:=hce
   clear hr s_0 s_2 s_3
   obtain ⟨k1,h1,r1,b1,d1⟩:=Rep.jP hle
   have HC0:=yD h1;clear h1
   obtain ⟨k2,h2,r2,b2,d2⟩:=Rep.jP r1
   obtain ⟨rfl,rfl⟩:=Rep.yx h2
   obtain ⟨rfl,rfl⟩:=Rep.yx r2
   go_wp2_with fail
   refine (yn s_1 HC0.out rJ rJ).mono ?_
   rintro e w1 ⟨rfl,hb1⟩
   have E1:=(tQ hbel hb1)
   have B1:=hb1
   have C1_0:=cL hb1 C0_0
   have C1_1:=cL hb1 C0_1
   have C1_2:=cL hb1 C0_2
   clear hb1 C0_0 C0_1 C0_2
   go_wp2
   go_roundw
   case rel=>exact ⟨j + 1,_,by omega,by go_num,rfl,by omega,by omega,HN.out,E1⟩
   simp [intOf];omega
 have HD:=yD (Rep.kBb hlt hl);clear hl
 go_wp2
 go_ret
 exact ⟨jI HD.out,hbel⟩
theorem kNx {w:World} {va:Value} {x:List kS} {k k':Int} (ha:(Rep.slice 81 kF).raw w [va] x) (hh:(Rep.slice 81 kF).held true x k=some k') (hk0:0≤k) (hk1:k'≤4611686018427387904) :
    Calls Tryz.prog 158 #[va,.int .i64 k] w fun e w'=>e=.returned (.int .i64 k')∧Below w.heap.size w w':=by
 obtain ⟨aa,capa,rfl,la⟩:=Rep.sl ha
 have HH:=yD hh;clear hh
 go_enter Tryz.func158,Tryz.ntmps158
 go_wp2
 go_loopw [1,5] (fun l i wr=>∃ (j:Nat) (q:Int),j≤x.length∧i=.int .i64 j∧l=.int .i64 q∧0≤q∧q≤k'∧Rep.hdL kF (x.drop j) q=some k'∧Below w.heap.size w wr) (fun _ i _=>x.length - (intOf i).toNat)
 case atStart=>exact ⟨0,k,Nat.zero_le _,rfl,rfl,hk0,(Rep.slice 81 kF).held_ge (e:=true) HH.out,HH.out,bR⟩
 obtain ⟨j,q,hj,rfl,rfl,hq0,hq1,hl,hbel⟩:=hrel
 by_cases hlt:j < x.length
 · obtain ⟨b,off,rfl,c0_0,c0_1,c0_2,hr,C0_0,C0_1,C0_2⟩:=Rep.zT (ha.below hbel) hlt rfl
   obtain ⟨qe,hle,hln,hq2,hq3⟩:=Rep.kBa hlt hl
   have HN:=yD hln;clear hln hl
   generalize x[j]=y at *
   obtain ⟨y0,y1,y2⟩:=y
   obtain ⟨hce,s_0,s_1,s_2⟩:=yA hr
   simp only [List.cons.injEq,and_true] at hce
   obtain ⟨rfl,rfl,rfl⟩:=hce
   clear hr s_0 s_1 s_2
   obtain ⟨k1,h1,r1,b1,d1⟩:=Rep.jP hle
   obtain ⟨rfl,rfl⟩:=Rep.yx h1
   obtain ⟨k2,h2,r2,b2,d2⟩:=Rep.jP r1
   obtain ⟨rfl,rfl⟩:=Rep.yx h2
   obtain ⟨rfl,rfl⟩:=Rep.yx r2
   go_wp2
   go_roundw
   case rel=>exact ⟨j + 1,_,by omega,by go_num,rfl,by omega,by omega,HN.out,hbel⟩
   simp [intOf];omega
 have HD:=yD (Rep.kBb hlt hl);clear hl
 go_wp2
 go_ret
 exact ⟨jI HD.out,hbel⟩
theorem kGn {w:World} {va:Value} {x:List kJ} {k k':Int} (ha:(Rep.slice 77 kD).raw w [va] x) (hh:(Rep.slice 77 kD).held true x k=some k') (hk0:0≤k) (hk1:k'≤4611686018427387904) :
    Calls Tryz.prog 63 #[va,.int .i64 k] w fun e w'=>e=.returned (.int .i64 k')∧Below w.heap.size w w':=by
 obtain ⟨aa,capa,rfl,la⟩:=Rep.sl ha
 have HH:=yD hh;clear hh
 go_enter Tryz.func63,Tryz.ntmps63
 go_wp2
 go_loopw [1,5] (fun l i wr=>∃ (j:Nat) (q:Int),j≤x.length∧i=.int .i64 j∧l=.int .i64 q∧0≤q∧q≤k'∧Rep.hdL kD (x.drop j) q=some k'∧Below w.heap.size w wr) (fun _ i _=>x.length - (intOf i).toNat)
 case atStart=>exact ⟨0,k,Nat.zero_le _,rfl,rfl,hk0,(Rep.slice 77 kD).held_ge (e:=true) HH.out,HH.out,bR⟩
 obtain ⟨j,q,hj,rfl,rfl,hq0,hq1,hl,hbel⟩:=hrel
 by_cases hlt:j < x.length
 · obtain ⟨b,off,rfl,c0_0,c0_1,c0_2,hr,C0_0,C0_1,C0_2⟩:=Rep.zT (ha.below hbel) hlt rfl
   obtain ⟨qe,hle,hln,hq2,hq3⟩:=Rep.kBa hlt hl
   have HN:=yD hln;clear hln hl
   generalize x[j]=y at *
   obtain ⟨y0,y1,y2⟩:=y
   obtain ⟨sv0,sv1,hce,s_0,s_1,s_2,s_3⟩:=kz hr
   simp only [List.cons.injEq,and_true] at hce
   obtain ⟨rfl,rfl,rfl⟩:=hce
   clear hr s_0 s_3
   obtain ⟨k1,h1,r1,b1,d1⟩:=Rep.jP hle
   have HC0:=yD h1;clear h1
   obtain ⟨k2,h2,r2,b2,d2⟩:=Rep.jP r1
   have HC1:=yD h2;clear h2
   obtain ⟨rfl,rfl⟩:=Rep.yx r2
   go_wp2_with fail
   refine (yn s_1 HC0.out rJ rJ).mono ?_
   rintro e w1 ⟨rfl,hb1⟩
   have E1:=(tQ hbel hb1)
   have B1:=hb1
   have C1_0:=cL hb1 C0_0
   have C1_1:=cL hb1 C0_1
   have C1_2:=cL hb1 C0_2
   clear hb1 C0_0 C0_1 C0_2
   go_wp2_with fail
   refine (kNx (s_2.below B1) HC1.out rJ rJ).mono ?_
   rintro e w2 ⟨rfl,hb2⟩
   have E2:=(tQ E1 hb2)
   have B2:=(tQ B1 hb2)
   have C2_0:=cL hb2 C1_0
   have C2_1:=cL hb2 C1_1
   have C2_2:=cL hb2 C1_2
   clear hb2 C1_0 C1_1 C1_2
   go_wp2
   go_roundw
   case rel=>exact ⟨j + 1,_,by omega,by go_num,rfl,by omega,by omega,HN.out,E2⟩
   simp [intOf];omega
 have HD:=yD (Rep.kBb hlt hl);clear hl
 go_wp2
 go_ret
 exact ⟨jI HD.out,hbel⟩
theorem kNw {w:World} {va:Value} {x:List jL} {k k':Int} (ha:(Rep.slice 157 kI).raw w [va] x) (hh:(Rep.slice 157 kI).held true x k=some k') (hk0:0≤k) (hk1:k'≤4611686018427387904) :
    Calls Tryz.prog 64 #[va,.int .i64 k] w fun e w'=>e=.returned (.int .i64 k')∧Below w.heap.size w w':=by
 obtain ⟨aa,capa,rfl,la⟩:=Rep.sl ha
 have HH:=yD hh;clear hh
 go_enter Tryz.func64,Tryz.ntmps64
 go_wp2
 go_loopw [1,5] (fun l i wr=>∃ (j:Nat) (q:Int),j≤x.length∧i=.int .i64 j∧l=.int .i64 q∧0≤q∧q≤k'∧Rep.hdL kI (x.drop j) q=some k'∧Below w.heap.size w wr) (fun _ i _=>x.length - (intOf i).toNat)
 case atStart=>exact ⟨0,k,Nat.zero_le _,rfl,rfl,hk0,(Rep.slice 157 kI).held_ge (e:=true) HH.out,HH.out,bR⟩
 obtain ⟨j,q,hj,rfl,rfl,hq0,hq1,hl,hbel⟩:=hrel
 by_cases hlt:j < x.length
 · obtain ⟨b,off,rfl,c0_0,c0_1,hr,C0_0,C0_1⟩:=Rep.get2 (ha.below hbel) hlt rfl
   obtain ⟨qe,hle,hln,hq2,hq3⟩:=Rep.kBa hlt hl
   have HN:=yD hln;clear hln hl
   generalize x[j]=y at *
   obtain ⟨y0,y1⟩:=y
   obtain ⟨sv0,hce,s_0,s_1,s_2⟩:=yJ hr
   simp only [List.cons.injEq,and_true] at hce
   obtain ⟨rfl,rfl⟩:=hce
   clear hr s_0 s_2
   obtain ⟨k1,h1,r1,b1,d1⟩:=Rep.jP hle
   have HC0:=yD h1;clear h1
   obtain ⟨rfl,rfl⟩:=Rep.yx r1
   go_wp2_with fail
   refine (yn s_1 HC0.out rJ rJ).mono ?_
   rintro e w1 ⟨rfl,hb1⟩
   have E1:=(tQ hbel hb1)
   have B1:=hb1
   have C1_0:=cL hb1 C0_0
   have C1_1:=cL hb1 C0_1
   clear hb1 C0_0 C0_1
   go_wp2
   go_roundw
   case rel=>exact ⟨j + 1,_,by omega,by go_num,rfl,by omega,by omega,HN.out,E1⟩
   simp [intOf];omega
 have HD:=yD (Rep.kBb hlt hl);clear hl
 go_wp2
 go_ret
 exact ⟨jI HD.out,hbel⟩
theorem heldDataS_c {w:World} {va:Value} {x:List yX} {k k':Int} (ha:(Rep.slice 113 kg).raw w [va] x) (hh:(Rep.slice 113 kg).held true x k=some k') (hk0:0≤k) (hk1:k'≤4611686018427387904) :
    Calls Tryz.prog 61 #[va,.int .i64 k] w fun e w'=>e=.returned (.int .i64 k')∧Below w.heap.size w w':=by
 obtain ⟨aa,capa,rfl,la⟩:=Rep.sl ha
 have HH:=yD hh;clear hh
 go_enter Tryz.func61,Tryz.ntmps61
 go_wp2
 go_loopw [1,5] (fun l i wr=>∃ (j:Nat) (q:Int),j≤x.length∧i=.int .i64 j∧l=.int .i64 q∧0≤q∧q≤k'∧Rep.hdL kg (x.drop j) q=some k'∧Below w.heap.size w wr) (fun _ i _=>x.length - (intOf i).toNat)
 case atStart=>exact ⟨0,k,Nat.zero_le _,rfl,rfl,hk0,(Rep.slice 113 kg).held_ge (e:=true) HH.out,HH.out,bR⟩
 obtain ⟨j,q,hj,rfl,rfl,hq0,hq1,hl,hbel⟩:=hrel
 by_cases hlt:j < x.length
 · obtain ⟨b,off,rfl,c0_0,c0_1,c0_2,c0_3,c0_4,hr,C0_0,C0_1,C0_2,C0_3,C0_4⟩:=Rep.get5 (ha.below hbel) hlt rfl
   obtain ⟨qe,hle,hln,hq2,hq3⟩:=Rep.kBa hlt hl
   have HN:=yD hln;clear hln hl
   generalize x[j]=y at *
   obtain ⟨y0,y1,y2,y3,y4⟩:=y
   obtain ⟨sv0,sv1,sv2,hce,s_0,s_1,s_2,s_3,s_4,s_5,s_6⟩:=jS hr
   simp only [List.cons.injEq,and_true] at hce
   obtain ⟨rfl,rfl,rfl,rfl,rfl⟩:=hce
   clear hr s_0 s_3 s_5 s_6
   obtain ⟨k1,h1,r1,b1,d1⟩:=Rep.jP hle
   have HC0:=yD h1;clear h1
   obtain ⟨k2,h2,r2,b2,d2⟩:=Rep.jP r1
   have HC1:=yD h2;clear h2
   obtain ⟨k3,h3,r3,b3,d3⟩:=Rep.jP r2
   have HC2:=yD h3;clear h3
   obtain ⟨k4,h4,r4,b4,d4⟩:=Rep.jP r3
   obtain ⟨rfl,rfl⟩:=Rep.yx h4
   obtain ⟨rfl,rfl⟩:=Rep.yx r4
   go_wp2_with fail
   refine (yn s_1 HC0.out rJ rJ).mono ?_
   rintro e w1 ⟨rfl,hb1⟩
   have E1:=(tQ hbel hb1)
   have B1:=hb1
   have C1_0:=cL hb1 C0_0
   have C1_1:=cL hb1 C0_1
   have C1_2:=cL hb1 C0_2
   have C1_3:=cL hb1 C0_3
   have C1_4:=cL hb1 C0_4
   clear hb1 C0_0 C0_1 C0_2 C0_3 C0_4
   go_wp2_with fail
   refine (kId (s_2.below B1) HC1.out rJ rJ).mono ?_
   rintro e w2 ⟨rfl,hb2⟩
   have E2:=(tQ E1 hb2)
   have B2:=(tQ B1 hb2)
   have C2_0:=cL hb2 C1_0
   have C2_1:=cL hb2 C1_1
   have C2_2:=cL hb2 C1_2
   have C2_3:=cL hb2 C1_3
   have C2_4:=cL hb2 C1_4
   clear hb2 C1_0 C1_1 C1_2 C1_3 C1_4
   go_wp2_with fail
   refine (yn (s_4.below B2) HC2.out rJ rJ).mono ?_
   rintro e w3 ⟨rfl,hb3⟩
   have E3:=(tQ E2 hb3)
   have B3:=(tQ B2 hb3)
   have C3_0:=cL hb3 C2_0
   have C3_1:=cL hb3 C2_1
   have C3_2:=cL hb3 C2_2
   have C3_3:=cL hb3 C2_3
   have C3_4:=cL hb3 C2_4
   clear hb3 C2_0 C2_1 C2_2 C2_3 C2_4
   go_wp2
   go_roundw
   case rel=>exact ⟨j + 1,_,by omega,by go_num,rfl,by omega,by omega,HN.out,E3⟩
   simp [intOf];omega
 have HD:=yD (Rep.kBb hlt hl);clear hl
 go_wp2
 go_ret
 exact ⟨jI HD.out,hbel⟩
theorem kMh {w:World} {va:Value} {x:List jJ} {k k':Int} (ha:(Rep.slice 169 kK).raw w [va] x) (hh:(Rep.slice 169 kK).held true x k=some k') (hk0:0≤k) (hk1:k'≤4611686018427387904) :
    Calls Tryz.prog 157 #[va,.int .i64 k] w fun e w'=>e=.returned (.int .i64 k')∧Below w.heap.size w w':=by
 obtain ⟨aa,capa,rfl,la⟩:=Rep.sl ha
 have HH:=yD hh;clear hh
 go_enter Tryz.func157,Tryz.ntmps157
 go_wp2
 go_loopw [1,5] (fun l i wr=>∃ (j:Nat) (q:Int),j≤x.length∧i=.int .i64 j∧l=.int .i64 q∧0≤q∧q≤k'∧Rep.hdL kK (x.drop j) q=some k'∧Below w.heap.size w wr) (fun _ i _=>x.length - (intOf i).toNat)
 case atStart=>exact ⟨0,k,Nat.zero_le _,rfl,rfl,hk0,(Rep.slice 169 kK).held_ge (e:=true) HH.out,HH.out,bR⟩
 obtain ⟨j,q,hj,rfl,rfl,hq0,hq1,hl,hbel⟩:=hrel
 by_cases hlt:j < x.length
 · obtain ⟨b,off,rfl,c0_0,c0_1,c0_2,c0_3,c0_4,c0_5,hr,C0_0,C0_1,C0_2,C0_3,C0_4,C0_5⟩:=Rep.get6 (ha.below hbel) hlt rfl
   obtain ⟨qe,hle,hln,hq2,hq3⟩:=Rep.kBa hlt hl
   have HN:=yD hln;clear hln hl
   generalize x[j]=y at *
   obtain ⟨⟨y0,y1,y2,y3,y4⟩,y5⟩:=y
   obtain ⟨sv0,sv1,sv2,hce,s_0,s_1,s_2,s_3,s_4,s_5,s_6,s_7,s_8⟩:=jW hr
   simp only [List.cons.injEq,and_true] at hce
   obtain ⟨rfl,rfl,rfl,rfl,rfl,rfl⟩:=hce
   clear hr s_0 s_1 s_4 s_6 s_7 s_8
   obtain ⟨k1,h1,r1,b1,d1⟩:=Rep.jP hle
   obtain ⟨k2,h2,r2,b2,d2⟩:=Rep.jP h1
   have HC0:=yD h2;clear h2
   obtain ⟨k3,h3,r3,b3,d3⟩:=Rep.jP r2
   have HC1:=yD h3;clear h3
   obtain ⟨k4,h4,r4,b4,d4⟩:=Rep.jP r3
   have HC2:=yD h4;clear h4
   obtain ⟨k5,h5,r5,b5,d5⟩:=Rep.jP r4
   obtain ⟨rfl,rfl⟩:=Rep.yx h5
   obtain ⟨rfl,rfl⟩:=Rep.yx r5
   obtain ⟨rfl,rfl⟩:=Rep.yx r1
   go_wp2_with fail
   refine (yn s_2 HC0.out rJ rJ).mono ?_
   rintro e w1 ⟨rfl,hb1⟩
   have E1:=(tQ hbel hb1)
   have B1:=hb1
   have C1_0:=cL hb1 C0_0
   have C1_1:=cL hb1 C0_1
   have C1_2:=cL hb1 C0_2
   have C1_3:=cL hb1 C0_3
   have C1_4:=cL hb1 C0_4
   have C1_5:=cL hb1 C0_5
   clear hb1 C0_0 C0_1 C0_2 C0_3 C0_4 C0_5
   go_wp2_with fail
   refine (kId (s_3.below B1) HC1.out rJ rJ).mono ?_
   rintro e w2 ⟨rfl,hb2⟩
   have E2:=(tQ E1 hb2)
   have B2:=(tQ B1 hb2)
   have C2_0:=cL hb2 C1_0
   have C2_1:=cL hb2 C1_1
   have C2_2:=cL hb2 C1_2
   have C2_3:=cL hb2 C1_3
   have C2_4:=cL hb2 C1_4
   have C2_5:=cL hb2 C1_5
   clear hb2 C1_0 C1_1 C1_2 C1_3 C1_4 C1_5
   go_wp2_with fail
   refine (yn (s_5.below B2) HC2.out rJ rJ).mono ?_
   rintro e w3 ⟨rfl,hb3⟩
   have E3:=(tQ E2 hb3)
   have B3:=(tQ B2 hb3)
   have C3_0:=cL hb3 C2_0
   have C3_1:=cL hb3 C2_1
   have C3_2:=cL hb3 C2_2
   have C3_3:=cL hb3 C2_3
   have C3_4:=cL hb3 C2_4
   have C3_5:=cL hb3 C2_5
   clear hb3 C2_0 C2_1 C2_2 C2_3 C2_4 C2_5
   go_wp2
   go_roundw
   case rel=>exact ⟨j + 1,_,by omega,by go_num,rfl,by omega,by omega,HN.out,E3⟩
   simp [intOf];omega
 have HD:=yD (Rep.kBb hlt hl);clear hl
 go_wp2
 go_ret
 exact ⟨jI HD.out,hbel⟩
theorem kKx {w:World} {ca:List Value} {x:jH} {k k':Int} (ha:kH.raw w ca x) (hh:kH.held false x k=some k') (hk0:0≤k) (hk1:k'≤4611686018427387904) :
    Calls Tryz.prog 62 #[.agg ca.toArray,.int .i64 k] w fun e w'=>e=.returned (.int .i64 k')∧Below w.heap.size w w':=by
 obtain ⟨av1,rfl,a_0,a_1⟩:=jG ha
 obtain ⟨x0,x1⟩:=x
 clear ha a_0
 obtain ⟨k0,h0,r0,b0,d0⟩:=Rep.jP hh
 obtain rfl:=Rep.kVb h0
 have HC1:=yD r0;clear r0
 have z1:=(Rep.slice 169 kK).held_ge (e:=true) HC1.out
 go_enter Tryz.func62,Tryz.ntmps62
 go_wp2_with fail
 refine (kMh (a_1.alloc _) HC1.out rJ rJ).mono ?_
 rintro e w1 ⟨rfl,hb1⟩
 have D1:=hb1
 have E1:Below w.heap.size w w1:=(bR.alloc nL _).trans (hb1.mono rM)
 obtain ⟨hc1,hf1⟩:=jh D1;clear hb1
 go_wp2
 go_ret
 exact ⟨rfl,E1⟩
theorem heldNode_c {w:World} {ca:List Value} {x:yZ} {k k':Int} (ha:jM.raw w ca x) (hh:jM.held false x k=some k') (hk0:0≤k) (hk1:k'≤4611686018427387904) :
    Calls Tryz.prog 11 #[.agg ca.toArray,.int .i64 k] w fun e w'=>e=.returned (.int .i64 k')∧Below w.heap.size w w':=by
 obtain ⟨av0,av2,av3,av4,av5,av6,rfl,a_0,a_1,a_2,a_3,a_4,a_5,a_6,a_7,a_8⟩:=jm ha
 obtain ⟨x0,x1,x2,x3,x4,x5,x6⟩:=x
 clear ha a_2 a_3 a_8
 obtain ⟨k0,h0,r0,b0,d0⟩:=Rep.jP hh
 have HC0:=yD h0;clear h0
 obtain ⟨k1,h1,r1,b1,d1⟩:=Rep.jP r0
 have HC1:=yD h1;clear h1
 obtain ⟨k2,h2,r2,b2,d2⟩:=Rep.jP r1
 have HC2:=yD h2;clear h2
 obtain ⟨k3,h3,r3,b3,d3⟩:=Rep.jP r2
 have HC3:=yD h3;clear h3
 obtain ⟨k4,h4,r4,b4,d4⟩:=Rep.jP r3
 have HC4:=yD h4;clear h4
 obtain ⟨k5,h5,r5,b5,d5⟩:=Rep.jP r4
 have HC5:=yD h5;clear h5
 obtain rfl:=Rep.kVb r5
 have z0:=(Rep.slice 113 kg).held_ge (e:=true) HC0.out
 have z1:=kH.held_ge (e:=false) HC1.out
 have z2:=(Rep.slice 77 kD).held_ge (e:=true) HC2.out
 have z3:=(Rep.slice 157 kI).held_ge (e:=true) HC3.out
 have z4:=(Rep.slice 159 kM).held_ge (e:=true) HC4.out
 have z5:=(Rep.slice 166 kG).held_ge (e:=true) HC5.out
 go_enter Tryz.func11,Tryz.ntmps11
 go_wp2_with fail
 refine (heldDataS_c (a_0.alloc _) HC0.out rJ rJ).mono ?_
 rintro e w1 ⟨rfl,hb1⟩
 have D1:=hb1
 have E1:Below w.heap.size w w1:=(bR.alloc nL _).trans (hb1.mono rM)
 obtain ⟨hc1,hf1⟩:=jh D1;clear hb1
 go_wp2_with fail
 refine (kKx (a_1.below E1) HC1.out rJ rJ).mono ?_
 rintro e w2 ⟨rfl,hb2⟩
 have D2:=(tQ D1 hb2)
 have E2:=(tQ E1 hb2)
 clear hc1 hf1 hb2
 obtain ⟨hc2,hf2⟩:=jh D2
 go_wp2_with fail
 refine (kGn (a_4.below E2) HC2.out rJ rJ).mono ?_
 rintro e w3 ⟨rfl,hb3⟩
 have D3:=(tQ D2 hb3)
 have E3:=(tQ E2 hb3)
 clear hc2 hf2 hb3
 obtain ⟨hc3,hf3⟩:=jh D3
 go_wp2_with fail
 refine (kNw (a_5.below E3) HC3.out rJ rJ).mono ?_
 rintro e w4 ⟨rfl,hb4⟩
 have D4:=(tQ D3 hb4)
 have E4:=(tQ E3 hb4)
 clear hc3 hf3 hb4
 obtain ⟨hc4,hf4⟩:=jh D4
 go_wp2_with fail
 refine (kWk (a_6.below E4) HC4.out rJ rJ).mono ?_
 rintro e w5 ⟨rfl,hb5⟩
 have D5:=(tQ D4 hb5)
 have E5:=(tQ E4 hb5)
 clear hc4 hf4 hb5
 obtain ⟨hc5,hf5⟩:=jh D5
 go_wp2_with fail
 refine (kKw (a_7.below E5) HC5.out rJ rJ).mono ?_
 rintro e w6 ⟨rfl,hb6⟩
 have D6:=(tQ D5 hb6)
 have E6:=(tQ E5 hb6)
 clear hc5 hf5 hb6
 obtain ⟨hc6,hf6⟩:=jh D6
 go_wp2
 go_ret
 exact ⟨rfl,E6⟩
theorem kPv {w:World} {va:Value} {x:List jQ} {k k':Int} (ha:(Rep.slice 117 kU).raw w [va] x) (hh:(Rep.slice 117 kU).held true x k=some k') (hk0:0≤k) (hk1:k'≤4611686018427387904) :
    Calls Tryz.prog 96 #[va,.int .i64 k] w fun e w'=>e=.returned (.int .i64 k')∧Below w.heap.size w w':=by
 obtain ⟨aa,capa,rfl,la⟩:=Rep.sl ha
 have HH:=yD hh;clear hh
 go_enter Tryz.func96,Tryz.ntmps96
 go_wp2
 go_loopw [1,5] (fun l i wr=>∃ (j:Nat) (q:Int),j≤x.length∧i=.int .i64 j∧l=.int .i64 q∧0≤q∧q≤k'∧Rep.hdL kU (x.drop j) q=some k'∧Below w.heap.size w wr) (fun _ i _=>x.length - (intOf i).toNat)
 case atStart=>exact ⟨0,k,Nat.zero_le _,rfl,rfl,hk0,(Rep.slice 117 kU).held_ge (e:=true) HH.out,HH.out,bR⟩
 obtain ⟨j,q,hj,rfl,rfl,hq0,hq1,hl,hbel⟩:=hrel
 by_cases hlt:j < x.length
 · obtain ⟨b,off,rfl,c0_0,c0_1,c0_2,c0_3,c0_4,c0_5,c0_6,c0_7,c0_8,c0_9,c0_10,hr,C0_0,C0_1,C0_2,C0_3,C0_4,C0_5,C0_6,C0_7,C0_8,C0_9,C0_10⟩:=Rep.get11 (ha.below hbel) hlt rfl
   obtain ⟨qe,hle,hln,hq2,hq3⟩:=Rep.kBa hlt hl
   have HN:=yD hln;clear hln hl
   generalize x[j]=y at *
   obtain ⟨y0,y1,⟨y2,y3,y4,y5⟩,⟨y6,y7,y8,y9,y10⟩⟩:=y
   obtain ⟨sv2,sv6,sv7,sv8,hce,s_0,s_1,s_2,s_3,s_4,s_5,s_6,s_7,s_8,s_9,s_10,s_11,s_12,s_13,s_14⟩:=zo hr
   simp only [List.cons.injEq,and_true] at hce
   obtain ⟨rfl,rfl,rfl,rfl,rfl,rfl,rfl,rfl,rfl,rfl,rfl⟩:=hce
   clear hr s_0 s_1 s_2 s_4 s_5 s_6 s_7 s_8 s_11 s_13 s_14
   obtain ⟨k1,h1,r1,b1,d1⟩:=Rep.jP hle
   obtain ⟨rfl,rfl⟩:=Rep.yx h1
   obtain ⟨k2,h2,r2,b2,d2⟩:=Rep.jP r1
   have BB1:=bool_b3 h2
   obtain ⟨rfl,rfl⟩:=Rep.kVr h2
   obtain ⟨k3,h3,r3,b3,d3⟩:=Rep.jP r2
   obtain ⟨k4,h4,r4,b4,d4⟩:=Rep.jP h3
   have HC2:=yD h4;clear h4
   obtain ⟨k5,h5,r5,b5,d5⟩:=Rep.jP r4
   obtain ⟨rfl,rfl⟩:=Rep.yx h5
   obtain ⟨k6,h6,r6,b6,d6⟩:=Rep.jP r5
   obtain ⟨rfl,rfl⟩:=Rep.yx h6
   obtain ⟨rfl,rfl⟩:=Rep.yx r6
   obtain ⟨k7,h7,r7,b7,d7⟩:=Rep.jP r3
   have HC6:=yD h7;clear h7
   obtain ⟨k8,h8,r8,b8,d8⟩:=Rep.jP r7
   have HC7:=yD h8;clear h8
   obtain ⟨k9,h9,r9,b9,d9⟩:=Rep.jP r8
   have HC8:=yD h9;clear h9
   obtain ⟨k10,h10,r10,b10,d10⟩:=Rep.jP r9
   obtain ⟨rfl,rfl⟩:=Rep.yx h10
   obtain ⟨rfl,rfl⟩:=Rep.yx r10
   go_wp2_with fail
   refine (yn s_3 HC2.out rJ rJ).mono ?_
   rintro e w1 ⟨rfl,hb1⟩
   have E1:=(tQ hbel hb1)
   have B1:=hb1
   have C1_0:=cL hb1 C0_0
   have C1_1:=cL hb1 C0_1
   have C1_2:=cL hb1 C0_2
   have C1_3:=cL hb1 C0_3
   have C1_4:=cL hb1 C0_4
   have C1_5:=cL hb1 C0_5
   have C1_6:=cL hb1 C0_6
   have C1_7:=cL hb1 C0_7
   have C1_8:=cL hb1 C0_8
   have C1_9:=cL hb1 C0_9
   have C1_10:=cL hb1 C0_10
   clear hb1 C0_0 C0_1 C0_2 C0_3 C0_4 C0_5 C0_6 C0_7 C0_8 C0_9 C0_10
   go_wp2_with fail
   refine (yn (s_9.below B1) HC6.out rJ rJ).mono ?_
   rintro e w2 ⟨rfl,hb2⟩
   have E2:=(tQ E1 hb2)
   have B2:=(tQ B1 hb2)
   have C2_0:=cL hb2 C1_0
   have C2_1:=cL hb2 C1_1
   have C2_2:=cL hb2 C1_2
   have C2_3:=cL hb2 C1_3
   have C2_4:=cL hb2 C1_4
   have C2_5:=cL hb2 C1_5
   have C2_6:=cL hb2 C1_6
   have C2_7:=cL hb2 C1_7
   have C2_8:=cL hb2 C1_8
   have C2_9:=cL hb2 C1_9
   have C2_10:=cL hb2 C1_10
   clear hb2 C1_0 C1_1 C1_2 C1_3 C1_4 C1_5 C1_6 C1_7 C1_8 C1_9 C1_10
   go_wp2_with fail
   refine (kId (s_10.below B2) HC7.out rJ rJ).mono ?_
   rintro e w3 ⟨rfl,hb3⟩
   have E3:=(tQ E2 hb3)
   have B3:=(tQ B2 hb3)
   have C3_0:=cL hb3 C2_0
   have C3_1:=cL hb3 C2_1
   have C3_2:=cL hb3 C2_2
   have C3_3:=cL hb3 C2_3
   have C3_4:=cL hb3 C2_4
   have C3_5:=cL hb3 C2_5
   have C3_6:=cL hb3 C2_6
   have C3_7:=cL hb3 C2_7
   have C3_8:=cL hb3 C2_8
   have C3_9:=cL hb3 C2_9
   have C3_10:=cL hb3 C2_10
   clear hb3 C2_0 C2_1 C2_2 C2_3 C2_4 C2_5 C2_6 C2_7 C2_8 C2_9 C2_10
   go_wp2_with fail
   refine (yn (s_12.below B3) HC8.out rJ rJ).mono ?_
   rintro e w4 ⟨rfl,hb4⟩
   have E4:=(tQ E3 hb4)
   have B4:=(tQ B3 hb4)
   have C4_0:=cL hb4 C3_0
   have C4_1:=cL hb4 C3_1
   have C4_2:=cL hb4 C3_2
   have C4_3:=cL hb4 C3_3
   have C4_4:=cL hb4 C3_4
   have C4_5:=cL hb4 C3_5
   have C4_6:=cL hb4 C3_6
   have C4_7:=cL hb4 C3_7
   have C4_8:=cL hb4 C3_8
   have C4_9:=cL hb4 C3_9
   have C4_10:=cL hb4 C3_10
   clear hb4 C3_0 C3_1 C3_2 C3_3 C3_4 C3_5 C3_6 C3_7 C3_8 C3_9 C3_10
   go_wp2
   go_roundw
   case rel=>exact ⟨j + 1,_,by omega,by go_num,rfl,by omega,by omega,HN.out,E4⟩
   simp [intOf];omega
 have HD:=yD (Rep.kBb hlt hl);clear hl
 go_wp2
 go_ret
 exact ⟨jI HD.out,hbel⟩
theorem kMi {w:World} {ca:List Value} {x:kGv} {k k':Int} (ha:yP.raw w ca x) (hh:yP.held false x k=some k') (hk0:0≤k) (hk1:k'≤4611686018427387904) :
    Calls Tryz.prog 20 #[.agg ca.toArray,.int .i64 k] w fun e w'=>e=.returned (.int .i64 k')∧Below w.heap.size w w':=by
 obtain ⟨av0,av2,av3,av4,av5,av6,av8,rfl,a_0,a_1,a_2,a_3,a_4,a_5,a_6,a_7,a_8,a_9,a_10⟩:=yG ha
 obtain ⟨x0,x1⟩:=x
 clear ha a_1 a_2 a_3 a_4 a_5 a_6 a_7 a_8 a_9
 obtain ⟨k0,h0,r0,b0,d0⟩:=Rep.jP hh
 have HC0:=yD h0;clear h0
 have HC1:=yD r0;clear r0
 have z0:=jM.held_ge (e:=false) HC0.out
 have z1:=(Rep.slice 117 kU).held_ge (e:=true) HC1.out
 go_enter Tryz.func20,Tryz.ntmps20
 go_wp2_with fail
 refine (heldNode_c (a_0.alloc _) HC0.out rJ rJ).mono ?_
 rintro e w1 ⟨rfl,hb1⟩
 have D1:=hb1
 have E1:Below w.heap.size w w1:=(bR.alloc nL _).trans (hb1.mono rM)
 obtain ⟨hc1,hf1⟩:=jh D1;clear hb1
 go_wp2_with fail
 refine (kPv (a_10.below E1) HC1.out rJ rJ).mono ?_
 rintro e w2 ⟨rfl,hb2⟩
 have D2:=(tQ D1 hb2)
 have E2:=(tQ E1 hb2)
 clear hc1 hf1 hb2
 obtain ⟨hc2,hf2⟩:=jh D2
 go_wp2
 go_ret
 exact ⟨rfl,E2⟩
def idxOf {α:Type} (p:α→Bool) (l:List α):Int:=match l.findIdx? p with | some i=>i | none=>-1
theorem idxOf_hit {α:Type} {p:α→Bool} {x:List α} {k:Nat} (hlt:k < x.length) (hp:p x[k]=true) (hno:∀ j,(h:j < k)→(h2:j < x.length)→p x[j]=false):idxOf p x=k:=by
 unfold idxOf
 have:x.findIdx? p=some k:=by
  rw [List.findIdx?_eq_some_iff_getElem]
  exact ⟨hlt,hp,fun j hj=>by simpa using hno j hj rJ⟩
 rw [this]
theorem idxOf_miss {α:Type} {p:α→Bool} {x:List α} {k:Nat} (hlt:¬ k < x.length) (hno:∀ j,(h:j < k)→(h2:j < x.length)→p x[j]=false):idxOf p x=-1:=by
 unfold idxOf
 have:x.findIdx? p=none:=by
  rw [List.findIdx?_eq_none_iff]
  intro y hy
  obtain ⟨j,hj,rfl⟩:=List.getElem_of_mem hy
  simpa using hno j rJ hj
 rw [this]
theorem kAl {α:Type} {p:α→Bool} {x:List α} {k:Nat} (hlt:k < x.length) (hp:p x[k]=false) (hno:∀ j,(h:j < k)→(h2:j < x.length)→p x[j]=false):∀ j,(h:j < k + 1)→(h2:j < x.length)→p x[j]=false:=by
 intro j h h2
 by_cases q:j=k
 · subst q;exact hp
 exact hno j rJ h2
def jB (P:Program) (g:FuncId):Prop:=∀ vs W,(callFunc g vs).run P W=.ok (.enter g vs) W
theorem yh {P:Program} {g:FuncId} {fn:Func} (hf:P.funcs[g]?=some fn) (hn:(fn.name == "runtime.NumGoroutine")=false) (hb:fn.body.isNone=false):jB P g:=by
 intro vs W
 have hp:(program:Sem Program).run P W=.ok P W:=rfl
 have hn':¬ (fn.name = "runtime.NumGoroutine"):=by simpa using hn
 unfold callFunc
 simp only [Sem.run_bind,hp,Result.andThen_ok,hf,hn,hb,Bool.false_eq_true,if_false,Sem.run_pure]
theorem kQg {w:World} {va:Value} {x:List Int} {g:FuncId} {cp:Array Value} (p:Int→Bool) (hg:jB Tryz.prog g) (ha:(Rep.slice 3 Rep.int).raw w [va] x)
    (hcl:∀ wr,Below w.heap.size w wr→∀ (i:Nat) (h:i < x.length) c,Rep.int.raw wr [c] x[i]→Calls Tryz.prog g (#[c]++cp) wr (fun e w'=>e=.returned (.bool (p x[i]))∧Below wr.heap.size wr w')) :
    Calls Tryz.prog 197 #[va,.func (.func g) #[] cp] w fun e w'=>e=.returned (.int .i64 (idxOf p x))∧Below w.heap.size w w':=by
 obtain ⟨aa,capa,rfl,la⟩:=Rep.sl ha
 have HCL:=yD hcl;clear hcl
 unfold jB at hg
 go_enter Tryz.func197,Tryz.ntmps197
 go_wp2
 go_loopw [8] (fun i wr=>∃ k:Nat,k≤x.length∧i=.int .i64 k∧(∀ j,(h:j < k)→(h2:j < x.length)→p x[j]=false)∧Below w.heap.size w wr) (fun i _=>x.length - (intOf i).toNat)
 case atStart=>exact ⟨0,Nat.zero_le _,rfl,fun _ h=>by omega,bR⟩
 obtain ⟨k,hk,rfl,hno,hbel⟩:=hrel
 have HN:=yD hno;clear hno
 by_cases hlt:k < x.length
 · obtain ⟨ba,offa,rfl,c0,hr,A0⟩:=Rep.kEo (ha.below hbel) hlt rfl
   have C:=HCL.out wr hbel k hlt _ hr
   obtain ⟨he,_⟩:=Rep.jX hr
   obtain rfl:c0=_:=by simpa using he
   clear he hr
   by_cases hp:p x[k]=true
   · rw [hp] at C
     have HC:=yD C;clear C
     have HT:=yD (idxOf_hit hlt hp HN.out);clear hp
     go_wp2_with fail
     refine HC.out.mono ?_
     rintro e w1 ⟨rfl,hb1⟩
     go_wp2
     go_ret
     exact ⟨jI HT.out.symm,(tQ hbel hb1)⟩
   have hp:p x[k]=false:=qQ
   rw [hp] at C
   have HC:=yD C;clear C
   have HT:=yD (kAl hlt hp HN.out);clear hp
   go_wp2_with fail
   refine HC.out.mono ?_
   rintro e w1 ⟨rfl,hb1⟩
   go_wp2
   go_roundw
   case rel=>exact ⟨k + 1,by omega,by go_num,HT.out,(tQ hbel hb1)⟩
   simp [intOf];omega
 have HT:=yD (idxOf_miss hlt HN.out)
 go_wp2
 go_ret
 exact ⟨jI HT.out.symm,hbel⟩
theorem kLi {w:World} {va:Value} {x:List ByteArray} {g:FuncId} {cp:Array Value} (p:ByteArray→Bool) (hg:jB Tryz.prog g) (ha:(Rep.slice 9 Rep.str).raw w [va] x)
    (hcl:∀ wr,Below w.heap.size w wr→∀ (i:Nat) (h:i < x.length) c,Rep.str.raw wr [c] x[i]→Calls Tryz.prog g (#[c]++cp) wr (fun e w'=>e=.returned (.bool (p x[i]))∧Below wr.heap.size wr w')) :
    Calls Tryz.prog 230 #[va,.func (.func g) #[] cp] w fun e w'=>e=.returned (.int .i64 (idxOf p x))∧Below w.heap.size w w':=by
 obtain ⟨aa,capa,rfl,la⟩:=Rep.sl ha
 have HCL:=yD hcl;clear hcl
 unfold jB at hg
 go_enter Tryz.func230,Tryz.ntmps230
 go_wp2
 go_loopw [8] (fun i wr=>∃ k:Nat,k≤x.length∧i=.int .i64 k∧(∀ j,(h:j < k)→(h2:j < x.length)→p x[j]=false)∧Below w.heap.size w wr) (fun i _=>x.length - (intOf i).toNat)
 case atStart=>exact ⟨0,Nat.zero_le _,rfl,fun _ h=>by omega,bR⟩
 obtain ⟨k,hk,rfl,hno,hbel⟩:=hrel
 have HN:=yD hno;clear hno
 by_cases hlt:k < x.length
 · obtain ⟨ba,offa,rfl,c0,hr,A0⟩:=Rep.kEo (ha.below hbel) hlt rfl
   have C:=HCL.out wr hbel k hlt _ hr
   obtain ⟨he,_⟩:=Rep.kBe hr
   obtain rfl:c0=_:=by simpa using he
   clear he hr
   by_cases hp:p x[k]=true
   · rw [hp] at C
     have HC:=yD C;clear C
     have HT:=yD (idxOf_hit hlt hp HN.out);clear hp
     go_wp2_with fail
     refine HC.out.mono ?_
     rintro e w1 ⟨rfl,hb1⟩
     go_wp2
     go_ret
     exact ⟨jI HT.out.symm,(tQ hbel hb1)⟩
   have hp:p x[k]=false:=qQ
   rw [hp] at C
   have HC:=yD C;clear C
   have HT:=yD (kAl hlt hp HN.out);clear hp
   go_wp2_with fail
   refine HC.out.mono ?_
   rintro e w1 ⟨rfl,hb1⟩
   go_wp2
   go_roundw
   case rel=>exact ⟨k + 1,by omega,by go_num,HT.out,(tQ hbel hb1)⟩
   simp [intOf];omega
 have HT:=yD (idxOf_miss hlt HN.out)
 go_wp2
 go_ret
 exact ⟨jI HT.out.symm,hbel⟩
theorem kHj {w:World} {va:Value} {x:List ByteArray} {g:FuncId} {cp:Array Value} (p:ByteArray→Bool) (hg:jB Tryz.prog g) (ha:(Rep.slice 9 Rep.str).raw w [va] x)
    (hcl:∀ wr,Below w.heap.size w wr→∀ (i:Nat) (h:i < x.length) c,Rep.str.raw wr [c] x[i]→Calls Tryz.prog g (#[c]++cp) wr (fun e w'=>e=.returned (.bool (p x[i]))∧Below wr.heap.size wr w')) :
    Calls Tryz.prog 208 #[va,.func (.func g) #[] cp] w fun e w'=>e=.returned (.bool (decide (0≤idxOf p x)))∧Below w.heap.size w w':=by
 have HCL:=yD hcl;clear hcl
 go_enter Tryz.func208,Tryz.ntmps208
 go_wp2_with fail
 refine (kLi p hg ha HCL.out).mono ?_
 rintro e w1 ⟨rfl,hb1⟩
 go_wp2
 go_ret
 exact ⟨rfl,hb1⟩
theorem kFz {w:World} {va:Value} {x:List kv} {g:FuncId} {cp:Array Value} (p:kv→Bool) (hg:jB Tryz.prog g) (ha:(Rep.slice 166 kG).raw w [va] x)
    (hcl:∀ wr,Below w.heap.size w wr→∀ (i:Nat) (h:i < x.length) cs,kG.raw wr cs x[i]→Calls Tryz.prog g (#[.agg cs.toArray]++cp) wr (fun e w'=>e=.returned (.bool (p x[i]))∧Below wr.heap.size wr w')) :
    Calls Tryz.prog 211 #[va,.func (.func g) #[] cp] w fun e w'=>e=.returned (.int .i64 (idxOf p x))∧Below w.heap.size w w':=by
 obtain ⟨aa,capa,rfl,la⟩:=Rep.sl ha
 have HCL:=yD hcl;clear hcl
 unfold jB at hg
 go_enter Tryz.func211,Tryz.ntmps211
 go_wp2
 go_loopw [8] (fun i wr=>∃ k:Nat,k≤x.length∧i=.int .i64 k∧(∀ j,(h:j < k)→(h2:j < x.length)→p x[j]=false)∧Below w.heap.size w wr) (fun i _=>x.length - (intOf i).toNat)
 case atStart=>exact ⟨0,Nat.zero_le _,rfl,fun _ h=>by omega,bR⟩
 obtain ⟨k,hk,rfl,hno,hbel⟩:=hrel
 have HN:=yD hno;clear hno
 by_cases hlt:k < x.length
 · obtain ⟨ba,offa,rfl,c0,c1,c2,hr,A0,A1,A2⟩:=Rep.zT (ha.below hbel) hlt rfl
   have C:=HCL.out wr hbel k hlt _ hr
   by_cases hp:p x[k]=true
   · rw [hp] at C
     have HC:=yD C;clear C
     have HT:=yD (idxOf_hit hlt hp HN.out);clear hp
     go_wp2_with fail
     refine HC.out.mono ?_
     rintro e w1 ⟨rfl,hb1⟩
     go_wp2
     go_ret
     exact ⟨jI HT.out.symm,(tQ hbel hb1)⟩
   have hp:p x[k]=false:=qQ
   rw [hp] at C
   have HC:=yD C;clear C
   have HT:=yD (kAl hlt hp HN.out);clear hp
   go_wp2_with fail
   refine HC.out.mono ?_
   rintro e w1 ⟨rfl,hb1⟩
   go_wp2
   go_roundw
   case rel=>exact ⟨k + 1,by omega,by go_num,HT.out,(tQ hbel hb1)⟩
   simp [intOf];omega
 have HT:=yD (idxOf_miss hlt HN.out)
 go_wp2
 go_ret
 exact ⟨jI HT.out.symm,hbel⟩
theorem kMx {w:World} {va:Value} {x:List jD} {g:FuncId} {cp:Array Value} (p:jD→Bool) (hg:jB Tryz.prog g) (ha:(Rep.slice 159 kM).raw w [va] x)
    (hcl:∀ wr,Below w.heap.size w wr→∀ (i:Nat) (h:i < x.length) cs,kM.raw wr cs x[i]→Calls Tryz.prog g (#[.agg cs.toArray]++cp) wr (fun e w'=>e=.returned (.bool (p x[i]))∧Below wr.heap.size wr w')) :
    Calls Tryz.prog 226 #[va,.func (.func g) #[] cp] w fun e w'=>e=.returned (.int .i64 (idxOf p x))∧Below w.heap.size w w':=by
 obtain ⟨aa,capa,rfl,la⟩:=Rep.sl ha
 have HCL:=yD hcl;clear hcl
 unfold jB at hg
 go_enter Tryz.func226,Tryz.ntmps226
 go_wp2
 go_loopw [8] (fun i wr=>∃ k:Nat,k≤x.length∧i=.int .i64 k∧(∀ j,(h:j < k)→(h2:j < x.length)→p x[j]=false)∧Below w.heap.size w wr) (fun i _=>x.length - (intOf i).toNat)
 case atStart=>exact ⟨0,Nat.zero_le _,rfl,fun _ h=>by omega,bR⟩
 obtain ⟨k,hk,rfl,hno,hbel⟩:=hrel
 have HN:=yD hno;clear hno
 by_cases hlt:k < x.length
 · obtain ⟨ba,offa,rfl,c0,c1,c2,hr,A0,A1,A2⟩:=Rep.zT (ha.below hbel) hlt rfl
   have C:=HCL.out wr hbel k hlt _ hr
   by_cases hp:p x[k]=true
   · rw [hp] at C
     have HC:=yD C;clear C
     have HT:=yD (idxOf_hit hlt hp HN.out);clear hp
     go_wp2_with fail
     refine HC.out.mono ?_
     rintro e w1 ⟨rfl,hb1⟩
     go_wp2
     go_ret
     exact ⟨jI HT.out.symm,(tQ hbel hb1)⟩
   have hp:p x[k]=false:=qQ
   rw [hp] at C
   have HC:=yD C;clear C
   have HT:=yD (kAl hlt hp HN.out);clear hp
   go_wp2_with fail
   refine HC.out.mono ?_
   rintro e w1 ⟨rfl,hb1⟩
   go_wp2
   go_roundw
   case rel=>exact ⟨k + 1,by omega,by go_num,HT.out,(tQ hbel hb1)⟩
   simp [intOf];omega
 have HT:=yD (idxOf_miss hlt HN.out)
 go_wp2
 go_ret
 exact ⟨jI HT.out.symm,hbel⟩
theorem kBd {w:World} {va:Value} {x:List kS} {g:FuncId} {cp:Array Value} (p:kS→Bool) (hg:jB Tryz.prog g) (ha:(Rep.slice 81 kF).raw w [va] x)
    (hcl:∀ wr,Below w.heap.size w wr→∀ (i:Nat) (h:i < x.length) cs,kF.raw wr cs x[i]→Calls Tryz.prog g (#[.agg cs.toArray]++cp) wr (fun e w'=>e=.returned (.bool (p x[i]))∧Below wr.heap.size wr w')) :
    Calls Tryz.prog 175 #[va,.func (.func g) #[] cp] w fun e w'=>e=.returned (.int .i64 (idxOf p x))∧Below w.heap.size w w':=by
 obtain ⟨aa,capa,rfl,la⟩:=Rep.sl ha
 have HCL:=yD hcl;clear hcl
 unfold jB at hg
 go_enter Tryz.func175,Tryz.ntmps175
 go_wp2
 go_loopw [8] (fun i wr=>∃ k:Nat,k≤x.length∧i=.int .i64 k∧(∀ j,(h:j < k)→(h2:j < x.length)→p x[j]=false)∧Below w.heap.size w wr) (fun i _=>x.length - (intOf i).toNat)
 case atStart=>exact ⟨0,Nat.zero_le _,rfl,fun _ h=>by omega,bR⟩
 obtain ⟨k,hk,rfl,hno,hbel⟩:=hrel
 have HN:=yD hno;clear hno
 by_cases hlt:k < x.length
 · obtain ⟨ba,offa,rfl,c0,c1,c2,hr,A0,A1,A2⟩:=Rep.zT (ha.below hbel) hlt rfl
   have C:=HCL.out wr hbel k hlt _ hr
   by_cases hp:p x[k]=true
   · rw [hp] at C
     have HC:=yD C;clear C
     have HT:=yD (idxOf_hit hlt hp HN.out);clear hp
     go_wp2_with fail
     refine HC.out.mono ?_
     rintro e w1 ⟨rfl,hb1⟩
     go_wp2
     go_ret
     exact ⟨jI HT.out.symm,(tQ hbel hb1)⟩
   have hp:p x[k]=false:=qQ
   rw [hp] at C
   have HC:=yD C;clear C
   have HT:=yD (kAl hlt hp HN.out);clear hp
   go_wp2_with fail
   refine HC.out.mono ?_
   rintro e w1 ⟨rfl,hb1⟩
   go_wp2
   go_roundw
   case rel=>exact ⟨k + 1,by omega,by go_num,HT.out,(tQ hbel hb1)⟩
   simp [intOf];omega
 have HT:=yD (idxOf_miss hlt HN.out)
 go_wp2
 go_ret
 exact ⟨jI HT.out.symm,hbel⟩
theorem kBz {w:World} {va:Value} {x:List kS} {g:FuncId} {cp:Array Value} (p:kS→Bool) (hg:jB Tryz.prog g) (ha:(Rep.slice 81 kF).raw w [va] x)
    (hcl:∀ wr,Below w.heap.size w wr→∀ (i:Nat) (h:i < x.length) cs,kF.raw wr cs x[i]→Calls Tryz.prog g (#[.agg cs.toArray]++cp) wr (fun e w'=>e=.returned (.bool (p x[i]))∧Below wr.heap.size wr w')) :
    Calls Tryz.prog 167 #[va,.func (.func g) #[] cp] w fun e w'=>e=.returned (.bool (decide (0≤idxOf p x)))∧Below w.heap.size w w':=by
 have HCL:=yD hcl;clear hcl
 go_enter Tryz.func167,Tryz.ntmps167
 go_wp2_with fail
 refine (kBd p hg ha HCL.out).mono ?_
 rintro e w1 ⟨rfl,hb1⟩
 go_wp2
 go_ret
 exact ⟨rfl,hb1⟩
theorem kEc {w:World} {va:Value} {x:List kJ} {g:FuncId} {cp:Array Value} (p:kJ→Bool) (hg:jB Tryz.prog g) (ha:(Rep.slice 77 kD).raw w [va] x)
    (hcl:∀ wr,Below w.heap.size w wr→∀ (i:Nat) (h:i < x.length) cs,kD.raw wr cs x[i]→Calls Tryz.prog g (#[.agg cs.toArray]++cp) wr (fun e w'=>e=.returned (.bool (p x[i]))∧Below wr.heap.size wr w')) :
    Calls Tryz.prog 193 #[va,.func (.func g) #[] cp] w fun e w'=>e=.returned (.int .i64 (idxOf p x))∧Below w.heap.size w w':=by
 obtain ⟨aa,capa,rfl,la⟩:=Rep.sl ha
 have HCL:=yD hcl;clear hcl
 unfold jB at hg
 go_enter Tryz.func193,Tryz.ntmps193
 go_wp2
 go_loopw [8] (fun i wr=>∃ k:Nat,k≤x.length∧i=.int .i64 k∧(∀ j,(h:j < k)→(h2:j < x.length)→p x[j]=false)∧Below w.heap.size w wr) (fun i _=>x.length - (intOf i).toNat)
 case atStart=>exact ⟨0,Nat.zero_le _,rfl,fun _ h=>by omega,bR⟩
 obtain ⟨k,hk,rfl,hno,hbel⟩:=hrel
 have HN:=yD hno;clear hno
 by_cases hlt:k < x.length
 · obtain ⟨ba,offa,rfl,c0,c1,c2,hr,A0,A1,A2⟩:=Rep.zT (ha.below hbel) hlt rfl
   have C:=HCL.out wr hbel k hlt _ hr
   by_cases hp:p x[k]=true
   · rw [hp] at C
     have HC:=yD C;clear C
     have HT:=yD (idxOf_hit hlt hp HN.out);clear hp
     go_wp2_with fail
     refine HC.out.mono ?_
     rintro e w1 ⟨rfl,hb1⟩
     go_wp2
     go_ret
     exact ⟨jI HT.out.symm,(tQ hbel hb1)⟩
   have hp:p x[k]=false:=qQ
   rw [hp] at C
   have HC:=yD C;clear C
   have HT:=yD (kAl hlt hp HN.out);clear hp
   go_wp2_with fail
   refine HC.out.mono ?_
   rintro e w1 ⟨rfl,hb1⟩
   go_wp2
   go_roundw
   case rel=>exact ⟨k + 1,by omega,by go_num,HT.out,(tQ hbel hb1)⟩
   simp [intOf];omega
 have HT:=yD (idxOf_miss hlt HN.out)
 go_wp2
 go_ret
 exact ⟨jI HT.out.symm,hbel⟩
theorem kHi {w:World} {va:Value} {x:List jL} {g:FuncId} {cp:Array Value} (p:jL→Bool) (hg:jB Tryz.prog g) (ha:(Rep.slice 157 kI).raw w [va] x)
    (hcl:∀ wr,Below w.heap.size w wr→∀ (i:Nat) (h:i < x.length) cs,kI.raw wr cs x[i]→Calls Tryz.prog g (#[.agg cs.toArray]++cp) wr (fun e w'=>e=.returned (.bool (p x[i]))∧Below wr.heap.size wr w')) :
    Calls Tryz.prog 218 #[va,.func (.func g) #[] cp] w fun e w'=>e=.returned (.int .i64 (idxOf p x))∧Below w.heap.size w w':=by
 obtain ⟨aa,capa,rfl,la⟩:=Rep.sl ha
 have HCL:=yD hcl;clear hcl
 unfold jB at hg
 go_enter Tryz.func218,Tryz.ntmps218
 go_wp2
 go_loopw [8] (fun i wr=>∃ k:Nat,k≤x.length∧i=.int .i64 k∧(∀ j,(h:j < k)→(h2:j < x.length)→p x[j]=false)∧Below w.heap.size w wr) (fun i _=>x.length - (intOf i).toNat)
 case atStart=>exact ⟨0,Nat.zero_le _,rfl,fun _ h=>by omega,bR⟩
 obtain ⟨k,hk,rfl,hno,hbel⟩:=hrel
 have HN:=yD hno;clear hno
 by_cases hlt:k < x.length
 · obtain ⟨ba,offa,rfl,c0,c1,hr,A0,A1⟩:=Rep.get2 (ha.below hbel) hlt rfl
   have C:=HCL.out wr hbel k hlt _ hr
   by_cases hp:p x[k]=true
   · rw [hp] at C
     have HC:=yD C;clear C
     have HT:=yD (idxOf_hit hlt hp HN.out);clear hp
     go_wp2_with fail
     refine HC.out.mono ?_
     rintro e w1 ⟨rfl,hb1⟩
     go_wp2
     go_ret
     exact ⟨jI HT.out.symm,(tQ hbel hb1)⟩
   have hp:p x[k]=false:=qQ
   rw [hp] at C
   have HC:=yD C;clear C
   have HT:=yD (kAl hlt hp HN.out);clear hp
   go_wp2_with fail
   refine HC.out.mono ?_
   rintro e w1 ⟨rfl,hb1⟩
   go_wp2
   go_roundw
   case rel=>exact ⟨k + 1,by omega,by go_num,HT.out,(tQ hbel hb1)⟩
   simp [intOf];omega
 have HT:=yD (idxOf_miss hlt HN.out)
 go_wp2
 go_ret
 exact ⟨jI HT.out.symm,hbel⟩
theorem kFm {w:World} {va:Value} {x:List jL} {g:FuncId} {cp:Array Value} (p:jL→Bool) (hg:jB Tryz.prog g) (ha:(Rep.slice 157 kI).raw w [va] x)
    (hcl:∀ wr,Below w.heap.size w wr→∀ (i:Nat) (h:i < x.length) cs,kI.raw wr cs x[i]→Calls Tryz.prog g (#[.agg cs.toArray]++cp) wr (fun e w'=>e=.returned (.bool (p x[i]))∧Below wr.heap.size wr w')) :
    Calls Tryz.prog 169 #[va,.func (.func g) #[] cp] w fun e w'=>e=.returned (.bool (decide (0≤idxOf p x)))∧Below w.heap.size w w':=by
 have HCL:=yD hcl;clear hcl
 go_enter Tryz.func169,Tryz.ntmps169
 go_wp2_with fail
 refine (kHi p hg ha HCL.out).mono ?_
 rintro e w1 ⟨rfl,hb1⟩
 go_wp2
 go_ret
 exact ⟨rfl,hb1⟩
theorem kOj {w:World} {va:Value} {x:List yX} {g:FuncId} {cp:Array Value} (p:yX→Bool) (hg:jB Tryz.prog g) (ha:(Rep.slice 113 kg).raw w [va] x)
    (hcl:∀ wr,Below w.heap.size w wr→∀ (i:Nat) (h:i < x.length) cs,kg.raw wr cs x[i]→Calls Tryz.prog g (#[.agg cs.toArray]++cp) wr (fun e w'=>e=.returned (.bool (p x[i]))∧Below wr.heap.size wr w')) :
    Calls Tryz.prog 219 #[va,.func (.func g) #[] cp] w fun e w'=>e=.returned (.int .i64 (idxOf p x))∧Below w.heap.size w w':=by
 obtain ⟨aa,capa,rfl,la⟩:=Rep.sl ha
 have HCL:=yD hcl;clear hcl
 unfold jB at hg
 go_enter Tryz.func219,Tryz.ntmps219
 go_wp2
 go_loopw [8] (fun i wr=>∃ k:Nat,k≤x.length∧i=.int .i64 k∧(∀ j,(h:j < k)→(h2:j < x.length)→p x[j]=false)∧Below w.heap.size w wr) (fun i _=>x.length - (intOf i).toNat)
 case atStart=>exact ⟨0,Nat.zero_le _,rfl,fun _ h=>by omega,bR⟩
 obtain ⟨k,hk,rfl,hno,hbel⟩:=hrel
 have HN:=yD hno;clear hno
 by_cases hlt:k < x.length
 · obtain ⟨ba,offa,rfl,c0,c1,c2,c3,c4,hr,A0,A1,A2,A3,A4⟩:=Rep.get5 (ha.below hbel) hlt rfl
   have C:=HCL.out wr hbel k hlt _ hr
   by_cases hp:p x[k]=true
   · rw [hp] at C
     have HC:=yD C;clear C
     have HT:=yD (idxOf_hit hlt hp HN.out);clear hp
     go_wp2_with fail
     refine HC.out.mono ?_
     rintro e w1 ⟨rfl,hb1⟩
     go_wp2
     go_ret
     exact ⟨jI HT.out.symm,(tQ hbel hb1)⟩
   have hp:p x[k]=false:=qQ
   rw [hp] at C
   have HC:=yD C;clear C
   have HT:=yD (kAl hlt hp HN.out);clear hp
   go_wp2_with fail
   refine HC.out.mono ?_
   rintro e w1 ⟨rfl,hb1⟩
   go_wp2
   go_roundw
   case rel=>exact ⟨k + 1,by omega,by go_num,HT.out,(tQ hbel hb1)⟩
   simp [intOf];omega
 have HT:=yD (idxOf_miss hlt HN.out)
 go_wp2
 go_ret
 exact ⟨jI HT.out.symm,hbel⟩
end Go.Proofs.YtomdenfcfbkfbaaGreat

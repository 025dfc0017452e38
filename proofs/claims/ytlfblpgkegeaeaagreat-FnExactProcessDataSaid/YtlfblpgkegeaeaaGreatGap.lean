/-
  The laws' readings of marks: they find the marks that are there. Printed by genheld.py.
  Appending one new element to an owned slice, as a walk meets it. No program in sight.
  Slices of slices, read. No program in sight.
  Thinning an owned slice in place: what is kept, what is stale, what is still to be read. No program in sight.
-/
import Derived.Test.YtlfblpgkegeaeaaGreatSoft
import Derived.OwnWalk
import Derived.Laws.IdiomCopy
set_option linter.unusedVariables false
set_option linter.unusedSimpArgs false
set_option linter.unnecessarySimpa false
set_option maxRecDepth 100000
set_option maxHeartbeats 4000000
namespace Go.Proofs.YtlfblpgkegeaeaaGreat
open Go.RowKit
theorem bool_b3 {x:Bool} {k k':Int} (h:Rep.bool.held true x k=some k'):(x==(k % 3==0))=true:=by
 obtain ⟨rfl,_⟩:=Rep.kVi h
 rw [beq_iff_eq,Bool.eq_iff_iff];simp
theorem yn {w:World} {va:Value} {x:List ByteArray} {k k':Int} (ha:(Rep.slice 9 Rep.str).raw w [va] x) (hh:(Rep.slice 9 Rep.str).held true x k=some k') (hk0:0≤k) (hk1:k'≤4611686018427387904) :
    Calls Tryz.prog 163 #[va,.int .i64 k] w fun e w'=>e=.returned (.int .i64 k')∧Below w.heap.size w w':=by
 obtain ⟨aa,capa,rfl,la⟩:=Rep.sl ha
 have HH:=yD hh;clear hh
 go_enter Tryz.func163,Tryz.ntmps163
 go_wp2
 go_loopw [1,5] (fun l i wr=>∃ (j:Nat) (q:Int),j≤x.length∧i=.int .i64 j∧l=.int .i64 q∧0≤q∧q≤k'∧Rep.hdL Rep.str (x.drop j) q=some k'∧Below w.heap.size w wr) (fun _ i _=>x.length - (intOf i).toNat)
 case atStart=>exact ⟨0,k,Nat.zero_le _,rfl,rfl,hk0,(Rep.slice 9 Rep.str).held_ge (e:=true) HH.out,HH.out,bR⟩
 obtain ⟨j,q,hj,rfl,rfl,hq0,hq1,hl,hbel⟩:=hrel
 by_cases hlt:j < x.length
 · obtain ⟨b,off,rfl,c0_0,hr,C0_0⟩:=Rep.kAy (ha.below hbel) hlt rfl
   obtain ⟨qe,hle,hln,hq2,hq3⟩:=Rep.kBq hlt hl
   have HN:=yD hln;clear hln hl
   generalize x[j]=y at *
   obtain ⟨y0,rfl⟩:∃ y0,y0=y:=⟨_,rfl⟩
   obtain ⟨hce,_⟩:=Rep.yQ hr
   obtain rfl:c0_0=_:=by simpa using hce
   clear hce hr
   obtain ⟨rfl,rfl⟩:=Rep.str_held hle
   go_wp2_with fail
   have FX:=yD (fun (W:World) (hW:Below wr.heap.size wr W)=>cL hW C0_0)
   refine jB (fun W=>Below wr.heap.size wr W) [true,true,true,true,true,false,true] rF rF gX (bR.drew) ?_
   intro wS HS
   iterate 5
    all_goals refine wkR ?_
   all_goals first | refine wkB (kRt rP rP) (fun wS1 HS=>?_) | refine wkR ?_
   all_goals refine wkR ?_
   all_goals refine jA ?_
   have E1:=(tQ hbel HS)
   go_wp2
   go_roundw
   case rel=>exact ⟨j + 1,_,by omega,by go_num,rfl,by omega,by omega,HN.out,E1⟩
   simp [intOf];omega
 have HD:=yD (Rep.kBr hlt hl);clear hl
 go_wp2
 go_ret
 exact ⟨ku HD.out,hbel⟩
theorem kIo {w:World} {va:Value} {x:List UInt8} {k k':Int} (ha:(Rep.slice 5 Rep.byte).raw w [va] x) (hh:(Rep.slice 5 Rep.byte).held true x k=some k') (hk0:0≤k) (hk1:k'≤4611686018427387904) :
    Calls Tryz.prog 164 #[va,.int .i64 k] w fun e w'=>e=.returned (.int .i64 k')∧Below w.heap.size w w':=by
 obtain ⟨aa,capa,rfl,la⟩:=Rep.sl ha
 have HH:=yD hh;clear hh
 go_enter Tryz.func164,Tryz.ntmps164
 go_wp2
 go_loopw [1,5] (fun l i wr=>∃ (j:Nat) (q:Int),j≤x.length∧i=.int .i64 j∧l=.int .i64 q∧0≤q∧q≤k'∧Rep.hdL Rep.byte (x.drop j) q=some k'∧Below w.heap.size w wr) (fun _ i _=>x.length - (intOf i).toNat)
 case atStart=>exact ⟨0,k,Nat.zero_le _,rfl,rfl,hk0,(Rep.slice 5 Rep.byte).held_ge (e:=true) HH.out,HH.out,bR⟩
 obtain ⟨j,q,hj,rfl,rfl,hq0,hq1,hl,hbel⟩:=hrel
 by_cases hlt:j < x.length
 · obtain ⟨b,off,rfl,c0_0,hr,C0_0⟩:=Rep.kAy (ha.below hbel) hlt rfl
   obtain ⟨qe,hle,hln,hq2,hq3⟩:=Rep.kBq hlt hl
   have HN:=yD hln;clear hln hl
   generalize x[j]=y at *
   obtain ⟨y0,rfl⟩:∃ y0,y0=y:=⟨_,rfl⟩
   obtain hce:=Rep.kCn hr
   obtain rfl:c0_0=_:=by simpa using hce
   clear hce hr
   obtain ⟨rfl,rfl⟩:=Rep.byte_held hle
   go_wp2
   go_roundw
   case rel=>exact ⟨j + 1,_,by omega,by go_num,rfl,by omega,by omega,HN.out,hbel⟩
   simp [intOf];omega
 have HD:=yD (Rep.kBr hlt hl);clear hl
 go_wp2
 go_ret
 exact ⟨ku HD.out,hbel⟩
theorem kKt {w:World} {va:Value} {x:List kZ} {k k':Int} (ha:(Rep.slice 184 kF).raw w [va] x) (hh:(Rep.slice 184 kF).held true x k=some k') (hk0:0≤k) (hk1:k'≤4611686018427387904) :
    Calls Tryz.prog 162 #[va,.int .i64 k] w fun e w'=>e=.returned (.int .i64 k')∧Below w.heap.size w w':=by
 obtain ⟨aa,capa,rfl,la⟩:=Rep.sl ha
 have HH:=yD hh;clear hh
 go_enter Tryz.func162,Tryz.ntmps162
 go_wp2
 go_loopw [1,5] (fun l i wr=>∃ (j:Nat) (q:Int),j≤x.length∧i=.int .i64 j∧l=.int .i64 q∧0≤q∧q≤k'∧Rep.hdL kF (x.drop j) q=some k'∧Below w.heap.size w wr) (fun _ i _=>x.length - (intOf i).toNat)
 case atStart=>exact ⟨0,k,Nat.zero_le _,rfl,rfl,hk0,(Rep.slice 184 kF).held_ge (e:=true) HH.out,HH.out,bR⟩
 obtain ⟨j,q,hj,rfl,rfl,hq0,hq1,hl,hbel⟩:=hrel
 by_cases hlt:j < x.length
 · obtain ⟨b,off,rfl,c0_0,c0_1,c0_2,hr,C0_0,C0_1,C0_2⟩:=Rep.kBg (ha.below hbel) hlt rfl
   obtain ⟨qe,hle,hln,hq2,hq3⟩:=Rep.kBq hlt hl
   have HN:=yD hln;clear hln hl
   generalize x[j]=y at *
   obtain ⟨y0,y1,y2⟩:=y
   obtain ⟨sv0,hce,s_0,s_1,s_2,s_3⟩:=jX hr
   simp only [List.cons.injEq,and_true] at hce
   obtain ⟨rfl,rfl,rfl⟩:=hce
   clear hr s_0 s_2 s_3
   obtain ⟨k1,h1,r1,b1,d1⟩:=Rep.jS hle
   have HC0:=yD h1;clear h1
   obtain ⟨k2,h2,r2,b2,d2⟩:=Rep.jS r1
   obtain ⟨rfl,rfl⟩:=Rep.zG h2
   obtain ⟨rfl,rfl⟩:=Rep.zG r2
   go_wp2_with fail
   refine (yn s_1 HC0.out rP rP).mono ?_
   rintro e w1 ⟨rfl,hb1⟩
   have E1:=(tQ hbel hb1)
   have B1:=hb1
   have C1_0:=cL hb1 C0_0
   have C1_1:=cL hb1 C0_1
   have C1_2:=cL hb1 C0_2
   clear hb1 C0_0 C0_1 C0_2
   go_wp2
   go_roundw
   case rel=>exact ⟨j + 1,_,by omega,by go_num,rfl,by omega,by omega,HN.out,E1⟩
   simp [intOf];omega
 have HD:=yD (Rep.kBr hlt hl);clear hl
 go_wp2
 go_ret
 exact ⟨ku HD.out,hbel⟩
theorem kVw {w:World} {va:Value} {x:List yA} {k k':Int} (ha:(Rep.slice 181 kX).raw w [va] x) (hh:(Rep.slice 181 kX).held true x k=some k') (hk0:0≤k) (hk1:k'≤4611686018427387904) :
    Calls Tryz.prog 161 #[va,.int .i64 k] w fun e w'=>e=.returned (.int .i64 k')∧Below w.heap.size w w':=by
 obtain ⟨aa,capa,rfl,la⟩:=Rep.sl ha
 have HH:=yD hh;clear hh
 go_enter Tryz.func161,Tryz.ntmps161
 go_wp2
 go_loopw [1,5] (fun l i wr=>∃ (j:Nat) (q:Int),j≤x.length∧i=.int .i64 j∧l=.int .i64 q∧0≤q∧q≤k'∧Rep.hdL kX (x.drop j) q=some k'∧Below w.heap.size w wr) (fun _ i _=>x.length - (intOf i).toNat)
 case atStart=>exact ⟨0,k,Nat.zero_le _,rfl,rfl,hk0,(Rep.slice 181 kX).held_ge (e:=true) HH.out,HH.out,bR⟩
 obtain ⟨j,q,hj,rfl,rfl,hq0,hq1,hl,hbel⟩:=hrel
 by_cases hlt:j < x.length
 · obtain ⟨b,off,rfl,c0_0,c0_1,c0_2,hr,C0_0,C0_1,C0_2⟩:=Rep.kBg (ha.below hbel) hlt rfl
   obtain ⟨qe,hle,hln,hq2,hq3⟩:=Rep.kBq hlt hl
   have HN:=yD hln;clear hln hl
   generalize x[j]=y at *
   obtain ⟨y0,y1,y2⟩:=y
   obtain ⟨sv0,hce,s_0,s_1,s_2,s_3⟩:=yg hr
   simp only [List.cons.injEq,and_true] at hce
   obtain ⟨rfl,rfl,rfl⟩:=hce
   clear hr s_0 s_2 s_3
   obtain ⟨k1,h1,r1,b1,d1⟩:=Rep.jS hle
   have HC0:=yD h1;clear h1
   obtain ⟨k2,h2,r2,b2,d2⟩:=Rep.jS r1
   obtain ⟨rfl,rfl⟩:=Rep.zG h2
   obtain ⟨rfl,rfl⟩:=Rep.zG r2
   go_wp2_with fail
   refine (yn s_1 HC0.out rP rP).mono ?_
   rintro e w1 ⟨rfl,hb1⟩
   have E1:=(tQ hbel hb1)
   have B1:=hb1
   have C1_0:=cL hb1 C0_0
   have C1_1:=cL hb1 C0_1
   have C1_2:=cL hb1 C0_2
   clear hb1 C0_0 C0_1 C0_2
   go_wp2
   go_roundw
   case rel=>exact ⟨j + 1,_,by omega,by go_num,rfl,by omega,by omega,HN.out,E1⟩
   simp [intOf];omega
 have HD:=yD (Rep.kBr hlt hl);clear hl
 go_wp2
 go_ret
 exact ⟨ku HD.out,hbel⟩
theorem kOe {w:World} {va:Value} {x:List jP} {k k':Int} (ha:(Rep.slice 123 kQ).raw w [va] x) (hh:(Rep.slice 123 kQ).held true x k=some k') (hk0:0≤k) (hk1:k'≤4611686018427387904) :
    Calls Tryz.prog 199 #[va,.int .i64 k] w fun e w'=>e=.returned (.int .i64 k')∧Below w.heap.size w w':=by
 obtain ⟨aa,capa,rfl,la⟩:=Rep.sl ha
 have HH:=yD hh;clear hh
 go_enter Tryz.func199,Tryz.ntmps199
 go_wp2
 go_loopw [1,5] (fun l i wr=>∃ (j:Nat) (q:Int),j≤x.length∧i=.int .i64 j∧l=.int .i64 q∧0≤q∧q≤k'∧Rep.hdL kQ (x.drop j) q=some k'∧Below w.heap.size w wr) (fun _ i _=>x.length - (intOf i).toNat)
 case atStart=>exact ⟨0,k,Nat.zero_le _,rfl,rfl,hk0,(Rep.slice 123 kQ).held_ge (e:=true) HH.out,HH.out,bR⟩
 obtain ⟨j,q,hj,rfl,rfl,hq0,hq1,hl,hbel⟩:=hrel
 by_cases hlt:j < x.length
 · obtain ⟨b,off,rfl,c0_0,c0_1,c0_2,hr,C0_0,C0_1,C0_2⟩:=Rep.kBg (ha.below hbel) hlt rfl
   obtain ⟨qe,hle,hln,hq2,hq3⟩:=Rep.kBq hlt hl
   have HN:=yD hln;clear hln hl
   generalize x[j]=y at *
   obtain ⟨y0,y1,y2⟩:=y
   obtain ⟨hce,s_0,s_1,s_2⟩:=kAa hr
   simp only [List.cons.injEq,and_true] at hce
   obtain ⟨rfl,rfl,rfl⟩:=hce
   clear hr s_0 s_1 s_2
   obtain ⟨k1,h1,r1,b1,d1⟩:=Rep.jS hle
   obtain ⟨rfl,rfl⟩:=Rep.zG h1
   obtain ⟨k2,h2,r2,b2,d2⟩:=Rep.jS r1
   obtain ⟨rfl,rfl⟩:=Rep.zG h2
   obtain ⟨rfl,rfl⟩:=Rep.zG r2
   go_wp2
   go_roundw
   case rel=>exact ⟨j + 1,_,by omega,by go_num,rfl,by omega,by omega,HN.out,hbel⟩
   simp [intOf];omega
 have HD:=yD (Rep.kBr hlt hl);clear hl
 go_wp2
 go_ret
 exact ⟨ku HD.out,hbel⟩
theorem kHc {w:World} {va:Value} {x:List kS} {k k':Int} (ha:(Rep.slice 175 kE).raw w [va] x) (hh:(Rep.slice 175 kE).held true x k=some k') (hk0:0≤k) (hk1:k'≤4611686018427387904) :
    Calls Tryz.prog 159 #[va,.int .i64 k] w fun e w'=>e=.returned (.int .i64 k')∧Below w.heap.size w w':=by
 obtain ⟨aa,capa,rfl,la⟩:=Rep.sl ha
 have HH:=yD hh;clear hh
 go_enter Tryz.func159,Tryz.ntmps159
 go_wp2
 go_loopw [1,5] (fun l i wr=>∃ (j:Nat) (q:Int),j≤x.length∧i=.int .i64 j∧l=.int .i64 q∧0≤q∧q≤k'∧Rep.hdL kE (x.drop j) q=some k'∧Below w.heap.size w wr) (fun _ i _=>x.length - (intOf i).toNat)
 case atStart=>exact ⟨0,k,Nat.zero_le _,rfl,rfl,hk0,(Rep.slice 175 kE).held_ge (e:=true) HH.out,HH.out,bR⟩
 obtain ⟨j,q,hj,rfl,rfl,hq0,hq1,hl,hbel⟩:=hrel
 by_cases hlt:j < x.length
 · obtain ⟨b,off,rfl,c0_0,c0_1,c0_2,hr,C0_0,C0_1,C0_2⟩:=Rep.kBg (ha.below hbel) hlt rfl
   obtain ⟨qe,hle,hln,hq2,hq3⟩:=Rep.kBq hlt hl
   have HN:=yD hln;clear hln hl
   generalize x[j]=y at *
   obtain ⟨y0,y1,y2⟩:=y
   obtain ⟨sv0,sv1,hce,s_0,s_1,s_2,s_3⟩:=jN hr
   simp only [List.cons.injEq,and_true] at hce
   obtain ⟨rfl,rfl,rfl⟩:=hce
   clear hr s_0 s_3
   obtain ⟨k1,h1,r1,b1,d1⟩:=Rep.jS hle
   have HC0:=yD h1;clear h1
   obtain ⟨k2,h2,r2,b2,d2⟩:=Rep.jS r1
   have HC1:=yD h2;clear h2
   obtain ⟨rfl,rfl⟩:=Rep.zG r2
   go_wp2_with fail
   refine (yn s_1 HC0.out rP rP).mono ?_
   rintro e w1 ⟨rfl,hb1⟩
   have E1:=(tQ hbel hb1)
   have B1:=hb1
   have C1_0:=cL hb1 C0_0
   have C1_1:=cL hb1 C0_1
   have C1_2:=cL hb1 C0_2
   clear hb1 C0_0 C0_1 C0_2
   go_wp2_with fail
   refine (kOe (s_2.below B1) HC1.out rP rP).mono ?_
   rintro e w2 ⟨rfl,hb2⟩
   have E2:=(tQ E1 hb2)
   have B2:=(tQ B1 hb2)
   have C2_0:=cL hb2 C1_0
   have C2_1:=cL hb2 C1_1
   have C2_2:=cL hb2 C1_2
   clear hb2 C1_0 C1_1 C1_2
   go_wp2
   go_roundw
   case rel=>exact ⟨j + 1,_,by omega,by go_num,rfl,by omega,by omega,HN.out,E2⟩
   simp [intOf];omega
 have HD:=yD (Rep.kBr hlt hl);clear hl
 go_wp2
 go_ret
 exact ⟨ku HD.out,hbel⟩
theorem kOd {w:World} {va:Value} {x:List jK} {k k':Int} (ha:(Rep.slice 178 kJ).raw w [va] x) (hh:(Rep.slice 178 kJ).held true x k=some k') (hk0:0≤k) (hk1:k'≤4611686018427387904) :
    Calls Tryz.prog 160 #[va,.int .i64 k] w fun e w'=>e=.returned (.int .i64 k')∧Below w.heap.size w w':=by
 obtain ⟨aa,capa,rfl,la⟩:=Rep.sl ha
 have HH:=yD hh;clear hh
 go_enter Tryz.func160,Tryz.ntmps160
 go_wp2
 go_loopw [1,5] (fun l i wr=>∃ (j:Nat) (q:Int),j≤x.length∧i=.int .i64 j∧l=.int .i64 q∧0≤q∧q≤k'∧Rep.hdL kJ (x.drop j) q=some k'∧Below w.heap.size w wr) (fun _ i _=>x.length - (intOf i).toNat)
 case atStart=>exact ⟨0,k,Nat.zero_le _,rfl,rfl,hk0,(Rep.slice 178 kJ).held_ge (e:=true) HH.out,HH.out,bR⟩
 obtain ⟨j,q,hj,rfl,rfl,hq0,hq1,hl,hbel⟩:=hrel
 by_cases hlt:j < x.length
 · obtain ⟨b,off,rfl,c0_0,c0_1,hr,C0_0,C0_1⟩:=Rep.kEk (ha.below hbel) hlt rfl
   obtain ⟨qe,hle,hln,hq2,hq3⟩:=Rep.kBq hlt hl
   have HN:=yD hln;clear hln hl
   generalize x[j]=y at *
   obtain ⟨y0,y1⟩:=y
   obtain ⟨sv0,hce,s_0,s_1,s_2⟩:=yt hr
   simp only [List.cons.injEq,and_true] at hce
   obtain ⟨rfl,rfl⟩:=hce
   clear hr s_0 s_2
   obtain ⟨k1,h1,r1,b1,d1⟩:=Rep.jS hle
   have HC0:=yD h1;clear h1
   obtain ⟨rfl,rfl⟩:=Rep.zG r1
   go_wp2_with fail
   refine (yn s_1 HC0.out rP rP).mono ?_
   rintro e w1 ⟨rfl,hb1⟩
   have E1:=(tQ hbel hb1)
   have B1:=hb1
   have C1_0:=cL hb1 C0_0
   have C1_1:=cL hb1 C0_1
   clear hb1 C0_0 C0_1
   go_wp2
   go_roundw
   case rel=>exact ⟨j + 1,_,by omega,by go_num,rfl,by omega,by omega,HN.out,E1⟩
   simp [intOf];omega
 have HD:=yD (Rep.kBr hlt hl);clear hl
 go_wp2
 go_ret
 exact ⟨ku HD.out,hbel⟩
theorem heldDataS_c {w:World} {va:Value} {x:List jJ} {k k':Int} (ha:(Rep.slice 66 kP).raw w [va] x) (hh:(Rep.slice 66 kP).held true x k=some k') (hk0:0≤k) (hk1:k'≤4611686018427387904) :
    Calls Tryz.prog 157 #[va,.int .i64 k] w fun e w'=>e=.returned (.int .i64 k')∧Below w.heap.size w w':=by
 obtain ⟨aa,capa,rfl,la⟩:=Rep.sl ha
 have HH:=yD hh;clear hh
 go_enter Tryz.func157,Tryz.ntmps157
 go_wp2
 go_loopw [1,5] (fun l i wr=>∃ (j:Nat) (q:Int),j≤x.length∧i=.int .i64 j∧l=.int .i64 q∧0≤q∧q≤k'∧Rep.hdL kP (x.drop j) q=some k'∧Below w.heap.size w wr) (fun _ i _=>x.length - (intOf i).toNat)
 case atStart=>exact ⟨0,k,Nat.zero_le _,rfl,rfl,hk0,(Rep.slice 66 kP).held_ge (e:=true) HH.out,HH.out,bR⟩
 obtain ⟨j,q,hj,rfl,rfl,hq0,hq1,hl,hbel⟩:=hrel
 by_cases hlt:j < x.length
 · obtain ⟨b,off,rfl,c0_0,c0_1,c0_2,c0_3,c0_4,hr,C0_0,C0_1,C0_2,C0_3,C0_4⟩:=Rep.get5 (ha.below hbel) hlt rfl
   obtain ⟨qe,hle,hln,hq2,hq3⟩:=Rep.kBq hlt hl
   have HN:=yD hln;clear hln hl
   generalize x[j]=y at *
   obtain ⟨y0,y1,y2,y3,y4⟩:=y
   obtain ⟨sv0,sv1,sv2,hce,s_0,s_1,s_2,s_3,s_4,s_5,s_6⟩:=kY hr
   simp only [List.cons.injEq,and_true] at hce
   obtain ⟨rfl,rfl,rfl,rfl,rfl⟩:=hce
   clear hr s_0 s_3 s_5 s_6
   obtain ⟨k1,h1,r1,b1,d1⟩:=Rep.jS hle
   have HC0:=yD h1;clear h1
   obtain ⟨k2,h2,r2,b2,d2⟩:=Rep.jS r1
   have HC1:=yD h2;clear h2
   obtain ⟨k3,h3,r3,b3,d3⟩:=Rep.jS r2
   have HC2:=yD h3;clear h3
   obtain ⟨k4,h4,r4,b4,d4⟩:=Rep.jS r3
   obtain ⟨rfl,rfl⟩:=Rep.zG h4
   obtain ⟨rfl,rfl⟩:=Rep.zG r4
   go_wp2_with fail
   refine (yn s_1 HC0.out rP rP).mono ?_
   rintro e w1 ⟨rfl,hb1⟩
   have E1:=(tQ hbel hb1)
   have B1:=hb1
   have C1_0:=cL hb1 C0_0
   have C1_1:=cL hb1 C0_1
   have C1_2:=cL hb1 C0_2
   have C1_3:=cL hb1 C0_3
   have C1_4:=cL hb1 C0_4
   clear hb1 C0_0 C0_1 C0_2 C0_3 C0_4
   go_wp2_with fail
   refine (kIo (s_2.below B1) HC1.out rP rP).mono ?_
   rintro e w2 ⟨rfl,hb2⟩
   have E2:=(tQ E1 hb2)
   have B2:=(tQ B1 hb2)
   have C2_0:=cL hb2 C1_0
   have C2_1:=cL hb2 C1_1
   have C2_2:=cL hb2 C1_2
   have C2_3:=cL hb2 C1_3
   have C2_4:=cL hb2 C1_4
   clear hb2 C1_0 C1_1 C1_2 C1_3 C1_4
   go_wp2_with fail
   refine (yn (s_4.below B2) HC2.out rP rP).mono ?_
   rintro e w3 ⟨rfl,hb3⟩
   have E3:=(tQ E2 hb3)
   have B3:=(tQ B2 hb3)
   have C3_0:=cL hb3 C2_0
   have C3_1:=cL hb3 C2_1
   have C3_2:=cL hb3 C2_2
   have C3_3:=cL hb3 C2_3
   have C3_4:=cL hb3 C2_4
   clear hb3 C2_0 C2_1 C2_2 C2_3 C2_4
   go_wp2
   go_roundw
   case rel=>exact ⟨j + 1,_,by omega,by go_num,rfl,by omega,by omega,HN.out,E3⟩
   simp [intOf];omega
 have HD:=yD (Rep.kBr hlt hl);clear hl
 go_wp2
 go_ret
 exact ⟨ku HD.out,hbel⟩
theorem kMg {w:World} {va:Value} {x:List ko} {k k':Int} (ha:(Rep.slice 212 kH).raw w [va] x) (hh:(Rep.slice 212 kH).held true x k=some k') (hk0:0≤k) (hk1:k'≤4611686018427387904) :
    Calls Tryz.prog 198 #[va,.int .i64 k] w fun e w'=>e=.returned (.int .i64 k')∧Below w.heap.size w w':=by
 obtain ⟨aa,capa,rfl,la⟩:=Rep.sl ha
 have HH:=yD hh;clear hh
 go_enter Tryz.func198,Tryz.ntmps198
 go_wp2
 go_loopw [1,5] (fun l i wr=>∃ (j:Nat) (q:Int),j≤x.length∧i=.int .i64 j∧l=.int .i64 q∧0≤q∧q≤k'∧Rep.hdL kH (x.drop j) q=some k'∧Below w.heap.size w wr) (fun _ i _=>x.length - (intOf i).toNat)
 case atStart=>exact ⟨0,k,Nat.zero_le _,rfl,rfl,hk0,(Rep.slice 212 kH).held_ge (e:=true) HH.out,HH.out,bR⟩
 obtain ⟨j,q,hj,rfl,rfl,hq0,hq1,hl,hbel⟩:=hrel
 by_cases hlt:j < x.length
 · obtain ⟨b,off,rfl,c0_0,c0_1,c0_2,c0_3,c0_4,c0_5,hr,C0_0,C0_1,C0_2,C0_3,C0_4,C0_5⟩:=Rep.get6 (ha.below hbel) hlt rfl
   obtain ⟨qe,hle,hln,hq2,hq3⟩:=Rep.kBq hlt hl
   have HN:=yD hln;clear hln hl
   generalize x[j]=y at *
   obtain ⟨⟨y0,y1,y2,y3,y4⟩,y5⟩:=y
   obtain ⟨sv0,sv1,sv2,hce,s_0,s_1,s_2,s_3,s_4,s_5,s_6,s_7,s_8⟩:=jQ hr
   simp only [List.cons.injEq,and_true] at hce
   obtain ⟨rfl,rfl,rfl,rfl,rfl,rfl⟩:=hce
   clear hr s_0 s_1 s_4 s_6 s_7 s_8
   obtain ⟨k1,h1,r1,b1,d1⟩:=Rep.jS hle
   obtain ⟨k2,h2,r2,b2,d2⟩:=Rep.jS h1
   have HC0:=yD h2;clear h2
   obtain ⟨k3,h3,r3,b3,d3⟩:=Rep.jS r2
   have HC1:=yD h3;clear h3
   obtain ⟨k4,h4,r4,b4,d4⟩:=Rep.jS r3
   have HC2:=yD h4;clear h4
   obtain ⟨k5,h5,r5,b5,d5⟩:=Rep.jS r4
   obtain ⟨rfl,rfl⟩:=Rep.zG h5
   obtain ⟨rfl,rfl⟩:=Rep.zG r5
   obtain ⟨rfl,rfl⟩:=Rep.zG r1
   go_wp2_with fail
   refine (yn s_2 HC0.out rP rP).mono ?_
   rintro e w1 ⟨rfl,hb1⟩
   have E1:=(tQ hbel hb1)
   have B1:=hb1
   have C1_0:=cL hb1 C0_0
   have C1_1:=cL hb1 C0_1
   have C1_2:=cL hb1 C0_2
   have C1_3:=cL hb1 C0_3
   have C1_4:=cL hb1 C0_4
   have C1_5:=cL hb1 C0_5
   clear hb1 C0_0 C0_1 C0_2 C0_3 C0_4 C0_5
   go_wp2_with fail
   refine (kIo (s_3.below B1) HC1.out rP rP).mono ?_
   rintro e w2 ⟨rfl,hb2⟩
   have E2:=(tQ E1 hb2)
   have B2:=(tQ B1 hb2)
   have C2_0:=cL hb2 C1_0
   have C2_1:=cL hb2 C1_1
   have C2_2:=cL hb2 C1_2
   have C2_3:=cL hb2 C1_3
   have C2_4:=cL hb2 C1_4
   have C2_5:=cL hb2 C1_5
   clear hb2 C1_0 C1_1 C1_2 C1_3 C1_4 C1_5
   go_wp2_with fail
   refine (yn (s_5.below B2) HC2.out rP rP).mono ?_
   rintro e w3 ⟨rfl,hb3⟩
   have E3:=(tQ E2 hb3)
   have B3:=(tQ B2 hb3)
   have C3_0:=cL hb3 C2_0
   have C3_1:=cL hb3 C2_1
   have C3_2:=cL hb3 C2_2
   have C3_3:=cL hb3 C2_3
   have C3_4:=cL hb3 C2_4
   have C3_5:=cL hb3 C2_5
   clear hb3 C2_0 C2_1 C2_2 C2_3 C2_4 C2_5
   go_wp2
   go_roundw
   case rel=>exact ⟨j + 1,_,by omega,by go_num,rfl,by omega,by omega,HN.out,E3⟩
   simp [intOf];omega
 have HD:=yD (Rep.kBr hlt hl);clear hl
 go_wp2
 go_ret
 exact ⟨ku HD.out,hbel⟩
theorem kKu {w:World} {ca:List Value} {x:kr} {k k':Int} (ha:kI.raw w ca x) (hh:kI.held false x k=some k') (hk0:0≤k) (hk1:k'≤4611686018427387904) :
    Calls Tryz.prog 158 #[.agg ca.toArray,.int .i64 k] w fun e w'=>e=.returned (.int .i64 k')∧Below w.heap.size w w':=by
 obtain ⟨av1,rfl,a_0,a_1⟩:=jI ha
 obtain ⟨x0,x1⟩:=x
 clear ha a_0
 obtain ⟨k0,h0,r0,b0,d0⟩:=Rep.jS hh
 obtain rfl:=Rep.kUz h0
 have HC1:=yD r0;clear r0
 have z1:=(Rep.slice 212 kH).held_ge (e:=true) HC1.out
 go_enter Tryz.func158,Tryz.ntmps158
 go_wp2_with fail
 refine (kMg (a_1.alloc _) HC1.out rP rP).mono ?_
 rintro e w1 ⟨rfl,hb1⟩
 have D1:=hb1
 have E1:Below w.heap.size w w1:=(bR.alloc nL _).trans (hb1.mono rQ)
 obtain ⟨hc1,hf1⟩:=jO D1;clear hb1
 go_wp2
 go_ret
 exact ⟨rfl,E1⟩
theorem heldNode_c {w:World} {ca:List Value} {x:kAf} {k k':Int} (ha:jC.raw w ca x) (hh:jC.held false x k=some k') (hk0:0≤k) (hk1:k'≤4611686018427387904) :
    Calls Tryz.prog 91 #[.agg ca.toArray,.int .i64 k] w fun e w'=>e=.returned (.int .i64 k')∧Below w.heap.size w w':=by
 obtain ⟨av0,av2,av3,av4,av5,av6,rfl,a_0,a_1,a_2,a_3,a_4,a_5,a_6,a_7,a_8⟩:=jo ha
 obtain ⟨x0,x1,x2,x3,x4,x5,x6⟩:=x
 clear ha a_2 a_3 a_8
 obtain ⟨k0,h0,r0,b0,d0⟩:=Rep.jS hh
 have HC0:=yD h0;clear h0
 obtain ⟨k1,h1,r1,b1,d1⟩:=Rep.jS r0
 have HC1:=yD h1;clear h1
 obtain ⟨k2,h2,r2,b2,d2⟩:=Rep.jS r1
 have HC2:=yD h2;clear h2
 obtain ⟨k3,h3,r3,b3,d3⟩:=Rep.jS r2
 have HC3:=yD h3;clear h3
 obtain ⟨k4,h4,r4,b4,d4⟩:=Rep.jS r3
 have HC4:=yD h4;clear h4
 obtain ⟨k5,h5,r5,b5,d5⟩:=Rep.jS r4
 have HC5:=yD h5;clear h5
 obtain rfl:=Rep.kUz r5
 have z0:=(Rep.slice 66 kP).held_ge (e:=true) HC0.out
 have z1:=kI.held_ge (e:=false) HC1.out
 have z2:=(Rep.slice 175 kE).held_ge (e:=true) HC2.out
 have z3:=(Rep.slice 178 kJ).held_ge (e:=true) HC3.out
 have z4:=(Rep.slice 181 kX).held_ge (e:=true) HC4.out
 have z5:=(Rep.slice 184 kF).held_ge (e:=true) HC5.out
 go_enter Tryz.func91,Tryz.ntmps91
 go_wp2_with fail
 refine (heldDataS_c (a_0.alloc _) HC0.out rP rP).mono ?_
 rintro e w1 ⟨rfl,hb1⟩
 have D1:=hb1
 have E1:Below w.heap.size w w1:=(bR.alloc nL _).trans (hb1.mono rQ)
 obtain ⟨hc1,hf1⟩:=jO D1;clear hb1
 go_wp2_with fail
 refine (kKu (a_1.below E1) HC1.out rP rP).mono ?_
 rintro e w2 ⟨rfl,hb2⟩
 have D2:=(tQ D1 hb2)
 have E2:=(tQ E1 hb2)
 clear hc1 hf1 hb2
 obtain ⟨hc2,hf2⟩:=jO D2
 go_wp2_with fail
 refine (kHc (a_4.below E2) HC2.out rP rP).mono ?_
 rintro e w3 ⟨rfl,hb3⟩
 have D3:=(tQ D2 hb3)
 have E3:=(tQ E2 hb3)
 clear hc2 hf2 hb3
 obtain ⟨hc3,hf3⟩:=jO D3
 go_wp2_with fail
 refine (kOd (a_5.below E3) HC3.out rP rP).mono ?_
 rintro e w4 ⟨rfl,hb4⟩
 have D4:=(tQ D3 hb4)
 have E4:=(tQ E3 hb4)
 clear hc3 hf3 hb4
 obtain ⟨hc4,hf4⟩:=jO D4
 go_wp2_with fail
 refine (kVw (a_6.below E4) HC4.out rP rP).mono ?_
 rintro e w5 ⟨rfl,hb5⟩
 have D5:=(tQ D4 hb5)
 have E5:=(tQ E4 hb5)
 clear hc4 hf4 hb5
 obtain ⟨hc5,hf5⟩:=jO D5
 go_wp2_with fail
 refine (kKt (a_7.below E5) HC5.out rP rP).mono ?_
 rintro e w6 ⟨rfl,hb6⟩
 have D6:=(tQ D5 hb6)
 have E6:=(tQ E5 hb6)
 clear hc5 hf5 hb6
 obtain ⟨hc6,hf6⟩:=jO D6
 go_wp2
 go_ret
 exact ⟨rfl,E6⟩
theorem kQa {w:World} {va:Value} {x:List jV} {k k':Int} (ha:(Rep.slice 128 kR).raw w [va] x) (hh:(Rep.slice 128 kR).held true x k=some k') (hk0:0≤k) (hk1:k'≤4611686018427387904) :
    Calls Tryz.prog 92 #[va,.int .i64 k] w fun e w'=>e=.returned (.int .i64 k')∧Below w.heap.size w w':=by
 obtain ⟨aa,capa,rfl,la⟩:=Rep.sl ha
 have HH:=yD hh;clear hh
 go_enter Tryz.func92,Tryz.ntmps92
 go_wp2
 go_loopw [1,5] (fun l i wr=>∃ (j:Nat) (q:Int),j≤x.length∧i=.int .i64 j∧l=.int .i64 q∧0≤q∧q≤k'∧Rep.hdL kR (x.drop j) q=some k'∧Below w.heap.size w wr) (fun _ i _=>x.length - (intOf i).toNat)
 case atStart=>exact ⟨0,k,Nat.zero_le _,rfl,rfl,hk0,(Rep.slice 128 kR).held_ge (e:=true) HH.out,HH.out,bR⟩
 obtain ⟨j,q,hj,rfl,rfl,hq0,hq1,hl,hbel⟩:=hrel
 by_cases hlt:j < x.length
 · obtain ⟨b,off,rfl,c0_0,c0_1,c0_2,c0_3,c0_4,c0_5,c0_6,c0_7,c0_8,c0_9,c0_10,hr,C0_0,C0_1,C0_2,C0_3,C0_4,C0_5,C0_6,C0_7,C0_8,C0_9,C0_10⟩:=Rep.get11 (ha.below hbel) hlt rfl
   obtain ⟨qe,hle,hln,hq2,hq3⟩:=Rep.kBq hlt hl
   have HN:=yD hln;clear hln hl
   generalize x[j]=y at *
   obtain ⟨y0,y1,⟨y2,y3,y4,y5⟩,⟨y6,y7,y8,y9,y10⟩⟩:=y
   obtain ⟨sv2,sv6,sv7,sv8,hce,s_0,s_1,s_2,s_3,s_4,s_5,s_6,s_7,s_8,s_9,s_10,s_11,s_12,s_13,s_14⟩:=kAo hr
   simp only [List.cons.injEq,and_true] at hce
   obtain ⟨rfl,rfl,rfl,rfl,rfl,rfl,rfl,rfl,rfl,rfl,rfl⟩:=hce
   clear hr s_0 s_1 s_2 s_4 s_5 s_6 s_7 s_8 s_11 s_13 s_14
   obtain ⟨k1,h1,r1,b1,d1⟩:=Rep.jS hle
   obtain ⟨rfl,rfl⟩:=Rep.zG h1
   obtain ⟨k2,h2,r2,b2,d2⟩:=Rep.jS r1
   have BB1:=bool_b3 h2
   obtain ⟨rfl,rfl⟩:=Rep.kVi h2
   obtain ⟨k3,h3,r3,b3,d3⟩:=Rep.jS r2
   obtain ⟨k4,h4,r4,b4,d4⟩:=Rep.jS h3
   have HC2:=yD h4;clear h4
   obtain ⟨k5,h5,r5,b5,d5⟩:=Rep.jS r4
   obtain ⟨rfl,rfl⟩:=Rep.zG h5
   obtain ⟨k6,h6,r6,b6,d6⟩:=Rep.jS r5
   obtain ⟨rfl,rfl⟩:=Rep.zG h6
   obtain ⟨rfl,rfl⟩:=Rep.zG r6
   obtain ⟨k7,h7,r7,b7,d7⟩:=Rep.jS r3
   have HC6:=yD h7;clear h7
   obtain ⟨k8,h8,r8,b8,d8⟩:=Rep.jS r7
   have HC7:=yD h8;clear h8
   obtain ⟨k9,h9,r9,b9,d9⟩:=Rep.jS r8
   have HC8:=yD h9;clear h9
   obtain ⟨k10,h10,r10,b10,d10⟩:=Rep.jS r9
   obtain ⟨rfl,rfl⟩:=Rep.zG h10
   obtain ⟨rfl,rfl⟩:=Rep.zG r10
   go_wp2_with fail
   refine (yn s_3 HC2.out rP rP).mono ?_
   rintro e w1 ⟨rfl,hb1⟩
   have E1:=(tQ hbel hb1)
   have B1:=hb1
   have C1_0:=cL hb1 C0_0
   have C1_1:=cL hb1 C0_1
   have C1_2:=cL hb1 C0_2
   have C1_3:=cL hb1 C0_3
   have C1_4:=cL hb1 C0_4
   have C1_5:=cL hb1 C0_5
   have C1_6:=cL hb1 C0_6
   have C1_7:=cL hb1 C0_7
   have C1_8:=cL hb1 C0_8
   have C1_9:=cL hb1 C0_9
   have C1_10:=cL hb1 C0_10
   clear hb1 C0_0 C0_1 C0_2 C0_3 C0_4 C0_5 C0_6 C0_7 C0_8 C0_9 C0_10
   go_wp2_with fail
   refine (yn (s_9.below B1) HC6.out rP rP).mono ?_
   rintro e w2 ⟨rfl,hb2⟩
   have E2:=(tQ E1 hb2)
   have B2:=(tQ B1 hb2)
   have C2_0:=cL hb2 C1_0
   have C2_1:=cL hb2 C1_1
   have C2_2:=cL hb2 C1_2
   have C2_3:=cL hb2 C1_3
   have C2_4:=cL hb2 C1_4
   have C2_5:=cL hb2 C1_5
   have C2_6:=cL hb2 C1_6
   have C2_7:=cL hb2 C1_7
   have C2_8:=cL hb2 C1_8
   have C2_9:=cL hb2 C1_9
   have C2_10:=cL hb2 C1_10
   clear hb2 C1_0 C1_1 C1_2 C1_3 C1_4 C1_5 C1_6 C1_7 C1_8 C1_9 C1_10
   go_wp2_with fail
   refine (kIo (s_10.below B2) HC7.out rP rP).mono ?_
   rintro e w3 ⟨rfl,hb3⟩
   have E3:=(tQ E2 hb3)
   have B3:=(tQ B2 hb3)
   have C3_0:=cL hb3 C2_0
   have C3_1:=cL hb3 C2_1
   have C3_2:=cL hb3 C2_2
   have C3_3:=cL hb3 C2_3
   have C3_4:=cL hb3 C2_4
   have C3_5:=cL hb3 C2_5
   have C3_6:=cL hb3 C2_6
   have C3_7:=cL hb3 C2_7
   have C3_8:=cL hb3 C2_8
   have C3_9:=cL hb3 C2_9
   have C3_10:=cL hb3 C2_10
   clear hb3 C2_0 C2_1 C2_2 C2_3 C2_4 C2_5 C2_6 C2_7 C2_8 C2_9 C2_10
   go_wp2_with fail
   refine (yn (s_12.below B3) HC8.out rP rP).mono ?_
   rintro e w4 ⟨rfl,hb4⟩
   have E4:=(tQ E3 hb4)
   have B4:=(tQ B3 hb4)
   have C4_0:=cL hb4 C3_0
   have C4_1:=cL hb4 C3_1
   have C4_2:=cL hb4 C3_2
   have C4_3:=cL hb4 C3_3
   have C4_4:=cL hb4 C3_4
   have C4_5:=cL hb4 C3_5
   have C4_6:=cL hb4 C3_6
   have C4_7:=cL hb4 C3_7
   have C4_8:=cL hb4 C3_8
   have C4_9:=cL hb4 C3_9
   have C4_10:=cL hb4 C3_10
   clear hb4 C3_0 C3_1 C3_2 C3_3 C3_4 C3_5 C3_6 C3_7 C3_8 C3_9 C3_10
   go_wp2
   go_roundw
   case rel=>exact ⟨j + 1,_,by omega,by go_num,rfl,by omega,by omega,HN.out,E4⟩
   simp [intOf];omega
 have HD:=yD (Rep.kBr hlt hl);clear hl
 go_wp2
 go_ret
 exact ⟨ku HD.out,hbel⟩
theorem kMh {w:World} {ca:List Value} {x:kHg} {k k':Int} (ha:yP.raw w ca x) (hh:yP.held false x k=some k') (hk0:0≤k) (hk1:k'≤4611686018427387904) :
    Calls Tryz.prog 23 #[.agg ca.toArray,.int .i64 k] w fun e w'=>e=.returned (.int .i64 k')∧Below w.heap.size w w':=by
 obtain ⟨av0,av2,av3,av4,av5,av6,av8,rfl,a_0,a_1,a_2,a_3,a_4,a_5,a_6,a_7,a_8,a_9,a_10⟩:=yB ha
 obtain ⟨x0,x1⟩:=x
 clear ha a_1 a_2 a_3 a_4 a_5 a_6 a_7 a_8 a_9
 obtain ⟨k0,h0,r0,b0,d0⟩:=Rep.jS hh
 have HC0:=yD h0;clear h0
 have HC1:=yD r0;clear r0
 have z0:=jC.held_ge (e:=false) HC0.out
 have z1:=(Rep.slice 128 kR).held_ge (e:=true) HC1.out
 go_enter Tryz.func23,Tryz.ntmps23
 go_wp2_with fail
 refine (heldNode_c (a_0.alloc _) HC0.out rP rP).mono ?_
 rintro e w1 ⟨rfl,hb1⟩
 have D1:=hb1
 have E1:Below w.heap.size w w1:=(bR.alloc nL _).trans (hb1.mono rQ)
 obtain ⟨hc1,hf1⟩:=jO D1;clear hb1
 go_wp2_with fail
 refine (kQa (a_10.below E1) HC1.out rP rP).mono ?_
 rintro e w2 ⟨rfl,hb2⟩
 have D2:=(tQ D1 hb2)
 have E2:=(tQ E1 hb2)
 clear hc1 hf1 hb2
 obtain ⟨hc2,hf2⟩:=jO D2
 go_wp2
 go_ret
 exact ⟨rfl,E2⟩
namespace Rep
section
variable {α:Type} {r:Rep α} {e:TypeId} {w w':World} {v:Value} {xs ys:List α} {S T:Nat→Prop}
theorem kAi {P:Program} {ops:Array Oper} {rest:List Oper} {o:Oper} {a:Act} {Q:Exit→Act→World→Prop} (hgd:o.guard=none) (s x:Operand) (t:TypeId)
    (ho:o.op=.call { callee:=.builtin .append,args:=#[s,x],argTypes:=#[t,t] })
    {z:Value} {bytes:Nat} (ht:P.underlying t=some (.slice e)) (hinf:(P.info? e).map (fun i=>(i.zero,i.size,i.bytes))=some (some z,r.n,bytes)) (hzs:z.cells.size=r.n) (hn:0 < r.n) (hby:bytes≤1000)
    (hown:kg e r w v xs S) (hs:a.eval s=v) {b:Nat} (hx:a.eval x=.slice (some ⟨b,0,none⟩) 1 1) (hb:b=w.heap.size) {cs:List Value} {y:α} (hy:r.own w cs y T)
    {u:World} (hu:u=w.alloc (.cells cs.toArray e)) (hST:∀ k,S k→T k→False) (hlen:xs.length + 1≤1000000000)
    (h:∀ v' w',kg e r w' v' (xs++[y]) (fun k=>S k∨T k∨(w.heap.size + 1≤k∧k < w'.heap.size))→Touch (fun k=>some k=v.ownBlock∧S k) u w'→wpList P ops Q rest (a.put o.dst v') w'):wpList P ops Q (o :: rest) a u:=by
 subst hu hb
 obtain ⟨i,hi,hz,hsize,hbytes⟩:=info_parts hinf
 have hl:=r.len hy.1
 have hown':kg e r (w.alloc (.cells cs.toArray e)) v xs (fun k=>S k∧k < w.heap.size):=(kg.alloc hown.live _)
 have hy':=hy.live.alloc (.cells cs.toArray e)
 refine wpList_push hgd s x t ho (r:=r) (e:=e) ht hi hz hsize hzs hn rP hown' hs hx (m:=1) (cells:=cs) (ys:=[y]) (T:=fun k=>T k∧k < w.heap.size) (.inr ⟨_,1,rfl,?_⟩)
   ⟨cs,[],_,fun _=>False,by simp,hy'.1,rfl,fun _ h=>h,fun _ h=>h.elim,fun _ _ _ h=>h.elim⟩ rfl (fun k h1 h2=>hST k h1.1 h2.1) (by simpa using hy.2) (by simpa using hlen) ?_
 · intro j c hj
   have hadd:(⟨w.heap.size,0,none⟩:Addr).add j=⟨w.heap.size,j,none⟩:=mD
   rw [hadd]
   exact kK (heap_alloc_new w _) qY
 intro v' w' h1 h2
 refine h v' w' (h1.wide ?_) ⟨h2.os,h2.tape,h2.output,h2.size,fun k hk q=>h2.block k hk (fun a=>q ⟨a.1,a.2.1⟩)⟩
 intro k hk
 rcases hk with hk | hk | hk
 · exact .inl hk.1
 · exact .inr (.inl hk.1)
 exact .inr (.inr ⟨by simpa using hk.1,hk.2⟩)
theorem jZ {P:Program} {ops:Array Oper} {rest:List Oper} {o:Oper} {a:Act} {Q:Exit→Act→World→Prop} (hgd:o.guard=none) (s x:Operand) (t:TypeId)
    (ho:o.op=.call { callee:=.builtin .append,args:=#[s,x],argTypes:=#[t,t] })
    {z:Value} {bytes:Nat} (ht:P.underlying t=some (.slice e)) (hinf:(P.info? e).map (fun i=>(i.zero,i.size,i.bytes))=some (some z,r.n,bytes)) (hzs:z.cells.size=r.n) (hn:0 < r.n) (hby:bytes≤1000)
    {B:Nat} (hown:kg e r w v xs S) (hs:a.eval s=v) {b:Nat} (hx:a.eval x=.slice (some ⟨b,0,none⟩) 1 1) (hb:b=w.heap.size) {cs:List Value} {y:α} (hy:r.own w cs y T)
    {u:World} (hu:u=w.alloc (.cells cs.toArray e)) (hST:∀ k,S k→T k→False) (hSB:∀ k,S k→B≤k∧k < w.heap.size) (hTB:∀ k,T k→B≤k∧k < w.heap.size) (hB:B≤w.heap.size) (hlen:xs.length + 1≤1000000000)
    (h:∀ v' w',kg e r w' v' (xs++[y]) (Btw B w'.heap.size)→Below B w w'→w.heap.size < w'.heap.size→wpList P ops Q rest (a.put o.dst v') w'):wpList P ops Q (o :: rest) a u:=by
 refine kAi hgd s x t ho ht hinf hzs hn hby hown hs hx hb hy hu hST hlen ?_
 intro v' w' h1 h2
 subst hu
 have hsz:=h2.size
 simp at hsz
 refine h v' w' (h1.wide ?_) ?_ rP
 · intro k hk
   rcases hk with hk | hk | hk
   · have:=hSB k hk;exact ⟨this.1,by omega⟩
   · have:=hTB k hk;exact ⟨this.1,by omega⟩
   exact ⟨by omega,hk.2⟩
 refine ((Below.refl B w).alloc hB _).trans (h2.below ?_ ?_)
 · simp;omega
 intro k hk;have:=hSB k hk.2;omega
end
end Rep
namespace Rep
section
variable {α:Type} {r:Rep α} {e:TypeId} {w:World} {a:Option Addr} {len cap:Nat} {xs:List α} {o:Bool} {S:Nat→Prop}
theorem row_cut {cells:List Value} {ys:List α} (h:row r o w cells ys S) {k:Nat} (hk:k≤ys.length):∃ c d,cells=c++d∧c.length=k * r.n∧row r o w c (ys.take k) S∧row r o w d (ys.drop k) S:=by
 by_cases h1:k < ys.length
 · obtain ⟨p,c,q,A,B,C,rfl,hp,ra,rb,rc,hA,hB,hC,hdis⟩:=kRl h h1
   refine ⟨p,c++q,rfl,hp,yS ra hA,?_⟩
   rw [List.drop_eq_getElem_cons h1]
   exact ⟨c,q,B,C,rfl,rb,rc,hB,hC,fun ho k=>(hdis ho k).2.2⟩
 obtain rfl:k=ys.length:=rP
 have:=kAc h
 exact ⟨cells,[],by simp,this,by simpa using h,by simp [row]⟩
theorem take_raw (h:(slice e r).raw w [.slice a len cap] xs) {k:Nat} (hk:k≤xs.length):(slice e r).raw w [.slice a k cap] (xs.take k):=by
 obtain ⟨a',len',cap',h0,h1,h2,h3,h4⟩:=h
 simp only [List.cons.injEq,Value.slice.injEq,and_true] at h0
 obtain ⟨rfl,rfl,rfl⟩:=h0
 refine ⟨a,k,cap,rfl,by simp;omega,by omega,h3,?_⟩
 rcases h4 with ⟨rfl,_⟩|⟨b,off,ha,cur,e',fr,p,c,q,hb,hc,hp,hl,hf,hS,hx⟩
 · exact .inl ⟨by simp,by simp⟩
 obtain ⟨c1,c2,rfl,hcl,r1,r2⟩:=row_cut hx hk
 exact .inr ⟨b,off,ha,cur,e',fr,p,c1,c2++q,hb,by rw [hc];simp,hp,hl,by simp,hS,r1⟩
theorem take_rd (h:(slice e r).rd w [.slice a len cap] xs) {k:Nat} (hk:k≤xs.length):(slice e r).rd w [.slice a k cap] (xs.take k) :=
  ⟨take_raw h.1 hk,by have:=h.2.1;simp;omega,fun x hx=>h.2.2 x (List.mem_of_mem_take hx)⟩
theorem kCk:(slice e r).own w [.slice a 0 0] [] S:=⟨⟨_,_,_,rfl,rfl,Nat.le_refl _,Nat.zero_le _,.inl ⟨rfl,fun _=>rfl⟩⟩,by simp [slice]⟩
theorem raw_src (h:(slice e r).raw w [.slice a len cap] xs):∃ cells,Src w (.slice a len cap) xs.length cells∧row r false w cells xs (fun _=>True):=by
 obtain ⟨a',len',cap',h0,h1,h2,h3,h4⟩:=h
 simp only [List.cons.injEq,Value.slice.injEq,and_true] at h0
 obtain ⟨rfl,rfl,rfl⟩:=h0
 rcases h4 with ⟨rfl,_⟩|⟨b,off,ha,cur,e',fr,p,c,q,hb,hc,hp,hl,hf,hS,hx⟩
 · subst h1
   exact ⟨[],.inl ⟨rfl,_,_,rfl⟩,rfl⟩
 subst ha h1
 refine ⟨c,.inr ⟨_,_,rfl,?_⟩,yS hx (fun _ _=>trivial)⟩
 intro j u hj
 have hadd:(⟨b,off,none⟩:Addr).add j=⟨b,off + j,none⟩:=mD
 have hjl:=(List.getElem?_eq_some_iff.1 hj).1
 rw [hadd]
 simp only [World.cell?,hb,Option.isSome_none,Bool.false_eq_true,if_false]
 rw [← Array.getElem?_toList,hc,List.getElem?_append_right rP,List.getElem?_append_left rP]
 rw [← hj];congr 1;omega
end
end Rep
namespace Rep
section
variable {α:Type} {r:Rep α} {e:TypeId} {w w':World} {v:Value} {b cap n:Nat} {kept rest xs:List α} {j:Nat} {x:α} {S T:Nat→Prop}
def gap (e:TypeId) (r:Rep α) (w:World) (b cap n:Nat) (kept:List α) (j:Nat) (rest:List α) (S:Nat→Prop):Prop :=
  (∀ x∈kept,r.bdd Big x)∧(∀ x∈rest,r.bdd Big x)∧kept.length + j + rest.length=n∧n≤cap∧cap≤maxLen∧S b ∧
  ∃ (c jk d tl:List Value) (A B:Nat→Prop),w.heap[b]?=some (.cells (c++(jk++(d++tl))).toArray e (0,0))∧(c++(jk++(d++tl))).length=cap * r.n∧jk.length=j * r.n ∧
    row r true w c kept A∧row r true w d rest B∧(∀ k,A k→S k∧k≠b)∧(∀ k,B k→S k∧k≠b)∧(∀ k,A k→B k→False)
theorem gap.lt (h:gap e r w b cap n kept j rest S):b < w.heap.size:=by
 obtain ⟨_,_,_,_,_,_,c,jk,d,tl,A,B,h1,_⟩:=h
 exact (Array.getElem?_eq_some_iff.1 h1).1
theorem gap.mem (h:gap e r w b cap n kept j rest S):S b:=h.2.2.2.2.2.1
theorem gap.len (h:gap e r w b cap n kept j rest S):kept.length + j + rest.length=n∧n≤cap∧cap≤maxLen:=⟨h.2.2.1,h.2.2.2.1,h.2.2.2.2.1⟩
theorem gap.keep (h:gap e r w b cap n kept j rest S) (k:∀ k,S k→k < w.heap.size→w'.heap[k]?=w.heap[k]?):gap e r w' b cap n kept j rest S:=by
 obtain ⟨a1,a2,a3,a4,a5,a6,c,jk,d,tl,A,B,h1,h2,h3,h4,h5,h6,h7,h8⟩:=h
 refine ⟨a1,a2,a3,a4,a5,a6,c,jk,d,tl,(fun k=>A k∧k < w.heap.size),(fun k=>B k∧k < w.heap.size),(k b a6 (Array.getElem?_eq_some_iff.1 h1).1).trans h1,h2,h3,yO (kAr h4) (fun i hi=>k i (h6 i hi.1).1 hi.2),yO (kAr h5) (fun i hi=>k i (h7 i hi.1).1 hi.2),fun i hi=>h6 i hi.1,fun i hi=>h7 i hi.1,fun i h h'=>h8 i h.1 h'.1⟩
theorem gap.below (h:gap e r w b cap n kept j rest S) (k:Below w.heap.size w w'):gap e r w' b cap n kept j rest S:=h.keep (fun i _ hi=>k.block i hi)
theorem gap.frozen (h:gap e r w b cap n kept j rest S) (i:Nat):w.frozen? ⟨b,i,none⟩=false:=by
 obtain ⟨_,_,_,_,_,_,c,jk,d,tl,A,B,h1,_⟩:=h
 exact frozen_of_row w b i _ _ h1
theorem kDz (h:kg e r w v xs S) {i:Nat} (hi:i < xs.length):∃ b cap,v=.slice (some ⟨b,0,none⟩) xs.length cap∧gap e r w b cap xs.length (xs.take i) 0 (xs.drop i) S:=by
 obtain ⟨hb,h⟩:=h
 rcases h with ⟨⟨a,rfl⟩,rfl⟩|⟨b,cap,cur,cs,tl,rfl,h1,h2,h3,h4,h5,h6,h7⟩
 · simp at hi
 refine ⟨b,cap,rfl,fun x hx=>hb x (List.mem_of_mem_take hx),fun x hx=>hb x (List.mem_of_mem_drop hx),by simp;omega,h1,h2,h6,?_⟩
 have e1:xs=xs.take i++xs.drop i:=rQ
 rw [e1] at h7
 obtain ⟨c,d,A,B,rfl,r1,r2,hA,hB,hd⟩:=kNk _ h7
 refine ⟨c,[],d,tl,A,B,?_,?_,by simp,r1,r2,hA,hB,hd rfl⟩
 · rw [h3,show cur=(c++([]++(d++tl))).toArray from by rw [show c++([]++(d++tl))=cur.toList from by rw [h4];simp]]
 rw [← h5,← Array.length_toList,h4];simp
theorem gap.skip (h:gap e r w b cap n kept j (x :: rest) S):gap e r w b cap n kept (j + 1) rest S:=by
 obtain ⟨a1,a2,a3,a4,a5,a6,c,jk,d,tl,A,B,h1,h2,h3,h4,⟨c1,d1,A1,B1,rfl,q1,q2,hA1,hB1,hd1⟩,h6,h7,h8⟩:=h
 refine ⟨a1,fun y hy=>a2 y (by simp [hy]),by simp at a3;omega,a4,a5,a6,c,jk++c1,d1,tl,A,B1,by rw [h1];simp,by rw [← h2];simp,?_,h4,q2,h6,fun k hk=>h7 k (hB1 k hk),fun k h h'=>h8 k h (hB1 k h')⟩
 simp [h3,r.len q1,Nat.add_mul]
theorem kLr:∀ (cs:List Value) (w:World) (b p:Nat),w.setCells b p cs=setCells w b p cs
  | [],_,_,_=>rfl
  | c :: cs,w,b,p=>by
    simp only [World.setCells,setCells]
    exact kLr cs _ b (p + 1)
theorem gap.cells (h:gap e r w b cap n kept j rest S) {i:Nat} (hi:i < cap * r.n):(w.cell? ⟨b,i,none⟩).isSome=true:=by
 obtain ⟨_,_,_,_,_,_,c,jk,d,tl,A,B,h1,h2,_⟩:=h
 rw [cell_of_row w b _ _ e (0,0) h1]
 simp only [List.getElem?_toArray]
 rw [List.getElem?_eq_getElem (by rw [h2];exact hi)]
 rfl
theorem gap.wipe (h:gap e r w b cap n kept j [] S) {zs:List Value} (hz:zs.length=j * r.n) {p:Nat} (hp:p=kept.length * r.n) :
    kg e r (setCells w b p zs) (.slice (some ⟨b,0,none⟩) kept.length cap) kept S∧Touch (fun k=>k=b) w (setCells w b p zs):=by
 obtain ⟨a1,a2,a3,a4,a5,a6,c,jk,d,tl,A,B,h1,h2,h3,h4,h5,h6,h7,h8⟩:=h
 obtain rfl:d=[]:=h5
 have hcl:=kAc h4
 refine ⟨⟨a1,.inr ⟨b,cap,_,c,zs++tl,rfl,by simp at a3;omega,a5,?_,rfl,?_,a6,?_⟩⟩,jq _ _ _ _⟩
 · exact yI zs jk c tl w b p qW (by rw [hcl,hp]) (by rw [h3,hz])
 · rw [← h2];simp;omega
 exact yS (yO (kAr h4) (fun k hk=>kBx zs w b p k (h6 k hk.1).2)) (fun k hk=>h6 k hk.1)
theorem gap.done (h:gap e r w b cap n kept 0 [] S):kg e r w (.slice (some ⟨b,0,none⟩) kept.length cap) kept S:=by
 have:=(h.wipe (zs:=[]) rQ rfl).1
 exact this
theorem kDd {P:Program} {t ty:TypeId} {z:Value} (ht:P.underlying t=some (.slice e)) (hv:∀ w,(zeroValue e).run P w=.ok z w) (h1:∀ u∈z.cells,u.oneCell'=true) (b o m c:Nat) (hm:0 < m)
    (hc:∀ j,j < (Builtin.zeroCells z.cells m).size→(w.cell? ⟨b,o + j,none⟩).isSome=true) (hf:∀ j,j < (Builtin.zeroCells z.cells m).size→w.frozen? ⟨b,o + j,none⟩=false) (hz0:0 < z.cells.size) :
    (Builtin.clear_ #[t] ty #[.slice (some ⟨b,o,none⟩) m c]).run P w=.ok (.tuple #[]) (setCells w b o (Builtin.zeroCells z.cells m).toList):=by
 have hone:∀ v∈(Builtin.zeroCells z.cells m).toList,v.oneCell'=true:=by
  intro v hv'
  simp only [Builtin.zeroCells,Array.toList_map,List.mem_map] at hv'
  obtain ⟨i,_,rfl⟩:=hv'
  have hlt:=Nat.mod_lt i hz0
  rw [getElem!_pos z.cells _ hlt]
  exact h1 _ (Array.getElem_mem hlt)
 have hst:=run_storeCells_cells (P:=P) b o (Builtin.zeroCells z.cells m).toList 0 w qR rA hone
 simp only [Nat.add_zero] at hst
 obtain ⟨q,rfl⟩:∃ q,m=q + 1:=⟨m - 1,by omega⟩
 rw [← kLr]
 simp [Builtin.clear_,run_underlying ht,hv,hst]
theorem zero_of_info {P:Program} {i:TypeInfo} {z:Value} (hi:P.info? e=some i) (hz:i.zero=some z):∀ w,(zeroValue e).run P w=.ok z w:=by
 intro w
 simp [zeroValue,typeInfo,hi,hz]
theorem gap.kDd {P:Program} {t ty:TypeId} {z:Value} {bytes:Nat} (h:gap e r w b cap n kept j [] S) (hj:0 < j) (ht:P.underlying t=some (.slice e)) (hinf:(P.info? e).map (fun i=>(i.zero,i.size,i.bytes))=some (some z,r.n,bytes)) (hzs:z.cells.size=r.n) (hn:0 < r.n) (hone:∀ u∈z.cells,u.oneCell'=true)
    {p c:Nat} (hp:p=kept.length * r.n) :
    ∃ w',(Builtin.clear_ #[t] ty #[.slice (some ⟨b,p,none⟩) j c]).run P w=.ok (.tuple #[]) w'∧kg e r w' (.slice (some ⟨b,0,none⟩) kept.length cap) kept S∧Touch (fun k=>k=b) w w':=by
 obtain ⟨i,hi,hz,hsize,hbytes⟩:=info_parts hinf
 have hsz:(Builtin.zeroCells z.cells j).size=j * r.n:=by rw [size_zeroCells,hzs]
 have hl:=h.len
 have hroom:∀ q,q < j * r.n→p + q < cap * r.n:=by
  intro q hq
  have h1:(kept.length + j) * r.n≤cap * r.n:=Nat.mul_le_mul_right _ (by have:=hl.1;simp at this;omega)
  rw [Nat.add_mul] at h1;omega
 have hr:=Rep.kDd (P:=P) (ty:=ty) (w:=w) ht (zero_of_info hi hz) hone b p j c hj (fun q hq=>h.cells (hroom q (by rwa [hsz] at hq))) (fun q _=>h.frozen _) rP
 obtain ⟨h1,h2⟩:=h.wipe (zs:=(Builtin.zeroCells z.cells j).toList) (by simpa using hsz) hp
 exact ⟨_,hr,h1,h2⟩
theorem run_shift {P:Program} {t ty:TypeId} {i:TypeInfo} (ht:P.underlying t=some (.slice e)) (hi:P.info? e=some i) (hsize:i.size=r.n)
    (h:gap e r w b cap n kept j rest S) {ad:Addr} {c:Nat} (had:rest≠[]→ad=⟨b,(kept.length + j) * r.n,none⟩) (hn:0 < r.n) :
    ∃ w',(Builtin.append_ #[t,t] ty #[.slice (some ⟨b,0,none⟩) kept.length cap,.slice (some ad) rest.length c]).run P w=.ok (.slice (some ⟨b,0,none⟩) (kept.length + rest.length) cap) w' ∧
      gap e r w' b cap n (kept++rest) j [] S∧Touch (fun k=>k=b) w w':=by
 obtain ⟨a1,a2,a3,a4,a5,a6,cc,jk,d,tl,A,B,h1,h2,h3,h4,h5,h6,h7,h8⟩:=h
 by_cases hr0:rest=[]
 · subst hr0
   obtain rfl:d=[]:=h5
   refine ⟨w,?_,⟨by simpa using a1,by simp,by simpa using a3,a4,a5,a6,cc,jk,[],tl,A,B,by simpa using h1,by simpa using h2,h3,by simpa using h4,rfl,h6,h7,h8⟩,Touch.refl _ _⟩
   have hlc:kept.length≤cap:=by simp at a3;omega
   simp [Builtin.append_,run_underlying ht,sizeOf,typeInfo,hi,Builtin.lenOf,hlc,Builtin.firstCells,loadCells,loadCellsFrom,storeCells]
 obtain rfl:=had hr0
 have hcl:=kAc h4
 have hdl:=kAc h5
 have hne:0 < rest.length:=List.length_pos_iff.2 hr0
 have hcell:∀ q u,d[q]?=some u→w.cell? ((⟨b,(kept.length + j) * r.n,none⟩:Addr).add q)=some u:=by
  intro q u hq
  have hql:=(List.getElem?_eq_some_iff.1 hq).1
  have hadd:(⟨b,(kept.length + j) * r.n,none⟩:Addr).add q=⟨b,(kept.length + j) * r.n + q,none⟩:=mD
  rw [hadd,cell_of_row w b _ _ e (0,0) h1]
  simp only [List.getElem?_toArray]
  rw [List.getElem?_append_right (by rw [hcl,Nat.add_mul];omega),List.getElem?_append_right nP,List.getElem?_append_left nP]
  rw [← hq];congr 1;rw [hcl,h3,Nat.add_mul];omega
 have hfit:kept.length * i.size + d.length≤(cc++(jk++(d++tl))).toArray.size:=by simp [hsize,hcl];omega
 have hr:=run_append_room (P:=P) w t ty e i ht hi b kept.length cap _ h1 ⟨b,(kept.length + j) * r.n,none⟩ rest.length c d (by rw [hsize];exact hdl) hcell (row_one h5) rP hfit
 refine ⟨_,hr,?_,⟨rfl,rfl,rfl,by simp,fun k _ hk=>setRow_other w b k _ hk⟩⟩
 have oth:∀ X k,k≠b→(w.setRow b X).heap[k]?=w.heap[k]?:=fun X k hk=>setRow_other w b k _ hk
 have htk:(cc++(jk++(d++tl))).toArray.toList.take (kept.length * i.size)=cc:=by rw [hsize,← hcl];simp
 have hdr:(cc++(jk++(d++tl))).toArray.toList.drop (kept.length * i.size + d.length)=(jk++(d++tl)).drop d.length:=by rw [hsize,← hcl];simp
 rw [htk,hdr]
 have hjd:(jk++(d++tl)).drop d.length=(jk++d).drop d.length++tl:=by
  rw [← List.append_assoc,List.drop_append_of_le_length rQ]
 refine ⟨?_,by simp,by simp;omega,a4,a5,a6,cc++d,(jk++d).drop d.length,[],tl,(fun k=>A k∨B k),(fun _=>False),?_,?_,?_,?_,rfl,?_,fun _ h=>h.elim,fun _ _ h=>h⟩
 · intro y hy
   rcases List.mem_append.1 hy with hy | hy
   · exact a1 y hy
   exact a2 y hy
 · rw [setRow_heap w b _ _ e _ h1,hjd];simp
 · rw [← h2];simp;omega
 · simp [h3]
 · exact kBz (A:=A) (B:=B) (yO h4 (fun k hk=>oth _ k (h6 k hk).2)) (yO h5 (fun k hk=>oth _ k (h7 k hk).2)) (fun k hk=>.inl hk) (fun k hk=>.inr hk) (fun _ k h h'=>h8 k h h')
 rintro k (hk | hk)
 · exact h6 k hk
 exact h7 k hk
end
end Rep
end Go.Proofs.YtlfblpgkegeaeaaGreat

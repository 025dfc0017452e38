/-
  The laws' comparisons: each answers whether its two arguments are the same data. Printed by geneq.py.
-/
import Derived.Test.YtlfblpgkegeaeaaGreatProg
import Derived.Test.YtlfblpgkegeaeaaGreatTypes
import Derived.WalkLawsBesides
import Derived.BigQuiet
import Derived.Deep.QuietTactic
import Derived.StillTailTactics
set_option linter.unusedVariables false
set_option linter.unusedSimpArgs false
set_option linter.unnecessarySimpa false
set_option maxRecDepth 100000
set_option maxHeartbeats 4000000
namespace Go.Proofs.YtlfblpgkegeaeaaGreat
open Go.RowKit
theorem kOz {w:World} {va vb:Value} {x y:List ByteArray} (ha:(Rep.slice 9 Rep.str).raw w [va] x) (hb:(Rep.slice 9 Rep.str).raw w [vb] y) :
    Calls Tryz.prog 122 #[va,vb] w fun e w'=>e=.returned (.bool (decide (x=y)))∧Below w.heap.size w w':=by
 obtain ⟨aa,capa,rfl,la⟩:=Rep.sl ha
 obtain ⟨ab,capb,rfl,lb⟩:=Rep.sl hb
 go_enter Tryz.func122,Tryz.ntmps122
 by_cases hab:x.length=y.length
 · have hab':((x.length:Int) != (y.length:Int))=false:=rJ
   have HAB:=yD hab;clear hab
   go_wp2
   go_loopw [5] (fun i wr=>∃ k:Nat,k≤x.length∧i=.int .i64 k∧x.take k=y.take k∧Below w.heap.size w wr) (fun i _=>x.length - (intOf i).toNat)
   case atStart=>exact ⟨0,Nat.zero_le _,rfl,rfl,bR⟩
   obtain ⟨k,hk,rfl,htk,hbel⟩:=hrel
   by_cases hlt:k < x.length
   · have hlt2:k < y.length:=pY
     obtain ⟨ba,offa,rfl,c0,hr,A0⟩:=Rep.kAy (ha.below hbel) hlt rfl
     obtain ⟨bb,offb,rfl,d0,hr2,B0⟩:=Rep.kAy (hb.below hbel) hlt2 rfl
     obtain ⟨he,_⟩:=Rep.yQ hr
     obtain rfl:c0=_:=by simpa using he
     obtain ⟨he2,_⟩:=Rep.yQ hr2
     obtain rfl:d0=_:=by simpa using he2
     clear he he2 hr hr2
     by_cases hxy:x[k]=y[k]
     · have hne:(!x[k].toList==y[k].toList)=false:=by rw [kLb];simp [hxy]
       have HT:=yD (yC htk hlt hlt2 hxy);clear hxy htk
       go_wp2
       go_quiet (fail)
       go_wp2
       go_roundw
       case rel=>exact ⟨k + 1,by omega,by go_num,HT.out,below_drewN hbel _⟩
       simp [intOf];omega
     have hne:(!x[k].toList==y[k].toList)=true:=by rw [kLb];simp [hxy]
     have HT:=yD (zm hlt hlt2 hxy);clear hxy htk
     go_wp2
     go_quiet (fail)
     go_wp2
     go_ret
     exact ⟨kG rC,below_drewN hbel _⟩
   have HT:=yD (yx htk hlt HAB.out);clear htk
   go_wp2
   go_ret
   exact ⟨kG rC,hbel⟩
 have hab':((x.length:Int) != (y.length:Int))=true:=rG
 have HT:Hid (x≠y):=yD pX;clear hab
 go_wp2
 go_ret
 exact ⟨kG rC,bR⟩
theorem eqByteS_c {w:World} {va vb:Value} {x y:List UInt8} (ha:(Rep.slice 5 Rep.byte).raw w [va] x) (hb:(Rep.slice 5 Rep.byte).raw w [vb] y) :
    Calls Tryz.prog 60 #[va,vb] w fun e w'=>e=.returned (.bool (decide (x=y)))∧Below w.heap.size w w':=by
 obtain ⟨aa,capa,rfl,la⟩:=Rep.sl ha
 obtain ⟨ab,capb,rfl,lb⟩:=Rep.sl hb
 go_enter Tryz.func60,Tryz.ntmps60
 by_cases hab:x.length=y.length
 · have hab':((x.length:Int) != (y.length:Int))=false:=rJ
   have HAB:=yD hab;clear hab
   go_wp2
   go_loopw [5] (fun i wr=>∃ k:Nat,k≤x.length∧i=.int .i64 k∧x.take k=y.take k∧Below w.heap.size w wr) (fun i _=>x.length - (intOf i).toNat)
   case atStart=>exact ⟨0,Nat.zero_le _,rfl,rfl,bR⟩
   obtain ⟨k,hk,rfl,htk,hbel⟩:=hrel
   by_cases hlt:k < x.length
   · have hlt2:k < y.length:=pY
     obtain ⟨ba,offa,rfl,c0,hr,A0⟩:=Rep.kAy (ha.below hbel) hlt rfl
     obtain ⟨bb,offb,rfl,d0,hr2,B0⟩:=Rep.kAy (hb.below hbel) hlt2 rfl
     obtain he:=Rep.kCn hr
     obtain rfl:c0=_:=by simpa using he
     obtain he2:=Rep.kCn hr2
     obtain rfl:d0=_:=by simpa using he2
     clear he he2 hr hr2
     by_cases hxy:x[k]=y[k]
     · have hne:((x[k].toNat:Int) != (y[k].toNat:Int))=false:=rH
       have HT:=yD (yC htk hlt hlt2 hxy);clear hxy htk
       go_wp2
       go_quiet (fail)
       go_wp2
       go_roundw
       case rel=>exact ⟨k + 1,by omega,by go_num,HT.out,below_drewN hbel _⟩
       simp [intOf];omega
     have hne:((x[k].toNat:Int) != (y[k].toNat:Int))=true:=by simp only [bne_iff_ne,ne_eq];exact fun q=>hxy (u8_inj q)
     have HT:=yD (zm hlt hlt2 hxy);clear hxy htk
     go_wp2
     go_quiet (fail)
     go_wp2
     go_ret
     exact ⟨kG rC,below_drewN hbel _⟩
   have HT:=yD (yx htk hlt HAB.out);clear htk
   go_wp2
   go_ret
   exact ⟨kG rC,hbel⟩
 have hab':((x.length:Int) != (y.length:Int))=true:=rG
 have HT:Hid (x≠y):=yD pX;clear hab
 go_wp2
 go_ret
 exact ⟨kG rC,bR⟩
theorem kCm {w:World} {ca cb:List Value} {x y:kW} (ha:kL.raw w ca x) (hb:kL.raw w cb y) :
    Calls Tryz.prog 59 #[.agg ca.toArray,.agg cb.toArray] w fun e w'=>e=.returned (.bool (decide (x=y)))∧Below w.heap.size w w':=by
 obtain ⟨av0,rfl,a_0⟩:=kM ha
 obtain ⟨bv0,rfl,b_0⟩:=kM hb
 obtain ⟨x0,rfl⟩:∃ x0,x0=x:=⟨_,rfl⟩
 obtain ⟨y0,rfl⟩:∃ y0,y0=y:=⟨_,rfl⟩
 clear ha hb
 go_enter Tryz.func59,Tryz.ntmps59
 go_wp2_with fail
 refine (kOz ((a_0.alloc _).alloc _) ((b_0.alloc _).alloc _)).mono ?_
 rintro e w1 ⟨rfl,hb1⟩
 have D1:=hb1
 have E1:Below w.heap.size w w1:=((bR.alloc nL _).alloc rQ _).trans (hb1.mono rG)
 obtain ⟨hc1,hf1⟩:=jO D1;clear hb1
 go_wp2
 · go_ret
   exact ⟨kG dZ,E1⟩
 go_ret
 exact ⟨kG (by have q0:(!decide (x0=y0))=false:=‹_›;simp at q0;simp [q0]),E1⟩
theorem eqNameS_c {w:World} {va vb:Value} {x y:List kW} (ha:(Rep.slice 64 kL).raw w [va] x) (hb:(Rep.slice 64 kL).raw w [vb] y) :
    Calls Tryz.prog 58 #[va,vb] w fun e w'=>e=.returned (.bool (decide (x=y)))∧Below w.heap.size w w':=by
 obtain ⟨aa,capa,rfl,la⟩:=Rep.sl ha
 obtain ⟨ab,capb,rfl,lb⟩:=Rep.sl hb
 go_enter Tryz.func58,Tryz.ntmps58
 by_cases hab:x.length=y.length
 · have hab':((x.length:Int) != (y.length:Int))=false:=rJ
   have HAB:=yD hab;clear hab
   go_wp2
   go_loopw [5] (fun i wr=>∃ k:Nat,k≤x.length∧i=.int .i64 k∧x.take k=y.take k∧Below w.heap.size w wr) (fun i _=>x.length - (intOf i).toNat)
   case atStart=>exact ⟨0,Nat.zero_le _,rfl,rfl,bR⟩
   obtain ⟨k,hk,rfl,htk,hbel⟩:=hrel
   by_cases hlt:k < x.length
   · have hlt2:k < y.length:=pY
     obtain ⟨ba,offa,rfl,c0,hr,A0⟩:=Rep.kAy (ha.below hbel) hlt rfl
     obtain ⟨bb,offb,rfl,d0,hr2,B0⟩:=Rep.kAy (hb.below hbel) hlt2 rfl
     go_wp2
     go_still_tail 8,rF
     change wpList _ _ _ _ _ wr.drew
     clear A0 B0
     by_cases hxy:x[k]=y[k]
     · have hde:decide (x[k]=y[k])=true:=rH
       have HT:=yD (yC htk hlt hlt2 hxy);clear hxy htk
       have C:=kCm hr.drew hr2.drew
       rw [hde] at C
       have HC:=yD C;clear C hde hr hr2
       go_wp2_with (go_at_call 59;refine HC.out.mono ?_;rintro e w' ⟨rfl,hb2⟩)
       go_roundw
       case rel=>exact ⟨k + 1,by omega,by go_num,HT.out,hbel.trans (bR.drew.trans (hb2.mono hbel.size))⟩
       simp [intOf];omega
     have hde:decide (x[k]=y[k])=false:=rH
     have HT:=yD (zm hlt hlt2 hxy);clear hxy htk
     have C:=kCm hr.drew hr2.drew
     rw [hde] at C
     have HC:=yD C;clear C hde hr hr2
     go_wp2_with (go_at_call 59;refine HC.out.mono ?_;rintro e w' ⟨rfl,hb2⟩)
     go_ret
     exact ⟨kG rC,hbel.trans (bR.drew.trans (hb2.mono hbel.size))⟩
   have HT:=yD (yx htk hlt HAB.out);clear htk
   go_wp2
   go_ret
   exact ⟨kG rC,hbel⟩
 have hab':((x.length:Int) != (y.length:Int))=true:=rG
 have HT:Hid (x≠y):=yD pX;clear hab
 go_wp2
 go_ret
 exact ⟨kG rC,bR⟩
theorem kHr {w:World} {ca cb:List Value} {x y:kZ} (ha:kF.raw w ca x) (hb:kF.raw w cb y) :
    Calls Tryz.prog 119 #[.agg ca.toArray,.agg cb.toArray] w fun e w'=>e=.returned (.bool (decide (x=y)))∧Below w.heap.size w w':=by
 obtain ⟨av0,rfl,a_0,a_1,a_2,a_3⟩:=jX ha
 obtain ⟨bv0,rfl,b_0,b_1,b_2,b_3⟩:=jX hb
 obtain ⟨x0,x1,x2⟩:=x
 obtain ⟨y0,y1,y2⟩:=y
 clear ha hb a_1 b_1 a_2 b_2 a_3 b_3
 go_enter Tryz.func119,Tryz.ntmps119
 go_wp2_with fail
 refine (kCm ((a_0.alloc _).alloc _) ((b_0.alloc _).alloc _)).mono ?_
 rintro e w1 ⟨rfl,hb1⟩
 have D1:=hb1
 have E1:Below w.heap.size w w1:=((bR.alloc nL _).alloc rQ _).trans (hb1.mono rG)
 obtain ⟨hc1,hf1⟩:=jO D1;clear hb1
 go_wp2
 · go_ret
   exact ⟨kG dZ,E1⟩
 · go_ret
   exact ⟨kG fJ,E1⟩
 · go_ret
   exact ⟨kG fK,E1⟩
 go_ret
 exact ⟨kG (by have q0:(!decide (x0=y0))=false:=‹_›;simp at q0;have q1:(x1 != y1)=false:=‹_›;simp at q1;have q2:(x2 != y2)=false:=‹_›;simp at q2;simp [q0,q1,q2]),E1⟩
theorem kOf {w:World} {va vb:Value} {x y:List kZ} (ha:(Rep.slice 184 kF).raw w [va] x) (hb:(Rep.slice 184 kF).raw w [vb] y) :
    Calls Tryz.prog 55 #[va,vb] w fun e w'=>e=.returned (.bool (decide (x=y)))∧Below w.heap.size w w':=by
 obtain ⟨aa,capa,rfl,la⟩:=Rep.sl ha
 obtain ⟨ab,capb,rfl,lb⟩:=Rep.sl hb
 go_enter Tryz.func55,Tryz.ntmps55
 by_cases hab:x.length=y.length
 · have hab':((x.length:Int) != (y.length:Int))=false:=rJ
   have HAB:=yD hab;clear hab
   go_wp2
   go_loopw [5] (fun i wr=>∃ k:Nat,k≤x.length∧i=.int .i64 k∧x.take k=y.take k∧Below w.heap.size w wr) (fun i _=>x.length - (intOf i).toNat)
   case atStart=>exact ⟨0,Nat.zero_le _,rfl,rfl,bR⟩
   obtain ⟨k,hk,rfl,htk,hbel⟩:=hrel
   by_cases hlt:k < x.length
   · have hlt2:k < y.length:=pY
     obtain ⟨ba,offa,rfl,c0,c1,c2,hr,A0,A1,A2⟩:=Rep.kBg (ha.below hbel) hlt rfl
     obtain ⟨bb,offb,rfl,d0,d1,d2,hr2,B0,B1,B2⟩:=Rep.kBg (hb.below hbel) hlt2 rfl
     go_wp2
     go_still_tail 8,rF
     change wpList _ _ _ _ _ wr.drew
     clear A0 A1 A2 B0 B1 B2
     by_cases hxy:x[k]=y[k]
     · have hde:decide (x[k]=y[k])=true:=rH
       have HT:=yD (yC htk hlt hlt2 hxy);clear hxy htk
       have C:=kHr hr.drew hr2.drew
       rw [hde] at C
       have HC:=yD C;clear C hde hr hr2
       go_wp2_with (go_at_call 119;refine HC.out.mono ?_;rintro e w' ⟨rfl,hb2⟩)
       go_roundw
       case rel=>exact ⟨k + 1,by omega,by go_num,HT.out,hbel.trans (bR.drew.trans (hb2.mono hbel.size))⟩
       simp [intOf];omega
     have hde:decide (x[k]=y[k])=false:=rH
     have HT:=yD (zm hlt hlt2 hxy);clear hxy htk
     have C:=kHr hr.drew hr2.drew
     rw [hde] at C
     have HC:=yD C;clear C hde hr hr2
     go_wp2_with (go_at_call 119;refine HC.out.mono ?_;rintro e w' ⟨rfl,hb2⟩)
     go_ret
     exact ⟨kG rC,hbel.trans (bR.drew.trans (hb2.mono hbel.size))⟩
   have HT:=yD (yx htk hlt HAB.out);clear htk
   go_wp2
   go_ret
   exact ⟨kG rC,hbel⟩
 have hab':((x.length:Int) != (y.length:Int))=true:=rG
 have HT:Hid (x≠y):=yD pX;clear hab
 go_wp2
 go_ret
 exact ⟨kG rC,bR⟩
theorem kVc {w:World} {ca cb:List Value} {x y:yA} (ha:kX.raw w ca x) (hb:kX.raw w cb y) :
    Calls Tryz.prog 118 #[.agg ca.toArray,.agg cb.toArray] w fun e w'=>e=.returned (.bool (decide (x=y)))∧Below w.heap.size w w':=by
 obtain ⟨av0,rfl,a_0,a_1,a_2,a_3⟩:=yg ha
 obtain ⟨bv0,rfl,b_0,b_1,b_2,b_3⟩:=yg hb
 obtain ⟨x0,x1,x2⟩:=x
 obtain ⟨y0,y1,y2⟩:=y
 clear ha hb a_1 b_1 a_2 b_2 a_3 b_3
 go_enter Tryz.func118,Tryz.ntmps118
 go_wp2_with fail
 refine (kCm ((a_0.alloc _).alloc _) ((b_0.alloc _).alloc _)).mono ?_
 rintro e w1 ⟨rfl,hb1⟩
 have D1:=hb1
 have E1:Below w.heap.size w w1:=((bR.alloc nL _).alloc rQ _).trans (hb1.mono rG)
 obtain ⟨hc1,hf1⟩:=jO D1;clear hb1
 go_wp2
 · go_ret
   exact ⟨kG dZ,E1⟩
 · go_ret
   exact ⟨kG fJ,E1⟩
 · go_ret
   exact ⟨kG fK,E1⟩
 go_ret
 exact ⟨kG (by have q0:(!decide (x0=y0))=false:=‹_›;simp at q0;have q1:(x1 != y1)=false:=‹_›;simp at q1;have q2:(x2 != y2)=false:=‹_›;simp at q2;simp [q0,q1,q2]),E1⟩
theorem eqRouteS_c {w:World} {va vb:Value} {x y:List yA} (ha:(Rep.slice 181 kX).raw w [va] x) (hb:(Rep.slice 181 kX).raw w [vb] y) :
    Calls Tryz.prog 54 #[va,vb] w fun e w'=>e=.returned (.bool (decide (x=y)))∧Below w.heap.size w w':=by
 obtain ⟨aa,capa,rfl,la⟩:=Rep.sl ha
 obtain ⟨ab,capb,rfl,lb⟩:=Rep.sl hb
 go_enter Tryz.func54,Tryz.ntmps54
 by_cases hab:x.length=y.length
 · have hab':((x.length:Int) != (y.length:Int))=false:=rJ
   have HAB:=yD hab;clear hab
   go_wp2
   go_loopw [5] (fun i wr=>∃ k:Nat,k≤x.length∧i=.int .i64 k∧x.take k=y.take k∧Below w.heap.size w wr) (fun i _=>x.length - (intOf i).toNat)
   case atStart=>exact ⟨0,Nat.zero_le _,rfl,rfl,bR⟩
   obtain ⟨k,hk,rfl,htk,hbel⟩:=hrel
   by_cases hlt:k < x.length
   · have hlt2:k < y.length:=pY
     obtain ⟨ba,offa,rfl,c0,c1,c2,hr,A0,A1,A2⟩:=Rep.kBg (ha.below hbel) hlt rfl
     obtain ⟨bb,offb,rfl,d0,d1,d2,hr2,B0,B1,B2⟩:=Rep.kBg (hb.below hbel) hlt2 rfl
     go_wp2
     go_still_tail 8,rF
     change wpList _ _ _ _ _ wr.drew
     clear A0 A1 A2 B0 B1 B2
     by_cases hxy:x[k]=y[k]
     · have hde:decide (x[k]=y[k])=true:=rH
       have HT:=yD (yC htk hlt hlt2 hxy);clear hxy htk
       have C:=kVc hr.drew hr2.drew
       rw [hde] at C
       have HC:=yD C;clear C hde hr hr2
       go_wp2_with (go_at_call 118;refine HC.out.mono ?_;rintro e w' ⟨rfl,hb2⟩)
       go_roundw
       case rel=>exact ⟨k + 1,by omega,by go_num,HT.out,hbel.trans (bR.drew.trans (hb2.mono hbel.size))⟩
       simp [intOf];omega
     have hde:decide (x[k]=y[k])=false:=rH
     have HT:=yD (zm hlt hlt2 hxy);clear hxy htk
     have C:=kVc hr.drew hr2.drew
     rw [hde] at C
     have HC:=yD C;clear C hde hr hr2
     go_wp2_with (go_at_call 118;refine HC.out.mono ?_;rintro e w' ⟨rfl,hb2⟩)
     go_ret
     exact ⟨kG rC,hbel.trans (bR.drew.trans (hb2.mono hbel.size))⟩
   have HT:=yD (yx htk hlt HAB.out);clear htk
   go_wp2
   go_ret
   exact ⟨kG rC,hbel⟩
 have hab':((x.length:Int) != (y.length:Int))=true:=rG
 have HT:Hid (x≠y):=yD pX;clear hab
 go_wp2
 go_ret
 exact ⟨kG rC,bR⟩
theorem kKl {w:World} {ca cb:List Value} {x y:jP} (ha:kQ.raw w ca x) (hb:kQ.raw w cb y) :
    Calls Tryz.prog 220 #[.agg ca.toArray,.agg cb.toArray] w fun e w'=>e=.returned (.bool (decide (x=y)))∧Below w.heap.size w w':=by
 obtain ⟨rfl,a_0,a_1,a_2⟩:=kAa ha
 obtain ⟨rfl,b_0,b_1,b_2⟩:=kAa hb
 obtain ⟨x0,x1,x2⟩:=x
 obtain ⟨y0,y1,y2⟩:=y
 clear ha hb a_0 b_0 a_1 b_1 a_2 b_2
 go_enter Tryz.func220,Tryz.ntmps220
 go_wp2
 · go_ret
   exact ⟨kG fM,(bR.alloc nL _).alloc rQ _⟩
 · go_ret
   exact ⟨kG fJ,(bR.alloc nL _).alloc rQ _⟩
 · go_ret
   exact ⟨kG fK,(bR.alloc nL _).alloc rQ _⟩
 go_ret
 exact ⟨kG (by have q0:(x0 != y0)=false:=‹_›;simp at q0;have q1:(x1 != y1)=false:=‹_›;simp at q1;have q2:(x2 != y2)=false:=‹_›;simp at q2;simp [q0,q1,q2]),(bR.alloc nL _).alloc rQ _⟩
theorem kSl {w:World} {va vb:Value} {x y:List jP} (ha:(Rep.slice 123 kQ).raw w [va] x) (hb:(Rep.slice 123 kQ).raw w [vb] y) :
    Calls Tryz.prog 186 #[va,vb] w fun e w'=>e=.returned (.bool (decide (x=y)))∧Below w.heap.size w w':=by
 obtain ⟨aa,capa,rfl,la⟩:=Rep.sl ha
 obtain ⟨ab,capb,rfl,lb⟩:=Rep.sl hb
 go_enter Tryz.func186,Tryz.ntmps186
 by_cases hab:x.length=y.length
 · have hab':((x.length:Int) != (y.length:Int))=false:=rJ
   have HAB:=yD hab;clear hab
   go_wp2
   go_loopw [5] (fun i wr=>∃ k:Nat,k≤x.length∧i=.int .i64 k∧x.take k=y.take k∧Below w.heap.size w wr) (fun i _=>x.length - (intOf i).toNat)
   case atStart=>exact ⟨0,Nat.zero_le _,rfl,rfl,bR⟩
   obtain ⟨k,hk,rfl,htk,hbel⟩:=hrel
   by_cases hlt:k < x.length
   · have hlt2:k < y.length:=pY
     obtain ⟨ba,offa,rfl,c0,c1,c2,hr,A0,A1,A2⟩:=Rep.kBg (ha.below hbel) hlt rfl
     obtain ⟨bb,offb,rfl,d0,d1,d2,hr2,B0,B1,B2⟩:=Rep.kBg (hb.below hbel) hlt2 rfl
     go_wp2
     go_still_tail 8,rF
     change wpList _ _ _ _ _ wr.drew
     clear A0 A1 A2 B0 B1 B2
     by_cases hxy:x[k]=y[k]
     · have hde:decide (x[k]=y[k])=true:=rH
       have HT:=yD (yC htk hlt hlt2 hxy);clear hxy htk
       have C:=kKl hr.drew hr2.drew
       rw [hde] at C
       have HC:=yD C;clear C hde hr hr2
       go_wp2_with (go_at_call 220;refine HC.out.mono ?_;rintro e w' ⟨rfl,hb2⟩)
       go_roundw
       case rel=>exact ⟨k + 1,by omega,by go_num,HT.out,hbel.trans (bR.drew.trans (hb2.mono hbel.size))⟩
       simp [intOf];omega
     have hde:decide (x[k]=y[k])=false:=rH
     have HT:=yD (zm hlt hlt2 hxy);clear hxy htk
     have C:=kKl hr.drew hr2.drew
     rw [hde] at C
     have HC:=yD C;clear C hde hr hr2
     go_wp2_with (go_at_call 220;refine HC.out.mono ?_;rintro e w' ⟨rfl,hb2⟩)
     go_ret
     exact ⟨kG rC,hbel.trans (bR.drew.trans (hb2.mono hbel.size))⟩
   have HT:=yD (yx htk hlt HAB.out);clear htk
   go_wp2
   go_ret
   exact ⟨kG rC,hbel⟩
 have hab':((x.length:Int) != (y.length:Int))=true:=rG
 have HT:Hid (x≠y):=yD pX;clear hab
 go_wp2
 go_ret
 exact ⟨kG rC,bR⟩
theorem kEp {w:World} {ca cb:List Value} {x y:kS} (ha:kE.raw w ca x) (hb:kE.raw w cb y) :
    Calls Tryz.prog 116 #[.agg ca.toArray,.agg cb.toArray] w fun e w'=>e=.returned (.bool (decide (x=y)))∧Below w.heap.size w w':=by
 obtain ⟨av0,av1,rfl,a_0,a_1,a_2,a_3⟩:=jN ha
 obtain ⟨bv0,bv1,rfl,b_0,b_1,b_2,b_3⟩:=jN hb
 obtain ⟨x0,x1,x2⟩:=x
 obtain ⟨y0,y1,y2⟩:=y
 clear ha hb a_1 b_1 a_3 b_3
 go_enter Tryz.func116,Tryz.ntmps116
 go_wp2_with fail
 refine (kCm ((a_0.alloc _).alloc _) ((b_0.alloc _).alloc _)).mono ?_
 rintro e w1 ⟨rfl,hb1⟩
 have D1:=hb1
 have E1:Below w.heap.size w w1:=((bR.alloc nL _).alloc rQ _).trans (hb1.mono rG)
 obtain ⟨hc1,hf1⟩:=jO D1;clear hb1
 go_wp2_with fail
 · go_ret
   exact ⟨kG dZ,E1⟩
 refine (kSl (a_2.below E1) (b_2.below E1)).mono ?_
 rintro e w2 ⟨rfl,hb2⟩
 have D2:=(tQ D1 hb2)
 have E2:=(tQ E1 hb2)
 clear hc1 hf1 hb2
 obtain ⟨hc2,hf2⟩:=jO D2
 go_wp2
 · go_ret
   exact ⟨kG fA,E2⟩
 · go_ret
   exact ⟨kG fK,E2⟩
 go_ret
 exact ⟨kG (by have q0:(!decide (x0=y0))=false:=‹_›;simp at q0;have q1:(!decide (x1=y1))=false:=‹_›;simp at q1;have q2:(x2 != y2)=false:=‹_›;simp at q2;simp [q0,q1,q2]),E2⟩
theorem kIq {w:World} {va vb:Value} {x y:List kS} (ha:(Rep.slice 175 kE).raw w [va] x) (hb:(Rep.slice 175 kE).raw w [vb] y) :
    Calls Tryz.prog 52 #[va,vb] w fun e w'=>e=.returned (.bool (decide (x=y)))∧Below w.heap.size w w':=by
 obtain ⟨aa,capa,rfl,la⟩:=Rep.sl ha
 obtain ⟨ab,capb,rfl,lb⟩:=Rep.sl hb
 go_enter Tryz.func52,Tryz.ntmps52
 by_cases hab:x.length=y.length
 · have hab':((x.length:Int) != (y.length:Int))=false:=rJ
   have HAB:=yD hab;clear hab
   go_wp2
   go_loopw [5] (fun i wr=>∃ k:Nat,k≤x.length∧i=.int .i64 k∧x.take k=y.take k∧Below w.heap.size w wr) (fun i _=>x.length - (intOf i).toNat)
   case atStart=>exact ⟨0,Nat.zero_le _,rfl,rfl,bR⟩
   obtain ⟨k,hk,rfl,htk,hbel⟩:=hrel
   by_cases hlt:k < x.length
   · have hlt2:k < y.length:=pY
     obtain ⟨ba,offa,rfl,c0,c1,c2,hr,A0,A1,A2⟩:=Rep.kBg (ha.below hbel) hlt rfl
     obtain ⟨bb,offb,rfl,d0,d1,d2,hr2,B0,B1,B2⟩:=Rep.kBg (hb.below hbel) hlt2 rfl
     go_wp2
     go_still_tail 8,rF
     change wpList _ _ _ _ _ wr.drew
     clear A0 A1 A2 B0 B1 B2
     by_cases hxy:x[k]=y[k]
     · have hde:decide (x[k]=y[k])=true:=rH
       have HT:=yD (yC htk hlt hlt2 hxy);clear hxy htk
       have C:=kEp hr.drew hr2.drew
       rw [hde] at C
       have HC:=yD C;clear C hde hr hr2
       go_wp2_with (go_at_call 116;refine HC.out.mono ?_;rintro e w' ⟨rfl,hb2⟩)
       go_roundw
       case rel=>exact ⟨k + 1,by omega,by go_num,HT.out,hbel.trans (bR.drew.trans (hb2.mono hbel.size))⟩
       simp [intOf];omega
     have hde:decide (x[k]=y[k])=false:=rH
     have HT:=yD (zm hlt hlt2 hxy);clear hxy htk
     have C:=kEp hr.drew hr2.drew
     rw [hde] at C
     have HC:=yD C;clear C hde hr hr2
     go_wp2_with (go_at_call 116;refine HC.out.mono ?_;rintro e w' ⟨rfl,hb2⟩)
     go_ret
     exact ⟨kG rC,hbel.trans (bR.drew.trans (hb2.mono hbel.size))⟩
   have HT:=yD (yx htk hlt HAB.out);clear htk
   go_wp2
   go_ret
   exact ⟨kG rC,hbel⟩
 have hab':((x.length:Int) != (y.length:Int))=true:=rG
 have HT:Hid (x≠y):=yD pX;clear hab
 go_wp2
 go_ret
 exact ⟨kG rC,bR⟩
theorem kKk {w:World} {ca cb:List Value} {x y:jK} (ha:kJ.raw w ca x) (hb:kJ.raw w cb y) :
    Calls Tryz.prog 117 #[.agg ca.toArray,.agg cb.toArray] w fun e w'=>e=.returned (.bool (decide (x=y)))∧Below w.heap.size w w':=by
 obtain ⟨av0,rfl,a_0,a_1,a_2⟩:=yt ha
 obtain ⟨bv0,rfl,b_0,b_1,b_2⟩:=yt hb
 obtain ⟨x0,x1⟩:=x
 obtain ⟨y0,y1⟩:=y
 clear ha hb a_1 b_1 a_2 b_2
 go_enter Tryz.func117,Tryz.ntmps117
 go_wp2_with fail
 refine (kCm ((a_0.alloc _).alloc _) ((b_0.alloc _).alloc _)).mono ?_
 rintro e w1 ⟨rfl,hb1⟩
 have D1:=hb1
 have E1:Below w.heap.size w w1:=((bR.alloc nL _).alloc rQ _).trans (hb1.mono rG)
 obtain ⟨hc1,hf1⟩:=jO D1;clear hb1
 go_wp2
 · go_ret
   exact ⟨kG dZ,E1⟩
 · go_ret
   exact ⟨kG fJ,E1⟩
 go_ret
 exact ⟨kG cO,E1⟩
theorem kSk {w:World} {va vb:Value} {x y:List jK} (ha:(Rep.slice 178 kJ).raw w [va] x) (hb:(Rep.slice 178 kJ).raw w [vb] y) :
    Calls Tryz.prog 53 #[va,vb] w fun e w'=>e=.returned (.bool (decide (x=y)))∧Below w.heap.size w w':=by
 obtain ⟨aa,capa,rfl,la⟩:=Rep.sl ha
 obtain ⟨ab,capb,rfl,lb⟩:=Rep.sl hb
 go_enter Tryz.func53,Tryz.ntmps53
 by_cases hab:x.length=y.length
 · have hab':((x.length:Int) != (y.length:Int))=false:=rJ
   have HAB:=yD hab;clear hab
   go_wp2
   go_loopw [5] (fun i wr=>∃ k:Nat,k≤x.length∧i=.int .i64 k∧x.take k=y.take k∧Below w.heap.size w wr) (fun i _=>x.length - (intOf i).toNat)
   case atStart=>exact ⟨0,Nat.zero_le _,rfl,rfl,bR⟩
   obtain ⟨k,hk,rfl,htk,hbel⟩:=hrel
   by_cases hlt:k < x.length
   · have hlt2:k < y.length:=pY
     obtain ⟨ba,offa,rfl,c0,c1,hr,A0,A1⟩:=Rep.kEk (ha.below hbel) hlt rfl
     obtain ⟨bb,offb,rfl,d0,d1,hr2,B0,B1⟩:=Rep.kEk (hb.below hbel) hlt2 rfl
     go_wp2
     go_still_tail 8,rF
     change wpList _ _ _ _ _ wr.drew
     clear A0 A1 B0 B1
     by_cases hxy:x[k]=y[k]
     · have hde:decide (x[k]=y[k])=true:=rH
       have HT:=yD (yC htk hlt hlt2 hxy);clear hxy htk
       have C:=kKk hr.drew hr2.drew
       rw [hde] at C
       have HC:=yD C;clear C hde hr hr2
       go_wp2_with (go_at_call 117;refine HC.out.mono ?_;rintro e w' ⟨rfl,hb2⟩)
       go_roundw
       case rel=>exact ⟨k + 1,by omega,by go_num,HT.out,hbel.trans (bR.drew.trans (hb2.mono hbel.size))⟩
       simp [intOf];omega
     have hde:decide (x[k]=y[k])=false:=rH
     have HT:=yD (zm hlt hlt2 hxy);clear hxy htk
     have C:=kKk hr.drew hr2.drew
     rw [hde] at C
     have HC:=yD C;clear C hde hr hr2
     go_wp2_with (go_at_call 117;refine HC.out.mono ?_;rintro e w' ⟨rfl,hb2⟩)
     go_ret
     exact ⟨kG rC,hbel.trans (bR.drew.trans (hb2.mono hbel.size))⟩
   have HT:=yD (yx htk hlt HAB.out);clear htk
   go_wp2
   go_ret
   exact ⟨kG rC,hbel⟩
 have hab':((x.length:Int) != (y.length:Int))=true:=rG
 have HT:Hid (x≠y):=yD pX;clear hab
 go_wp2
 go_ret
 exact ⟨kG rC,bR⟩
theorem kVx {w:World} {ca cb:List Value} {x y:kEb} (ha:kCh.raw w ca x) (hb:kCh.raw w cb y) :
    Calls Tryz.prog 196 #[.agg ca.toArray,.agg cb.toArray] w fun e w'=>e=.returned (.bool (decide (x=y)))∧Below w.heap.size w w':=by
 obtain ⟨av0,rfl,a_0,a_1,a_2,a_3,a_4⟩:=kGc ha
 obtain ⟨bv0,rfl,b_0,b_1,b_2,b_3,b_4⟩:=kGc hb
 obtain ⟨x0,x1,x2,x3⟩:=x
 obtain ⟨y0,y1,y2,y3⟩:=y
 clear ha hb a_1 b_1 a_2 b_2 a_3 b_3 a_4 b_4
 go_enter Tryz.func196,Tryz.ntmps196
 go_wp2_with fail
 refine (kCm ((a_0.alloc _).alloc _) ((b_0.alloc _).alloc _)).mono ?_
 rintro e w1 ⟨rfl,hb1⟩
 have D1:=hb1
 have E1:Below w.heap.size w w1:=((bR.alloc nL _).alloc rQ _).trans (hb1.mono rG)
 obtain ⟨hc1,hf1⟩:=jO D1;clear hb1
 go_wp2
 · go_ret
   exact ⟨kG dZ,E1⟩
 · go_ret
   exact ⟨kG fJ,E1⟩
 · go_ret
   exact ⟨kG fK,E1⟩
 · go_ret
   exact ⟨kG (by have q:(x3 != y3)=true:=‹_›;simp at q;simp [q]),E1⟩
 go_ret
 exact ⟨kG (by have q0:(!decide (x0=y0))=false:=‹_›;simp at q0;have q1:(x1 != y1)=false:=‹_›;simp at q1;have q2:(x2 != y2)=false:=‹_›;simp at q2;have q3:(x3 != y3)=false:=‹_›;simp at q3;simp [q0,q1,q2,q3]),E1⟩
theorem kIr {w:World} {ca cb:List Value} {x y:jJ} (ha:kP.raw w ca x) (hb:kP.raw w cb y) :
    Calls Tryz.prog 15 #[.agg ca.toArray,.agg cb.toArray] w fun e w'=>e=.returned (.bool (decide (x=y)))∧Below w.heap.size w w':=by
 obtain ⟨av0,av1,av2,rfl,a_0,a_1,a_2,a_3,a_4,a_5,a_6⟩:=kY ha
 obtain ⟨bv0,bv1,bv2,rfl,b_0,b_1,b_2,b_3,b_4,b_5,b_6⟩:=kY hb
 obtain ⟨x0,x1,x2,x3,x4⟩:=x
 obtain ⟨y0,y1,y2,y3,y4⟩:=y
 clear ha hb a_1 b_1 a_4 b_4 a_5 b_5 a_6 b_6
 go_enter Tryz.func15,Tryz.ntmps15
 go_wp2_with fail
 refine (kCm ((a_0.alloc _).alloc _) ((b_0.alloc _).alloc _)).mono ?_
 rintro e w1 ⟨rfl,hb1⟩
 have D1:=hb1
 have E1:Below w.heap.size w w1:=((bR.alloc nL _).alloc rQ _).trans (hb1.mono rG)
 obtain ⟨hc1,hf1⟩:=jO D1;clear hb1
 go_wp2_with fail
 · go_ret
   exact ⟨kG dZ,E1⟩
 refine (eqByteS_c (a_2.below E1) (b_2.below E1)).mono ?_
 rintro e w2 ⟨rfl,hb2⟩
 have D2:=(tQ D1 hb2)
 have E2:=(tQ E1 hb2)
 clear hc1 hf1 hb2
 obtain ⟨hc2,hf2⟩:=jO D2
 go_wp2_with fail
 · go_ret
   exact ⟨kG fA,E2⟩
 refine (kCm (a_3.below E2) (b_3.below E2)).mono ?_
 rintro e w3 ⟨rfl,hb3⟩
 have D3:=(tQ D2 hb3)
 have E3:=(tQ E2 hb3)
 clear hc2 hf2 hb3
 obtain ⟨hc3,hf3⟩:=jO D3
 go_wp2
 · go_ret
   exact ⟨kG fB,E3⟩
 · go_ret
   exact ⟨kG (by have q:(x3 != y3)=true:=‹_›;simp at q;simp [q]),E3⟩
 · go_ret
   exact ⟨kG (by have q:(x4 != y4)=true:=‹_›;simp at q;simp [q]),E3⟩
 go_ret
 exact ⟨kG (by have q0:(!decide (x0=y0))=false:=‹_›;simp at q0;have q1:(!decide (x1=y1))=false:=‹_›;simp at q1;have q2:(!decide (x2=y2))=false:=‹_›;simp at q2;have q3:(x3 != y3)=false:=‹_›;simp at q3;have q4:(x4 != y4)=false:=‹_›;simp at q4;simp [q0,q1,q2,q3,q4]),E3⟩
theorem kVd {w:World} {va vb:Value} {x y:List jJ} (ha:(Rep.slice 66 kP).raw w [va] x) (hb:(Rep.slice 66 kP).raw w [vb] y) :
    Calls Tryz.prog 50 #[va,vb] w fun e w'=>e=.returned (.bool (decide (x=y)))∧Below w.heap.size w w':=by
 obtain ⟨aa,capa,rfl,la⟩:=Rep.sl ha
 obtain ⟨ab,capb,rfl,lb⟩:=Rep.sl hb
 go_enter Tryz.func50,Tryz.ntmps50
 by_cases hab:x.length=y.length
 · have hab':((x.length:Int) != (y.length:Int))=false:=rJ
   have HAB:=yD hab;clear hab
   go_wp2
   go_loopw [5] (fun i wr=>∃ k:Nat,k≤x.length∧i=.int .i64 k∧x.take k=y.take k∧Below w.heap.size w wr) (fun i _=>x.length - (intOf i).toNat)
   case atStart=>exact ⟨0,Nat.zero_le _,rfl,rfl,bR⟩
   obtain ⟨k,hk,rfl,htk,hbel⟩:=hrel
   by_cases hlt:k < x.length
   · have hlt2:k < y.length:=pY
     obtain ⟨ba,offa,rfl,c0,c1,c2,c3,c4,hr,A0,A1,A2,A3,A4⟩:=Rep.get5 (ha.below hbel) hlt rfl
     obtain ⟨bb,offb,rfl,d0,d1,d2,d3,d4,hr2,B0,B1,B2,B3,B4⟩:=Rep.get5 (hb.below hbel) hlt2 rfl
     go_wp2
     go_still_tail 8,rF
     change wpList _ _ _ _ _ wr.drew
     clear A0 A1 A2 A3 A4 B0 B1 B2 B3 B4
     by_cases hxy:x[k]=y[k]
     · have hde:decide (x[k]=y[k])=true:=rH
       have HT:=yD (yC htk hlt hlt2 hxy);clear hxy htk
       have C:=kIr hr.drew hr2.drew
       rw [hde] at C
       have HC:=yD C;clear C hde hr hr2
       go_wp2_with (go_at_call 15;refine HC.out.mono ?_;rintro e w' ⟨rfl,hb2⟩)
       go_roundw
       case rel=>exact ⟨k + 1,by omega,by go_num,HT.out,hbel.trans (bR.drew.trans (hb2.mono hbel.size))⟩
       simp [intOf];omega
     have hde:decide (x[k]=y[k])=false:=rH
     have HT:=yD (zm hlt hlt2 hxy);clear hxy htk
     have C:=kIr hr.drew hr2.drew
     rw [hde] at C
     have HC:=yD C;clear C hde hr hr2
     go_wp2_with (go_at_call 15;refine HC.out.mono ?_;rintro e w' ⟨rfl,hb2⟩)
     go_ret
     exact ⟨kG rC,hbel.trans (bR.drew.trans (hb2.mono hbel.size))⟩
   have HT:=yD (yx htk hlt HAB.out);clear htk
   go_wp2
   go_ret
   exact ⟨kG rC,hbel⟩
 have hab':((x.length:Int) != (y.length:Int))=true:=rG
 have HT:Hid (x≠y):=yD pX;clear hab
 go_wp2
 go_ret
 exact ⟨kG rC,bR⟩
theorem kIs {w:World} {ca cb:List Value} {x y:ko} (ha:kH.raw w ca x) (hb:kH.raw w cb y) :
    Calls Tryz.prog 185 #[.agg ca.toArray,.agg cb.toArray] w fun e w'=>e=.returned (.bool (decide (x=y)))∧Below w.heap.size w w':=by
 obtain ⟨av0,av1,av2,rfl,a_0,a_1,a_2,a_3,a_4,a_5,a_6,a_7,a_8⟩:=jQ ha
 obtain ⟨bv0,bv1,bv2,rfl,b_0,b_1,b_2,b_3,b_4,b_5,b_6,b_7,b_8⟩:=jQ hb
 obtain ⟨x0,x1⟩:=x
 obtain ⟨y0,y1⟩:=y
 clear ha hb a_1 b_1 a_2 b_2 a_3 b_3 a_4 b_4 a_5 b_5 a_6 b_6 a_7 b_7 a_8 b_8
 go_enter Tryz.func185,Tryz.ntmps185
 go_wp2_with fail
 refine (kIr ((a_0.alloc _).alloc _) ((b_0.alloc _).alloc _)).mono ?_
 rintro e w1 ⟨rfl,hb1⟩
 have D1:=hb1
 have E1:Below w.heap.size w w1:=((bR.alloc nL _).alloc rQ _).trans (hb1.mono rG)
 obtain ⟨hc1,hf1⟩:=jO D1;clear hb1
 go_wp2
 · go_ret
   exact ⟨kG dZ,E1⟩
 · go_ret
   exact ⟨kG fJ,E1⟩
 go_ret
 exact ⟨kG cO,E1⟩
theorem kQc {w:World} {va vb:Value} {x y:List ko} (ha:(Rep.slice 212 kH).raw w [va] x) (hb:(Rep.slice 212 kH).raw w [vb] y) :
    Calls Tryz.prog 115 #[va,vb] w fun e w'=>e=.returned (.bool (decide (x=y)))∧Below w.heap.size w w':=by
 obtain ⟨aa,capa,rfl,la⟩:=Rep.sl ha
 obtain ⟨ab,capb,rfl,lb⟩:=Rep.sl hb
 go_enter Tryz.func115,Tryz.ntmps115
 by_cases hab:x.length=y.length
 · have hab':((x.length:Int) != (y.length:Int))=false:=rJ
   have HAB:=yD hab;clear hab
   go_wp2
   go_loopw [5] (fun i wr=>∃ k:Nat,k≤x.length∧i=.int .i64 k∧x.take k=y.take k∧Below w.heap.size w wr) (fun i _=>x.length - (intOf i).toNat)
   case atStart=>exact ⟨0,Nat.zero_le _,rfl,rfl,bR⟩
   obtain ⟨k,hk,rfl,htk,hbel⟩:=hrel
   by_cases hlt:k < x.length
   · have hlt2:k < y.length:=pY
     obtain ⟨ba,offa,rfl,c0,c1,c2,c3,c4,c5,hr,A0,A1,A2,A3,A4,A5⟩:=Rep.get6 (ha.below hbel) hlt rfl
     obtain ⟨bb,offb,rfl,d0,d1,d2,d3,d4,d5,hr2,B0,B1,B2,B3,B4,B5⟩:=Rep.get6 (hb.below hbel) hlt2 rfl
     go_wp2
     go_still_tail 8,rF
     change wpList _ _ _ _ _ wr.drew
     clear A0 A1 A2 A3 A4 A5 B0 B1 B2 B3 B4 B5
     by_cases hxy:x[k]=y[k]
     · have hde:decide (x[k]=y[k])=true:=rH
       have HT:=yD (yC htk hlt hlt2 hxy);clear hxy htk
       have C:=kIs hr.drew hr2.drew
       rw [hde] at C
       have HC:=yD C;clear C hde hr hr2
       go_wp2_with (go_at_call 185;refine HC.out.mono ?_;rintro e w' ⟨rfl,hb2⟩)
       go_roundw
       case rel=>exact ⟨k + 1,by omega,by go_num,HT.out,hbel.trans (bR.drew.trans (hb2.mono hbel.size))⟩
       simp [intOf];omega
     have hde:decide (x[k]=y[k])=false:=rH
     have HT:=yD (zm hlt hlt2 hxy);clear hxy htk
     have C:=kIs hr.drew hr2.drew
     rw [hde] at C
     have HC:=yD C;clear C hde hr hr2
     go_wp2_with (go_at_call 185;refine HC.out.mono ?_;rintro e w' ⟨rfl,hb2⟩)
     go_ret
     exact ⟨kG rC,hbel.trans (bR.drew.trans (hb2.mono hbel.size))⟩
   have HT:=yD (yx htk hlt HAB.out);clear htk
   go_wp2
   go_ret
   exact ⟨kG rC,hbel⟩
 have hab':((x.length:Int) != (y.length:Int))=true:=rG
 have HT:Hid (x≠y):=yD pX;clear hab
 go_wp2
 go_ret
 exact ⟨kG rC,bR⟩
theorem kOg {w:World} {ca cb:List Value} {x y:kr} (ha:kI.raw w ca x) (hb:kI.raw w cb y) :
    Calls Tryz.prog 51 #[.agg ca.toArray,.agg cb.toArray] w fun e w'=>e=.returned (.bool (decide (x=y)))∧Below w.heap.size w w':=by
 obtain ⟨av0,rfl,a_0,a_1⟩:=jI ha
 obtain ⟨bv0,rfl,b_0,b_1⟩:=jI hb
 obtain ⟨x0,x1⟩:=x
 obtain ⟨y0,y1⟩:=y
 clear ha hb a_0 b_0
 go_enter Tryz.func51,Tryz.ntmps51
 go_wp2_with fail
 · go_ret
   exact ⟨kG fM,(bR.alloc nL _).alloc rQ _⟩
 refine (kQc ((a_1.alloc _).alloc _) ((b_1.alloc _).alloc _)).mono ?_
 rintro e w1 ⟨rfl,hb1⟩
 have D1:=hb1
 have E1:Below w.heap.size w w1:=((bR.alloc nL _).alloc rQ _).trans (hb1.mono rG)
 obtain ⟨hc1,hf1⟩:=jO D1;clear hb1
 go_wp2
 · go_ret
   exact ⟨kG fA,E1⟩
 go_ret
 exact ⟨kG (by have q0:(x0 != y0)=false:=‹_›;simp at q0;have q1:(!decide (x1=y1))=false:=‹_›;simp at q1;simp [q0,q1]),E1⟩
theorem eqNode_c {w:World} {ca cb:List Value} {x y:kAf} (ha:jC.raw w ca x) (hb:jC.raw w cb y) :
    Calls Tryz.prog 13 #[.agg ca.toArray,.agg cb.toArray] w fun e w'=>e=.returned (.bool (decide (x=y)))∧Below w.heap.size w w':=by
 obtain ⟨av0,av1,av2,av3,av4,av5,rfl,a_0,a_1,a_2,a_3,a_4,a_5,a_6,a_7,a_8⟩:=jo ha
 obtain ⟨bv0,bv1,bv2,bv3,bv4,bv5,rfl,b_0,b_1,b_2,b_3,b_4,b_5,b_6,b_7,b_8⟩:=jo hb
 obtain ⟨x0,x1,x2,x3,x4,x5,x6⟩:=x
 obtain ⟨y0,y1,y2,y3,y4,y5,y6⟩:=y
 clear ha hb a_2 b_2 a_3 b_3 a_8 b_8
 go_enter Tryz.func13,Tryz.ntmps13
 go_wp2_with fail
 refine (kVd ((a_0.alloc _).alloc _) ((b_0.alloc _).alloc _)).mono ?_
 rintro e w1 ⟨rfl,hb1⟩
 have D1:=hb1
 have E1:Below w.heap.size w w1:=((bR.alloc nL _).alloc rQ _).trans (hb1.mono rG)
 obtain ⟨hc1,hf1⟩:=jO D1;clear hb1
 go_wp2_with fail
 · go_ret
   exact ⟨kG dZ,E1⟩
 refine (kOg (a_1.below E1) (b_1.below E1)).mono ?_
 rintro e w2 ⟨rfl,hb2⟩
 have D2:=(tQ D1 hb2)
 have E2:=(tQ E1 hb2)
 clear hc1 hf1 hb2
 obtain ⟨hc2,hf2⟩:=jO D2
 go_wp2_with fail
 · go_ret
   exact ⟨kG fA,E2⟩
 refine (kIq (a_4.below E2) (b_4.below E2)).mono ?_
 rintro e w3 ⟨rfl,hb3⟩
 have D3:=(tQ D2 hb3)
 have E3:=(tQ E2 hb3)
 clear hc2 hf2 hb3
 obtain ⟨hc3,hf3⟩:=jO D3
 go_wp2_with fail
 · go_ret
   exact ⟨kG fB,E3⟩
 refine (kSk (a_5.below E3) (b_5.below E3)).mono ?_
 rintro e w4 ⟨rfl,hb4⟩
 have D4:=(tQ D3 hb4)
 have E4:=(tQ E3 hb4)
 clear hc3 hf3 hb4
 obtain ⟨hc4,hf4⟩:=jO D4
 go_wp2_with fail
 · go_ret
   exact ⟨kG fC,E4⟩
 refine (eqRouteS_c (a_6.below E4) (b_6.below E4)).mono ?_
 rintro e w5 ⟨rfl,hb5⟩
 have D5:=(tQ D4 hb5)
 have E5:=(tQ E4 hb5)
 clear hc4 hf4 hb5
 obtain ⟨hc5,hf5⟩:=jO D5
 go_wp2_with fail
 · go_ret
   exact ⟨kG (by have q:(!decide (x4=y4))=true:=‹_›;simp at q;simp [q]),E5⟩
 refine (kOf (a_7.below E5) (b_7.below E5)).mono ?_
 rintro e w6 ⟨rfl,hb6⟩
 have D6:=(tQ D5 hb6)
 have E6:=(tQ E5 hb6)
 clear hc5 hf5 hb6
 obtain ⟨hc6,hf6⟩:=jO D6
 go_wp2
 · go_ret
   exact ⟨kG (by have q:(!decide (x5=y5))=true:=‹_›;simp at q;simp [q]),E6⟩
 · go_ret
   exact ⟨kG (by have q:(x6 != y6)=true:=‹_›;simp at q;simp [q]),E6⟩
 go_ret
 exact ⟨kG (by have q0:(!decide (x0=y0))=false:=‹_›;simp at q0;have q1:(!decide (x1=y1))=false:=‹_›;simp at q1;have q2:(!decide (x2=y2))=false:=‹_›;simp at q2;have q3:(!decide (x3=y3))=false:=‹_›;simp at q3;have q4:(!decide (x4=y4))=false:=‹_›;simp at q4;have q5:(!decide (x5=y5))=false:=‹_›;simp at q5;have q6:(x6 != y6)=false:=‹_›;simp at q6;simp [q0,q1,q2,q3,q4,q5,q6]),E6⟩
theorem kMj {w:World} {ca cb:List Value} {x y:jV} (ha:kR.raw w ca x) (hb:kR.raw w cb y) :
    Calls Tryz.prog 153 #[.agg ca.toArray,.agg cb.toArray] w fun e w'=>e=.returned (.bool (decide (x=y)))∧Below w.heap.size w w':=by
 obtain ⟨av0,av1,av2,av3,rfl,a_0,a_1,a_2,a_3,a_4,a_5,a_6,a_7,a_8,a_9,a_10,a_11,a_12,a_13,a_14⟩:=kAo ha
 obtain ⟨bv0,bv1,bv2,bv3,rfl,b_0,b_1,b_2,b_3,b_4,b_5,b_6,b_7,b_8,b_9,b_10,b_11,b_12,b_13,b_14⟩:=kAo hb
 obtain ⟨x0,x1,x2,x3⟩:=x
 obtain ⟨y0,y1,y2,y3⟩:=y
 clear ha hb a_0 b_0 a_2 b_2 a_3 b_3 a_4 b_4 a_5 b_5 a_6 b_6 a_8 b_8 a_9 b_9 a_10 b_10 a_11 b_11 a_12 b_12 a_13 b_13 a_14 b_14
 go_enter Tryz.func153,Tryz.ntmps153
 go_wp2_with fail
 · go_ret
   exact ⟨kG fM,(bR.alloc nL _).alloc rQ _⟩
 · go_ret
   exact ⟨kG fJ,(bR.alloc nL _).alloc rQ _⟩
 refine (kVx ((a_1.alloc _).alloc _) ((b_1.alloc _).alloc _)).mono ?_
 rintro e w1 ⟨rfl,hb1⟩
 have D1:=hb1
 have E1:Below w.heap.size w w1:=((bR.alloc nL _).alloc rQ _).trans (hb1.mono rG)
 obtain ⟨hc1,hf1⟩:=jO D1;clear hb1
 go_wp2_with fail
 · go_ret
   exact ⟨kG fB,E1⟩
 refine (kIr (a_7.below E1) (b_7.below E1)).mono ?_
 rintro e w2 ⟨rfl,hb2⟩
 have D2:=(tQ D1 hb2)
 have E2:=(tQ E1 hb2)
 clear hc1 hf1 hb2
 obtain ⟨hc2,hf2⟩:=jO D2
 go_wp2
 · go_ret
   exact ⟨kG fC,E2⟩
 go_ret
 exact ⟨kG (by have q0:(x0 != y0)=false:=‹_›;simp at q0;have q1:(x1 != y1)=false:=‹_›;simp at q1;have q2:(!decide (x2=y2))=false:=‹_›;simp at q2;have q3:(!decide (x3=y3))=false:=‹_›;simp at q3;simp [q0,q1,q2,q3]),E2⟩
theorem kTt {w:World} {va vb:Value} {x y:List jV} (ha:(Rep.slice 128 kR).raw w [va] x) (hb:(Rep.slice 128 kR).raw w [vb] y) :
    Calls Tryz.prog 78 #[va,vb] w fun e w'=>e=.returned (.bool (decide (x=y)))∧Below w.heap.size w w':=by
 obtain ⟨aa,capa,rfl,la⟩:=Rep.sl ha
 obtain ⟨ab,capb,rfl,lb⟩:=Rep.sl hb
 go_enter Tryz.func78,Tryz.ntmps78
 by_cases hab:x.length=y.length
 · have hab':((x.length:Int) != (y.length:Int))=false:=rJ
   have HAB:=yD hab;clear hab
   go_wp2
   go_loopw [5] (fun i wr=>∃ k:Nat,k≤x.length∧i=.int .i64 k∧x.take k=y.take k∧Below w.heap.size w wr) (fun i _=>x.length - (intOf i).toNat)
   case atStart=>exact ⟨0,Nat.zero_le _,rfl,rfl,bR⟩
   obtain ⟨k,hk,rfl,htk,hbel⟩:=hrel
   by_cases hlt:k < x.length
   · have hlt2:k < y.length:=pY
     obtain ⟨ba,offa,rfl,c0,c1,c2,c3,c4,c5,c6,c7,c8,c9,c10,hr,A0,A1,A2,A3,A4,A5,A6,A7,A8,A9,A10⟩:=Rep.get11 (ha.below hbel) hlt rfl
     obtain ⟨bb,offb,rfl,d0,d1,d2,d3,d4,d5,d6,d7,d8,d9,d10,hr2,B0,B1,B2,B3,B4,B5,B6,B7,B8,B9,B10⟩:=Rep.get11 (hb.below hbel) hlt2 rfl
     go_wp2
     go_still_tail 8,rF
     change wpList _ _ _ _ _ wr.drew
     clear A0 A1 A2 A3 A4 A5 A6 A7 A8 A9 A10 B0 B1 B2 B3 B4 B5 B6 B7 B8 B9 B10
     by_cases hxy:x[k]=y[k]
     · have hde:decide (x[k]=y[k])=true:=rH
       have HT:=yD (yC htk hlt hlt2 hxy);clear hxy htk
       have C:=kMj hr.drew hr2.drew
       rw [hde] at C
       have HC:=yD C;clear C hde hr hr2
       go_wp2_with (go_at_call 153;refine HC.out.mono ?_;rintro e w' ⟨rfl,hb2⟩)
       go_roundw
       case rel=>exact ⟨k + 1,by omega,by go_num,HT.out,hbel.trans (bR.drew.trans (hb2.mono hbel.size))⟩
       simp [intOf];omega
     have hde:decide (x[k]=y[k])=false:=rH
     have HT:=yD (zm hlt hlt2 hxy);clear hxy htk
     have C:=kMj hr.drew hr2.drew
     rw [hde] at C
     have HC:=yD C;clear C hde hr hr2
     go_wp2_with (go_at_call 153;refine HC.out.mono ?_;rintro e w' ⟨rfl,hb2⟩)
     go_ret
     exact ⟨kG rC,hbel.trans (bR.drew.trans (hb2.mono hbel.size))⟩
   have HT:=yD (yx htk hlt HAB.out);clear htk
   go_wp2
   go_ret
   exact ⟨kG rC,hbel⟩
 have hab':((x.length:Int) != (y.length:Int))=true:=rG
 have HT:Hid (x≠y):=yD pX;clear hab
 go_wp2
 go_ret
 exact ⟨kG rC,bR⟩
theorem kKv {w:World} {ca cb:List Value} {x y:kHg} (ha:yP.raw w ca x) (hb:yP.raw w cb y) :
    Calls Tryz.prog 18 #[.agg ca.toArray,.agg cb.toArray] w fun e w'=>e=.returned (.bool (decide (x=y)))∧Below w.heap.size w w':=by
 obtain ⟨av0,av1,av2,av3,av4,av5,av6,rfl,a_0,a_1,a_2,a_3,a_4,a_5,a_6,a_7,a_8,a_9,a_10⟩:=yB ha
 obtain ⟨bv0,bv1,bv2,bv3,bv4,bv5,bv6,rfl,b_0,b_1,b_2,b_3,b_4,b_5,b_6,b_7,b_8,b_9,b_10⟩:=yB hb
 obtain ⟨x0,x1⟩:=x
 obtain ⟨y0,y1⟩:=y
 clear ha hb a_1 b_1 a_2 b_2 a_3 b_3 a_4 b_4 a_5 b_5 a_6 b_6 a_7 b_7 a_8 b_8 a_9 b_9
 go_enter Tryz.func18,Tryz.ntmps18
 go_wp2_with fail
 refine (eqNode_c ((a_0.alloc _).alloc _) ((b_0.alloc _).alloc _)).mono ?_
 rintro e w1 ⟨rfl,hb1⟩
 have D1:=hb1
 have E1:Below w.heap.size w w1:=((bR.alloc nL _).alloc rQ _).trans (hb1.mono rG)
 obtain ⟨hc1,hf1⟩:=jO D1;clear hb1
 go_wp2_with fail
 · go_ret
   exact ⟨kG dZ,E1⟩
 refine (kTt (a_10.below E1) (b_10.below E1)).mono ?_
 rintro e w2 ⟨rfl,hb2⟩
 have D2:=(tQ D1 hb2)
 have E2:=(tQ E1 hb2)
 clear hc1 hf1 hb2
 obtain ⟨hc2,hf2⟩:=jO D2
 go_wp2
 · go_ret
   exact ⟨kG fA,E2⟩
 go_ret
 exact ⟨kG (by have q0:(!decide (x0=y0))=false:=‹_›;simp at q0;have q1:(!decide (x1=y1))=false:=‹_›;simp at q1;simp [q0,q1]),E2⟩
theorem eqKey_c {w:World} {ca cb:List Value} {x y:kDu} (ha:jg.raw w ca x) (hb:jg.raw w cb y) :
    Calls Tryz.prog 120 #[.agg ca.toArray,.agg cb.toArray] w fun e w'=>e=.returned (.bool (decide (x=y)))∧Below w.heap.size w w':=by
 obtain ⟨av0,rfl,a_0,a_1,a_2⟩:=kCe ha
 obtain ⟨bv0,rfl,b_0,b_1,b_2⟩:=kCe hb
 obtain ⟨x0,x1⟩:=x
 obtain ⟨y0,y1⟩:=y
 clear ha hb a_1 b_1 a_2 b_2
 go_enter Tryz.func120,Tryz.ntmps120
 go_wp2_with fail
 refine (kCm ((a_0.alloc _).alloc _) ((b_0.alloc _).alloc _)).mono ?_
 rintro e w1 ⟨rfl,hb1⟩
 have D1:=hb1
 have E1:Below w.heap.size w w1:=((bR.alloc nL _).alloc rQ _).trans (hb1.mono rG)
 obtain ⟨hc1,hf1⟩:=jO D1;clear hb1
 go_wp2
 · go_ret
   exact ⟨kG dZ,E1⟩
 · go_ret
   exact ⟨kG fJ,E1⟩
 go_ret
 exact ⟨kG cO,E1⟩
theorem eqKeyS_c {w:World} {va vb:Value} {x y:List kDu} (ha:(Rep.slice 187 jg).raw w [va] x) (hb:(Rep.slice 187 jg).raw w [vb] y) :
    Calls Tryz.prog 56 #[va,vb] w fun e w'=>e=.returned (.bool (decide (x=y)))∧Below w.heap.size w w':=by
 obtain ⟨aa,capa,rfl,la⟩:=Rep.sl ha
 obtain ⟨ab,capb,rfl,lb⟩:=Rep.sl hb
 go_enter Tryz.func56,Tryz.ntmps56
 by_cases hab:x.length=y.length
 · have hab':((x.length:Int) != (y.length:Int))=false:=rJ
   have HAB:=yD hab;clear hab
   go_wp2
   go_loopw [5] (fun i wr=>∃ k:Nat,k≤x.length∧i=.int .i64 k∧x.take k=y.take k∧Below w.heap.size w wr) (fun i _=>x.length - (intOf i).toNat)
   case atStart=>exact ⟨0,Nat.zero_le _,rfl,rfl,bR⟩
   obtain ⟨k,hk,rfl,htk,hbel⟩:=hrel
   by_cases hlt:k < x.length
   · have hlt2:k < y.length:=pY
     obtain ⟨ba,offa,rfl,c0,c1,hr,A0,A1⟩:=Rep.kEk (ha.below hbel) hlt rfl
     obtain ⟨bb,offb,rfl,d0,d1,hr2,B0,B1⟩:=Rep.kEk (hb.below hbel) hlt2 rfl
     go_wp2
     go_still_tail 8,rF
     change wpList _ _ _ _ _ wr.drew
     clear A0 A1 B0 B1
     by_cases hxy:x[k]=y[k]
     · have hde:decide (x[k]=y[k])=true:=rH
       have HT:=yD (yC htk hlt hlt2 hxy);clear hxy htk
       have C:=eqKey_c hr.drew hr2.drew
       rw [hde] at C
       have HC:=yD C;clear C hde hr hr2
       go_wp2_with (go_at_call 120;refine HC.out.mono ?_;rintro e w' ⟨rfl,hb2⟩)
       go_roundw
       case rel=>exact ⟨k + 1,by omega,by go_num,HT.out,hbel.trans (bR.drew.trans (hb2.mono hbel.size))⟩
       simp [intOf];omega
     have hde:decide (x[k]=y[k])=false:=rH
     have HT:=yD (zm hlt hlt2 hxy);clear hxy htk
     have C:=eqKey_c hr.drew hr2.drew
     rw [hde] at C
     have HC:=yD C;clear C hde hr hr2
     go_wp2_with (go_at_call 120;refine HC.out.mono ?_;rintro e w' ⟨rfl,hb2⟩)
     go_ret
     exact ⟨kG rC,hbel.trans (bR.drew.trans (hb2.mono hbel.size))⟩
   have HT:=yD (yx htk hlt HAB.out);clear htk
   go_wp2
   go_ret
   exact ⟨kG rC,hbel⟩
 have hab':((x.length:Int) != (y.length:Int))=true:=rG
 have HT:Hid (x≠y):=yD pX;clear hab
 go_wp2
 go_ret
 exact ⟨kG rC,bR⟩
theorem kPa {w:World} {ca cb:List Value} {x y:yV} (ha:yU.raw w ca x) (hb:yU.raw w cb y) :
    Calls Tryz.prog 187 #[.agg ca.toArray,.agg cb.toArray] w fun e w'=>e=.returned (.bool (decide (x=y)))∧Below w.heap.size w w':=by
 obtain ⟨av0,rfl,a_0⟩:=yc ha
 obtain ⟨bv0,rfl,b_0⟩:=yc hb
 obtain ⟨x0,rfl⟩:∃ x0,x0=x:=⟨_,rfl⟩
 obtain ⟨y0,rfl⟩:∃ y0,y0=y:=⟨_,rfl⟩
 clear ha hb
 go_enter Tryz.func187,Tryz.ntmps187
 go_wp2_with fail
 refine (kOz ((a_0.alloc _).alloc _) ((b_0.alloc _).alloc _)).mono ?_
 rintro e w1 ⟨rfl,hb1⟩
 have D1:=hb1
 have E1:Below w.heap.size w w1:=((bR.alloc nL _).alloc rQ _).trans (hb1.mono rG)
 obtain ⟨hc1,hf1⟩:=jO D1;clear hb1
 go_wp2
 · go_ret
   exact ⟨kG dZ,E1⟩
 go_ret
 exact ⟨kG (by have q0:(!decide (x0=y0))=false:=‹_›;simp at q0;simp [q0]),E1⟩
theorem eqRule_c {w:World} {ca cb:List Value} {x y:kBb} (ha:jM.raw w ca x) (hb:jM.raw w cb y) :
    Calls Tryz.prog 121 #[.agg ca.toArray,.agg cb.toArray] w fun e w'=>e=.returned (.bool (decide (x=y)))∧Below w.heap.size w w':=by
 obtain ⟨av0,av1,rfl,a_0,a_1,a_2,a_3⟩:=kAe ha
 obtain ⟨bv0,bv1,rfl,b_0,b_1,b_2,b_3⟩:=kAe hb
 obtain ⟨x0,x1⟩:=x
 obtain ⟨y0,y1⟩:=y
 clear ha hb a_1 b_1 a_3 b_3
 go_enter Tryz.func121,Tryz.ntmps121
 go_wp2_with fail
 refine (kPa ((a_0.alloc _).alloc _) ((b_0.alloc _).alloc _)).mono ?_
 rintro e w1 ⟨rfl,hb1⟩
 have D1:=hb1
 have E1:Below w.heap.size w w1:=((bR.alloc nL _).alloc rQ _).trans (hb1.mono rG)
 obtain ⟨hc1,hf1⟩:=jO D1;clear hb1
 go_wp2_with fail
 · go_ret
   exact ⟨kG dZ,E1⟩
 refine (kPa (a_2.below E1) (b_2.below E1)).mono ?_
 rintro e w2 ⟨rfl,hb2⟩
 have D2:=(tQ D1 hb2)
 have E2:=(tQ E1 hb2)
 clear hc1 hf1 hb2
 obtain ⟨hc2,hf2⟩:=jO D2
 go_wp2
 · go_ret
   exact ⟨kG fA,E2⟩
 go_ret
 exact ⟨kG (by have q0:(!decide (x0=y0))=false:=‹_›;simp at q0;have q1:(!decide (x1=y1))=false:=‹_›;simp at q1;simp [q0,q1]),E2⟩
theorem eqRuleS_c {w:World} {va vb:Value} {x y:List kBb} (ha:(Rep.slice 191 jM).raw w [va] x) (hb:(Rep.slice 191 jM).raw w [vb] y) :
    Calls Tryz.prog 57 #[va,vb] w fun e w'=>e=.returned (.bool (decide (x=y)))∧Below w.heap.size w w':=by
 obtain ⟨aa,capa,rfl,la⟩:=Rep.sl ha
 obtain ⟨ab,capb,rfl,lb⟩:=Rep.sl hb
 go_enter Tryz.func57,Tryz.ntmps57
 by_cases hab:x.length=y.length
 · have hab':((x.length:Int) != (y.length:Int))=false:=rJ
   have HAB:=yD hab;clear hab
   go_wp2
   go_loopw [5] (fun i wr=>∃ k:Nat,k≤x.length∧i=.int .i64 k∧x.take k=y.take k∧Below w.heap.size w wr) (fun i _=>x.length - (intOf i).toNat)
   case atStart=>exact ⟨0,Nat.zero_le _,rfl,rfl,bR⟩
   obtain ⟨k,hk,rfl,htk,hbel⟩:=hrel
   by_cases hlt:k < x.length
   · have hlt2:k < y.length:=pY
     obtain ⟨ba,offa,rfl,c0,c1,hr,A0,A1⟩:=Rep.kEk (ha.below hbel) hlt rfl
     obtain ⟨bb,offb,rfl,d0,d1,hr2,B0,B1⟩:=Rep.kEk (hb.below hbel) hlt2 rfl
     go_wp2
     go_still_tail 8,rF
     change wpList _ _ _ _ _ wr.drew
     clear A0 A1 B0 B1
     by_cases hxy:x[k]=y[k]
     · have hde:decide (x[k]=y[k])=true:=rH
       have HT:=yD (yC htk hlt hlt2 hxy);clear hxy htk
       have C:=eqRule_c hr.drew hr2.drew
       rw [hde] at C
       have HC:=yD C;clear C hde hr hr2
       go_wp2_with (go_at_call 121;refine HC.out.mono ?_;rintro e w' ⟨rfl,hb2⟩)
       go_roundw
       case rel=>exact ⟨k + 1,by omega,by go_num,HT.out,hbel.trans (bR.drew.trans (hb2.mono hbel.size))⟩
       simp [intOf];omega
     have hde:decide (x[k]=y[k])=false:=rH
     have HT:=yD (zm hlt hlt2 hxy);clear hxy htk
     have C:=eqRule_c hr.drew hr2.drew
     rw [hde] at C
     have HC:=yD C;clear C hde hr hr2
     go_wp2_with (go_at_call 121;refine HC.out.mono ?_;rintro e w' ⟨rfl,hb2⟩)
     go_ret
     exact ⟨kG rC,hbel.trans (bR.drew.trans (hb2.mono hbel.size))⟩
   have HT:=yD (yx htk hlt HAB.out);clear htk
   go_wp2
   go_ret
   exact ⟨kG rC,hbel⟩
 have hab':((x.length:Int) != (y.length:Int))=true:=rG
 have HT:Hid (x≠y):=yD pX;clear hab
 go_wp2
 go_ret
 exact ⟨kG rC,bR⟩
theorem kQb {w:World} {ca cb:List Value} {x y:kz} (ha:kT.raw w ca x) (hb:kT.raw w cb y) :
    Calls Tryz.prog 14 #[.agg ca.toArray,.agg cb.toArray] w fun e w'=>e=.returned (.bool (decide (x=y)))∧Below w.heap.size w w':=by
 obtain ⟨av0,av1,av2,av3,rfl,a_0,a_1,a_2,a_3⟩:=kw ha
 obtain ⟨bv0,bv1,bv2,bv3,rfl,b_0,b_1,b_2,b_3⟩:=kw hb
 obtain ⟨x0,x1,x2,x3⟩:=x
 obtain ⟨y0,y1,y2,y3⟩:=y
 clear ha hb
 go_enter Tryz.func14,Tryz.ntmps14
 go_wp2_with fail
 refine (eqKeyS_c ((a_0.alloc _).alloc _) ((b_0.alloc _).alloc _)).mono ?_
 rintro e w1 ⟨rfl,hb1⟩
 have D1:=hb1
 have E1:Below w.heap.size w w1:=((bR.alloc nL _).alloc rQ _).trans (hb1.mono rG)
 obtain ⟨hc1,hf1⟩:=jO D1;clear hb1
 go_wp2_with fail
 · go_ret
   exact ⟨kG dZ,E1⟩
 refine (eqRuleS_c (a_1.below E1) (b_1.below E1)).mono ?_
 rintro e w2 ⟨rfl,hb2⟩
 have D2:=(tQ D1 hb2)
 have E2:=(tQ E1 hb2)
 clear hc1 hf1 hb2
 obtain ⟨hc2,hf2⟩:=jO D2
 go_wp2_with fail
 · go_ret
   exact ⟨kG fA,E2⟩
 refine (eqNameS_c (a_2.below E2) (b_2.below E2)).mono ?_
 rintro e w3 ⟨rfl,hb3⟩
 have D3:=(tQ D2 hb3)
 have E3:=(tQ E2 hb3)
 clear hc2 hf2 hb3
 obtain ⟨hc3,hf3⟩:=jO D3
 go_wp2_with fail
 · go_ret
   exact ⟨kG fB,E3⟩
 refine (kVd (a_3.below E3) (b_3.below E3)).mono ?_
 rintro e w4 ⟨rfl,hb4⟩
 have D4:=(tQ D3 hb4)
 have E4:=(tQ E3 hb4)
 clear hc3 hf3 hb4
 obtain ⟨hc4,hf4⟩:=jO D4
 go_wp2
 · go_ret
   exact ⟨kG fC,E4⟩
 go_ret
 exact ⟨kG (by have q0:(!decide (x0=y0))=false:=‹_›;simp at q0;have q1:(!decide (x1=y1))=false:=‹_›;simp at q1;have q2:(!decide (x2=y2))=false:=‹_›;simp at q2;have q3:(!decide (x3=y3))=false:=‹_›;simp at q3;simp [q0,q1,q2,q3]),E4⟩
end Go.Proofs.YtlfblpgkegeaeaaGreat

/-
  The laws' comparisons: each answers whether its two arguments are the same data. Printed by geneq.py.
  The laws' measures of size: what they let pass is bounded. Printed by gensz.py.
-/
import Derived.Test.YtomdenfcfbkfbaaGreatProg
import Derived.Test.YtomdenfcfbkfbaaGreatTypes
import Derived.WalkLawsBesides
import Derived.BigQuiet
import Derived.Deep.QuietTactic
import Derived.StillTailTactics
set_option linter.unusedVariables false
set_option linter.unusedSimpArgs false
set_option linter.unnecessarySimpa false
set_option maxRecDepth 100000
set_option maxHeartbeats 4000000
namespace Go.Proofs.YtomdenfcfbkfbaaGreat
open Go.RowKit
theorem eqStringS_c {w:World} {va vb:Value} {x y:List ByteArray} (ha:(Rep.slice 9 Rep.str).raw w [va] x) (hb:(Rep.slice 9 Rep.str).raw w [vb] y) :
    Calls Tryz.prog 180 #[va,vb] w fun e w'=>e=.returned (.bool (decide (x=y)))∧Below w.heap.size w w':=by
 obtain ⟨aa,capa,rfl,la⟩:=Rep.sl ha
 obtain ⟨ab,capb,rfl,lb⟩:=Rep.sl hb
 go_enter Tryz.func180,Tryz.ntmps180
 by_cases hab:x.length=y.length
 · have hab':((x.length:Int) != (y.length:Int))=false:=rE
   have HAB:=yD hab;clear hab
   go_wp2
   go_loopw [5] (fun i wr=>∃ k:Nat,k≤x.length∧i=.int .i64 k∧x.take k=y.take k∧Below w.heap.size w wr) (fun i _=>x.length - (intOf i).toNat)
   case atStart=>exact ⟨0,Nat.zero_le _,rfl,rfl,bR⟩
   obtain ⟨k,hk,rfl,htk,hbel⟩:=hrel
   by_cases hlt:k < x.length
   · have hlt2:k < y.length:=pQ
     obtain ⟨ba,offa,rfl,c0,hr,A0⟩:=Rep.kEo (ha.below hbel) hlt rfl
     obtain ⟨bb,offb,rfl,d0,hr2,B0⟩:=Rep.kEo (hb.below hbel) hlt2 rfl
     obtain ⟨he,_⟩:=Rep.kBe hr
     obtain rfl:c0=_:=by simpa using he
     obtain ⟨he2,_⟩:=Rep.kBe hr2
     obtain rfl:d0=_:=by simpa using he2
     clear he he2 hr hr2
     by_cases hxy:x[k]=y[k]
     · have hne:(!x[k].toList==y[k].toList)=false:=by rw [kOf];simp [hxy]
       have HT:=yD (yt htk hlt hlt2 hxy);clear hxy htk
       go_wp2
       go_quiet (fail)
       go_wp2
       go_roundw
       case rel=>exact ⟨k + 1,by omega,by go_num,HT.out,below_drewN hbel _⟩
       simp [intOf];omega
     have hne:(!x[k].toList==y[k].toList)=true:=by rw [kOf];simp [hxy]
     have HT:=yD (kAm hlt hlt2 hxy);clear hxy htk
     go_wp2
     go_quiet (fail)
     go_wp2
     go_ret
     exact ⟨kP qW,below_drewN hbel _⟩
   have HT:=yD (zx htk hlt HAB.out);clear htk
   go_wp2
   go_ret
   exact ⟨kP qW,hbel⟩
 have hab':((x.length:Int) != (y.length:Int))=true:=rC
 have HT:Hid (x≠y):=yD pM;clear hab
 go_wp2
 go_ret
 exact ⟨kP qW,bR⟩
theorem eqByteS_c {w:World} {va vb:Value} {x y:List UInt8} (ha:(Rep.slice 5 Rep.byte).raw w [va] x) (hb:(Rep.slice 5 Rep.byte).raw w [vb] y) :
    Calls Tryz.prog 213 #[va,vb] w fun e w'=>e=.returned (.bool (decide (x=y)))∧Below w.heap.size w w':=by
 obtain ⟨aa,capa,rfl,la⟩:=Rep.sl ha
 obtain ⟨ab,capb,rfl,lb⟩:=Rep.sl hb
 go_enter Tryz.func213,Tryz.ntmps213
 by_cases hab:x.length=y.length
 · have hab':((x.length:Int) != (y.length:Int))=false:=rE
   have HAB:=yD hab;clear hab
   go_wp2
   go_loopw [5] (fun i wr=>∃ k:Nat,k≤x.length∧i=.int .i64 k∧x.take k=y.take k∧Below w.heap.size w wr) (fun i _=>x.length - (intOf i).toNat)
   case atStart=>exact ⟨0,Nat.zero_le _,rfl,rfl,bR⟩
   obtain ⟨k,hk,rfl,htk,hbel⟩:=hrel
   by_cases hlt:k < x.length
   · have hlt2:k < y.length:=pQ
     obtain ⟨ba,offa,rfl,c0,hr,A0⟩:=Rep.kEo (ha.below hbel) hlt rfl
     obtain ⟨bb,offb,rfl,d0,hr2,B0⟩:=Rep.kEo (hb.below hbel) hlt2 rfl
     obtain he:=Rep.kIm hr
     obtain rfl:c0=_:=by simpa using he
     obtain he2:=Rep.kIm hr2
     obtain rfl:d0=_:=by simpa using he2
     clear he he2 hr hr2
     by_cases hxy:x[k]=y[k]
     · have hne:((x[k].toNat:Int) != (y[k].toNat:Int))=false:=rD
       have HT:=yD (yt htk hlt hlt2 hxy);clear hxy htk
       go_wp2
       go_quiet (fail)
       go_wp2
       go_roundw
       case rel=>exact ⟨k + 1,by omega,by go_num,HT.out,below_drewN hbel _⟩
       simp [intOf];omega
     have hne:((x[k].toNat:Int) != (y[k].toNat:Int))=true:=by simp only [bne_iff_ne,ne_eq];exact fun q=>hxy (u8_inj q)
     have HT:=yD (kAm hlt hlt2 hxy);clear hxy htk
     go_wp2
     go_quiet (fail)
     go_wp2
     go_ret
     exact ⟨kP qW,below_drewN hbel _⟩
   have HT:=yD (zx htk hlt HAB.out);clear htk
   go_wp2
   go_ret
   exact ⟨kP qW,hbel⟩
 have hab':((x.length:Int) != (y.length:Int))=true:=rC
 have HT:Hid (x≠y):=yD pM;clear hab
 go_wp2
 go_ret
 exact ⟨kP qW,bR⟩
theorem kEp {w:World} {ca cb:List Value} {x y:ky} (ha:kZ.raw w ca x) (hb:kZ.raw w cb y) :
    Calls Tryz.prog 93 #[.agg ca.toArray,.agg cb.toArray] w fun e w'=>e=.returned (.bool (decide (x=y)))∧Below w.heap.size w w':=by
 obtain ⟨av0,rfl,a_0⟩:=kR ha
 obtain ⟨bv0,rfl,b_0⟩:=kR hb
 obtain ⟨x0,rfl⟩:∃ x0,x0=x:=⟨_,rfl⟩
 obtain ⟨y0,rfl⟩:∃ y0,y0=y:=⟨_,rfl⟩
 clear ha hb
 go_enter Tryz.func93,Tryz.ntmps93
 go_wp2_with fail
 refine (eqStringS_c ((a_0.alloc _).alloc _) ((b_0.alloc _).alloc _)).mono ?_
 rintro e w1 ⟨rfl,hb1⟩
 have D1:=hb1
 have E1:Below w.heap.size w w1:=((bR.alloc nL _).alloc rM _).trans (hb1.mono rC)
 obtain ⟨hc1,hf1⟩:=jh D1;clear hb1
 go_wp2
 · go_ret
   exact ⟨kP dH,E1⟩
 go_ret
 exact ⟨kP (by have q0:(!decide (x0=y0))=false:=‹_›;simp at q0;simp [q0]),E1⟩
theorem kHc {w:World} {ca cb:List Value} {x y:kv} (ha:kG.raw w ca x) (hb:kG.raw w cb y) :
    Calls Tryz.prog 150 #[.agg ca.toArray,.agg cb.toArray] w fun e w'=>e=.returned (.bool (decide (x=y)))∧Below w.heap.size w w':=by
 obtain ⟨av0,rfl,a_0,a_1,a_2,a_3⟩:=jf ha
 obtain ⟨bv0,rfl,b_0,b_1,b_2,b_3⟩:=jf hb
 obtain ⟨x0,x1,x2⟩:=x
 obtain ⟨y0,y1,y2⟩:=y
 clear ha hb a_1 b_1 a_2 b_2 a_3 b_3
 go_enter Tryz.func150,Tryz.ntmps150
 go_wp2_with fail
 refine (kEp ((a_0.alloc _).alloc _) ((b_0.alloc _).alloc _)).mono ?_
 rintro e w1 ⟨rfl,hb1⟩
 have D1:=hb1
 have E1:Below w.heap.size w w1:=((bR.alloc nL _).alloc rM _).trans (hb1.mono rC)
 obtain ⟨hc1,hf1⟩:=jh D1;clear hb1
 go_wp2
 · go_ret
   exact ⟨kP dH,E1⟩
 · go_ret
   exact ⟨kP dQ,E1⟩
 · go_ret
   exact ⟨kP dU,E1⟩
 go_ret
 exact ⟨kP (by have q0:(!decide (x0=y0))=false:=‹_›;simp at q0;have q1:(x1 != y1)=false:=‹_›;simp at q1;have q2:(x2 != y2)=false:=‹_›;simp at q2;simp [q0,q1,q2]),E1⟩
theorem kNz {w:World} {va vb:Value} {x y:List kv} (ha:(Rep.slice 166 kG).raw w [va] x) (hb:(Rep.slice 166 kG).raw w [vb] y) :
    Calls Tryz.prog 54 #[va,vb] w fun e w'=>e=.returned (.bool (decide (x=y)))∧Below w.heap.size w w':=by
 obtain ⟨aa,capa,rfl,la⟩:=Rep.sl ha
 obtain ⟨ab,capb,rfl,lb⟩:=Rep.sl hb
 go_enter Tryz.func54,Tryz.ntmps54
 by_cases hab:x.length=y.length
 · have hab':((x.length:Int) != (y.length:Int))=false:=rE
   have HAB:=yD hab;clear hab
   go_wp2
   go_loopw [5] (fun i wr=>∃ k:Nat,k≤x.length∧i=.int .i64 k∧x.take k=y.take k∧Below w.heap.size w wr) (fun i _=>x.length - (intOf i).toNat)
   case atStart=>exact ⟨0,Nat.zero_le _,rfl,rfl,bR⟩
   obtain ⟨k,hk,rfl,htk,hbel⟩:=hrel
   by_cases hlt:k < x.length
   · have hlt2:k < y.length:=pQ
     obtain ⟨ba,offa,rfl,c0,c1,c2,hr,A0,A1,A2⟩:=Rep.zT (ha.below hbel) hlt rfl
     obtain ⟨bb,offb,rfl,d0,d1,d2,hr2,B0,B1,B2⟩:=Rep.zT (hb.below hbel) hlt2 rfl
     go_wp2
     go_still_tail 8,rA
     change wpList _ _ _ _ _ wr.drew
     clear A0 A1 A2 B0 B1 B2
     by_cases hxy:x[k]=y[k]
     · have hde:decide (x[k]=y[k])=true:=rD
       have HT:=yD (yt htk hlt hlt2 hxy);clear hxy htk
       have C:=kHc hr.drew hr2.drew
       rw [hde] at C
       have HC:=yD C;clear C hde hr hr2
       go_wp2_with (go_at_call 150;refine HC.out.mono ?_;rintro e w' ⟨rfl,hb2⟩)
       go_roundw
       case rel=>exact ⟨k + 1,by omega,by go_num,HT.out,hbel.trans (bR.drew.trans (hb2.mono hbel.size))⟩
       simp [intOf];omega
     have hde:decide (x[k]=y[k])=false:=rD
     have HT:=yD (kAm hlt hlt2 hxy);clear hxy htk
     have C:=kHc hr.drew hr2.drew
     rw [hde] at C
     have HC:=yD C;clear C hde hr hr2
     go_wp2_with (go_at_call 150;refine HC.out.mono ?_;rintro e w' ⟨rfl,hb2⟩)
     go_ret
     exact ⟨kP qW,hbel.trans (bR.drew.trans (hb2.mono hbel.size))⟩
   have HT:=yD (zx htk hlt HAB.out);clear htk
   go_wp2
   go_ret
   exact ⟨kP qW,hbel⟩
 have hab':((x.length:Int) != (y.length:Int))=true:=rC
 have HT:Hid (x≠y):=yD pM;clear hab
 go_wp2
 go_ret
 exact ⟨kP qW,bR⟩
theorem kVm {w:World} {ca cb:List Value} {x y:jD} (ha:kM.raw w ca x) (hb:kM.raw w cb y) :
    Calls Tryz.prog 149 #[.agg ca.toArray,.agg cb.toArray] w fun e w'=>e=.returned (.bool (decide (x=y)))∧Below w.heap.size w w':=by
 obtain ⟨av0,rfl,a_0,a_1,a_2,a_3⟩:=jK ha
 obtain ⟨bv0,rfl,b_0,b_1,b_2,b_3⟩:=jK hb
 obtain ⟨x0,x1,x2⟩:=x
 obtain ⟨y0,y1,y2⟩:=y
 clear ha hb a_1 b_1 a_2 b_2 a_3 b_3
 go_enter Tryz.func149,Tryz.ntmps149
 go_wp2_with fail
 refine (kEp ((a_0.alloc _).alloc _) ((b_0.alloc _).alloc _)).mono ?_
 rintro e w1 ⟨rfl,hb1⟩
 have D1:=hb1
 have E1:Below w.heap.size w w1:=((bR.alloc nL _).alloc rM _).trans (hb1.mono rC)
 obtain ⟨hc1,hf1⟩:=jh D1;clear hb1
 go_wp2
 · go_ret
   exact ⟨kP dH,E1⟩
 · go_ret
   exact ⟨kP dQ,E1⟩
 · go_ret
   exact ⟨kP dU,E1⟩
 go_ret
 exact ⟨kP (by have q0:(!decide (x0=y0))=false:=‹_›;simp at q0;have q1:(x1 != y1)=false:=‹_›;simp at q1;have q2:(x2 != y2)=false:=‹_›;simp at q2;simp [q0,q1,q2]),E1⟩
theorem eqRouteS_c {w:World} {va vb:Value} {x y:List jD} (ha:(Rep.slice 159 kM).raw w [va] x) (hb:(Rep.slice 159 kM).raw w [vb] y) :
    Calls Tryz.prog 53 #[va,vb] w fun e w'=>e=.returned (.bool (decide (x=y)))∧Below w.heap.size w w':=by
 obtain ⟨aa,capa,rfl,la⟩:=Rep.sl ha
 obtain ⟨ab,capb,rfl,lb⟩:=Rep.sl hb
 go_enter Tryz.func53,Tryz.ntmps53
 by_cases hab:x.length=y.length
 · have hab':((x.length:Int) != (y.length:Int))=false:=rE
   have HAB:=yD hab;clear hab
   go_wp2
   go_loopw [5] (fun i wr=>∃ k:Nat,k≤x.length∧i=.int .i64 k∧x.take k=y.take k∧Below w.heap.size w wr) (fun i _=>x.length - (intOf i).toNat)
   case atStart=>exact ⟨0,Nat.zero_le _,rfl,rfl,bR⟩
   obtain ⟨k,hk,rfl,htk,hbel⟩:=hrel
   by_cases hlt:k < x.length
   · have hlt2:k < y.length:=pQ
     obtain ⟨ba,offa,rfl,c0,c1,c2,hr,A0,A1,A2⟩:=Rep.zT (ha.below hbel) hlt rfl
     obtain ⟨bb,offb,rfl,d0,d1,d2,hr2,B0,B1,B2⟩:=Rep.zT (hb.below hbel) hlt2 rfl
     go_wp2
     go_still_tail 8,rA
     change wpList _ _ _ _ _ wr.drew
     clear A0 A1 A2 B0 B1 B2
     by_cases hxy:x[k]=y[k]
     · have hde:decide (x[k]=y[k])=true:=rD
       have HT:=yD (yt htk hlt hlt2 hxy);clear hxy htk
       have C:=kVm hr.drew hr2.drew
       rw [hde] at C
       have HC:=yD C;clear C hde hr hr2
       go_wp2_with (go_at_call 149;refine HC.out.mono ?_;rintro e w' ⟨rfl,hb2⟩)
       go_roundw
       case rel=>exact ⟨k + 1,by omega,by go_num,HT.out,hbel.trans (bR.drew.trans (hb2.mono hbel.size))⟩
       simp [intOf];omega
     have hde:decide (x[k]=y[k])=false:=rD
     have HT:=yD (kAm hlt hlt2 hxy);clear hxy htk
     have C:=kVm hr.drew hr2.drew
     rw [hde] at C
     have HC:=yD C;clear C hde hr hr2
     go_wp2_with (go_at_call 149;refine HC.out.mono ?_;rintro e w' ⟨rfl,hb2⟩)
     go_ret
     exact ⟨kP qW,hbel.trans (bR.drew.trans (hb2.mono hbel.size))⟩
   have HT:=yD (zx htk hlt HAB.out);clear htk
   go_wp2
   go_ret
   exact ⟨kP qW,hbel⟩
 have hab':((x.length:Int) != (y.length:Int))=true:=rC
 have HT:Hid (x≠y):=yD pM;clear hab
 go_wp2
 go_ret
 exact ⟨kP qW,bR⟩
theorem kKe {w:World} {ca cb:List Value} {x y:kS} (ha:kF.raw w ca x) (hb:kF.raw w cb y) :
    Calls Tryz.prog 231 #[.agg ca.toArray,.agg cb.toArray] w fun e w'=>e=.returned (.bool (decide (x=y)))∧Below w.heap.size w w':=by
 obtain ⟨rfl,a_0,a_1,a_2⟩:=yA ha
 obtain ⟨rfl,b_0,b_1,b_2⟩:=yA hb
 obtain ⟨x0,x1,x2⟩:=x
 obtain ⟨y0,y1,y2⟩:=y
 clear ha hb a_0 b_0 a_1 b_1 a_2 b_2
 go_enter Tryz.func231,Tryz.ntmps231
 go_wp2
 · go_ret
   exact ⟨kP dV,(bR.alloc nL _).alloc rM _⟩
 · go_ret
   exact ⟨kP dQ,(bR.alloc nL _).alloc rM _⟩
 · go_ret
   exact ⟨kP dU,(bR.alloc nL _).alloc rM _⟩
 go_ret
 exact ⟨kP (by have q0:(x0 != y0)=false:=‹_›;simp at q0;have q1:(x1 != y1)=false:=‹_›;simp at q1;have q2:(x2 != y2)=false:=‹_›;simp at q2;simp [q0,q1,q2]),(bR.alloc nL _).alloc rM _⟩
theorem kSn {w:World} {va vb:Value} {x y:List kS} (ha:(Rep.slice 81 kF).raw w [va] x) (hb:(Rep.slice 81 kF).raw w [vb] y) :
    Calls Tryz.prog 215 #[va,vb] w fun e w'=>e=.returned (.bool (decide (x=y)))∧Below w.heap.size w w':=by
 obtain ⟨aa,capa,rfl,la⟩:=Rep.sl ha
 obtain ⟨ab,capb,rfl,lb⟩:=Rep.sl hb
 go_enter Tryz.func215,Tryz.ntmps215
 by_cases hab:x.length=y.length
 · have hab':((x.length:Int) != (y.length:Int))=false:=rE
   have HAB:=yD hab;clear hab
   go_wp2
   go_loopw [5] (fun i wr=>∃ k:Nat,k≤x.length∧i=.int .i64 k∧x.take k=y.take k∧Below w.heap.size w wr) (fun i _=>x.length - (intOf i).toNat)
   case atStart=>exact ⟨0,Nat.zero_le _,rfl,rfl,bR⟩
   obtain ⟨k,hk,rfl,htk,hbel⟩:=hrel
   by_cases hlt:k < x.length
   · have hlt2:k < y.length:=pQ
     obtain ⟨ba,offa,rfl,c0,c1,c2,hr,A0,A1,A2⟩:=Rep.zT (ha.below hbel) hlt rfl
     obtain ⟨bb,offb,rfl,d0,d1,d2,hr2,B0,B1,B2⟩:=Rep.zT (hb.below hbel) hlt2 rfl
     go_wp2
     go_still_tail 8,rA
     change wpList _ _ _ _ _ wr.drew
     clear A0 A1 A2 B0 B1 B2
     by_cases hxy:x[k]=y[k]
     · have hde:decide (x[k]=y[k])=true:=rD
       have HT:=yD (yt htk hlt hlt2 hxy);clear hxy htk
       have C:=kKe hr.drew hr2.drew
       rw [hde] at C
       have HC:=yD C;clear C hde hr hr2
       go_wp2_with (go_at_call 231;refine HC.out.mono ?_;rintro e w' ⟨rfl,hb2⟩)
       go_roundw
       case rel=>exact ⟨k + 1,by omega,by go_num,HT.out,hbel.trans (bR.drew.trans (hb2.mono hbel.size))⟩
       simp [intOf];omega
     have hde:decide (x[k]=y[k])=false:=rD
     have HT:=yD (kAm hlt hlt2 hxy);clear hxy htk
     have C:=kKe hr.drew hr2.drew
     rw [hde] at C
     have HC:=yD C;clear C hde hr hr2
     go_wp2_with (go_at_call 231;refine HC.out.mono ?_;rintro e w' ⟨rfl,hb2⟩)
     go_ret
     exact ⟨kP qW,hbel.trans (bR.drew.trans (hb2.mono hbel.size))⟩
   have HT:=yD (zx htk hlt HAB.out);clear htk
   go_wp2
   go_ret
   exact ⟨kP qW,hbel⟩
 have hab':((x.length:Int) != (y.length:Int))=true:=rC
 have HT:Hid (x≠y):=yD pM;clear hab
 go_wp2
 go_ret
 exact ⟨kP qW,bR⟩
theorem kDt {w:World} {ca cb:List Value} {x y:kJ} (ha:kD.raw w ca x) (hb:kD.raw w cb y) :
    Calls Tryz.prog 147 #[.agg ca.toArray,.agg cb.toArray] w fun e w'=>e=.returned (.bool (decide (x=y)))∧Below w.heap.size w w':=by
 obtain ⟨av0,av1,rfl,a_0,a_1,a_2,a_3⟩:=kz ha
 obtain ⟨bv0,bv1,rfl,b_0,b_1,b_2,b_3⟩:=kz hb
 obtain ⟨x0,x1,x2⟩:=x
 obtain ⟨y0,y1,y2⟩:=y
 clear ha hb a_1 b_1 a_3 b_3
 go_enter Tryz.func147,Tryz.ntmps147
 go_wp2_with fail
 refine (kEp ((a_0.alloc _).alloc _) ((b_0.alloc _).alloc _)).mono ?_
 rintro e w1 ⟨rfl,hb1⟩
 have D1:=hb1
 have E1:Below w.heap.size w w1:=((bR.alloc nL _).alloc rM _).trans (hb1.mono rC)
 obtain ⟨hc1,hf1⟩:=jh D1;clear hb1
 go_wp2_with fail
 · go_ret
   exact ⟨kP dH,E1⟩
 refine (kSn (a_2.below E1) (b_2.below E1)).mono ?_
 rintro e w2 ⟨rfl,hb2⟩
 have D2:=(tQ D1 hb2)
 have E2:=(tQ E1 hb2)
 clear hc1 hf1 hb2
 obtain ⟨hc2,hf2⟩:=jh D2
 go_wp2
 · go_ret
   exact ⟨kP dI,E2⟩
 · go_ret
   exact ⟨kP dU,E2⟩
 go_ret
 exact ⟨kP (by have q0:(!decide (x0=y0))=false:=‹_›;simp at q0;have q1:(!decide (x1=y1))=false:=‹_›;simp at q1;have q2:(x2 != y2)=false:=‹_›;simp at q2;simp [q0,q1,q2]),E2⟩
theorem kIg {w:World} {va vb:Value} {x y:List kJ} (ha:(Rep.slice 77 kD).raw w [va] x) (hb:(Rep.slice 77 kD).raw w [vb] y) :
    Calls Tryz.prog 51 #[va,vb] w fun e w'=>e=.returned (.bool (decide (x=y)))∧Below w.heap.size w w':=by
 obtain ⟨aa,capa,rfl,la⟩:=Rep.sl ha
 obtain ⟨ab,capb,rfl,lb⟩:=Rep.sl hb
 go_enter Tryz.func51,Tryz.ntmps51
 by_cases hab:x.length=y.length
 · have hab':((x.length:Int) != (y.length:Int))=false:=rE
   have HAB:=yD hab;clear hab
   go_wp2
   go_loopw [5] (fun i wr=>∃ k:Nat,k≤x.length∧i=.int .i64 k∧x.take k=y.take k∧Below w.heap.size w wr) (fun i _=>x.length - (intOf i).toNat)
   case atStart=>exact ⟨0,Nat.zero_le _,rfl,rfl,bR⟩
   obtain ⟨k,hk,rfl,htk,hbel⟩:=hrel
   by_cases hlt:k < x.length
   · have hlt2:k < y.length:=pQ
     obtain ⟨ba,offa,rfl,c0,c1,c2,hr,A0,A1,A2⟩:=Rep.zT (ha.below hbel) hlt rfl
     obtain ⟨bb,offb,rfl,d0,d1,d2,hr2,B0,B1,B2⟩:=Rep.zT (hb.below hbel) hlt2 rfl
     go_wp2
     go_still_tail 8,rA
     change wpList _ _ _ _ _ wr.drew
     clear A0 A1 A2 B0 B1 B2
     by_cases hxy:x[k]=y[k]
     · have hde:decide (x[k]=y[k])=true:=rD
       have HT:=yD (yt htk hlt hlt2 hxy);clear hxy htk
       have C:=kDt hr.drew hr2.drew
       rw [hde] at C
       have HC:=yD C;clear C hde hr hr2
       go_wp2_with (go_at_call 147;refine HC.out.mono ?_;rintro e w' ⟨rfl,hb2⟩)
       go_roundw
       case rel=>exact ⟨k + 1,by omega,by go_num,HT.out,hbel.trans (bR.drew.trans (hb2.mono hbel.size))⟩
       simp [intOf];omega
     have hde:decide (x[k]=y[k])=false:=rD
     have HT:=yD (kAm hlt hlt2 hxy);clear hxy htk
     have C:=kDt hr.drew hr2.drew
     rw [hde] at C
     have HC:=yD C;clear C hde hr hr2
     go_wp2_with (go_at_call 147;refine HC.out.mono ?_;rintro e w' ⟨rfl,hb2⟩)
     go_ret
     exact ⟨kP qW,hbel.trans (bR.drew.trans (hb2.mono hbel.size))⟩
   have HT:=yD (zx htk hlt HAB.out);clear htk
   go_wp2
   go_ret
   exact ⟨kP qW,hbel⟩
 have hab':((x.length:Int) != (y.length:Int))=true:=rC
 have HT:Hid (x≠y):=yD pM;clear hab
 go_wp2
 go_ret
 exact ⟨kP qW,bR⟩
theorem kKd {w:World} {ca cb:List Value} {x y:jL} (ha:kI.raw w ca x) (hb:kI.raw w cb y) :
    Calls Tryz.prog 148 #[.agg ca.toArray,.agg cb.toArray] w fun e w'=>e=.returned (.bool (decide (x=y)))∧Below w.heap.size w w':=by
 obtain ⟨av0,rfl,a_0,a_1,a_2⟩:=yJ ha
 obtain ⟨bv0,rfl,b_0,b_1,b_2⟩:=yJ hb
 obtain ⟨x0,x1⟩:=x
 obtain ⟨y0,y1⟩:=y
 clear ha hb a_1 b_1 a_2 b_2
 go_enter Tryz.func148,Tryz.ntmps148
 go_wp2_with fail
 refine (kEp ((a_0.alloc _).alloc _) ((b_0.alloc _).alloc _)).mono ?_
 rintro e w1 ⟨rfl,hb1⟩
 have D1:=hb1
 have E1:Below w.heap.size w w1:=((bR.alloc nL _).alloc rM _).trans (hb1.mono rC)
 obtain ⟨hc1,hf1⟩:=jh D1;clear hb1
 go_wp2
 · go_ret
   exact ⟨kP dH,E1⟩
 · go_ret
   exact ⟨kP dQ,E1⟩
 go_ret
 exact ⟨kP (by have q0:(!decide (x0=y0))=false:=‹_›;simp at q0;have q1:(x1 != y1)=false:=‹_›;simp at q1;simp [q0,q1]),E1⟩
theorem kSm {w:World} {va vb:Value} {x y:List jL} (ha:(Rep.slice 157 kI).raw w [va] x) (hb:(Rep.slice 157 kI).raw w [vb] y) :
    Calls Tryz.prog 52 #[va,vb] w fun e w'=>e=.returned (.bool (decide (x=y)))∧Below w.heap.size w w':=by
 obtain ⟨aa,capa,rfl,la⟩:=Rep.sl ha
 obtain ⟨ab,capb,rfl,lb⟩:=Rep.sl hb
 go_enter Tryz.func52,Tryz.ntmps52
 by_cases hab:x.length=y.length
 · have hab':((x.length:Int) != (y.length:Int))=false:=rE
   have HAB:=yD hab;clear hab
   go_wp2
   go_loopw [5] (fun i wr=>∃ k:Nat,k≤x.length∧i=.int .i64 k∧x.take k=y.take k∧Below w.heap.size w wr) (fun i _=>x.length - (intOf i).toNat)
   case atStart=>exact ⟨0,Nat.zero_le _,rfl,rfl,bR⟩
   obtain ⟨k,hk,rfl,htk,hbel⟩:=hrel
   by_cases hlt:k < x.length
   · have hlt2:k < y.length:=pQ
     obtain ⟨ba,offa,rfl,c0,c1,hr,A0,A1⟩:=Rep.get2 (ha.below hbel) hlt rfl
     obtain ⟨bb,offb,rfl,d0,d1,hr2,B0,B1⟩:=Rep.get2 (hb.below hbel) hlt2 rfl
     go_wp2
     go_still_tail 8,rA
     change wpList _ _ _ _ _ wr.drew
     clear A0 A1 B0 B1
     by_cases hxy:x[k]=y[k]
     · have hde:decide (x[k]=y[k])=true:=rD
       have HT:=yD (yt htk hlt hlt2 hxy);clear hxy htk
       have C:=kKd hr.drew hr2.drew
       rw [hde] at C
       have HC:=yD C;clear C hde hr hr2
       go_wp2_with (go_at_call 148;refine HC.out.mono ?_;rintro e w' ⟨rfl,hb2⟩)
       go_roundw
       case rel=>exact ⟨k + 1,by omega,by go_num,HT.out,hbel.trans (bR.drew.trans (hb2.mono hbel.size))⟩
       simp [intOf];omega
     have hde:decide (x[k]=y[k])=false:=rD
     have HT:=yD (kAm hlt hlt2 hxy);clear hxy htk
     have C:=kKd hr.drew hr2.drew
     rw [hde] at C
     have HC:=yD C;clear C hde hr hr2
     go_wp2_with (go_at_call 148;refine HC.out.mono ?_;rintro e w' ⟨rfl,hb2⟩)
     go_ret
     exact ⟨kP qW,hbel.trans (bR.drew.trans (hb2.mono hbel.size))⟩
   have HT:=yD (zx htk hlt HAB.out);clear htk
   go_wp2
   go_ret
   exact ⟨kP qW,hbel⟩
 have hab':((x.length:Int) != (y.length:Int))=true:=rC
 have HT:Hid (x≠y):=yD pM;clear hab
 go_wp2
 go_ret
 exact ⟨kP qW,bR⟩
theorem kMk {w:World} {ca cb:List Value} {x y:jF} (ha:kw.raw w ca x) (hb:kw.raw w cb y) :
    Calls Tryz.prog 17 #[.agg ca.toArray,.agg cb.toArray] w fun e w'=>e=.returned (.bool (decide (x=y)))∧Below w.heap.size w w':=by
 obtain ⟨av0,rfl,a_0,a_1,a_2,a_3,a_4⟩:=jA ha
 obtain ⟨bv0,rfl,b_0,b_1,b_2,b_3,b_4⟩:=jA hb
 obtain ⟨x0,x1,x2,x3⟩:=x
 obtain ⟨y0,y1,y2,y3⟩:=y
 clear ha hb a_1 b_1 a_2 b_2 a_3 b_3 a_4 b_4
 go_enter Tryz.func17,Tryz.ntmps17
 go_wp2_with fail
 refine (kEp ((a_0.alloc _).alloc _) ((b_0.alloc _).alloc _)).mono ?_
 rintro e w1 ⟨rfl,hb1⟩
 have D1:=hb1
 have E1:Below w.heap.size w w1:=((bR.alloc nL _).alloc rM _).trans (hb1.mono rC)
 obtain ⟨hc1,hf1⟩:=jh D1;clear hb1
 go_wp2
 · go_ret
   exact ⟨kP dH,E1⟩
 · go_ret
   exact ⟨kP dQ,E1⟩
 · go_ret
   exact ⟨kP dU,E1⟩
 · go_ret
   exact ⟨kP (by have q:(x3 != y3)=true:=‹_›;simp at q;simp [q]),E1⟩
 go_ret
 exact ⟨kP (by have q0:(!decide (x0=y0))=false:=‹_›;simp at q0;have q1:(x1 != y1)=false:=‹_›;simp at q1;have q2:(x2 != y2)=false:=‹_›;simp at q2;have q3:(x3 != y3)=false:=‹_›;simp at q3;simp [q0,q1,q2,q3]),E1⟩
theorem kMl {w:World} {ca cb:List Value} {x y:yX} (ha:kg.raw w ca x) (hb:kg.raw w cb y) :
    Calls Tryz.prog 145 #[.agg ca.toArray,.agg cb.toArray] w fun e w'=>e=.returned (.bool (decide (x=y)))∧Below w.heap.size w w':=by
 obtain ⟨av0,av1,av2,rfl,a_0,a_1,a_2,a_3,a_4,a_5,a_6⟩:=jS ha
 obtain ⟨bv0,bv1,bv2,rfl,b_0,b_1,b_2,b_3,b_4,b_5,b_6⟩:=jS hb
 obtain ⟨x0,x1,x2,x3,x4⟩:=x
 obtain ⟨y0,y1,y2,y3,y4⟩:=y
 clear ha hb a_1 b_1 a_4 b_4 a_5 b_5 a_6 b_6
 go_enter Tryz.func145,Tryz.ntmps145
 go_wp2_with fail
 refine (kEp ((a_0.alloc _).alloc _) ((b_0.alloc _).alloc _)).mono ?_
 rintro e w1 ⟨rfl,hb1⟩
 have D1:=hb1
 have E1:Below w.heap.size w w1:=((bR.alloc nL _).alloc rM _).trans (hb1.mono rC)
 obtain ⟨hc1,hf1⟩:=jh D1;clear hb1
 go_wp2_with fail
 · go_ret
   exact ⟨kP dH,E1⟩
 refine (eqByteS_c (a_2.below E1) (b_2.below E1)).mono ?_
 rintro e w2 ⟨rfl,hb2⟩
 have D2:=(tQ D1 hb2)
 have E2:=(tQ E1 hb2)
 clear hc1 hf1 hb2
 obtain ⟨hc2,hf2⟩:=jh D2
 go_wp2_with fail
 · go_ret
   exact ⟨kP dI,E2⟩
 refine (kEp (a_3.below E2) (b_3.below E2)).mono ?_
 rintro e w3 ⟨rfl,hb3⟩
 have D3:=(tQ D2 hb3)
 have E3:=(tQ E2 hb3)
 clear hc2 hf2 hb3
 obtain ⟨hc3,hf3⟩:=jh D3
 go_wp2
 · go_ret
   exact ⟨kP dJ,E3⟩
 · go_ret
   exact ⟨kP (by have q:(x3 != y3)=true:=‹_›;simp at q;simp [q]),E3⟩
 · go_ret
   exact ⟨kP (by have q:(x4 != y4)=true:=‹_›;simp at q;simp [q]),E3⟩
 go_ret
 exact ⟨kP (by have q0:(!decide (x0=y0))=false:=‹_›;simp at q0;have q1:(!decide (x1=y1))=false:=‹_›;simp at q1;have q2:(!decide (x2=y2))=false:=‹_›;simp at q2;have q3:(x3 != y3)=false:=‹_›;simp at q3;have q4:(x4 != y4)=false:=‹_›;simp at q4;simp [q0,q1,q2,q3,q4]),E3⟩
theorem eqDataS_c {w:World} {va vb:Value} {x y:List yX} (ha:(Rep.slice 113 kg).raw w [va] x) (hb:(Rep.slice 113 kg).raw w [vb] y) :
    Calls Tryz.prog 49 #[va,vb] w fun e w'=>e=.returned (.bool (decide (x=y)))∧Below w.heap.size w w':=by
 obtain ⟨aa,capa,rfl,la⟩:=Rep.sl ha
 obtain ⟨ab,capb,rfl,lb⟩:=Rep.sl hb
 go_enter Tryz.func49,Tryz.ntmps49
 by_cases hab:x.length=y.length
 · have hab':((x.length:Int) != (y.length:Int))=false:=rE
   have HAB:=yD hab;clear hab
   go_wp2
   go_loopw [5] (fun i wr=>∃ k:Nat,k≤x.length∧i=.int .i64 k∧x.take k=y.take k∧Below w.heap.size w wr) (fun i _=>x.length - (intOf i).toNat)
   case atStart=>exact ⟨0,Nat.zero_le _,rfl,rfl,bR⟩
   obtain ⟨k,hk,rfl,htk,hbel⟩:=hrel
   by_cases hlt:k < x.length
   · have hlt2:k < y.length:=pQ
     obtain ⟨ba,offa,rfl,c0,c1,c2,c3,c4,hr,A0,A1,A2,A3,A4⟩:=Rep.get5 (ha.below hbel) hlt rfl
     obtain ⟨bb,offb,rfl,d0,d1,d2,d3,d4,hr2,B0,B1,B2,B3,B4⟩:=Rep.get5 (hb.below hbel) hlt2 rfl
     go_wp2
     go_still_tail 8,rA
     change wpList _ _ _ _ _ wr.drew
     clear A0 A1 A2 A3 A4 B0 B1 B2 B3 B4
     by_cases hxy:x[k]=y[k]
     · have hde:decide (x[k]=y[k])=true:=rD
       have HT:=yD (yt htk hlt hlt2 hxy);clear hxy htk
       have C:=kMl hr.drew hr2.drew
       rw [hde] at C
       have HC:=yD C;clear C hde hr hr2
       go_wp2_with (go_at_call 145;refine HC.out.mono ?_;rintro e w' ⟨rfl,hb2⟩)
       go_roundw
       case rel=>exact ⟨k + 1,by omega,by go_num,HT.out,hbel.trans (bR.drew.trans (hb2.mono hbel.size))⟩
       simp [intOf];omega
     have hde:decide (x[k]=y[k])=false:=rD
     have HT:=yD (kAm hlt hlt2 hxy);clear hxy htk
     have C:=kMl hr.drew hr2.drew
     rw [hde] at C
     have HC:=yD C;clear C hde hr hr2
     go_wp2_with (go_at_call 145;refine HC.out.mono ?_;rintro e w' ⟨rfl,hb2⟩)
     go_ret
     exact ⟨kP qW,hbel.trans (bR.drew.trans (hb2.mono hbel.size))⟩
   have HT:=yD (zx htk hlt HAB.out);clear htk
   go_wp2
   go_ret
   exact ⟨kP qW,hbel⟩
 have hab':((x.length:Int) != (y.length:Int))=true:=rC
 have HT:Hid (x≠y):=yD pM;clear hab
 go_wp2
 go_ret
 exact ⟨kP qW,bR⟩
theorem kIh {w:World} {ca cb:List Value} {x y:jJ} (ha:kK.raw w ca x) (hb:kK.raw w cb y) :
    Calls Tryz.prog 214 #[.agg ca.toArray,.agg cb.toArray] w fun e w'=>e=.returned (.bool (decide (x=y)))∧Below w.heap.size w w':=by
 obtain ⟨av0,av1,av2,rfl,a_0,a_1,a_2,a_3,a_4,a_5,a_6,a_7,a_8⟩:=jW ha
 obtain ⟨bv0,bv1,bv2,rfl,b_0,b_1,b_2,b_3,b_4,b_5,b_6,b_7,b_8⟩:=jW hb
 obtain ⟨x0,x1⟩:=x
 obtain ⟨y0,y1⟩:=y
 clear ha hb a_1 b_1 a_2 b_2 a_3 b_3 a_4 b_4 a_5 b_5 a_6 b_6 a_7 b_7 a_8 b_8
 go_enter Tryz.func214,Tryz.ntmps214
 go_wp2_with fail
 refine (kMl ((a_0.alloc _).alloc _) ((b_0.alloc _).alloc _)).mono ?_
 rintro e w1 ⟨rfl,hb1⟩
 have D1:=hb1
 have E1:Below w.heap.size w w1:=((bR.alloc nL _).alloc rM _).trans (hb1.mono rC)
 obtain ⟨hc1,hf1⟩:=jh D1;clear hb1
 go_wp2
 · go_ret
   exact ⟨kP dH,E1⟩
 · go_ret
   exact ⟨kP dQ,E1⟩
 go_ret
 exact ⟨kP (by have q0:(!decide (x0=y0))=false:=‹_›;simp at q0;have q1:(x1 != y1)=false:=‹_›;simp at q1;simp [q0,q1]),E1⟩
theorem kPw {w:World} {va vb:Value} {x y:List jJ} (ha:(Rep.slice 169 kK).raw w [va] x) (hb:(Rep.slice 169 kK).raw w [vb] y) :
    Calls Tryz.prog 146 #[va,vb] w fun e w'=>e=.returned (.bool (decide (x=y)))∧Below w.heap.size w w':=by
 obtain ⟨aa,capa,rfl,la⟩:=Rep.sl ha
 obtain ⟨ab,capb,rfl,lb⟩:=Rep.sl hb
 go_enter Tryz.func146,Tryz.ntmps146
 by_cases hab:x.length=y.length
 · have hab':((x.length:Int) != (y.length:Int))=false:=rE
   have HAB:=yD hab;clear hab
   go_wp2
   go_loopw [5] (fun i wr=>∃ k:Nat,k≤x.length∧i=.int .i64 k∧x.take k=y.take k∧Below w.heap.size w wr) (fun i _=>x.length - (intOf i).toNat)
   case atStart=>exact ⟨0,Nat.zero_le _,rfl,rfl,bR⟩
   obtain ⟨k,hk,rfl,htk,hbel⟩:=hrel
   by_cases hlt:k < x.length
   · have hlt2:k < y.length:=pQ
     obtain ⟨ba,offa,rfl,c0,c1,c2,c3,c4,c5,hr,A0,A1,A2,A3,A4,A5⟩:=Rep.get6 (ha.below hbel) hlt rfl
     obtain ⟨bb,offb,rfl,d0,d1,d2,d3,d4,d5,hr2,B0,B1,B2,B3,B4,B5⟩:=Rep.get6 (hb.below hbel) hlt2 rfl
     go_wp2
     go_still_tail 8,rA
     change wpList _ _ _ _ _ wr.drew
     clear A0 A1 A2 A3 A4 A5 B0 B1 B2 B3 B4 B5
     by_cases hxy:x[k]=y[k]
     · have hde:decide (x[k]=y[k])=true:=rD
       have HT:=yD (yt htk hlt hlt2 hxy);clear hxy htk
       have C:=kIh hr.drew hr2.drew
       rw [hde] at C
       have HC:=yD C;clear C hde hr hr2
       go_wp2_with (go_at_call 214;refine HC.out.mono ?_;rintro e w' ⟨rfl,hb2⟩)
       go_roundw
       case rel=>exact ⟨k + 1,by omega,by go_num,HT.out,hbel.trans (bR.drew.trans (hb2.mono hbel.size))⟩
       simp [intOf];omega
     have hde:decide (x[k]=y[k])=false:=rD
     have HT:=yD (kAm hlt hlt2 hxy);clear hxy htk
     have C:=kIh hr.drew hr2.drew
     rw [hde] at C
     have HC:=yD C;clear C hde hr hr2
     go_wp2_with (go_at_call 214;refine HC.out.mono ?_;rintro e w' ⟨rfl,hb2⟩)
     go_ret
     exact ⟨kP qW,hbel.trans (bR.drew.trans (hb2.mono hbel.size))⟩
   have HT:=yD (zx htk hlt HAB.out);clear htk
   go_wp2
   go_ret
   exact ⟨kP qW,hbel⟩
 have hab':((x.length:Int) != (y.length:Int))=true:=rC
 have HT:Hid (x≠y):=yD pM;clear hab
 go_wp2
 go_ret
 exact ⟨kP qW,bR⟩
theorem kOa {w:World} {ca cb:List Value} {x y:jH} (ha:kH.raw w ca x) (hb:kH.raw w cb y) :
    Calls Tryz.prog 50 #[.agg ca.toArray,.agg cb.toArray] w fun e w'=>e=.returned (.bool (decide (x=y)))∧Below w.heap.size w w':=by
 obtain ⟨av0,rfl,a_0,a_1⟩:=jG ha
 obtain ⟨bv0,rfl,b_0,b_1⟩:=jG hb
 obtain ⟨x0,x1⟩:=x
 obtain ⟨y0,y1⟩:=y
 clear ha hb a_0 b_0
 go_enter Tryz.func50,Tryz.ntmps50
 go_wp2_with fail
 · go_ret
   exact ⟨kP dV,(bR.alloc nL _).alloc rM _⟩
 refine (kPw ((a_1.alloc _).alloc _) ((b_1.alloc _).alloc _)).mono ?_
 rintro e w1 ⟨rfl,hb1⟩
 have D1:=hb1
 have E1:Below w.heap.size w w1:=((bR.alloc nL _).alloc rM _).trans (hb1.mono rC)
 obtain ⟨hc1,hf1⟩:=jh D1;clear hb1
 go_wp2
 · go_ret
   exact ⟨kP dI,E1⟩
 go_ret
 exact ⟨kP (by have q0:(x0 != y0)=false:=‹_›;simp at q0;have q1:(!decide (x1=y1))=false:=‹_›;simp at q1;simp [q0,q1]),E1⟩
theorem eqNode_c {w:World} {ca cb:List Value} {x y:yZ} (ha:jM.raw w ca x) (hb:jM.raw w cb y) :
    Calls Tryz.prog 9 #[.agg ca.toArray,.agg cb.toArray] w fun e w'=>e=.returned (.bool (decide (x=y)))∧Below w.heap.size w w':=by
 obtain ⟨av0,av1,av2,av3,av4,av5,rfl,a_0,a_1,a_2,a_3,a_4,a_5,a_6,a_7,a_8⟩:=jm ha
 obtain ⟨bv0,bv1,bv2,bv3,bv4,bv5,rfl,b_0,b_1,b_2,b_3,b_4,b_5,b_6,b_7,b_8⟩:=jm hb
 obtain ⟨x0,x1,x2,x3,x4,x5,x6⟩:=x
 obtain ⟨y0,y1,y2,y3,y4,y5,y6⟩:=y
 clear ha hb a_2 b_2 a_3 b_3 a_8 b_8
 go_enter Tryz.func9,Tryz.ntmps9
 go_wp2_with fail
 refine (eqDataS_c ((a_0.alloc _).alloc _) ((b_0.alloc _).alloc _)).mono ?_
 rintro e w1 ⟨rfl,hb1⟩
 have D1:=hb1
 have E1:Below w.heap.size w w1:=((bR.alloc nL _).alloc rM _).trans (hb1.mono rC)
 obtain ⟨hc1,hf1⟩:=jh D1;clear hb1
 go_wp2_with fail
 · go_ret
   exact ⟨kP dH,E1⟩
 refine (kOa (a_1.below E1) (b_1.below E1)).mono ?_
 rintro e w2 ⟨rfl,hb2⟩
 have D2:=(tQ D1 hb2)
 have E2:=(tQ E1 hb2)
 clear hc1 hf1 hb2
 obtain ⟨hc2,hf2⟩:=jh D2
 go_wp2_with fail
 · go_ret
   exact ⟨kP dI,E2⟩
 refine (kIg (a_4.below E2) (b_4.below E2)).mono ?_
 rintro e w3 ⟨rfl,hb3⟩
 have D3:=(tQ D2 hb3)
 have E3:=(tQ E2 hb3)
 clear hc2 hf2 hb3
 obtain ⟨hc3,hf3⟩:=jh D3
 go_wp2_with fail
 · go_ret
   exact ⟨kP dJ,E3⟩
 refine (kSm (a_5.below E3) (b_5.below E3)).mono ?_
 rintro e w4 ⟨rfl,hb4⟩
 have D4:=(tQ D3 hb4)
 have E4:=(tQ E3 hb4)
 clear hc3 hf3 hb4
 obtain ⟨hc4,hf4⟩:=jh D4
 go_wp2_with fail
 · go_ret
   exact ⟨kP (by have q:(!decide (x3=y3))=true:=‹_›;simp at q;simp [q]),E4⟩
 refine (eqRouteS_c (a_6.below E4) (b_6.below E4)).mono ?_
 rintro e w5 ⟨rfl,hb5⟩
 have D5:=(tQ D4 hb5)
 have E5:=(tQ E4 hb5)
 clear hc4 hf4 hb5
 obtain ⟨hc5,hf5⟩:=jh D5
 go_wp2_with fail
 · go_ret
   exact ⟨kP (by have q:(!decide (x4=y4))=true:=‹_›;simp at q;simp [q]),E5⟩
 refine (kNz (a_7.below E5) (b_7.below E5)).mono ?_
 rintro e w6 ⟨rfl,hb6⟩
 have D6:=(tQ D5 hb6)
 have E6:=(tQ E5 hb6)
 clear hc5 hf5 hb6
 obtain ⟨hc6,hf6⟩:=jh D6
 go_wp2
 · go_ret
   exact ⟨kP (by have q:(!decide (x5=y5))=true:=‹_›;simp at q;simp [q]),E6⟩
 · go_ret
   exact ⟨kP (by have q:(x6 != y6)=true:=‹_›;simp at q;simp [q]),E6⟩
 go_ret
 exact ⟨kP (by have q0:(!decide (x0=y0))=false:=‹_›;simp at q0;have q1:(!decide (x1=y1))=false:=‹_›;simp at q1;have q2:(!decide (x2=y2))=false:=‹_›;simp at q2;have q3:(!decide (x3=y3))=false:=‹_›;simp at q3;have q4:(!decide (x4=y4))=false:=‹_›;simp at q4;have q5:(!decide (x5=y5))=false:=‹_›;simp at q5;have q6:(x6 != y6)=false:=‹_›;simp at q6;simp [q0,q1,q2,q3,q4,q5,q6]),E6⟩
theorem kMj {w:World} {ca cb:List Value} {x y:jQ} (ha:kU.raw w ca x) (hb:kU.raw w cb y) :
    Calls Tryz.prog 179 #[.agg ca.toArray,.agg cb.toArray] w fun e w'=>e=.returned (.bool (decide (x=y)))∧Below w.heap.size w w':=by
 obtain ⟨av0,av1,av2,av3,rfl,a_0,a_1,a_2,a_3,a_4,a_5,a_6,a_7,a_8,a_9,a_10,a_11,a_12,a_13,a_14⟩:=zo ha
 obtain ⟨bv0,bv1,bv2,bv3,rfl,b_0,b_1,b_2,b_3,b_4,b_5,b_6,b_7,b_8,b_9,b_10,b_11,b_12,b_13,b_14⟩:=zo hb
 obtain ⟨x0,x1,x2,x3⟩:=x
 obtain ⟨y0,y1,y2,y3⟩:=y
 clear ha hb a_0 b_0 a_2 b_2 a_3 b_3 a_4 b_4 a_5 b_5 a_6 b_6 a_8 b_8 a_9 b_9 a_10 b_10 a_11 b_11 a_12 b_12 a_13 b_13 a_14 b_14
 go_enter Tryz.func179,Tryz.ntmps179
 go_wp2_with fail
 · go_ret
   exact ⟨kP dV,(bR.alloc nL _).alloc rM _⟩
 · go_ret
   exact ⟨kP dQ,(bR.alloc nL _).alloc rM _⟩
 refine (kMk ((a_1.alloc _).alloc _) ((b_1.alloc _).alloc _)).mono ?_
 rintro e w1 ⟨rfl,hb1⟩
 have D1:=hb1
 have E1:Below w.heap.size w w1:=((bR.alloc nL _).alloc rM _).trans (hb1.mono rC)
 obtain ⟨hc1,hf1⟩:=jh D1;clear hb1
 go_wp2_with fail
 · go_ret
   exact ⟨kP dJ,E1⟩
 refine (kMl (a_7.below E1) (b_7.below E1)).mono ?_
 rintro e w2 ⟨rfl,hb2⟩
 have D2:=(tQ D1 hb2)
 have E2:=(tQ E1 hb2)
 clear hc1 hf1 hb2
 obtain ⟨hc2,hf2⟩:=jh D2
 go_wp2
 · go_ret
   exact ⟨kP (by have q:(!decide (x3=y3))=true:=‹_›;simp at q;simp [q]),E2⟩
 go_ret
 exact ⟨kP (by have q0:(x0 != y0)=false:=‹_›;simp at q0;have q1:(x1 != y1)=false:=‹_›;simp at q1;have q2:(!decide (x2=y2))=false:=‹_›;simp at q2;have q3:(!decide (x3=y3))=false:=‹_›;simp at q3;simp [q0,q1,q2,q3]),E2⟩
theorem kTy {w:World} {va vb:Value} {x y:List jQ} (ha:(Rep.slice 117 kU).raw w [va] x) (hb:(Rep.slice 117 kU).raw w [vb] y) :
    Calls Tryz.prog 92 #[va,vb] w fun e w'=>e=.returned (.bool (decide (x=y)))∧Below w.heap.size w w':=by
 obtain ⟨aa,capa,rfl,la⟩:=Rep.sl ha
 obtain ⟨ab,capb,rfl,lb⟩:=Rep.sl hb
 go_enter Tryz.func92,Tryz.ntmps92
 by_cases hab:x.length=y.length
 · have hab':((x.length:Int) != (y.length:Int))=false:=rE
   have HAB:=yD hab;clear hab
   go_wp2
   go_loopw [5] (fun i wr=>∃ k:Nat,k≤x.length∧i=.int .i64 k∧x.take k=y.take k∧Below w.heap.size w wr) (fun i _=>x.length - (intOf i).toNat)
   case atStart=>exact ⟨0,Nat.zero_le _,rfl,rfl,bR⟩
   obtain ⟨k,hk,rfl,htk,hbel⟩:=hrel
   by_cases hlt:k < x.length
   · have hlt2:k < y.length:=pQ
     obtain ⟨ba,offa,rfl,c0,c1,c2,c3,c4,c5,c6,c7,c8,c9,c10,hr,A0,A1,A2,A3,A4,A5,A6,A7,A8,A9,A10⟩:=Rep.get11 (ha.below hbel) hlt rfl
     obtain ⟨bb,offb,rfl,d0,d1,d2,d3,d4,d5,d6,d7,d8,d9,d10,hr2,B0,B1,B2,B3,B4,B5,B6,B7,B8,B9,B10⟩:=Rep.get11 (hb.below hbel) hlt2 rfl
     go_wp2
     go_still_tail 8,rA
     change wpList _ _ _ _ _ wr.drew
     clear A0 A1 A2 A3 A4 A5 A6 A7 A8 A9 A10 B0 B1 B2 B3 B4 B5 B6 B7 B8 B9 B10
     by_cases hxy:x[k]=y[k]
     · have hde:decide (x[k]=y[k])=true:=rD
       have HT:=yD (yt htk hlt hlt2 hxy);clear hxy htk
       have C:=kMj hr.drew hr2.drew
       rw [hde] at C
       have HC:=yD C;clear C hde hr hr2
       go_wp2_with (go_at_call 179;refine HC.out.mono ?_;rintro e w' ⟨rfl,hb2⟩)
       go_roundw
       case rel=>exact ⟨k + 1,by omega,by go_num,HT.out,hbel.trans (bR.drew.trans (hb2.mono hbel.size))⟩
       simp [intOf];omega
     have hde:decide (x[k]=y[k])=false:=rD
     have HT:=yD (kAm hlt hlt2 hxy);clear hxy htk
     have C:=kMj hr.drew hr2.drew
     rw [hde] at C
     have HC:=yD C;clear C hde hr hr2
     go_wp2_with (go_at_call 179;refine HC.out.mono ?_;rintro e w' ⟨rfl,hb2⟩)
     go_ret
     exact ⟨kP qW,hbel.trans (bR.drew.trans (hb2.mono hbel.size))⟩
   have HT:=yD (zx htk hlt HAB.out);clear htk
   go_wp2
   go_ret
   exact ⟨kP qW,hbel⟩
 have hab':((x.length:Int) != (y.length:Int))=true:=rC
 have HT:Hid (x≠y):=yD pM;clear hab
 go_wp2
 go_ret
 exact ⟨kP qW,bR⟩
theorem kKy {w:World} {ca cb:List Value} {x y:kGv} (ha:yP.raw w ca x) (hb:yP.raw w cb y) :
    Calls Tryz.prog 16 #[.agg ca.toArray,.agg cb.toArray] w fun e w'=>e=.returned (.bool (decide (x=y)))∧Below w.heap.size w w':=by
 obtain ⟨av0,av1,av2,av3,av4,av5,av6,rfl,a_0,a_1,a_2,a_3,a_4,a_5,a_6,a_7,a_8,a_9,a_10⟩:=yG ha
 obtain ⟨bv0,bv1,bv2,bv3,bv4,bv5,bv6,rfl,b_0,b_1,b_2,b_3,b_4,b_5,b_6,b_7,b_8,b_9,b_10⟩:=yG hb
 obtain ⟨x0,x1⟩:=x
 obtain ⟨y0,y1⟩:=y
 clear ha hb a_1 b_1 a_2 b_2 a_3 b_3 a_4 b_4 a_5 b_5 a_6 b_6 a_7 b_7 a_8 b_8 a_9 b_9
 go_enter Tryz.func16,Tryz.ntmps16
 go_wp2_with fail
 refine (eqNode_c ((a_0.alloc _).alloc _) ((b_0.alloc _).alloc _)).mono ?_
 rintro e w1 ⟨rfl,hb1⟩
 have D1:=hb1
 have E1:Below w.heap.size w w1:=((bR.alloc nL _).alloc rM _).trans (hb1.mono rC)
 obtain ⟨hc1,hf1⟩:=jh D1;clear hb1
 go_wp2_with fail
 · go_ret
   exact ⟨kP dH,E1⟩
 refine (kTy (a_10.below E1) (b_10.below E1)).mono ?_
 rintro e w2 ⟨rfl,hb2⟩
 have D2:=(tQ D1 hb2)
 have E2:=(tQ E1 hb2)
 clear hc1 hf1 hb2
 obtain ⟨hc2,hf2⟩:=jh D2
 go_wp2
 · go_ret
   exact ⟨kP dI,E2⟩
 go_ret
 exact ⟨kP (by have q0:(!decide (x0=y0))=false:=‹_›;simp at q0;have q1:(!decide (x1=y1))=false:=‹_›;simp at q1;simp [q0,q1]),E2⟩
def kAn (bd:Prop) (left:Int) (w:World) (e:Ending) (w':World):Prop:=∃ r:Int,e=.returned (.int .i64 r)∧-1≤r∧r≤left∧(0≤r→bd)∧Below w.heap.size w w'
theorem jd {bd:Prop} {left:Int} {w w':World} (hl:0≤left) (h:Below w.heap.size w w'):kAn bd left w (.returned (.int .i64 (-1))) w':=⟨-1,rfl,by omega,by omega,by omega,h⟩
theorem kAi {α:Type} {P:α→Prop} {x:List α} {k:Nat} (h:∀ y∈x.take k,P y) (hk:k < x.length) (hy:P x[k]):∀ y∈x.take (k + 1),P y:=by
 rw [List.take_succ_eq_append_getElem hk]
 intro y hm
 rcases List.mem_append.1 hm with hm | hm
 · exact h y hm
 rw [List.mem_singleton.1 hm];exact hy
theorem kAj {α:Type} {P:α→Prop} {x:List α} {k:Nat} (h:∀ y∈x.take k,P y) (hk:¬ k < x.length):∀ y∈x,P y:=by
 rwa [List.take_of_length_le rJ] at h
theorem szStringS_c {w:World} {va:Value} {x:List ByteArray} {left:Int} (ha:(Rep.slice 9 Rep.str).raw w [va] x) (hl0:0≤left) (hl1:left≤1048576) :
    Calls Tryz.prog 159 #[va,.int .i64 left] w (kAn ((Rep.slice 9 Rep.str).bdd 1048576 x) left w):=by
 obtain ⟨aa,capa,rfl,la⟩:=Rep.sl ha
 go_enter Tryz.func159,Tryz.ntmps159
 by_cases hb:left < (x.length:Int)
 · have hb1:left - (x.length:Int) < 0:=rJ
   have hb2:-9223372036854775808≤left - (x.length:Int):=rJ
   go_wp2
   go_ret
   exact jd hl0 bR
 have hb1:0≤left - (x.length:Int):=rJ
 have hb2:¬ left - (x.length:Int) < 0:=rJ
 go_wp2
 go_loopw [1,5] (fun l i wr=>∃ (k:Nat) (r:Int),k≤x.length∧i=.int .i64 k∧l=.int .i64 r∧0≤r∧r≤left∧(∀ y∈x.take k,Rep.str.bdd 1048576 y)∧Below w.heap.size w wr) (fun _ i _=>x.length - (intOf i).toNat)
 case atStart=>exact ⟨0,_,Nat.zero_le _,rfl,rfl,hb1,by omega,by simp,bR⟩
 obtain ⟨k,r,hk,rfl,rfl,hr0,hr1,hall,hbel⟩:=hrel
 have HA:=yD hall;clear hall
 by_cases hlt:k < x.length
 · obtain ⟨ba,offa,rfl,c0,hr,A0⟩:=Rep.kEo (ha.below hbel) hlt rfl
   obtain ⟨he,hz⟩:=Rep.kBe hr
   obtain rfl:c0=_:=by simpa using he
   unfold maxLen at hz
   clear he hr
   by_cases hs:r < (x[k].size:Int)
   · have h1:r - (x[k].size:Int) < 0:=rJ
     have h2:-9223372036854775808≤r - (x[k].size:Int):=rJ
     go_wp2
     go_ret
     exact jd hl0 hbel
   have h1:0≤r - (x[k].size:Int):=rJ
   have h2:¬ r - (x[k].size:Int) < 0:=rJ
   go_wp2
   go_roundw
   case rel=>exact ⟨k + 1,_,by omega,by go_num,rfl,h1,by omega,kAi HA.out hlt (by show x[k].size≤1048576;omega),hbel⟩
   simp [intOf];omega
 go_wp2
 go_ret
 exact ⟨_,rfl,by omega,by omega,fun _=>⟨by omega,kAj HA.out hlt⟩,hbel⟩
theorem szByteS_c {w:World} {va:Value} {x:List UInt8} {left:Int} (ha:(Rep.slice 5 Rep.byte).raw w [va] x) (hl0:0≤left) (hl1:left≤1048576) :
    Calls Tryz.prog 181 #[va,.int .i64 left] w (kAn ((Rep.slice 5 Rep.byte).bdd 1048576 x) left w):=by
 obtain ⟨aa,capa,rfl,la⟩:=Rep.sl ha
 go_enter Tryz.func181,Tryz.ntmps181
 by_cases hb:left < (x.length:Int)
 · have hb1:left - (x.length:Int) < 0:=rJ
   have hb2:-9223372036854775808≤left - (x.length:Int):=rJ
   go_wp2
   go_ret
   exact jd hl0 bR
 have hb1:0≤left - (x.length:Int):=rJ
 have hb2:¬ left - (x.length:Int) < 0:=rJ
 go_wp2
 go_ret
 exact ⟨_,rfl,by omega,by omega,fun _=>⟨by omega,fun _ _=>by first | trivial | exact ⟨trivial,trivial⟩ | exact ⟨trivial,trivial,trivial⟩ | exact ⟨trivial,trivial,trivial,trivial⟩⟩,bR⟩
theorem kEj {w:World} {ca:List Value} {x:ky} {left:Int} (ha:kZ.raw w ca x) (hl0:0≤left) (hl1:left≤1048576) :
    Calls Tryz.prog 67 #[.agg ca.toArray,.int .i64 left] w (kAn (kZ.bdd 1048576 x) left w):=by
 obtain ⟨av0,rfl,a_0⟩:=kR ha
 obtain ⟨x0,rfl⟩:∃ x0,x0=x:=⟨_,rfl⟩
 clear ha
 go_enter Tryz.func67,Tryz.ntmps67
 go_wp2_with fail
 refine (szStringS_c (a_0.alloc _) hl0 hl1).mono ?_
 rintro e w1 ⟨r1,rfl,p1,q1,s1,hb1⟩
 have S1:=yD s1;clear s1
 have D1:=hb1
 have E1:Below w.heap.size w w1:=(bR.alloc nL _).trans (hb1.mono rM)
 obtain ⟨hc1,hf1⟩:=jh D1;clear hb1
 by_cases m1:r1 < 0
 · go_wp2
   go_ret
   exact jd hl0 E1
 have n1:0≤r1:=rJ
 go_wp2
 go_ret
 exact ⟨_,rfl,by omega,by omega,fun _=>S1.out n1,E1⟩
theorem kPc {w:World} {ca:List Value} {x:kv} {left:Int} (ha:kG.raw w ca x) (hl0:0≤left) (hl1:left≤1048576) :
    Calls Tryz.prog 102 #[.agg ca.toArray,.int .i64 left] w (kAn (kG.bdd 1048576 x) left w):=by
 obtain ⟨av0,rfl,a_0,a_1,a_2,a_3⟩:=jf ha
 obtain ⟨x0,x1,x2⟩:=x
 clear ha a_1 a_2 a_3
 go_enter Tryz.func102,Tryz.ntmps102
 go_wp2_with fail
 refine (kEj (a_0.alloc _) hl0 hl1).mono ?_
 rintro e w1 ⟨r1,rfl,p1,q1,s1,hb1⟩
 have S1:=yD s1;clear s1
 have D1:=hb1
 have E1:Below w.heap.size w w1:=(bR.alloc nL _).trans (hb1.mono rM)
 obtain ⟨hc1,hf1⟩:=jh D1;clear hb1
 by_cases m1:r1 < 0
 · go_wp2
   go_ret
   exact jd hl0 E1
 have n1:0≤r1:=rJ
 go_wp2
 go_ret
 exact ⟨_,rfl,by omega,by omega,fun _=>⟨S1.out n1,trivial,trivial⟩,E1⟩
theorem kNe {w:World} {va:Value} {x:List kv} {left:Int} (ha:(Rep.slice 166 kG).raw w [va] x) (hl0:0≤left) (hl1:left≤1048576) :
    Calls Tryz.prog 26 #[va,.int .i64 left] w (kAn ((Rep.slice 166 kG).bdd 1048576 x) left w):=by
 obtain ⟨aa,capa,rfl,la⟩:=Rep.sl ha
 go_enter Tryz.func26,Tryz.ntmps26
 by_cases hb:left < (x.length:Int)
 · have hb1:left - (x.length:Int) < 0:=rJ
   have hb2:-9223372036854775808≤left - (x.length:Int):=rJ
   go_wp2
   go_ret
   exact jd hl0 bR
 have hb1:0≤left - (x.length:Int):=rJ
 have hb2:¬ left - (x.length:Int) < 0:=rJ
 go_wp2
 go_loopw [1,5] (fun l i wr=>∃ (k:Nat) (r:Int),k≤x.length∧i=.int .i64 k∧l=.int .i64 r∧0≤r∧r≤left∧(∀ y∈x.take k,kG.bdd 1048576 y)∧Below w.heap.size w wr) (fun _ i _=>x.length - (intOf i).toNat)
 case atStart=>exact ⟨0,_,Nat.zero_le _,rfl,rfl,hb1,by omega,by simp,bR⟩
 obtain ⟨k,r,hk,rfl,rfl,hr0,hr1,hall,hbel⟩:=hrel
 have HA:=yD hall;clear hall
 by_cases hlt:k < x.length
 · obtain ⟨ba,offa,rfl,c0,c1,c2,hr,A0,A1,A2⟩:=Rep.zT (ha.below hbel) hlt rfl
   go_wp2_with fail
   refine (kPc hr hr0 rJ).mono ?_
   rintro e w' ⟨r',rfl,h1,h2,h3,hb3⟩
   have HB:=yD h3;clear h3 hr
   have hbel2:=(tQ hbel hb3)
   by_cases hs:r' < 0
   · go_wp2
     go_ret
     exact jd hl0 hbel2
   have h4:0≤r':=rJ
   go_wp2
   go_roundw
   case rel=>exact ⟨k + 1,_,by omega,by go_num,rfl,h4,by omega,kAi HA.out hlt (HB.out h4),hbel2⟩
   simp [intOf];omega
 go_wp2
 go_ret
 exact ⟨_,rfl,by omega,by omega,fun _=>⟨by omega,kAj HA.out hlt⟩,hbel⟩
theorem szRoute_c {w:World} {ca:List Value} {x:jD} {left:Int} (ha:kM.raw w ca x) (hl0:0≤left) (hl1:left≤1048576) :
    Calls Tryz.prog 101 #[.agg ca.toArray,.int .i64 left] w (kAn (kM.bdd 1048576 x) left w):=by
 obtain ⟨av0,rfl,a_0,a_1,a_2,a_3⟩:=jK ha
 obtain ⟨x0,x1,x2⟩:=x
 clear ha a_1 a_2 a_3
 go_enter Tryz.func101,Tryz.ntmps101
 go_wp2_with fail
 refine (kEj (a_0.alloc _) hl0 hl1).mono ?_
 rintro e w1 ⟨r1,rfl,p1,q1,s1,hb1⟩
 have S1:=yD s1;clear s1
 have D1:=hb1
 have E1:Below w.heap.size w w1:=(bR.alloc nL _).trans (hb1.mono rM)
 obtain ⟨hc1,hf1⟩:=jh D1;clear hb1
 by_cases m1:r1 < 0
 · go_wp2
   go_ret
   exact jd hl0 E1
 have n1:0≤r1:=rJ
 go_wp2
 go_ret
 exact ⟨_,rfl,by omega,by omega,fun _=>⟨S1.out n1,trivial,trivial⟩,E1⟩
theorem szRouteS_c {w:World} {va:Value} {x:List jD} {left:Int} (ha:(Rep.slice 159 kM).raw w [va] x) (hl0:0≤left) (hl1:left≤1048576) :
    Calls Tryz.prog 25 #[va,.int .i64 left] w (kAn ((Rep.slice 159 kM).bdd 1048576 x) left w):=by
 obtain ⟨aa,capa,rfl,la⟩:=Rep.sl ha
 go_enter Tryz.func25,Tryz.ntmps25
 by_cases hb:left < (x.length:Int)
 · have hb1:left - (x.length:Int) < 0:=rJ
   have hb2:-9223372036854775808≤left - (x.length:Int):=rJ
   go_wp2
   go_ret
   exact jd hl0 bR
 have hb1:0≤left - (x.length:Int):=rJ
 have hb2:¬ left - (x.length:Int) < 0:=rJ
 go_wp2
 go_loopw [1,5] (fun l i wr=>∃ (k:Nat) (r:Int),k≤x.length∧i=.int .i64 k∧l=.int .i64 r∧0≤r∧r≤left∧(∀ y∈x.take k,kM.bdd 1048576 y)∧Below w.heap.size w wr) (fun _ i _=>x.length - (intOf i).toNat)
 case atStart=>exact ⟨0,_,Nat.zero_le _,rfl,rfl,hb1,by omega,by simp,bR⟩
 obtain ⟨k,r,hk,rfl,rfl,hr0,hr1,hall,hbel⟩:=hrel
 have HA:=yD hall;clear hall
 by_cases hlt:k < x.length
 · obtain ⟨ba,offa,rfl,c0,c1,c2,hr,A0,A1,A2⟩:=Rep.zT (ha.below hbel) hlt rfl
   go_wp2_with fail
   refine (szRoute_c hr hr0 rJ).mono ?_
   rintro e w' ⟨r',rfl,h1,h2,h3,hb3⟩
   have HB:=yD h3;clear h3 hr
   have hbel2:=(tQ hbel hb3)
   by_cases hs:r' < 0
   · go_wp2
     go_ret
     exact jd hl0 hbel2
   have h4:0≤r':=rJ
   go_wp2
   go_roundw
   case rel=>exact ⟨k + 1,_,by omega,by go_num,rfl,h4,by omega,kAi HA.out hlt (HB.out h4),hbel2⟩
   simp [intOf];omega
 go_wp2
 go_ret
 exact ⟨_,rfl,by omega,by omega,fun _=>⟨by omega,kAj HA.out hlt⟩,hbel⟩
theorem kQw {w:World} {va:Value} {x:List kS} {left:Int} (ha:(Rep.slice 81 kF).raw w [va] x) (hl0:0≤left) (hl1:left≤1048576) :
    Calls Tryz.prog 183 #[va,.int .i64 left] w (kAn ((Rep.slice 81 kF).bdd 1048576 x) left w):=by
 obtain ⟨aa,capa,rfl,la⟩:=Rep.sl ha
 go_enter Tryz.func183,Tryz.ntmps183
 by_cases hb:left < (x.length:Int)
 · have hb1:left - (x.length:Int) < 0:=rJ
   have hb2:-9223372036854775808≤left - (x.length:Int):=rJ
   go_wp2
   go_ret
   exact jd hl0 bR
 have hb1:0≤left - (x.length:Int):=rJ
 have hb2:¬ left - (x.length:Int) < 0:=rJ
 go_wp2
 go_ret
 exact ⟨_,rfl,by omega,by omega,fun _=>⟨by omega,fun _ _=>by first | trivial | exact ⟨trivial,trivial⟩ | exact ⟨trivial,trivial,trivial⟩ | exact ⟨trivial,trivial,trivial,trivial⟩⟩,bR⟩
theorem kJa {w:World} {ca:List Value} {x:kJ} {left:Int} (ha:kD.raw w ca x) (hl0:0≤left) (hl1:left≤1048576) :
    Calls Tryz.prog 99 #[.agg ca.toArray,.int .i64 left] w (kAn (kD.bdd 1048576 x) left w):=by
 obtain ⟨av0,av1,rfl,a_0,a_1,a_2,a_3⟩:=kz ha
 obtain ⟨x0,x1,x2⟩:=x
 clear ha a_1 a_3
 go_enter Tryz.func99,Tryz.ntmps99
 go_wp2_with fail
 refine (kEj (a_0.alloc _) hl0 hl1).mono ?_
 rintro e w1 ⟨r1,rfl,p1,q1,s1,hb1⟩
 have S1:=yD s1;clear s1
 have D1:=hb1
 have E1:Below w.heap.size w w1:=(bR.alloc nL _).trans (hb1.mono rM)
 obtain ⟨hc1,hf1⟩:=jh D1;clear hb1
 by_cases m1:r1 < 0
 · go_wp2
   go_ret
   exact jd hl0 E1
 have n1:0≤r1:=rJ
 go_wp2_with fail
 refine (kQw (a_2.below E1) n1 rJ).mono ?_
 rintro e w2 ⟨r2,rfl,p2,q2,s2,hb2⟩
 have S2:=yD s2;clear s2
 have D2:=(tQ D1 hb2)
 have E2:=(tQ E1 hb2)
 clear hc1 hf1 hb2
 obtain ⟨hc2,hf2⟩:=jh D2
 by_cases m2:r2 < 0
 · go_wp2
   go_ret
   exact jd hl0 E2
 have n2:0≤r2:=rJ
 go_wp2
 go_ret
 exact ⟨_,rfl,by omega,by omega,fun _=>⟨S1.out n1,S2.out n2,trivial⟩,E2⟩
theorem kHm {w:World} {va:Value} {x:List kJ} {left:Int} (ha:(Rep.slice 77 kD).raw w [va] x) (hl0:0≤left) (hl1:left≤1048576) :
    Calls Tryz.prog 23 #[va,.int .i64 left] w (kAn ((Rep.slice 77 kD).bdd 1048576 x) left w):=by
 obtain ⟨aa,capa,rfl,la⟩:=Rep.sl ha
 go_enter Tryz.func23,Tryz.ntmps23
 by_cases hb:left < (x.length:Int)
 · have hb1:left - (x.length:Int) < 0:=rJ
   have hb2:-9223372036854775808≤left - (x.length:Int):=rJ
   go_wp2
   go_ret
   exact jd hl0 bR
 have hb1:0≤left - (x.length:Int):=rJ
 have hb2:¬ left - (x.length:Int) < 0:=rJ
 go_wp2
 go_loopw [1,5] (fun l i wr=>∃ (k:Nat) (r:Int),k≤x.length∧i=.int .i64 k∧l=.int .i64 r∧0≤r∧r≤left∧(∀ y∈x.take k,kD.bdd 1048576 y)∧Below w.heap.size w wr) (fun _ i _=>x.length - (intOf i).toNat)
 case atStart=>exact ⟨0,_,Nat.zero_le _,rfl,rfl,hb1,by omega,by simp,bR⟩
 obtain ⟨k,r,hk,rfl,rfl,hr0,hr1,hall,hbel⟩:=hrel
 have HA:=yD hall;clear hall
 by_cases hlt:k < x.length
 · obtain ⟨ba,offa,rfl,c0,c1,c2,hr,A0,A1,A2⟩:=Rep.zT (ha.below hbel) hlt rfl
   go_wp2_with fail
   refine (kJa hr hr0 rJ).mono ?_
   rintro e w' ⟨r',rfl,h1,h2,h3,hb3⟩
   have HB:=yD h3;clear h3 hr
   have hbel2:=(tQ hbel hb3)
   by_cases hs:r' < 0
   · go_wp2
     go_ret
     exact jd hl0 hbel2
   have h4:0≤r':=rJ
   go_wp2
   go_roundw
   case rel=>exact ⟨k + 1,_,by omega,by go_num,rfl,h4,by omega,kAi HA.out hlt (HB.out h4),hbel2⟩
   simp [intOf];omega
 go_wp2
 go_ret
 exact ⟨_,rfl,by omega,by omega,fun _=>⟨by omega,kAj HA.out hlt⟩,hbel⟩
theorem kTg {w:World} {ca:List Value} {x:jL} {left:Int} (ha:kI.raw w ca x) (hl0:0≤left) (hl1:left≤1048576) :
    Calls Tryz.prog 100 #[.agg ca.toArray,.int .i64 left] w (kAn (kI.bdd 1048576 x) left w):=by
 obtain ⟨av0,rfl,a_0,a_1,a_2⟩:=yJ ha
 obtain ⟨x0,x1⟩:=x
 clear ha a_1 a_2
 go_enter Tryz.func100,Tryz.ntmps100
 go_wp2_with fail
 refine (kEj (a_0.alloc _) hl0 hl1).mono ?_
 rintro e w1 ⟨r1,rfl,p1,q1,s1,hb1⟩
 have S1:=yD s1;clear s1
 have D1:=hb1
 have E1:Below w.heap.size w w1:=(bR.alloc nL _).trans (hb1.mono rM)
 obtain ⟨hc1,hf1⟩:=jh D1;clear hb1
 by_cases m1:r1 < 0
 · go_wp2
   go_ret
   exact jd hl0 E1
 have n1:0≤r1:=rJ
 go_wp2
 go_ret
 exact ⟨_,rfl,by omega,by omega,fun _=>⟨S1.out n1,trivial⟩,E1⟩
theorem kQv {w:World} {va:Value} {x:List jL} {left:Int} (ha:(Rep.slice 157 kI).raw w [va] x) (hl0:0≤left) (hl1:left≤1048576) :
    Calls Tryz.prog 24 #[va,.int .i64 left] w (kAn ((Rep.slice 157 kI).bdd 1048576 x) left w):=by
 obtain ⟨aa,capa,rfl,la⟩:=Rep.sl ha
 go_enter Tryz.func24,Tryz.ntmps24
 by_cases hb:left < (x.length:Int)
 · have hb1:left - (x.length:Int) < 0:=rJ
   have hb2:-9223372036854775808≤left - (x.length:Int):=rJ
   go_wp2
   go_ret
   exact jd hl0 bR
 have hb1:0≤left - (x.length:Int):=rJ
 have hb2:¬ left - (x.length:Int) < 0:=rJ
 go_wp2
 go_loopw [1,5] (fun l i wr=>∃ (k:Nat) (r:Int),k≤x.length∧i=.int .i64 k∧l=.int .i64 r∧0≤r∧r≤left∧(∀ y∈x.take k,kI.bdd 1048576 y)∧Below w.heap.size w wr) (fun _ i _=>x.length - (intOf i).toNat)
 case atStart=>exact ⟨0,_,Nat.zero_le _,rfl,rfl,hb1,by omega,by simp,bR⟩
 obtain ⟨k,r,hk,rfl,rfl,hr0,hr1,hall,hbel⟩:=hrel
 have HA:=yD hall;clear hall
 by_cases hlt:k < x.length
 · obtain ⟨ba,offa,rfl,c0,c1,hr,A0,A1⟩:=Rep.get2 (ha.below hbel) hlt rfl
   go_wp2_with fail
   refine (kTg hr hr0 rJ).mono ?_
   rintro e w' ⟨r',rfl,h1,h2,h3,hb3⟩
   have HB:=yD h3;clear h3 hr
   have hbel2:=(tQ hbel hb3)
   by_cases hs:r' < 0
   · go_wp2
     go_ret
     exact jd hl0 hbel2
   have h4:0≤r':=rJ
   go_wp2
   go_roundw
   case rel=>exact ⟨k + 1,_,by omega,by go_num,rfl,h4,by omega,kAi HA.out hlt (HB.out h4),hbel2⟩
   simp [intOf];omega
 go_wp2
 go_ret
 exact ⟨_,rfl,by omega,by omega,fun _=>⟨by omega,kAj HA.out hlt⟩,hbel⟩
theorem kVt {w:World} {ca:List Value} {x:jF} {left:Int} (ha:kw.raw w ca x) (hl0:0≤left) (hl1:left≤1048576) :
    Calls Tryz.prog 12 #[.agg ca.toArray,.int .i64 left] w (kAn (kw.bdd 1048576 x) left w):=by
 obtain ⟨av0,rfl,a_0,a_1,a_2,a_3,a_4⟩:=jA ha
 obtain ⟨x0,x1,x2,x3⟩:=x
 clear ha a_1 a_2 a_3 a_4
 go_enter Tryz.func12,Tryz.ntmps12
 go_wp2_with fail
 refine (kEj (a_0.alloc _) hl0 hl1).mono ?_
 rintro e w1 ⟨r1,rfl,p1,q1,s1,hb1⟩
 have S1:=yD s1;clear s1
 have D1:=hb1
 have E1:Below w.heap.size w w1:=(bR.alloc nL _).trans (hb1.mono rM)
 obtain ⟨hc1,hf1⟩:=jh D1;clear hb1
 by_cases m1:r1 < 0
 · go_wp2
   go_ret
   exact jd hl0 E1
 have n1:0≤r1:=rJ
 go_wp2
 go_ret
 exact ⟨_,rfl,by omega,by omega,fun _=>⟨S1.out n1,trivial,trivial,trivial⟩,E1⟩
theorem szData_c {w:World} {ca:List Value} {x:yX} {left:Int} (ha:kg.raw w ca x) (hl0:0≤left) (hl1:left≤1048576) :
    Calls Tryz.prog 97 #[.agg ca.toArray,.int .i64 left] w (kAn (kg.bdd 1048576 x) left w):=by
 obtain ⟨av0,av1,av2,rfl,a_0,a_1,a_2,a_3,a_4,a_5,a_6⟩:=jS ha
 obtain ⟨x0,x1,x2,x3,x4⟩:=x
 clear ha a_1 a_4 a_5 a_6
 go_enter Tryz.func97,Tryz.ntmps97
 go_wp2_with fail
 refine (kEj (a_0.alloc _) hl0 hl1).mono ?_
 rintro e w1 ⟨r1,rfl,p1,q1,s1,hb1⟩
 have S1:=yD s1;clear s1
 have D1:=hb1
 have E1:Below w.heap.size w w1:=(bR.alloc nL _).trans (hb1.mono rM)
 obtain ⟨hc1,hf1⟩:=jh D1;clear hb1
 by_cases m1:r1 < 0
 · go_wp2
   go_ret
   exact jd hl0 E1
 have n1:0≤r1:=rJ
 go_wp2_with fail
 refine (szByteS_c (a_2.below E1) n1 rJ).mono ?_
 rintro e w2 ⟨r2,rfl,p2,q2,s2,hb2⟩
 have S2:=yD s2;clear s2
 have D2:=(tQ D1 hb2)
 have E2:=(tQ E1 hb2)
 clear hc1 hf1 hb2
 obtain ⟨hc2,hf2⟩:=jh D2
 by_cases m2:r2 < 0
 · go_wp2
   go_ret
   exact jd hl0 E2
 have n2:0≤r2:=rJ
 go_wp2_with fail
 refine (kEj (a_3.below E2) n2 rJ).mono ?_
 rintro e w3 ⟨r3,rfl,p3,q3,s3,hb3⟩
 have S3:=yD s3;clear s3
 have D3:=(tQ D2 hb3)
 have E3:=(tQ E2 hb3)
 clear hc2 hf2 hb3
 obtain ⟨hc3,hf3⟩:=jh D3
 by_cases m3:r3 < 0
 · go_wp2
   go_ret
   exact jd hl0 E3
 have n3:0≤r3:=rJ
 go_wp2
 go_ret
 exact ⟨_,rfl,by omega,by omega,fun _=>⟨S1.out n1,S2.out n2,S3.out n3,trivial,trivial⟩,E3⟩
theorem szDataS_c {w:World} {va:Value} {x:List yX} {left:Int} (ha:(Rep.slice 113 kg).raw w [va] x) (hl0:0≤left) (hl1:left≤1048576) :
    Calls Tryz.prog 21 #[va,.int .i64 left] w (kAn ((Rep.slice 113 kg).bdd 1048576 x) left w):=by
 obtain ⟨aa,capa,rfl,la⟩:=Rep.sl ha
 go_enter Tryz.func21,Tryz.ntmps21
 by_cases hb:left < (x.length:Int)
 · have hb1:left - (x.length:Int) < 0:=rJ
   have hb2:-9223372036854775808≤left - (x.length:Int):=rJ
   go_wp2
   go_ret
   exact jd hl0 bR
 have hb1:0≤left - (x.length:Int):=rJ
 have hb2:¬ left - (x.length:Int) < 0:=rJ
 go_wp2
 go_loopw [1,5] (fun l i wr=>∃ (k:Nat) (r:Int),k≤x.length∧i=.int .i64 k∧l=.int .i64 r∧0≤r∧r≤left∧(∀ y∈x.take k,kg.bdd 1048576 y)∧Below w.heap.size w wr) (fun _ i _=>x.length - (intOf i).toNat)
 case atStart=>exact ⟨0,_,Nat.zero_le _,rfl,rfl,hb1,by omega,by simp,bR⟩
 obtain ⟨k,r,hk,rfl,rfl,hr0,hr1,hall,hbel⟩:=hrel
 have HA:=yD hall;clear hall
 by_cases hlt:k < x.length
 · obtain ⟨ba,offa,rfl,c0,c1,c2,c3,c4,hr,A0,A1,A2,A3,A4⟩:=Rep.get5 (ha.below hbel) hlt rfl
   go_wp2_with fail
   refine (szData_c hr hr0 rJ).mono ?_
   rintro e w' ⟨r',rfl,h1,h2,h3,hb3⟩
   have HB:=yD h3;clear h3 hr
   have hbel2:=(tQ hbel hb3)
   by_cases hs:r' < 0
   · go_wp2
     go_ret
     exact jd hl0 hbel2
   have h4:0≤r':=rJ
   go_wp2
   go_roundw
   case rel=>exact ⟨k + 1,_,by omega,by go_num,rfl,h4,by omega,kAi HA.out hlt (HB.out h4),hbel2⟩
   simp [intOf];omega
 go_wp2
 go_ret
 exact ⟨_,rfl,by omega,by omega,fun _=>⟨by omega,kAj HA.out hlt⟩,hbel⟩
theorem kQx {w:World} {ca:List Value} {x:jJ} {left:Int} (ha:kK.raw w ca x) (hl0:0≤left) (hl1:left≤1048576) :
    Calls Tryz.prog 182 #[.agg ca.toArray,.int .i64 left] w (kAn (kK.bdd 1048576 x) left w):=by
 obtain ⟨av0,av1,av2,rfl,a_0,a_1,a_2,a_3,a_4,a_5,a_6,a_7,a_8⟩:=jW ha
 obtain ⟨x0,x1⟩:=x
 clear ha a_1 a_2 a_3 a_4 a_5 a_6 a_7 a_8
 go_enter Tryz.func182,Tryz.ntmps182
 go_wp2_with fail
 refine (szData_c (a_0.alloc _) hl0 hl1).mono ?_
 rintro e w1 ⟨r1,rfl,p1,q1,s1,hb1⟩
 have S1:=yD s1;clear s1
 have D1:=hb1
 have E1:Below w.heap.size w w1:=(bR.alloc nL _).trans (hb1.mono rM)
 obtain ⟨hc1,hf1⟩:=jh D1;clear hb1
 by_cases m1:r1 < 0
 · go_wp2
   go_ret
   exact jd hl0 E1
 have n1:0≤r1:=rJ
 go_wp2
 go_ret
 exact ⟨_,rfl,by omega,by omega,fun _=>⟨S1.out n1,trivial⟩,E1⟩
theorem kPd {w:World} {va:Value} {x:List jJ} {left:Int} (ha:(Rep.slice 169 kK).raw w [va] x) (hl0:0≤left) (hl1:left≤1048576) :
    Calls Tryz.prog 98 #[va,.int .i64 left] w (kAn ((Rep.slice 169 kK).bdd 1048576 x) left w):=by
 obtain ⟨aa,capa,rfl,la⟩:=Rep.sl ha
 go_enter Tryz.func98,Tryz.ntmps98
 by_cases hb:left < (x.length:Int)
 · have hb1:left - (x.length:Int) < 0:=rJ
   have hb2:-9223372036854775808≤left - (x.length:Int):=rJ
   go_wp2
   go_ret
   exact jd hl0 bR
 have hb1:0≤left - (x.length:Int):=rJ
 have hb2:¬ left - (x.length:Int) < 0:=rJ
 go_wp2
 go_loopw [1,5] (fun l i wr=>∃ (k:Nat) (r:Int),k≤x.length∧i=.int .i64 k∧l=.int .i64 r∧0≤r∧r≤left∧(∀ y∈x.take k,kK.bdd 1048576 y)∧Below w.heap.size w wr) (fun _ i _=>x.length - (intOf i).toNat)
 case atStart=>exact ⟨0,_,Nat.zero_le _,rfl,rfl,hb1,by omega,by simp,bR⟩
 obtain ⟨k,r,hk,rfl,rfl,hr0,hr1,hall,hbel⟩:=hrel
 have HA:=yD hall;clear hall
 by_cases hlt:k < x.length
 · obtain ⟨ba,offa,rfl,c0,c1,c2,c3,c4,c5,hr,A0,A1,A2,A3,A4,A5⟩:=Rep.get6 (ha.below hbel) hlt rfl
   go_wp2_with fail
   refine (kQx hr hr0 rJ).mono ?_
   rintro e w' ⟨r',rfl,h1,h2,h3,hb3⟩
   have HB:=yD h3;clear h3 hr
   have hbel2:=(tQ hbel hb3)
   by_cases hs:r' < 0
   · go_wp2
     go_ret
     exact jd hl0 hbel2
   have h4:0≤r':=rJ
   go_wp2
   go_roundw
   case rel=>exact ⟨k + 1,_,by omega,by go_num,rfl,h4,by omega,kAi HA.out hlt (HB.out h4),hbel2⟩
   simp [intOf];omega
 go_wp2
 go_ret
 exact ⟨_,rfl,by omega,by omega,fun _=>⟨by omega,kAj HA.out hlt⟩,hbel⟩
theorem kNf {w:World} {ca:List Value} {x:jH} {left:Int} (ha:kH.raw w ca x) (hl0:0≤left) (hl1:left≤1048576) :
    Calls Tryz.prog 22 #[.agg ca.toArray,.int .i64 left] w (kAn (kH.bdd 1048576 x) left w):=by
 obtain ⟨av0,rfl,a_0,a_1⟩:=jG ha
 obtain ⟨x0,x1⟩:=x
 clear ha a_0
 go_enter Tryz.func22,Tryz.ntmps22
 go_wp2_with fail
 refine (kPd (a_1.alloc _) hl0 hl1).mono ?_
 rintro e w1 ⟨r1,rfl,p1,q1,s1,hb1⟩
 have S1:=yD s1;clear s1
 have D1:=hb1
 have E1:Below w.heap.size w w1:=(bR.alloc nL _).trans (hb1.mono rM)
 obtain ⟨hc1,hf1⟩:=jh D1;clear hb1
 by_cases m1:r1 < 0
 · go_wp2
   go_ret
   exact jd hl0 E1
 have n1:0≤r1:=rJ
 go_wp2
 go_ret
 exact ⟨_,rfl,by omega,by omega,fun _=>⟨trivial,S1.out n1⟩,E1⟩
theorem szNode_c {w:World} {ca:List Value} {x:yZ} {left:Int} (ha:jM.raw w ca x) (hl0:0≤left) (hl1:left≤1048576) :
    Calls Tryz.prog 5 #[.agg ca.toArray,.int .i64 left] w (kAn (jM.bdd 1048576 x) left w):=by
 obtain ⟨av0,av1,av2,av3,av4,av5,rfl,a_0,a_1,a_2,a_3,a_4,a_5,a_6,a_7,a_8⟩:=jm ha
 obtain ⟨x0,x1,x2,x3,x4,x5,x6⟩:=x
 clear ha a_2 a_3 a_8
 go_enter Tryz.func5,Tryz.ntmps5
 go_wp2_with fail
 refine (szDataS_c (a_0.alloc _) hl0 hl1).mono ?_
 rintro e w1 ⟨r1,rfl,p1,q1,s1,hb1⟩
 have S1:=yD s1;clear s1
 have D1:=hb1
 have E1:Below w.heap.size w w1:=(bR.alloc nL _).trans (hb1.mono rM)
 obtain ⟨hc1,hf1⟩:=jh D1;clear hb1
 by_cases m1:r1 < 0
 · go_wp2
   go_ret
   exact jd hl0 E1
 have n1:0≤r1:=rJ
 go_wp2_with fail
 refine (kNf (a_1.below E1) n1 rJ).mono ?_
 rintro e w2 ⟨r2,rfl,p2,q2,s2,hb2⟩
 have S2:=yD s2;clear s2
 have D2:=(tQ D1 hb2)
 have E2:=(tQ E1 hb2)
 clear hc1 hf1 hb2
 obtain ⟨hc2,hf2⟩:=jh D2
 by_cases m2:r2 < 0
 · go_wp2
   go_ret
   exact jd hl0 E2
 have n2:0≤r2:=rJ
 go_wp2_with fail
 refine (kHm (a_4.below E2) n2 rJ).mono ?_
 rintro e w3 ⟨r3,rfl,p3,q3,s3,hb3⟩
 have S3:=yD s3;clear s3
 have D3:=(tQ D2 hb3)
 have E3:=(tQ E2 hb3)
 clear hc2 hf2 hb3
 obtain ⟨hc3,hf3⟩:=jh D3
 by_cases m3:r3 < 0
 · go_wp2
   go_ret
   exact jd hl0 E3
 have n3:0≤r3:=rJ
 go_wp2_with fail
 refine (kQv (a_5.below E3) n3 rJ).mono ?_
 rintro e w4 ⟨r4,rfl,p4,q4,s4,hb4⟩
 have S4:=yD s4;clear s4
 have D4:=(tQ D3 hb4)
 have E4:=(tQ E3 hb4)
 clear hc3 hf3 hb4
 obtain ⟨hc4,hf4⟩:=jh D4
 by_cases m4:r4 < 0
 · go_wp2
   go_ret
   exact jd hl0 E4
 have n4:0≤r4:=rJ
 go_wp2_with fail
 refine (szRouteS_c (a_6.below E4) n4 rJ).mono ?_
 rintro e w5 ⟨r5,rfl,p5,q5,s5,hb5⟩
 have S5:=yD s5;clear s5
 have D5:=(tQ D4 hb5)
 have E5:=(tQ E4 hb5)
 clear hc4 hf4 hb5
 obtain ⟨hc5,hf5⟩:=jh D5
 by_cases m5:r5 < 0
 · go_wp2
   go_ret
   exact jd hl0 E5
 have n5:0≤r5:=rJ
 go_wp2_with fail
 refine (kNe (a_7.below E5) n5 rJ).mono ?_
 rintro e w6 ⟨r6,rfl,p6,q6,s6,hb6⟩
 have S6:=yD s6;clear s6
 have D6:=(tQ D5 hb6)
 have E6:=(tQ E5 hb6)
 clear hc5 hf5 hb6
 obtain ⟨hc6,hf6⟩:=jh D6
 by_cases m6:r6 < 0
 · go_wp2
   go_ret
   exact jd hl0 E6
 have n6:0≤r6:=rJ
 go_wp2
 go_ret
 exact ⟨_,rfl,by omega,by omega,fun _=>⟨S1.out n1,S2.out n2,S3.out n3,S4.out n4,S5.out n5,S6.out n6,trivial⟩,E6⟩
end Go.Proofs.YtomdenfcfbkfbaaGreat

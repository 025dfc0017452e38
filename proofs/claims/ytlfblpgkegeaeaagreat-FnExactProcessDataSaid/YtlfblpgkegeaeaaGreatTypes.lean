/-
  The program's types as plain data, and how their cells are taken apart. Printed by gentypes.py.
-/
import Derived.Test.YtlfblpgkegeaeaaGreatOwn2
set_option linter.unusedVariables false
set_option linter.unusedSimpArgs false
set_option linter.unnecessarySimpa false
namespace Go.Proofs.YtlfblpgkegeaeaaGreat
open Go.RowKit
abbrev kW:=(List ByteArray)
instance decName:DecidableEq kW:=inferInstanceAs (DecidableEq ((List ByteArray)))
def kL:Rep kW:=(.slice 9 .str)
theorem RName_n:kL.n=1:=rfl
theorem kM {w:World} {cs:List Value} {x:kW} (h:kL.raw w cs x):∃ v0,cs=[v0]∧(Rep.slice 9 Rep.str).raw w [v0] x:=by
 obtain ⟨_,rfl,r_0⟩:=Rep.zl h
 exact ⟨_,rfl,r_0⟩
theorem kPe:Rep.Sub kL (Rep.slice 9 Rep.str) (fun x=>x) (fun x y=>y) 0:=Rep.Sub.refl (Rep.slice 9 Rep.str)
abbrev kZ:=kW × Int × Int
instance decMeasurement:DecidableEq kZ:=inferInstanceAs (DecidableEq (kW × Int × Int))
def kF:Rep kZ:=.pair kL (.pair .int .int)
theorem kSz:kF.n=3:=rfl
theorem jX {w:World} {cs:List Value} {x:kZ} (h:kF.raw w cs x):∃ v0,cs=[v0,.int .i64 x.2.1,.int .i64 x.2.2]∧kL.raw w [v0] x.1∧(Rep.slice 9 Rep.str).raw w [v0] x.1∧(-9223372036854775808≤x.2.1∧x.2.1≤9223372036854775807)∧(-9223372036854775808≤x.2.2∧x.2.2≤9223372036854775807):=by
 obtain ⟨_,_,rfl,a_0,b_0⟩:=Rep.jb h
 have q_0:=kM a_0
 obtain ⟨_,rfl,s_0_0⟩:=q_0
 obtain ⟨_,_,rfl,a_1,b_1⟩:=Rep.jb b_0
 obtain ⟨rfl,r_1⟩:=Rep.zu a_1
 obtain ⟨rfl,r_2⟩:=Rep.zu b_1
 exact ⟨_,rfl,a_0,s_0_0,r_1,r_2⟩
theorem kIx:Rep.Sub kF (Rep.slice 9 Rep.str) (fun x=>x.1) (fun x y=>(y,x.2.1,x.2.2)) 0:=Rep.Sub.left (Rep.Sub.refl (Rep.slice 9 Rep.str)) rM
def kCg (x:kZ) (v:Int):kZ:=(x.1,v,x.2.2)
theorem kMu {x:kZ} (v:Int) (hv:-9223372036854775808≤v∧v≤9223372036854775807) {w:World} {cs:List Value} {S:Nat→Prop} (h:kF.is true w cs x S):kF.is true w (cs.set 1 (.int .i64 v)) (kCg x v) S:=by
 obtain ⟨c0,d0,A0,B0,rfl,p0,q0,hA0,hB0,hd0⟩:=h
 obtain ⟨c1,d1,A1,B1,rfl,p1,q1,hA1,hB1,hd1⟩:=q0
 obtain ⟨rfl,_⟩:=p1
 have l0:=Rep.len _ p0
 change _=1 at l0
 have e:((c0++([.int .i64 x.2.1]++d1)):List Value).set 1 (.int .i64 v)=(c0++([.int .i64 v]++d1)):=by
  obtain ⟨y0_0,rfl⟩:∃ y0_0,c0=[y0_0]:=fU
  rfl
 rw [e]
 exact ⟨_,_,A0,B0,rfl,p0,⟨_,_,A1,B1,rfl,⟨rfl,hv⟩,q1,hA1,hB1,hd1⟩,hA0,hB0,hd0⟩
def yH (x:kZ) (v:Int):kZ:=(x.1,x.2.1,v)
theorem kDr {x:kZ} (v:Int) (hv:-9223372036854775808≤v∧v≤9223372036854775807) {w:World} {cs:List Value} {S:Nat→Prop} (h:kF.is true w cs x S):kF.is true w (cs.set 2 (.int .i64 v)) (yH x v) S:=by
 obtain ⟨c0,d0,A0,B0,rfl,p0,q0,hA0,hB0,hd0⟩:=h
 obtain ⟨c1,d1,A1,B1,rfl,p1,q1,hA1,hB1,hd1⟩:=q0
 obtain ⟨rfl,_⟩:=q1
 have l0:=Rep.len _ p0
 have l1:=Rep.len _ p1
 change _=1 at l0;change _=1 at l1
 have e:((c0++(c1++[.int .i64 x.2.2])):List Value).set 2 (.int .i64 v)=(c0++(c1++[.int .i64 v])):=by
  obtain ⟨y0_0,rfl⟩:∃ y0_0,c0=[y0_0]:=fU
  obtain ⟨y1_0,rfl⟩:∃ y1_0,c1=[y1_0]:=fZ
  rfl
 rw [e]
 exact ⟨_,_,A0,B0,rfl,p0,⟨_,_,A1,B1,rfl,p1,⟨rfl,hv⟩,hA1,hB1,hd1⟩,hA0,hB0,hd0⟩
abbrev yA:=kW × Int × Int
instance decRoute:DecidableEq yA:=inferInstanceAs (DecidableEq (kW × Int × Int))
def kX:Rep yA:=.pair kL (.pair .int .int)
theorem RRoute_n:kX.n=3:=rfl
theorem yg {w:World} {cs:List Value} {x:yA} (h:kX.raw w cs x):∃ v0,cs=[v0,.int .i64 x.2.1,.int .i64 x.2.2]∧kL.raw w [v0] x.1∧(Rep.slice 9 Rep.str).raw w [v0] x.1∧(-9223372036854775808≤x.2.1∧x.2.1≤9223372036854775807)∧(-9223372036854775808≤x.2.2∧x.2.2≤9223372036854775807):=by
 obtain ⟨_,_,rfl,a_0,b_0⟩:=Rep.jb h
 have q_0:=kM a_0
 obtain ⟨_,rfl,s_0_0⟩:=q_0
 obtain ⟨_,_,rfl,a_1,b_1⟩:=Rep.jb b_0
 obtain ⟨rfl,r_1⟩:=Rep.zu a_1
 obtain ⟨rfl,r_2⟩:=Rep.zu b_1
 exact ⟨_,rfl,a_0,s_0_0,r_1,r_2⟩
theorem kSs:Rep.Sub kX (Rep.slice 9 Rep.str) (fun x=>x.1) (fun x y=>(y,x.2.1,x.2.2)) 0:=Rep.Sub.left (Rep.Sub.refl (Rep.slice 9 Rep.str)) rM
def kGy (x:yA) (v:Int):yA:=(x.1,v,x.2.2)
theorem RRoute_set1 {x:yA} (v:Int) (hv:-9223372036854775808≤v∧v≤9223372036854775807) {w:World} {cs:List Value} {S:Nat→Prop} (h:kX.is true w cs x S):kX.is true w (cs.set 1 (.int .i64 v)) (kGy x v) S:=by
 obtain ⟨c0,d0,A0,B0,rfl,p0,q0,hA0,hB0,hd0⟩:=h
 obtain ⟨c1,d1,A1,B1,rfl,p1,q1,hA1,hB1,hd1⟩:=q0
 obtain ⟨rfl,_⟩:=p1
 have l0:=Rep.len _ p0
 change _=1 at l0
 have e:((c0++([.int .i64 x.2.1]++d1)):List Value).set 1 (.int .i64 v)=(c0++([.int .i64 v]++d1)):=by
  obtain ⟨y0_0,rfl⟩:∃ y0_0,c0=[y0_0]:=fU
  rfl
 rw [e]
 exact ⟨_,_,A0,B0,rfl,p0,⟨_,_,A1,B1,rfl,⟨rfl,hv⟩,q1,hA1,hB1,hd1⟩,hA0,hB0,hd0⟩
def kGx (x:yA) (v:Int):yA:=(x.1,x.2.1,v)
theorem RRoute_set2 {x:yA} (v:Int) (hv:-9223372036854775808≤v∧v≤9223372036854775807) {w:World} {cs:List Value} {S:Nat→Prop} (h:kX.is true w cs x S):kX.is true w (cs.set 2 (.int .i64 v)) (kGx x v) S:=by
 obtain ⟨c0,d0,A0,B0,rfl,p0,q0,hA0,hB0,hd0⟩:=h
 obtain ⟨c1,d1,A1,B1,rfl,p1,q1,hA1,hB1,hd1⟩:=q0
 obtain ⟨rfl,_⟩:=q1
 have l0:=Rep.len _ p0
 have l1:=Rep.len _ p1
 change _=1 at l0;change _=1 at l1
 have e:((c0++(c1++[.int .i64 x.2.2])):List Value).set 2 (.int .i64 v)=(c0++(c1++[.int .i64 v])):=by
  obtain ⟨y0_0,rfl⟩:∃ y0_0,c0=[y0_0]:=fU
  obtain ⟨y1_0,rfl⟩:∃ y1_0,c1=[y1_0]:=fZ
  rfl
 rw [e]
 exact ⟨_,_,A0,B0,rfl,p0,⟨_,_,A1,B1,rfl,p1,⟨rfl,hv⟩,hA1,hB1,hd1⟩,hA0,hB0,hd0⟩
abbrev jP:=Int × Int × Int
instance decRequester:DecidableEq jP:=inferInstanceAs (DecidableEq (Int × Int × Int))
def kQ:Rep jP:=.pair .int (.pair .int .int)
theorem kAa {w:World} {cs:List Value} {x:jP} (h:kQ.raw w cs x):cs=[.int .i64 x.1,.int .i64 x.2.1,.int .i64 x.2.2]∧(-9223372036854775808≤x.1∧x.1≤9223372036854775807)∧(-9223372036854775808≤x.2.1∧x.2.1≤9223372036854775807)∧(-9223372036854775808≤x.2.2∧x.2.2≤9223372036854775807):=by
 obtain ⟨_,_,rfl,a_0,b_0⟩:=Rep.jb h
 obtain ⟨rfl,r_0⟩:=Rep.zu a_0
 obtain ⟨_,_,rfl,a_1,b_1⟩:=Rep.jb b_0
 obtain ⟨rfl,r_1⟩:=Rep.zu a_1
 obtain ⟨rfl,r_2⟩:=Rep.zu b_1
 exact ⟨rfl,r_0,r_1,r_2⟩
def kIi (x:jP) (v:Int):jP:=(v,x.2.1,x.2.2)
theorem kQi {x:jP} (v:Int) (hv:-9223372036854775808≤v∧v≤9223372036854775807) {w:World} {cs:List Value} {S:Nat→Prop} (h:kQ.is true w cs x S):kQ.is true w (cs.set 0 (.int .i64 v)) (kIi x v) S:=by
 obtain ⟨c0,d0,A0,B0,rfl,p0,q0,hA0,hB0,hd0⟩:=h
 obtain ⟨rfl,_⟩:=p0
 have e:(([.int .i64 x.1]++d0):List Value).set 0 (.int .i64 v)=([.int .i64 v]++d0):=by
  rfl
 rw [e]
 exact ⟨_,_,A0,B0,rfl,⟨rfl,hv⟩,q0,hA0,hB0,hd0⟩
def kIh (x:jP) (v:Int):jP:=(x.1,v,x.2.2)
theorem kQh {x:jP} (v:Int) (hv:-9223372036854775808≤v∧v≤9223372036854775807) {w:World} {cs:List Value} {S:Nat→Prop} (h:kQ.is true w cs x S):kQ.is true w (cs.set 1 (.int .i64 v)) (kIh x v) S:=by
 obtain ⟨c0,d0,A0,B0,rfl,p0,q0,hA0,hB0,hd0⟩:=h
 obtain ⟨c1,d1,A1,B1,rfl,p1,q1,hA1,hB1,hd1⟩:=q0
 obtain ⟨rfl,_⟩:=p1
 have l0:=Rep.len _ p0
 change _=1 at l0
 have e:((c0++([.int .i64 x.2.1]++d1)):List Value).set 1 (.int .i64 v)=(c0++([.int .i64 v]++d1)):=by
  obtain ⟨y0_0,rfl⟩:∃ y0_0,c0=[y0_0]:=fU
  rfl
 rw [e]
 exact ⟨_,_,A0,B0,rfl,p0,⟨_,_,A1,B1,rfl,⟨rfl,hv⟩,q1,hA1,hB1,hd1⟩,hA0,hB0,hd0⟩
def kIg (x:jP) (v:Int):jP:=(x.1,x.2.1,v)
theorem kQg {x:jP} (v:Int) (hv:-9223372036854775808≤v∧v≤9223372036854775807) {w:World} {cs:List Value} {S:Nat→Prop} (h:kQ.is true w cs x S):kQ.is true w (cs.set 2 (.int .i64 v)) (kIg x v) S:=by
 obtain ⟨c0,d0,A0,B0,rfl,p0,q0,hA0,hB0,hd0⟩:=h
 obtain ⟨c1,d1,A1,B1,rfl,p1,q1,hA1,hB1,hd1⟩:=q0
 obtain ⟨rfl,_⟩:=q1
 have l0:=Rep.len _ p0
 have l1:=Rep.len _ p1
 change _=1 at l0;change _=1 at l1
 have e:((c0++(c1++[.int .i64 x.2.2])):List Value).set 2 (.int .i64 v)=(c0++(c1++[.int .i64 v])):=by
  obtain ⟨y0_0,rfl⟩:∃ y0_0,c0=[y0_0]:=fU
  obtain ⟨y1_0,rfl⟩:∃ y1_0,c1=[y1_0]:=fZ
  rfl
 rw [e]
 exact ⟨_,_,A0,B0,rfl,p0,⟨_,_,A1,B1,rfl,p1,⟨rfl,hv⟩,hA1,hB1,hd1⟩,hA0,hB0,hd0⟩
abbrev kS:=kW × (List jP) × Int
instance decPendingInterest:DecidableEq kS:=inferInstanceAs (DecidableEq (kW × (List jP) × Int))
def kE:Rep kS:=.pair kL (.pair (.slice 123 kQ) .int)
theorem kFk:kE.n=3:=rfl
theorem jN {w:World} {cs:List Value} {x:kS} (h:kE.raw w cs x):∃ v0 v1,cs=[v0,v1,.int .i64 x.2.2]∧kL.raw w [v0] x.1∧(Rep.slice 9 Rep.str).raw w [v0] x.1∧(Rep.slice 123 kQ).raw w [v1] x.2.1∧(-9223372036854775808≤x.2.2∧x.2.2≤9223372036854775807):=by
 obtain ⟨_,_,rfl,a_0,b_0⟩:=Rep.jb h
 have q_0:=kM a_0
 obtain ⟨_,rfl,s_0_0⟩:=q_0
 obtain ⟨_,_,rfl,a_1,b_1⟩:=Rep.jb b_0
 obtain ⟨_,rfl,r_1⟩:=Rep.zl a_1
 obtain ⟨rfl,r_2⟩:=Rep.zu b_1
 exact ⟨_,_,rfl,a_0,s_0_0,r_1,r_2⟩
theorem kGb:Rep.Sub kE (Rep.slice 9 Rep.str) (fun x=>x.1) (fun x y=>(y,x.2.1,x.2.2)) 0:=Rep.Sub.left (Rep.Sub.refl (Rep.slice 9 Rep.str)) rM
theorem kDq:Rep.Sub kE (Rep.slice 123 kQ) (fun x=>x.2.1) (fun x y=>(x.1,y,x.2.2)) 1:=Rep.Sub.right (Rep.Sub.left (Rep.Sub.refl (Rep.slice 123 kQ)) rM) rfl
def zF (x:kS) (v:Int):kS:=(x.1,x.2.1,v)
theorem kHy {x:kS} (v:Int) (hv:-9223372036854775808≤v∧v≤9223372036854775807) {w:World} {cs:List Value} {S:Nat→Prop} (h:kE.is true w cs x S):kE.is true w (cs.set 2 (.int .i64 v)) (zF x v) S:=by
 obtain ⟨c0,d0,A0,B0,rfl,p0,q0,hA0,hB0,hd0⟩:=h
 obtain ⟨c1,d1,A1,B1,rfl,p1,q1,hA1,hB1,hd1⟩:=q0
 obtain ⟨rfl,_⟩:=q1
 have l0:=Rep.len _ p0
 have l1:=Rep.len _ p1
 change _=1 at l0;change _=1 at l1
 have e:((c0++(c1++[.int .i64 x.2.2])):List Value).set 2 (.int .i64 v)=(c0++(c1++[.int .i64 v])):=by
  obtain ⟨y0_0,rfl⟩:∃ y0_0,c0=[y0_0]:=fU
  obtain ⟨y1_0,rfl⟩:∃ y1_0,c1=[y1_0]:=fZ
  rfl
 rw [e]
 exact ⟨_,_,A0,B0,rfl,p0,⟨_,_,A1,B1,rfl,p1,⟨rfl,hv⟩,hA1,hB1,hd1⟩,hA0,hB0,hd0⟩
abbrev jK:=kW × Int
instance decSeenNonce:DecidableEq jK:=inferInstanceAs (DecidableEq (kW × Int))
def kJ:Rep jK:=.pair kL .int
theorem kWf:kJ.n=2:=rfl
theorem yt {w:World} {cs:List Value} {x:jK} (h:kJ.raw w cs x):∃ v0,cs=[v0,.int .i64 x.2]∧kL.raw w [v0] x.1∧(Rep.slice 9 Rep.str).raw w [v0] x.1∧(-9223372036854775808≤x.2∧x.2≤9223372036854775807):=by
 obtain ⟨_,_,rfl,a_0,b_0⟩:=Rep.jb h
 have q_0:=kM a_0
 obtain ⟨_,rfl,s_0_0⟩:=q_0
 obtain ⟨rfl,r_1⟩:=Rep.zu b_0
 exact ⟨_,rfl,a_0,s_0_0,r_1⟩
theorem kLg:Rep.Sub kJ (Rep.slice 9 Rep.str) (fun x=>x.1) (fun x y=>(y,x.2)) 0:=Rep.Sub.left (Rep.Sub.refl (Rep.slice 9 Rep.str)) rM
def kDk (x:jK) (v:Int):jK:=(x.1,v)
theorem kQf {x:jK} (v:Int) (hv:-9223372036854775808≤v∧v≤9223372036854775807) {w:World} {cs:List Value} {S:Nat→Prop} (h:kJ.is true w cs x S):kJ.is true w (cs.set 1 (.int .i64 v)) (kDk x v) S:=by
 obtain ⟨c0,d0,A0,B0,rfl,p0,q0,hA0,hB0,hd0⟩:=h
 obtain ⟨rfl,_⟩:=q0
 have l0:=Rep.len _ p0
 change _=1 at l0
 have e:((c0++[.int .i64 x.2]):List Value).set 1 (.int .i64 v)=(c0++[.int .i64 v]):=by
  obtain ⟨y0_0,rfl⟩:∃ y0_0,c0=[y0_0]:=fU
  rfl
 rw [e]
 exact ⟨_,_,A0,B0,rfl,p0,⟨rfl,hv⟩,hA0,hB0,hd0⟩
abbrev kEb:=kW × Int × Int × Int
instance decInterest:DecidableEq kEb:=inferInstanceAs (DecidableEq (kW × Int × Int × Int))
def kCh:Rep kEb:=.pair kL (.pair .int (.pair .int .int))
theorem kGc {w:World} {cs:List Value} {x:kEb} (h:kCh.raw w cs x):∃ v0,cs=[v0,.int .i64 x.2.1,.int .i64 x.2.2.1,.int .i64 x.2.2.2]∧kL.raw w [v0] x.1∧(Rep.slice 9 Rep.str).raw w [v0] x.1∧(-9223372036854775808≤x.2.1∧x.2.1≤9223372036854775807)∧(-9223372036854775808≤x.2.2.1∧x.2.2.1≤9223372036854775807)∧(-9223372036854775808≤x.2.2.2∧x.2.2.2≤9223372036854775807):=by
 obtain ⟨_,_,rfl,a_0,b_0⟩:=Rep.jb h
 have q_0:=kM a_0
 obtain ⟨_,rfl,s_0_0⟩:=q_0
 obtain ⟨_,_,rfl,a_1,b_1⟩:=Rep.jb b_0
 obtain ⟨rfl,r_1⟩:=Rep.zu a_1
 obtain ⟨_,_,rfl,a_2,b_2⟩:=Rep.jb b_1
 obtain ⟨rfl,r_2⟩:=Rep.zu a_2
 obtain ⟨rfl,r_3⟩:=Rep.zu b_2
 exact ⟨_,rfl,a_0,s_0_0,r_1,r_2,r_3⟩
abbrev jJ:=kW × (List UInt8) × kW × Int × Int
instance decData:DecidableEq jJ:=(@instDecidableEqProd _ _ (inferInstanceAs (DecidableEq kW)) (@instDecidableEqProd _ _ (inferInstanceAs (DecidableEq (List UInt8))) (@instDecidableEqProd _ _ (inferInstanceAs (DecidableEq kW)) (@instDecidableEqProd _ _ (inferInstanceAs (DecidableEq Int)) (inferInstanceAs (DecidableEq Int))))))
def kP:Rep jJ:=.pair kL (.pair (.slice 5 .byte) (.pair kL (.pair .int .int)))
theorem kWh:kP.n=5:=rfl
theorem kY {w:World} {cs:List Value} {x:jJ} (h:kP.raw w cs x):∃ v0 v1 v2,cs=[v0,v1,v2,.int .i64 x.2.2.2.1,.int .i64 x.2.2.2.2]∧kL.raw w [v0] x.1∧(Rep.slice 9 Rep.str).raw w [v0] x.1∧(Rep.slice 5 Rep.byte).raw w [v1] x.2.1∧kL.raw w [v2] x.2.2.1∧(Rep.slice 9 Rep.str).raw w [v2] x.2.2.1∧(-9223372036854775808≤x.2.2.2.1∧x.2.2.2.1≤9223372036854775807)∧(-9223372036854775808≤x.2.2.2.2∧x.2.2.2.2≤9223372036854775807):=by
 obtain ⟨_,_,rfl,a_0,b_0⟩:=Rep.jb h
 have q_0:=kM a_0
 obtain ⟨_,rfl,s_0_0⟩:=q_0
 obtain ⟨_,_,rfl,a_1,b_1⟩:=Rep.jb b_0
 obtain ⟨_,rfl,r_1⟩:=Rep.zl a_1
 obtain ⟨_,_,rfl,a_2,b_2⟩:=Rep.jb b_1
 have q_2:=kM a_2
 obtain ⟨_,rfl,s_2_0⟩:=q_2
 obtain ⟨_,_,rfl,a_3,b_3⟩:=Rep.jb b_2
 obtain ⟨rfl,r_3⟩:=Rep.zu a_3
 obtain ⟨rfl,r_4⟩:=Rep.zu b_3
 exact ⟨_,_,_,rfl,a_0,s_0_0,r_1,a_2,s_2_0,r_3,r_4⟩
theorem RData_sub_0:Rep.Sub kP kL (fun x=>x.1) (fun x y=>(y,x.2.1,x.2.2.1,x.2.2.2.1,x.2.2.2.2)) 0:=Rep.Sub.left (Rep.Sub.refl kL) rM
theorem kTz:Rep.Sub kP (Rep.slice 9 Rep.str) (fun x=>x.1) (fun x y=>(y,x.2.1,x.2.2.1,x.2.2.2.1,x.2.2.2.2)) 0:=Rep.Sub.left (Rep.Sub.refl (Rep.slice 9 Rep.str)) rM
theorem kPf:Rep.Sub kP (Rep.slice 5 Rep.byte) (fun x=>x.2.1) (fun x y=>(x.1,y,x.2.2.1,x.2.2.2.1,x.2.2.2.2)) 1:=Rep.Sub.right (Rep.Sub.left (Rep.Sub.refl (Rep.slice 5 Rep.byte)) rM) rfl
theorem RData_sub_2:Rep.Sub kP kL (fun x=>x.2.2.1) (fun x y=>(x.1,x.2.1,y,x.2.2.2.1,x.2.2.2.2)) 2:=Rep.Sub.right (Rep.Sub.right (Rep.Sub.left (Rep.Sub.refl kL) rM) rfl) rfl
theorem kTy:Rep.Sub kP (Rep.slice 9 Rep.str) (fun x=>x.2.2.1) (fun x y=>(x.1,x.2.1,y,x.2.2.2.1,x.2.2.2.2)) 2:=Rep.Sub.right (Rep.Sub.right (Rep.Sub.left (Rep.Sub.refl (Rep.slice 9 Rep.str)) rM) rfl) rfl
def kDb (x:jJ) (v:Int):jJ:=(x.1,x.2.1,x.2.2.1,v,x.2.2.2.2)
theorem RData_set3 {x:jJ} (v:Int) (hv:-9223372036854775808≤v∧v≤9223372036854775807) {w:World} {cs:List Value} {S:Nat→Prop} (h:kP.is true w cs x S):kP.is true w (cs.set 3 (.int .i64 v)) (kDb x v) S:=by
 obtain ⟨c0,d0,A0,B0,rfl,p0,q0,hA0,hB0,hd0⟩:=h
 obtain ⟨c1,d1,A1,B1,rfl,p1,q1,hA1,hB1,hd1⟩:=q0
 obtain ⟨c2,d2,A2,B2,rfl,p2,q2,hA2,hB2,hd2⟩:=q1
 obtain ⟨c3,d3,A3,B3,rfl,p3,q3,hA3,hB3,hd3⟩:=q2
 obtain ⟨rfl,_⟩:=p3
 have l0:=Rep.len _ p0
 have l1:=Rep.len _ p1
 have l2:=Rep.len _ p2
 change _=1 at l0;change _=1 at l1;change _=1 at l2
 have e:((c0++(c1++(c2++([.int .i64 x.2.2.2.1]++d3)))):List Value).set 3 (.int .i64 v)=(c0++(c1++(c2++([.int .i64 v]++d3)))):=by
  obtain ⟨y0_0,rfl⟩:∃ y0_0,c0=[y0_0]:=fU
  obtain ⟨y1_0,rfl⟩:∃ y1_0,c1=[y1_0]:=fZ
  obtain ⟨y2_0,rfl⟩:∃ y2_0,c2=[y2_0]:=gG
  rfl
 rw [e]
 exact ⟨_,_,A0,B0,rfl,p0,⟨_,_,A1,B1,rfl,p1,⟨_,_,A2,B2,rfl,p2,⟨_,_,A3,B3,rfl,⟨rfl,hv⟩,q3,hA3,hB3,hd3⟩,hA2,hB2,hd2⟩,hA1,hB1,hd1⟩,hA0,hB0,hd0⟩
def kDa (x:jJ) (v:Int):jJ:=(x.1,x.2.1,x.2.2.1,x.2.2.2.1,v)
theorem RData_set4 {x:jJ} (v:Int) (hv:-9223372036854775808≤v∧v≤9223372036854775807) {w:World} {cs:List Value} {S:Nat→Prop} (h:kP.is true w cs x S):kP.is true w (cs.set 4 (.int .i64 v)) (kDa x v) S:=by
 obtain ⟨c0,d0,A0,B0,rfl,p0,q0,hA0,hB0,hd0⟩:=h
 obtain ⟨c1,d1,A1,B1,rfl,p1,q1,hA1,hB1,hd1⟩:=q0
 obtain ⟨c2,d2,A2,B2,rfl,p2,q2,hA2,hB2,hd2⟩:=q1
 obtain ⟨c3,d3,A3,B3,rfl,p3,q3,hA3,hB3,hd3⟩:=q2
 obtain ⟨rfl,_⟩:=q3
 have l0:=Rep.len _ p0
 have l1:=Rep.len _ p1
 have l2:=Rep.len _ p2
 have l3:=Rep.len _ p3
 change _=1 at l0;change _=1 at l1;change _=1 at l2;change _=1 at l3
 have e:((c0++(c1++(c2++(c3++[.int .i64 x.2.2.2.2])))):List Value).set 4 (.int .i64 v)=(c0++(c1++(c2++(c3++[.int .i64 v])))):=by
  obtain ⟨y0_0,rfl⟩:∃ y0_0,c0=[y0_0]:=fU
  obtain ⟨y1_0,rfl⟩:∃ y1_0,c1=[y1_0]:=fZ
  obtain ⟨y2_0,rfl⟩:∃ y2_0,c2=[y2_0]:=gG
  obtain ⟨y3_0,rfl⟩:∃ y3_0,c3=[y3_0]:=gB
  rfl
 rw [e]
 exact ⟨_,_,A0,B0,rfl,p0,⟨_,_,A1,B1,rfl,p1,⟨_,_,A2,B2,rfl,p2,⟨_,_,A3,B3,rfl,p3,⟨rfl,hv⟩,hA3,hB3,hd3⟩,hA2,hB2,hd2⟩,hA1,hB1,hd1⟩,hA0,hB0,hd0⟩
abbrev ko:=jJ × Int
instance decCacheEntry:DecidableEq ko:=inferInstanceAs (DecidableEq (jJ × Int))
def kH:Rep ko:=.pair kP .int
theorem kGd:kH.n=6:=rfl
theorem jQ {w:World} {cs:List Value} {x:ko} (h:kH.raw w cs x):∃ v0 v1 v2,cs=[v0,v1,v2,.int .i64 x.1.2.2.2.1,.int .i64 x.1.2.2.2.2,.int .i64 x.2]∧kP.raw w [v0,v1,v2,.int .i64 x.1.2.2.2.1,.int .i64 x.1.2.2.2.2] x.1∧kL.raw w [v0] x.1.1∧(Rep.slice 9 Rep.str).raw w [v0] x.1.1∧(Rep.slice 5 Rep.byte).raw w [v1] x.1.2.1∧kL.raw w [v2] x.1.2.2.1∧(Rep.slice 9 Rep.str).raw w [v2] x.1.2.2.1∧(-9223372036854775808≤x.1.2.2.2.1∧x.1.2.2.2.1≤9223372036854775807)∧(-9223372036854775808≤x.1.2.2.2.2∧x.1.2.2.2.2≤9223372036854775807)∧(-9223372036854775808≤x.2∧x.2≤9223372036854775807):=by
 obtain ⟨_,_,rfl,a_0,b_0⟩:=Rep.jb h
 have q_0:=kY a_0
 obtain ⟨_,_,_,rfl,s_0_0,s_0_1,s_0_2,s_0_3,s_0_4,s_0_5,s_0_6⟩:=q_0
 obtain ⟨rfl,r_1⟩:=Rep.zu b_0
 exact ⟨_,_,_,rfl,a_0,s_0_0,s_0_1,s_0_2,s_0_3,s_0_4,s_0_5,s_0_6,r_1⟩
theorem kIa:Rep.Sub kH (Rep.slice 9 Rep.str) (fun x=>x.1.1) (fun x y=>((y,x.1.2.1,x.1.2.2.1,x.1.2.2.2.1,x.1.2.2.2.2),x.2)) 0:=Rep.Sub.left (Rep.Sub.left (Rep.Sub.refl (Rep.slice 9 Rep.str)) rM) rM
theorem kJv:Rep.Sub kH (Rep.slice 5 Rep.byte) (fun x=>x.1.2.1) (fun x y=>((x.1.1,y,x.1.2.2.1,x.1.2.2.2.1,x.1.2.2.2.2),x.2)) 1:=Rep.Sub.left (Rep.Sub.right (Rep.Sub.left (Rep.Sub.refl (Rep.slice 5 Rep.byte)) rM) rfl) rM
theorem kHz:Rep.Sub kH (Rep.slice 9 Rep.str) (fun x=>x.1.2.2.1) (fun x y=>((x.1.1,x.1.2.1,y,x.1.2.2.2.1,x.1.2.2.2.2),x.2)) 2:=Rep.Sub.left (Rep.Sub.right (Rep.Sub.right (Rep.Sub.left (Rep.Sub.refl (Rep.slice 9 Rep.str)) rM) rfl) rfl) rM
def zf (x:ko) (v:Int):ko:=((x.1.1,x.1.2.1,x.1.2.2.1,v,x.1.2.2.2.2),x.2)
theorem kOl {x:ko} (v:Int) (hv:-9223372036854775808≤v∧v≤9223372036854775807) {w:World} {cs:List Value} {S:Nat→Prop} (h:kH.is true w cs x S):kH.is true w (cs.set 3 (.int .i64 v)) (zf x v) S:=by
 obtain ⟨c0,d0,A0,B0,rfl,p0,q0,hA0,hB0,hd0⟩:=h
 obtain ⟨c1,d1,A1,B1,rfl,p1,q1,hA1,hB1,hd1⟩:=p0
 obtain ⟨c2,d2,A2,B2,rfl,p2,q2,hA2,hB2,hd2⟩:=q1
 obtain ⟨c3,d3,A3,B3,rfl,p3,q3,hA3,hB3,hd3⟩:=q2
 obtain ⟨c4,d4,A4,B4,rfl,p4,q4,hA4,hB4,hd4⟩:=q3
 obtain ⟨rfl,_⟩:=p4
 have l1:=Rep.len _ p1
 have l2:=Rep.len _ p2
 have l3:=Rep.len _ p3
 change _=1 at l1;change _=1 at l2;change _=1 at l3
 have e:(((c1++(c2++(c3++([.int .i64 x.1.2.2.2.1]++d4))))++d0):List Value).set 3 (.int .i64 v)=((c1++(c2++(c3++([.int .i64 v]++d4))))++d0):=by
  obtain ⟨y1_0,rfl⟩:∃ y1_0,c1=[y1_0]:=fZ
  obtain ⟨y2_0,rfl⟩:∃ y2_0,c2=[y2_0]:=gG
  obtain ⟨y3_0,rfl⟩:∃ y3_0,c3=[y3_0]:=gB
  rfl
 rw [e]
 exact ⟨_,_,A0,B0,rfl,⟨_,_,A1,B1,rfl,p1,⟨_,_,A2,B2,rfl,p2,⟨_,_,A3,B3,rfl,p3,⟨_,_,A4,B4,rfl,⟨rfl,hv⟩,q4,hA4,hB4,hd4⟩,hA3,hB3,hd3⟩,hA2,hB2,hd2⟩,hA1,hB1,hd1⟩,q0,hA0,hB0,hd0⟩
def ze (x:ko) (v:Int):ko:=((x.1.1,x.1.2.1,x.1.2.2.1,x.1.2.2.2.1,v),x.2)
theorem kOk {x:ko} (v:Int) (hv:-9223372036854775808≤v∧v≤9223372036854775807) {w:World} {cs:List Value} {S:Nat→Prop} (h:kH.is true w cs x S):kH.is true w (cs.set 4 (.int .i64 v)) (ze x v) S:=by
 obtain ⟨c0,d0,A0,B0,rfl,p0,q0,hA0,hB0,hd0⟩:=h
 obtain ⟨c1,d1,A1,B1,rfl,p1,q1,hA1,hB1,hd1⟩:=p0
 obtain ⟨c2,d2,A2,B2,rfl,p2,q2,hA2,hB2,hd2⟩:=q1
 obtain ⟨c3,d3,A3,B3,rfl,p3,q3,hA3,hB3,hd3⟩:=q2
 obtain ⟨c4,d4,A4,B4,rfl,p4,q4,hA4,hB4,hd4⟩:=q3
 obtain ⟨rfl,_⟩:=q4
 have l1:=Rep.len _ p1
 have l2:=Rep.len _ p2
 have l3:=Rep.len _ p3
 have l4:=Rep.len _ p4
 change _=1 at l1;change _=1 at l2;change _=1 at l3;change _=1 at l4
 have e:(((c1++(c2++(c3++(c4++[.int .i64 x.1.2.2.2.2]))))++d0):List Value).set 4 (.int .i64 v)=((c1++(c2++(c3++(c4++[.int .i64 v]))))++d0):=by
  obtain ⟨y1_0,rfl⟩:∃ y1_0,c1=[y1_0]:=fZ
  obtain ⟨y2_0,rfl⟩:∃ y2_0,c2=[y2_0]:=gG
  obtain ⟨y3_0,rfl⟩:∃ y3_0,c3=[y3_0]:=gB
  obtain ⟨y4_0,rfl⟩:∃ y4_0,c4=[y4_0]:=gF
  rfl
 rw [e]
 exact ⟨_,_,A0,B0,rfl,⟨_,_,A1,B1,rfl,p1,⟨_,_,A2,B2,rfl,p2,⟨_,_,A3,B3,rfl,p3,⟨_,_,A4,B4,rfl,p4,⟨rfl,hv⟩,hA4,hB4,hd4⟩,hA3,hB3,hd3⟩,hA2,hB2,hd2⟩,hA1,hB1,hd1⟩,q0,hA0,hB0,hd0⟩
def zb (x:ko) (v:Int):ko:=(x.1,v)
theorem kOj {x:ko} (v:Int) (hv:-9223372036854775808≤v∧v≤9223372036854775807) {w:World} {cs:List Value} {S:Nat→Prop} (h:kH.is true w cs x S):kH.is true w (cs.set 5 (.int .i64 v)) (zb x v) S:=by
 obtain ⟨c0,d0,A0,B0,rfl,p0,q0,hA0,hB0,hd0⟩:=h
 obtain ⟨rfl,_⟩:=q0
 have l0:=Rep.len _ p0
 change _=5 at l0
 have e:((c0++[.int .i64 x.2]):List Value).set 5 (.int .i64 v)=(c0++[.int .i64 v]):=by
  obtain ⟨y0_0,y0_1,y0_2,y0_3,y0_4,rfl⟩:∃ y0_0 y0_1 y0_2 y0_3 y0_4,c0=[y0_0,y0_1,y0_2,y0_3,y0_4]:=by match c0,l0 with | [y0_0,y0_1,y0_2,y0_3,y0_4],_=>exact ⟨_,_,_,_,_,rfl⟩
  rfl
 rw [e]
 exact ⟨_,_,A0,B0,rfl,p0,⟨rfl,hv⟩,hA0,hB0,hd0⟩
abbrev kr:=Int × (List ko)
instance decContentStore:DecidableEq kr:=inferInstanceAs (DecidableEq (Int × (List ko)))
def kI:Rep kr:=.pair .int (.slice 212 kH)
theorem jI {w:World} {cs:List Value} {x:kr} (h:kI.raw w cs x):∃ v1,cs=[.int .i64 x.1,v1]∧(-9223372036854775808≤x.1∧x.1≤9223372036854775807)∧(Rep.slice 212 kH).raw w [v1] x.2:=by
 obtain ⟨_,_,rfl,a_0,b_0⟩:=Rep.jb h
 obtain ⟨rfl,r_0⟩:=Rep.zu a_0
 obtain ⟨_,rfl,r_1⟩:=Rep.zl b_0
 exact ⟨_,rfl,r_0,r_1⟩
theorem kJu:Rep.Sub kI (Rep.slice 212 kH) (fun x=>x.2) (fun x y=>(x.1,y)) 1:=Rep.Sub.right (Rep.Sub.refl (Rep.slice 212 kH)) rfl
abbrev kAf:=(List jJ) × kr × (List kS) × (List jK) × (List yA) × (List kZ) × Int
instance decNode:DecidableEq kAf:=(@instDecidableEqProd _ _ (inferInstanceAs (DecidableEq (List jJ))) (@instDecidableEqProd _ _ (inferInstanceAs (DecidableEq kr)) (@instDecidableEqProd _ _ (inferInstanceAs (DecidableEq (List kS))) (@instDecidableEqProd _ _ (inferInstanceAs (DecidableEq (List jK))) (@instDecidableEqProd _ _ (inferInstanceAs (DecidableEq (List yA))) (@instDecidableEqProd _ _ (inferInstanceAs (DecidableEq (List kZ))) (inferInstanceAs (DecidableEq Int))))))))
def jC:Rep kAf:=.pair (.slice 66 kP) (.pair kI (.pair (.slice 175 kE) (.pair (.slice 178 kJ) (.pair (.slice 181 kX) (.pair (.slice 184 kF) .int)))))
theorem jo {w:World} {cs:List Value} {x:kAf} (h:jC.raw w cs x):∃ v0 v2 v3 v4 v5 v6,cs=[v0,.int .i64 x.2.1.1,v2,v3,v4,v5,v6,.int .i64 x.2.2.2.2.2.2]∧(Rep.slice 66 kP).raw w [v0] x.1∧kI.raw w [.int .i64 x.2.1.1,v2] x.2.1∧(-9223372036854775808≤x.2.1.1∧x.2.1.1≤9223372036854775807)∧(Rep.slice 212 kH).raw w [v2] x.2.1.2∧(Rep.slice 175 kE).raw w [v3] x.2.2.1∧(Rep.slice 178 kJ).raw w [v4] x.2.2.2.1∧(Rep.slice 181 kX).raw w [v5] x.2.2.2.2.1∧(Rep.slice 184 kF).raw w [v6] x.2.2.2.2.2.1∧(-9223372036854775808≤x.2.2.2.2.2.2∧x.2.2.2.2.2.2≤9223372036854775807):=by
 obtain ⟨_,_,rfl,a_0,b_0⟩:=Rep.jb h
 obtain ⟨_,rfl,r_0⟩:=Rep.zl a_0
 obtain ⟨_,_,rfl,a_1,b_1⟩:=Rep.jb b_0
 have q_1:=jI a_1
 obtain ⟨_,rfl,s_1_0,s_1_1⟩:=q_1
 obtain ⟨_,_,rfl,a_2,b_2⟩:=Rep.jb b_1
 obtain ⟨_,rfl,r_2⟩:=Rep.zl a_2
 obtain ⟨_,_,rfl,a_3,b_3⟩:=Rep.jb b_2
 obtain ⟨_,rfl,r_3⟩:=Rep.zl a_3
 obtain ⟨_,_,rfl,a_4,b_4⟩:=Rep.jb b_3
 obtain ⟨_,rfl,r_4⟩:=Rep.zl a_4
 obtain ⟨_,_,rfl,a_5,b_5⟩:=Rep.jb b_4
 obtain ⟨_,rfl,r_5⟩:=Rep.zl a_5
 obtain ⟨rfl,r_6⟩:=Rep.zu b_5
 exact ⟨_,_,_,_,_,_,rfl,r_0,a_1,s_1_0,s_1_1,r_2,r_3,r_4,r_5,r_6⟩
theorem RNode_sub_0:Rep.Sub jC (Rep.slice 66 kP) (fun x=>x.1) (fun x y=>(y,x.2.1,x.2.2.1,x.2.2.2.1,x.2.2.2.2.1,x.2.2.2.2.2.1,x.2.2.2.2.2.2)) 0:=Rep.Sub.left (Rep.Sub.refl (Rep.slice 66 kP)) rM
theorem RNode_sub_1:Rep.Sub jC kI (fun x=>x.2.1) (fun x y=>(x.1,y,x.2.2.1,x.2.2.2.1,x.2.2.2.2.1,x.2.2.2.2.2.1,x.2.2.2.2.2.2)) 1:=Rep.Sub.right (Rep.Sub.left (Rep.Sub.refl kI) rM) rfl
theorem RNode_sub_2:Rep.Sub jC (Rep.slice 175 kE) (fun x=>x.2.2.1) (fun x y=>(x.1,x.2.1,y,x.2.2.2.1,x.2.2.2.2.1,x.2.2.2.2.2.1,x.2.2.2.2.2.2)) 3:=Rep.Sub.right (Rep.Sub.right (Rep.Sub.left (Rep.Sub.refl (Rep.slice 175 kE)) rM) rfl) rfl
theorem RNode_sub_3:Rep.Sub jC (Rep.slice 178 kJ) (fun x=>x.2.2.2.1) (fun x y=>(x.1,x.2.1,x.2.2.1,y,x.2.2.2.2.1,x.2.2.2.2.2.1,x.2.2.2.2.2.2)) 4:=Rep.Sub.right (Rep.Sub.right (Rep.Sub.right (Rep.Sub.left (Rep.Sub.refl (Rep.slice 178 kJ)) rM) rfl) rfl) rfl
theorem RNode_sub_4:Rep.Sub jC (Rep.slice 181 kX) (fun x=>x.2.2.2.2.1) (fun x y=>(x.1,x.2.1,x.2.2.1,x.2.2.2.1,y,x.2.2.2.2.2.1,x.2.2.2.2.2.2)) 5:=Rep.Sub.right (Rep.Sub.right (Rep.Sub.right (Rep.Sub.right (Rep.Sub.left (Rep.Sub.refl (Rep.slice 181 kX)) rM) rfl) rfl) rfl) rfl
theorem RNode_sub_5:Rep.Sub jC (Rep.slice 184 kF) (fun x=>x.2.2.2.2.2.1) (fun x y=>(x.1,x.2.1,x.2.2.1,x.2.2.2.1,x.2.2.2.2.1,y,x.2.2.2.2.2.2)) 6:=Rep.Sub.right (Rep.Sub.right (Rep.Sub.right (Rep.Sub.right (Rep.Sub.right (Rep.Sub.left (Rep.Sub.refl (Rep.slice 184 kF)) rM) rfl) rfl) rfl) rfl) rfl
def kUk (x:kAf) (v:Int):kAf:=(x.1,x.2.1,x.2.2.1,x.2.2.2.1,x.2.2.2.2.1,x.2.2.2.2.2.1,v)
theorem RNode_set7 {x:kAf} (v:Int) (hv:-9223372036854775808≤v∧v≤9223372036854775807) {w:World} {cs:List Value} {S:Nat→Prop} (h:jC.is true w cs x S):jC.is true w (cs.set 7 (.int .i64 v)) (kUk x v) S:=by
 obtain ⟨c0,d0,A0,B0,rfl,p0,q0,hA0,hB0,hd0⟩:=h
 obtain ⟨c1,d1,A1,B1,rfl,p1,q1,hA1,hB1,hd1⟩:=q0
 obtain ⟨c2,d2,A2,B2,rfl,p2,q2,hA2,hB2,hd2⟩:=q1
 obtain ⟨c3,d3,A3,B3,rfl,p3,q3,hA3,hB3,hd3⟩:=q2
 obtain ⟨c4,d4,A4,B4,rfl,p4,q4,hA4,hB4,hd4⟩:=q3
 obtain ⟨c5,d5,A5,B5,rfl,p5,q5,hA5,hB5,hd5⟩:=q4
 obtain ⟨rfl,_⟩:=q5
 have l0:=Rep.len _ p0
 have l1:=Rep.len _ p1
 have l2:=Rep.len _ p2
 have l3:=Rep.len _ p3
 have l4:=Rep.len _ p4
 have l5:=Rep.len _ p5
 change _=1 at l0;change _=2 at l1;change _=1 at l2;change _=1 at l3;change _=1 at l4;change _=1 at l5
 have e:((c0++(c1++(c2++(c3++(c4++(c5++[.int .i64 x.2.2.2.2.2.2])))))):List Value).set 7 (.int .i64 v)=(c0++(c1++(c2++(c3++(c4++(c5++[.int .i64 v])))))):=by
  obtain ⟨y0_0,rfl⟩:∃ y0_0,c0=[y0_0]:=fU
  obtain ⟨y1_0,y1_1,rfl⟩:∃ y1_0 y1_1,c1=[y1_0,y1_1]:=by match c1,l1 with | [y1_0,y1_1],_=>exact ⟨_,_,rfl⟩
  obtain ⟨y2_0,rfl⟩:∃ y2_0,c2=[y2_0]:=gG
  obtain ⟨y3_0,rfl⟩:∃ y3_0,c3=[y3_0]:=gB
  obtain ⟨y4_0,rfl⟩:∃ y4_0,c4=[y4_0]:=gF
  obtain ⟨y5_0,rfl⟩:∃ y5_0,c5=[y5_0]:=gH
  rfl
 rw [e]
 exact ⟨_,_,A0,B0,rfl,p0,⟨_,_,A1,B1,rfl,p1,⟨_,_,A2,B2,rfl,p2,⟨_,_,A3,B3,rfl,p3,⟨_,_,A4,B4,rfl,p4,⟨_,_,A5,B5,rfl,p5,⟨rfl,hv⟩,hA5,hB5,hd5⟩,hA4,hB4,hd4⟩,hA3,hB3,hd3⟩,hA2,hB2,hd2⟩,hA1,hB1,hd1⟩,hA0,hB0,hd0⟩
abbrev jV:=Int × Bool × kEb × jJ
instance decOutgoing:DecidableEq jV:=inferInstanceAs (DecidableEq (Int × Bool × kEb × jJ))
def kR:Rep jV:=.pair .int (.pair .bool (.pair kCh kP))
theorem kFt:kR.n=11:=rfl
theorem kAo {w:World} {cs:List Value} {x:jV} (h:kR.raw w cs x):∃ v2 v6 v7 v8,cs=[.int .i64 x.1,.bool x.2.1,v2,.int .i64 x.2.2.1.2.1,.int .i64 x.2.2.1.2.2.1,.int .i64 x.2.2.1.2.2.2,v6,v7,v8,.int .i64 x.2.2.2.2.2.2.1,.int .i64 x.2.2.2.2.2.2.2]∧(-9223372036854775808≤x.1∧x.1≤9223372036854775807)∧kCh.raw w [v2,.int .i64 x.2.2.1.2.1,.int .i64 x.2.2.1.2.2.1,.int .i64 x.2.2.1.2.2.2] x.2.2.1∧kL.raw w [v2] x.2.2.1.1∧(Rep.slice 9 Rep.str).raw w [v2] x.2.2.1.1∧(-9223372036854775808≤x.2.2.1.2.1∧x.2.2.1.2.1≤9223372036854775807)∧(-9223372036854775808≤x.2.2.1.2.2.1∧x.2.2.1.2.2.1≤9223372036854775807)∧(-9223372036854775808≤x.2.2.1.2.2.2∧x.2.2.1.2.2.2≤9223372036854775807)∧kP.raw w [v6,v7,v8,.int .i64 x.2.2.2.2.2.2.1,.int .i64 x.2.2.2.2.2.2.2] x.2.2.2∧kL.raw w [v6] x.2.2.2.1∧(Rep.slice 9 Rep.str).raw w [v6] x.2.2.2.1∧(Rep.slice 5 Rep.byte).raw w [v7] x.2.2.2.2.1∧kL.raw w [v8] x.2.2.2.2.2.1∧(Rep.slice 9 Rep.str).raw w [v8] x.2.2.2.2.2.1∧(-9223372036854775808≤x.2.2.2.2.2.2.1∧x.2.2.2.2.2.2.1≤9223372036854775807)∧(-9223372036854775808≤x.2.2.2.2.2.2.2∧x.2.2.2.2.2.2.2≤9223372036854775807):=by
 obtain ⟨_,_,rfl,a_0,b_0⟩:=Rep.jb h
 obtain ⟨rfl,r_0⟩:=Rep.zu a_0
 obtain ⟨_,_,rfl,a_1,b_1⟩:=Rep.jb b_0
 obtain rfl:=Rep.bool_raw a_1
 obtain ⟨_,_,rfl,a_2,b_2⟩:=Rep.jb b_1
 have q_2:=kGc a_2
 obtain ⟨_,rfl,s_2_0,s_2_1,s_2_2,s_2_3,s_2_4⟩:=q_2
 have q_3:=kY b_2
 obtain ⟨_,_,_,rfl,s_3_0,s_3_1,s_3_2,s_3_3,s_3_4,s_3_5,s_3_6⟩:=q_3
 exact ⟨_,_,_,_,rfl,r_0,a_2,s_2_0,s_2_1,s_2_2,s_2_3,s_2_4,b_2,s_3_0,s_3_1,s_3_2,s_3_3,s_3_4,s_3_5,s_3_6⟩
theorem kJt:Rep.Sub kR (Rep.slice 9 Rep.str) (fun x=>x.2.2.1.1) (fun x y=>(x.1,x.2.1,(y,x.2.2.1.2.1,x.2.2.1.2.2.1,x.2.2.1.2.2.2),x.2.2.2)) 2:=Rep.Sub.right (Rep.Sub.right (Rep.Sub.left (Rep.Sub.left (Rep.Sub.refl (Rep.slice 9 Rep.str)) rM) rM) rfl) rfl
theorem kJs:Rep.Sub kR (Rep.slice 9 Rep.str) (fun x=>x.2.2.2.1) (fun x y=>(x.1,x.2.1,x.2.2.1,(y,x.2.2.2.2.1,x.2.2.2.2.2.1,x.2.2.2.2.2.2.1,x.2.2.2.2.2.2.2))) 6:=Rep.Sub.right (Rep.Sub.right (Rep.Sub.right (Rep.Sub.left (Rep.Sub.refl (Rep.slice 9 Rep.str)) rM) rfl) rfl) rfl
theorem kMt:Rep.Sub kR (Rep.slice 5 Rep.byte) (fun x=>x.2.2.2.2.1) (fun x y=>(x.1,x.2.1,x.2.2.1,(x.2.2.2.1,y,x.2.2.2.2.2.1,x.2.2.2.2.2.2.1,x.2.2.2.2.2.2.2))) 7:=Rep.Sub.right (Rep.Sub.right (Rep.Sub.right (Rep.Sub.right (Rep.Sub.left (Rep.Sub.refl (Rep.slice 5 Rep.byte)) rM) rfl) rfl) rfl) rfl
theorem kJr:Rep.Sub kR (Rep.slice 9 Rep.str) (fun x=>x.2.2.2.2.2.1) (fun x y=>(x.1,x.2.1,x.2.2.1,(x.2.2.2.1,x.2.2.2.2.1,y,x.2.2.2.2.2.2.1,x.2.2.2.2.2.2.2))) 8:=Rep.Sub.right (Rep.Sub.right (Rep.Sub.right (Rep.Sub.right (Rep.Sub.right (Rep.Sub.left (Rep.Sub.refl (Rep.slice 9 Rep.str)) rM) rfl) rfl) rfl) rfl) rfl
def zP (x:jV) (v:Int):jV:=(v,x.2.1,x.2.2.1,x.2.2.2)
theorem kSy {x:jV} (v:Int) (hv:-9223372036854775808≤v∧v≤9223372036854775807) {w:World} {cs:List Value} {S:Nat→Prop} (h:kR.is true w cs x S):kR.is true w (cs.set 0 (.int .i64 v)) (zP x v) S:=by
 obtain ⟨c0,d0,A0,B0,rfl,p0,q0,hA0,hB0,hd0⟩:=h
 obtain ⟨rfl,_⟩:=p0
 have e:(([.int .i64 x.1]++d0):List Value).set 0 (.int .i64 v)=([.int .i64 v]++d0):=by
  rfl
 rw [e]
 exact ⟨_,_,A0,B0,rfl,⟨rfl,hv⟩,q0,hA0,hB0,hd0⟩
def zO (x:jV) (v:Bool):jV:=(x.1,v,x.2.2.1,x.2.2.2)
theorem kSx {x:jV} (v:Bool) {w:World} {cs:List Value} {S:Nat→Prop} (h:kR.is true w cs x S):kR.is true w (cs.set 1 (.bool v)) (zO x v) S:=by
 obtain ⟨c0,d0,A0,B0,rfl,p0,q0,hA0,hB0,hd0⟩:=h
 obtain ⟨c1,d1,A1,B1,rfl,p1,q1,hA1,hB1,hd1⟩:=q0
 obtain rfl:=(show _=_ from p1)
 have l0:=Rep.len _ p0
 change _=1 at l0
 have e:((c0++([.bool x.2.1]++d1)):List Value).set 1 (.bool v)=(c0++([.bool v]++d1)):=by
  obtain ⟨y0_0,rfl⟩:∃ y0_0,c0=[y0_0]:=fU
  rfl
 rw [e]
 exact ⟨_,_,A0,B0,rfl,p0,⟨_,_,A1,B1,rfl,rfl,q1,hA1,hB1,hd1⟩,hA0,hB0,hd0⟩
def zN (x:jV) (v:Int):jV:=(x.1,x.2.1,(x.2.2.1.1,v,x.2.2.1.2.2.1,x.2.2.1.2.2.2),x.2.2.2)
theorem kSw {x:jV} (v:Int) (hv:-9223372036854775808≤v∧v≤9223372036854775807) {w:World} {cs:List Value} {S:Nat→Prop} (h:kR.is true w cs x S):kR.is true w (cs.set 3 (.int .i64 v)) (zN x v) S:=by
 obtain ⟨c0,d0,A0,B0,rfl,p0,q0,hA0,hB0,hd0⟩:=h
 obtain ⟨c1,d1,A1,B1,rfl,p1,q1,hA1,hB1,hd1⟩:=q0
 obtain ⟨c2,d2,A2,B2,rfl,p2,q2,hA2,hB2,hd2⟩:=q1
 obtain ⟨c3,d3,A3,B3,rfl,p3,q3,hA3,hB3,hd3⟩:=p2
 obtain ⟨c4,d4,A4,B4,rfl,p4,q4,hA4,hB4,hd4⟩:=q3
 obtain ⟨rfl,_⟩:=p4
 have l0:=Rep.len _ p0
 have l1:=Rep.len _ p1
 have l3:=Rep.len _ p3
 change _=1 at l0;change _=1 at l1;change _=1 at l3
 have e:((c0++(c1++((c3++([.int .i64 x.2.2.1.2.1]++d4))++d2))):List Value).set 3 (.int .i64 v)=(c0++(c1++((c3++([.int .i64 v]++d4))++d2))):=by
  obtain ⟨y0_0,rfl⟩:∃ y0_0,c0=[y0_0]:=fU
  obtain ⟨y1_0,rfl⟩:∃ y1_0,c1=[y1_0]:=fZ
  obtain ⟨y3_0,rfl⟩:∃ y3_0,c3=[y3_0]:=gB
  rfl
 rw [e]
 exact ⟨_,_,A0,B0,rfl,p0,⟨_,_,A1,B1,rfl,p1,⟨_,_,A2,B2,rfl,⟨_,_,A3,B3,rfl,p3,⟨_,_,A4,B4,rfl,⟨rfl,hv⟩,q4,hA4,hB4,hd4⟩,hA3,hB3,hd3⟩,q2,hA2,hB2,hd2⟩,hA1,hB1,hd1⟩,hA0,hB0,hd0⟩
def zM (x:jV) (v:Int):jV:=(x.1,x.2.1,(x.2.2.1.1,x.2.2.1.2.1,v,x.2.2.1.2.2.2),x.2.2.2)
theorem kSv {x:jV} (v:Int) (hv:-9223372036854775808≤v∧v≤9223372036854775807) {w:World} {cs:List Value} {S:Nat→Prop} (h:kR.is true w cs x S):kR.is true w (cs.set 4 (.int .i64 v)) (zM x v) S:=by
 obtain ⟨c0,d0,A0,B0,rfl,p0,q0,hA0,hB0,hd0⟩:=h
 obtain ⟨c1,d1,A1,B1,rfl,p1,q1,hA1,hB1,hd1⟩:=q0
 obtain ⟨c2,d2,A2,B2,rfl,p2,q2,hA2,hB2,hd2⟩:=q1
 obtain ⟨c3,d3,A3,B3,rfl,p3,q3,hA3,hB3,hd3⟩:=p2
 obtain ⟨c4,d4,A4,B4,rfl,p4,q4,hA4,hB4,hd4⟩:=q3
 obtain ⟨c5,d5,A5,B5,rfl,p5,q5,hA5,hB5,hd5⟩:=q4
 obtain ⟨rfl,_⟩:=p5
 have l0:=Rep.len _ p0
 have l1:=Rep.len _ p1
 have l3:=Rep.len _ p3
 have l4:=Rep.len _ p4
 change _=1 at l0;change _=1 at l1;change _=1 at l3;change _=1 at l4
 have e:((c0++(c1++((c3++(c4++([.int .i64 x.2.2.1.2.2.1]++d5)))++d2))):List Value).set 4 (.int .i64 v)=(c0++(c1++((c3++(c4++([.int .i64 v]++d5)))++d2))):=by
  obtain ⟨y0_0,rfl⟩:∃ y0_0,c0=[y0_0]:=fU
  obtain ⟨y1_0,rfl⟩:∃ y1_0,c1=[y1_0]:=fZ
  obtain ⟨y3_0,rfl⟩:∃ y3_0,c3=[y3_0]:=gB
  obtain ⟨y4_0,rfl⟩:∃ y4_0,c4=[y4_0]:=gF
  rfl
 rw [e]
 exact ⟨_,_,A0,B0,rfl,p0,⟨_,_,A1,B1,rfl,p1,⟨_,_,A2,B2,rfl,⟨_,_,A3,B3,rfl,p3,⟨_,_,A4,B4,rfl,p4,⟨_,_,A5,B5,rfl,⟨rfl,hv⟩,q5,hA5,hB5,hd5⟩,hA4,hB4,hd4⟩,hA3,hB3,hd3⟩,q2,hA2,hB2,hd2⟩,hA1,hB1,hd1⟩,hA0,hB0,hd0⟩
def zL (x:jV) (v:Int):jV:=(x.1,x.2.1,(x.2.2.1.1,x.2.2.1.2.1,x.2.2.1.2.2.1,v),x.2.2.2)
theorem kSu {x:jV} (v:Int) (hv:-9223372036854775808≤v∧v≤9223372036854775807) {w:World} {cs:List Value} {S:Nat→Prop} (h:kR.is true w cs x S):kR.is true w (cs.set 5 (.int .i64 v)) (zL x v) S:=by
 obtain ⟨c0,d0,A0,B0,rfl,p0,q0,hA0,hB0,hd0⟩:=h
 obtain ⟨c1,d1,A1,B1,rfl,p1,q1,hA1,hB1,hd1⟩:=q0
 obtain ⟨c2,d2,A2,B2,rfl,p2,q2,hA2,hB2,hd2⟩:=q1
 obtain ⟨c3,d3,A3,B3,rfl,p3,q3,hA3,hB3,hd3⟩:=p2
 obtain ⟨c4,d4,A4,B4,rfl,p4,q4,hA4,hB4,hd4⟩:=q3
 obtain ⟨c5,d5,A5,B5,rfl,p5,q5,hA5,hB5,hd5⟩:=q4
 obtain ⟨rfl,_⟩:=q5
 have l0:=Rep.len _ p0
 have l1:=Rep.len _ p1
 have l3:=Rep.len _ p3
 have l4:=Rep.len _ p4
 have l5:=Rep.len _ p5
 change _=1 at l0;change _=1 at l1;change _=1 at l3;change _=1 at l4;change _=1 at l5
 have e:((c0++(c1++((c3++(c4++(c5++[.int .i64 x.2.2.1.2.2.2])))++d2))):List Value).set 5 (.int .i64 v)=(c0++(c1++((c3++(c4++(c5++[.int .i64 v])))++d2))):=by
  obtain ⟨y0_0,rfl⟩:∃ y0_0,c0=[y0_0]:=fU
  obtain ⟨y1_0,rfl⟩:∃ y1_0,c1=[y1_0]:=fZ
  obtain ⟨y3_0,rfl⟩:∃ y3_0,c3=[y3_0]:=gB
  obtain ⟨y4_0,rfl⟩:∃ y4_0,c4=[y4_0]:=gF
  obtain ⟨y5_0,rfl⟩:∃ y5_0,c5=[y5_0]:=gH
  rfl
 rw [e]
 exact ⟨_,_,A0,B0,rfl,p0,⟨_,_,A1,B1,rfl,p1,⟨_,_,A2,B2,rfl,⟨_,_,A3,B3,rfl,p3,⟨_,_,A4,B4,rfl,p4,⟨_,_,A5,B5,rfl,p5,⟨rfl,hv⟩,hA5,hB5,hd5⟩,hA4,hB4,hd4⟩,hA3,hB3,hd3⟩,q2,hA2,hB2,hd2⟩,hA1,hB1,hd1⟩,hA0,hB0,hd0⟩
def zK (x:jV) (v:Int):jV:=(x.1,x.2.1,x.2.2.1,(x.2.2.2.1,x.2.2.2.2.1,x.2.2.2.2.2.1,v,x.2.2.2.2.2.2.2))
theorem kSt {x:jV} (v:Int) (hv:-9223372036854775808≤v∧v≤9223372036854775807) {w:World} {cs:List Value} {S:Nat→Prop} (h:kR.is true w cs x S):kR.is true w (cs.set 9 (.int .i64 v)) (zK x v) S:=by
 obtain ⟨c0,d0,A0,B0,rfl,p0,q0,hA0,hB0,hd0⟩:=h
 obtain ⟨c1,d1,A1,B1,rfl,p1,q1,hA1,hB1,hd1⟩:=q0
 obtain ⟨c2,d2,A2,B2,rfl,p2,q2,hA2,hB2,hd2⟩:=q1
 obtain ⟨c3,d3,A3,B3,rfl,p3,q3,hA3,hB3,hd3⟩:=q2
 obtain ⟨c4,d4,A4,B4,rfl,p4,q4,hA4,hB4,hd4⟩:=q3
 obtain ⟨c5,d5,A5,B5,rfl,p5,q5,hA5,hB5,hd5⟩:=q4
 obtain ⟨c6,d6,A6,B6,rfl,p6,q6,hA6,hB6,hd6⟩:=q5
 obtain ⟨rfl,_⟩:=p6
 have l0:=Rep.len _ p0
 have l1:=Rep.len _ p1
 have l2:=Rep.len _ p2
 have l3:=Rep.len _ p3
 have l4:=Rep.len _ p4
 have l5:=Rep.len _ p5
 change _=1 at l0;change _=1 at l1;change _=4 at l2;change _=1 at l3;change _=1 at l4;change _=1 at l5
 have e:((c0++(c1++(c2++(c3++(c4++(c5++([.int .i64 x.2.2.2.2.2.2.1]++d6))))))):List Value).set 9 (.int .i64 v)=(c0++(c1++(c2++(c3++(c4++(c5++([.int .i64 v]++d6))))))):=by
  obtain ⟨y0_0,rfl⟩:∃ y0_0,c0=[y0_0]:=fU
  obtain ⟨y1_0,rfl⟩:∃ y1_0,c1=[y1_0]:=fZ
  obtain ⟨y2_0,y2_1,y2_2,y2_3,rfl⟩:∃ y2_0 y2_1 y2_2 y2_3,c2=[y2_0,y2_1,y2_2,y2_3]:=by match c2,l2 with | [y2_0,y2_1,y2_2,y2_3],_=>exact ⟨_,_,_,_,rfl⟩
  obtain ⟨y3_0,rfl⟩:∃ y3_0,c3=[y3_0]:=gB
  obtain ⟨y4_0,rfl⟩:∃ y4_0,c4=[y4_0]:=gF
  obtain ⟨y5_0,rfl⟩:∃ y5_0,c5=[y5_0]:=gH
  rfl
 rw [e]
 exact ⟨_,_,A0,B0,rfl,p0,⟨_,_,A1,B1,rfl,p1,⟨_,_,A2,B2,rfl,p2,⟨_,_,A3,B3,rfl,p3,⟨_,_,A4,B4,rfl,p4,⟨_,_,A5,B5,rfl,p5,⟨_,_,A6,B6,rfl,⟨rfl,hv⟩,q6,hA6,hB6,hd6⟩,hA5,hB5,hd5⟩,hA4,hB4,hd4⟩,hA3,hB3,hd3⟩,hA2,hB2,hd2⟩,hA1,hB1,hd1⟩,hA0,hB0,hd0⟩
def yh (x:jV) (v:Int):jV:=(x.1,x.2.1,x.2.2.1,(x.2.2.2.1,x.2.2.2.2.1,x.2.2.2.2.2.1,x.2.2.2.2.2.2.1,v))
theorem kQj {x:jV} (v:Int) (hv:-9223372036854775808≤v∧v≤9223372036854775807) {w:World} {cs:List Value} {S:Nat→Prop} (h:kR.is true w cs x S):kR.is true w (cs.set 10 (.int .i64 v)) (yh x v) S:=by
 obtain ⟨c0,d0,A0,B0,rfl,p0,q0,hA0,hB0,hd0⟩:=h
 obtain ⟨c1,d1,A1,B1,rfl,p1,q1,hA1,hB1,hd1⟩:=q0
 obtain ⟨c2,d2,A2,B2,rfl,p2,q2,hA2,hB2,hd2⟩:=q1
 obtain ⟨c3,d3,A3,B3,rfl,p3,q3,hA3,hB3,hd3⟩:=q2
 obtain ⟨c4,d4,A4,B4,rfl,p4,q4,hA4,hB4,hd4⟩:=q3
 obtain ⟨c5,d5,A5,B5,rfl,p5,q5,hA5,hB5,hd5⟩:=q4
 obtain ⟨c6,d6,A6,B6,rfl,p6,q6,hA6,hB6,hd6⟩:=q5
 obtain ⟨rfl,_⟩:=q6
 have l0:=Rep.len _ p0
 have l1:=Rep.len _ p1
 have l2:=Rep.len _ p2
 have l3:=Rep.len _ p3
 have l4:=Rep.len _ p4
 have l5:=Rep.len _ p5
 have l6:=Rep.len _ p6
 change _=1 at l0;change _=1 at l1;change _=4 at l2;change _=1 at l3;change _=1 at l4;change _=1 at l5;change _=1 at l6
 have e:((c0++(c1++(c2++(c3++(c4++(c5++(c6++[.int .i64 x.2.2.2.2.2.2.2]))))))):List Value).set 10 (.int .i64 v)=(c0++(c1++(c2++(c3++(c4++(c5++(c6++[.int .i64 v]))))))):=by
  obtain ⟨y0_0,rfl⟩:∃ y0_0,c0=[y0_0]:=fU
  obtain ⟨y1_0,rfl⟩:∃ y1_0,c1=[y1_0]:=fZ
  obtain ⟨y2_0,y2_1,y2_2,y2_3,rfl⟩:∃ y2_0 y2_1 y2_2 y2_3,c2=[y2_0,y2_1,y2_2,y2_3]:=by match c2,l2 with | [y2_0,y2_1,y2_2,y2_3],_=>exact ⟨_,_,_,_,rfl⟩
  obtain ⟨y3_0,rfl⟩:∃ y3_0,c3=[y3_0]:=gB
  obtain ⟨y4_0,rfl⟩:∃ y4_0,c4=[y4_0]:=gF
  obtain ⟨y5_0,rfl⟩:∃ y5_0,c5=[y5_0]:=gH
  obtain ⟨y6_0,rfl⟩:∃ y6_0,c6=[y6_0]:=by match c6,l6 with | [y6_0],_=>exact ⟨_,rfl⟩
  rfl
 rw [e]
 exact ⟨_,_,A0,B0,rfl,p0,⟨_,_,A1,B1,rfl,p1,⟨_,_,A2,B2,rfl,p2,⟨_,_,A3,B3,rfl,p3,⟨_,_,A4,B4,rfl,p4,⟨_,_,A5,B5,rfl,p5,⟨_,_,A6,B6,rfl,p6,⟨rfl,hv⟩,hA6,hB6,hd6⟩,hA5,hB5,hd5⟩,hA4,hB4,hd4⟩,hA3,hB3,hd3⟩,hA2,hB2,hd2⟩,hA1,hB1,hd1⟩,hA0,hB0,hd0⟩
abbrev kHg:=kAf × (List jV)
instance decAction:DecidableEq kHg:=inferInstanceAs (DecidableEq (kAf × (List jV)))
def yP:Rep kHg:=.pair jC (.slice 128 kR)
theorem yB {w:World} {cs:List Value} {x:kHg} (h:yP.raw w cs x):∃ v0 v2 v3 v4 v5 v6 v8,cs=[v0,.int .i64 x.1.2.1.1,v2,v3,v4,v5,v6,.int .i64 x.1.2.2.2.2.2.2,v8]∧jC.raw w [v0,.int .i64 x.1.2.1.1,v2,v3,v4,v5,v6,.int .i64 x.1.2.2.2.2.2.2] x.1∧(Rep.slice 66 kP).raw w [v0] x.1.1∧kI.raw w [.int .i64 x.1.2.1.1,v2] x.1.2.1∧(-9223372036854775808≤x.1.2.1.1∧x.1.2.1.1≤9223372036854775807)∧(Rep.slice 212 kH).raw w [v2] x.1.2.1.2∧(Rep.slice 175 kE).raw w [v3] x.1.2.2.1∧(Rep.slice 178 kJ).raw w [v4] x.1.2.2.2.1∧(Rep.slice 181 kX).raw w [v5] x.1.2.2.2.2.1∧(Rep.slice 184 kF).raw w [v6] x.1.2.2.2.2.2.1∧(-9223372036854775808≤x.1.2.2.2.2.2.2∧x.1.2.2.2.2.2.2≤9223372036854775807)∧(Rep.slice 128 kR).raw w [v8] x.2:=by
 obtain ⟨_,_,rfl,a_0,b_0⟩:=Rep.jb h
 have q_0:=jo a_0
 obtain ⟨_,_,_,_,_,_,rfl,s_0_0,s_0_1,s_0_2,s_0_3,s_0_4,s_0_5,s_0_6,s_0_7,s_0_8⟩:=q_0
 obtain ⟨_,rfl,r_1⟩:=Rep.zl b_0
 exact ⟨_,_,_,_,_,_,_,rfl,a_0,s_0_0,s_0_1,s_0_2,s_0_3,s_0_4,s_0_5,s_0_6,s_0_7,s_0_8,r_1⟩
theorem kUb:Rep.Sub yP jC (fun x=>x.1) (fun x y=>(y,x.2)) 0:=Rep.Sub.left (Rep.Sub.refl jC) rM
theorem kUa:Rep.Sub yP (Rep.slice 128 kR) (fun x=>x.2) (fun x y=>(x.1,y)) 8:=Rep.Sub.right (Rep.Sub.refl (Rep.slice 128 kR)) rfl
abbrev kDu:=kW × Int
instance decKey:DecidableEq kDu:=inferInstanceAs (DecidableEq (kW × Int))
def jg:Rep kDu:=.pair kL .int
theorem RKey_n:jg.n=2:=rfl
theorem kCe {w:World} {cs:List Value} {x:kDu} (h:jg.raw w cs x):∃ v0,cs=[v0,.int .i64 x.2]∧kL.raw w [v0] x.1∧(Rep.slice 9 Rep.str).raw w [v0] x.1∧(-9223372036854775808≤x.2∧x.2≤9223372036854775807):=by
 obtain ⟨_,_,rfl,a_0,b_0⟩:=Rep.jb h
 have q_0:=kM a_0
 obtain ⟨_,rfl,s_0_0⟩:=q_0
 obtain ⟨rfl,r_1⟩:=Rep.zu b_0
 exact ⟨_,rfl,a_0,s_0_0,r_1⟩
theorem kWg:Rep.Sub jg (Rep.slice 9 Rep.str) (fun x=>x.1) (fun x y=>(y,x.2)) 0:=Rep.Sub.left (Rep.Sub.refl (Rep.slice 9 Rep.str)) rM
def kLq (x:kDu) (v:Int):kDu:=(x.1,v)
theorem RKey_set1 {x:kDu} (v:Int) (hv:-9223372036854775808≤v∧v≤9223372036854775807) {w:World} {cs:List Value} {S:Nat→Prop} (h:jg.is true w cs x S):jg.is true w (cs.set 1 (.int .i64 v)) (kLq x v) S:=by
 obtain ⟨c0,d0,A0,B0,rfl,p0,q0,hA0,hB0,hd0⟩:=h
 obtain ⟨rfl,_⟩:=q0
 have l0:=Rep.len _ p0
 change _=1 at l0
 have e:((c0++[.int .i64 x.2]):List Value).set 1 (.int .i64 v)=(c0++[.int .i64 v]):=by
  obtain ⟨y0_0,rfl⟩:∃ y0_0,c0=[y0_0]:=fU
  rfl
 rw [e]
 exact ⟨_,_,A0,B0,rfl,p0,⟨rfl,hv⟩,hA0,hB0,hd0⟩
abbrev yV:=(List ByteArray)
instance decPattern:DecidableEq yV:=inferInstanceAs (DecidableEq ((List ByteArray)))
def yU:Rep yV:=(.slice 9 .str)
theorem yc {w:World} {cs:List Value} {x:yV} (h:yU.raw w cs x):∃ v0,cs=[v0]∧(Rep.slice 9 Rep.str).raw w [v0] x:=by
 obtain ⟨_,rfl,r_0⟩:=Rep.zl h
 exact ⟨_,rfl,r_0⟩
abbrev kBb:=yV × yV
instance decRule:DecidableEq kBb:=inferInstanceAs (DecidableEq (yV × yV))
def jM:Rep kBb:=.pair yU yU
theorem RRule_n:jM.n=2:=rfl
theorem kAe {w:World} {cs:List Value} {x:kBb} (h:jM.raw w cs x):∃ v0 v1,cs=[v0,v1]∧yU.raw w [v0] x.1∧(Rep.slice 9 Rep.str).raw w [v0] x.1∧yU.raw w [v1] x.2∧(Rep.slice 9 Rep.str).raw w [v1] x.2:=by
 obtain ⟨_,_,rfl,a_0,b_0⟩:=Rep.jb h
 have q_0:=yc a_0
 obtain ⟨_,rfl,s_0_0⟩:=q_0
 have q_1:=yc b_0
 obtain ⟨_,rfl,s_1_0⟩:=q_1
 exact ⟨_,_,rfl,a_0,s_0_0,b_0,s_1_0⟩
theorem kTx:Rep.Sub jM (Rep.slice 9 Rep.str) (fun x=>x.1) (fun x y=>(y,x.2)) 0:=Rep.Sub.left (Rep.Sub.refl (Rep.slice 9 Rep.str)) rM
theorem kTw:Rep.Sub jM (Rep.slice 9 Rep.str) (fun x=>x.2) (fun x y=>(x.1,y)) 1:=Rep.Sub.right (Rep.Sub.refl (Rep.slice 9 Rep.str)) rfl
abbrev kz:=(List kDu) × (List kBb) × (List kW) × (List jJ)
instance decTrustPolicy:DecidableEq kz:=inferInstanceAs (DecidableEq ((List kDu) × (List kBb) × (List kW) × (List jJ)))
def kT:Rep kz:=.pair (.slice 187 jg) (.pair (.slice 191 jM) (.pair (.slice 64 kL) (.slice 66 kP)))
theorem kw {w:World} {cs:List Value} {x:kz} (h:kT.raw w cs x):∃ v0 v1 v2 v3,cs=[v0,v1,v2,v3]∧(Rep.slice 187 jg).raw w [v0] x.1∧(Rep.slice 191 jM).raw w [v1] x.2.1∧(Rep.slice 64 kL).raw w [v2] x.2.2.1∧(Rep.slice 66 kP).raw w [v3] x.2.2.2:=by
 obtain ⟨_,_,rfl,a_0,b_0⟩:=Rep.jb h
 obtain ⟨_,rfl,r_0⟩:=Rep.zl a_0
 obtain ⟨_,_,rfl,a_1,b_1⟩:=Rep.jb b_0
 obtain ⟨_,rfl,r_1⟩:=Rep.zl a_1
 obtain ⟨_,_,rfl,a_2,b_2⟩:=Rep.jb b_1
 obtain ⟨_,rfl,r_2⟩:=Rep.zl a_2
 obtain ⟨_,rfl,r_3⟩:=Rep.zl b_2
 exact ⟨_,_,_,_,rfl,r_0,r_1,r_2,r_3⟩
theorem kLf:Rep.Sub kT (Rep.slice 187 jg) (fun x=>x.1) (fun x y=>(y,x.2.1,x.2.2.1,x.2.2.2)) 0:=Rep.Sub.left (Rep.Sub.refl (Rep.slice 187 jg)) rM
theorem kLe:Rep.Sub kT (Rep.slice 191 jM) (fun x=>x.2.1) (fun x y=>(x.1,y,x.2.2.1,x.2.2.2)) 1:=Rep.Sub.right (Rep.Sub.left (Rep.Sub.refl (Rep.slice 191 jM)) rM) rfl
theorem kLd:Rep.Sub kT (Rep.slice 64 kL) (fun x=>x.2.2.1) (fun x y=>(x.1,x.2.1,y,x.2.2.2)) 2:=Rep.Sub.right (Rep.Sub.right (Rep.Sub.left (Rep.Sub.refl (Rep.slice 64 kL)) rM) rfl) rfl
theorem kLc:Rep.Sub kT (Rep.slice 66 kP) (fun x=>x.2.2.2) (fun x y=>(x.1,x.2.1,x.2.2.1,y)) 3:=Rep.Sub.right (Rep.Sub.right (Rep.Sub.right (Rep.Sub.refl (Rep.slice 66 kP)) rfl) rfl) rfl
abbrev yf:=ByteArray × ByteArray
instance decBinding:DecidableEq yf:=inferInstanceAs (DecidableEq (ByteArray × ByteArray))
def yL:Rep yf:=.pair .str .str
theorem kEu {w:World} {cs:List Value} {x:yf} (h:yL.raw w cs x):cs=[.string x.1,.string x.2]∧x.1.size≤maxLen∧x.2.size≤maxLen:=by
 obtain ⟨_,_,rfl,a_0,b_0⟩:=Rep.jb h
 obtain ⟨rfl,r_0⟩:=Rep.yQ a_0
 obtain ⟨rfl,r_1⟩:=Rep.yQ b_0
 exact ⟨rfl,r_0,r_1⟩
end Go.Proofs.YtlfblpgkegeaeaaGreat

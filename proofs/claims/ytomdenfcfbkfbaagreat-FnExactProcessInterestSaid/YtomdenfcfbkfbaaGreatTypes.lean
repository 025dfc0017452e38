/-
  The program's types as plain data, and how their cells are taken apart. Printed by gentypes.py.
-/
import Derived.Test.YtomdenfcfbkfbaaGreatOwn2
set_option linter.unusedVariables false
set_option linter.unusedSimpArgs false
set_option linter.unnecessarySimpa false
namespace Go.Proofs.YtomdenfcfbkfbaaGreat
open Go.RowKit
abbrev ky:=(List ByteArray)
instance decName:DecidableEq ky:=inferInstanceAs (DecidableEq ((List ByteArray)))
def kZ:Rep ky:=(.slice 9 .str)
theorem kR {w:World} {cs:List Value} {x:ky} (h:kZ.raw w cs x):∃ v0,cs=[v0]∧(Rep.slice 9 Rep.str).raw w [v0] x:=by
 obtain ⟨_,rfl,r_0⟩:=Rep.kAw h
 exact ⟨_,rfl,r_0⟩
theorem RName_sub_0:Rep.Sub kZ (Rep.slice 9 Rep.str) (fun x=>x) (fun x y=>y) 0:=Rep.Sub.refl (Rep.slice 9 Rep.str)
abbrev kv:=ky × Int × Int
instance decMeasurement:DecidableEq kv:=inferInstanceAs (DecidableEq (ky × Int × Int))
def kG:Rep kv:=.pair kZ (.pair .int .int)
theorem kTb:kG.n=3:=rfl
theorem jf {w:World} {cs:List Value} {x:kv} (h:kG.raw w cs x):∃ v0,cs=[v0,.int .i64 x.2.1,.int .i64 x.2.2]∧kZ.raw w [v0] x.1∧(Rep.slice 9 Rep.str).raw w [v0] x.1∧(-9223372036854775808≤x.2.1∧x.2.1≤9223372036854775807)∧(-9223372036854775808≤x.2.2∧x.2.2≤9223372036854775807):=by
 obtain ⟨_,_,rfl,a_0,b_0⟩:=Rep.yC h
 have q_0:=kR a_0
 obtain ⟨_,rfl,s_0_0⟩:=q_0
 obtain ⟨_,_,rfl,a_1,b_1⟩:=Rep.yC b_0
 obtain ⟨rfl,r_1⟩:=Rep.jX a_1
 obtain ⟨rfl,r_2⟩:=Rep.jX b_1
 exact ⟨_,rfl,a_0,s_0_0,r_1,r_2⟩
theorem kIn:Rep.Sub kG (Rep.slice 9 Rep.str) (fun x=>x.1) (fun x y=>(y,x.2.1,x.2.2)) 0:=Rep.Sub.left (Rep.Sub.refl (Rep.slice 9 Rep.str)) rG
def kBp (x:kv) (v:Int):kv:=(x.1,v,x.2.2)
theorem kMw {x:kv} (v:Int) (hv:-9223372036854775808≤v∧v≤9223372036854775807) {w:World} {cs:List Value} {S:Nat→Prop} (h:kG.is true w cs x S):kG.is true w (cs.set 1 (.int .i64 v)) (kBp x v) S:=by
 obtain ⟨c0,d0,A0,B0,rfl,p0,q0,hA0,hB0,hd0⟩:=h
 obtain ⟨c1,d1,A1,B1,rfl,p1,q1,hA1,hB1,hd1⟩:=q0
 obtain ⟨rfl,_⟩:=p1
 have l0:=Rep.len _ p0
 change _=1 at l0
 have e:((c0++([.int .i64 x.2.1]++d1)):List Value).set 1 (.int .i64 v)=(c0++([.int .i64 v]++d1)):=by
  obtain ⟨y0_0,rfl⟩:∃ y0_0,c0=[y0_0]:=dZ
  rfl
 rw [e]
 exact ⟨_,_,A0,B0,rfl,p0,⟨_,_,A1,B1,rfl,⟨rfl,hv⟩,q1,hA1,hB1,hd1⟩,hA0,hB0,hd0⟩
def kBo (x:kv) (v:Int):kv:=(x.1,x.2.1,v)
theorem kMv {x:kv} (v:Int) (hv:-9223372036854775808≤v∧v≤9223372036854775807) {w:World} {cs:List Value} {S:Nat→Prop} (h:kG.is true w cs x S):kG.is true w (cs.set 2 (.int .i64 v)) (kBo x v) S:=by
 obtain ⟨c0,d0,A0,B0,rfl,p0,q0,hA0,hB0,hd0⟩:=h
 obtain ⟨c1,d1,A1,B1,rfl,p1,q1,hA1,hB1,hd1⟩:=q0
 obtain ⟨rfl,_⟩:=q1
 have l0:=Rep.len _ p0
 have l1:=Rep.len _ p1
 change _=1 at l0;change _=1 at l1
 have e:((c0++(c1++[.int .i64 x.2.2])):List Value).set 2 (.int .i64 v)=(c0++(c1++[.int .i64 v])):=by
  obtain ⟨y0_0,rfl⟩:∃ y0_0,c0=[y0_0]:=dZ
  obtain ⟨y1_0,rfl⟩:∃ y1_0,c1=[y1_0]:=fA
  rfl
 rw [e]
 exact ⟨_,_,A0,B0,rfl,p0,⟨_,_,A1,B1,rfl,p1,⟨rfl,hv⟩,hA1,hB1,hd1⟩,hA0,hB0,hd0⟩
abbrev jD:=ky × Int × Int
instance decRoute:DecidableEq jD:=inferInstanceAs (DecidableEq (ky × Int × Int))
def kM:Rep jD:=.pair kZ (.pair .int .int)
theorem RRoute_n:kM.n=3:=rfl
theorem jK {w:World} {cs:List Value} {x:jD} (h:kM.raw w cs x):∃ v0,cs=[v0,.int .i64 x.2.1,.int .i64 x.2.2]∧kZ.raw w [v0] x.1∧(Rep.slice 9 Rep.str).raw w [v0] x.1∧(-9223372036854775808≤x.2.1∧x.2.1≤9223372036854775807)∧(-9223372036854775808≤x.2.2∧x.2.2≤9223372036854775807):=by
 obtain ⟨_,_,rfl,a_0,b_0⟩:=Rep.yC h
 have q_0:=kR a_0
 obtain ⟨_,rfl,s_0_0⟩:=q_0
 obtain ⟨_,_,rfl,a_1,b_1⟩:=Rep.yC b_0
 obtain ⟨rfl,r_1⟩:=Rep.jX a_1
 obtain ⟨rfl,r_2⟩:=Rep.jX b_1
 exact ⟨_,rfl,a_0,s_0_0,r_1,r_2⟩
theorem kSu:Rep.Sub kM (Rep.slice 9 Rep.str) (fun x=>x.1) (fun x y=>(y,x.2.1,x.2.2)) 0:=Rep.Sub.left (Rep.Sub.refl (Rep.slice 9 Rep.str)) rG
def kGf (x:jD) (v:Int):jD:=(x.1,v,x.2.2)
theorem RRoute_set1 {x:jD} (v:Int) (hv:-9223372036854775808≤v∧v≤9223372036854775807) {w:World} {cs:List Value} {S:Nat→Prop} (h:kM.is true w cs x S):kM.is true w (cs.set 1 (.int .i64 v)) (kGf x v) S:=by
 obtain ⟨c0,d0,A0,B0,rfl,p0,q0,hA0,hB0,hd0⟩:=h
 obtain ⟨c1,d1,A1,B1,rfl,p1,q1,hA1,hB1,hd1⟩:=q0
 obtain ⟨rfl,_⟩:=p1
 have l0:=Rep.len _ p0
 change _=1 at l0
 have e:((c0++([.int .i64 x.2.1]++d1)):List Value).set 1 (.int .i64 v)=(c0++([.int .i64 v]++d1)):=by
  obtain ⟨y0_0,rfl⟩:∃ y0_0,c0=[y0_0]:=dZ
  rfl
 rw [e]
 exact ⟨_,_,A0,B0,rfl,p0,⟨_,_,A1,B1,rfl,⟨rfl,hv⟩,q1,hA1,hB1,hd1⟩,hA0,hB0,hd0⟩
def kGe (x:jD) (v:Int):jD:=(x.1,x.2.1,v)
theorem RRoute_set2 {x:jD} (v:Int) (hv:-9223372036854775808≤v∧v≤9223372036854775807) {w:World} {cs:List Value} {S:Nat→Prop} (h:kM.is true w cs x S):kM.is true w (cs.set 2 (.int .i64 v)) (kGe x v) S:=by
 obtain ⟨c0,d0,A0,B0,rfl,p0,q0,hA0,hB0,hd0⟩:=h
 obtain ⟨c1,d1,A1,B1,rfl,p1,q1,hA1,hB1,hd1⟩:=q0
 obtain ⟨rfl,_⟩:=q1
 have l0:=Rep.len _ p0
 have l1:=Rep.len _ p1
 change _=1 at l0;change _=1 at l1
 have e:((c0++(c1++[.int .i64 x.2.2])):List Value).set 2 (.int .i64 v)=(c0++(c1++[.int .i64 v])):=by
  obtain ⟨y0_0,rfl⟩:∃ y0_0,c0=[y0_0]:=dZ
  obtain ⟨y1_0,rfl⟩:∃ y1_0,c1=[y1_0]:=fA
  rfl
 rw [e]
 exact ⟨_,_,A0,B0,rfl,p0,⟨_,_,A1,B1,rfl,p1,⟨rfl,hv⟩,hA1,hB1,hd1⟩,hA0,hB0,hd0⟩
abbrev kS:=Int × Int × Int
instance decRequester:DecidableEq kS:=inferInstanceAs (DecidableEq (Int × Int × Int))
def kF:Rep kS:=.pair .int (.pair .int .int)
theorem yA {w:World} {cs:List Value} {x:kS} (h:kF.raw w cs x):cs=[.int .i64 x.1,.int .i64 x.2.1,.int .i64 x.2.2]∧(-9223372036854775808≤x.1∧x.1≤9223372036854775807)∧(-9223372036854775808≤x.2.1∧x.2.1≤9223372036854775807)∧(-9223372036854775808≤x.2.2∧x.2.2≤9223372036854775807):=by
 obtain ⟨_,_,rfl,a_0,b_0⟩:=Rep.yC h
 obtain ⟨rfl,r_0⟩:=Rep.jX a_0
 obtain ⟨_,_,rfl,a_1,b_1⟩:=Rep.yC b_0
 obtain ⟨rfl,r_1⟩:=Rep.jX a_1
 obtain ⟨rfl,r_2⟩:=Rep.jX b_1
 exact ⟨rfl,r_0,r_1,r_2⟩
def kHr (x:kS) (v:Int):kS:=(v,x.2.1,x.2.2)
theorem kQd {x:kS} (v:Int) (hv:-9223372036854775808≤v∧v≤9223372036854775807) {w:World} {cs:List Value} {S:Nat→Prop} (h:kF.is true w cs x S):kF.is true w (cs.set 0 (.int .i64 v)) (kHr x v) S:=by
 obtain ⟨c0,d0,A0,B0,rfl,p0,q0,hA0,hB0,hd0⟩:=h
 obtain ⟨rfl,_⟩:=p0
 have e:(([.int .i64 x.1]++d0):List Value).set 0 (.int .i64 v)=([.int .i64 v]++d0):=by
  rfl
 rw [e]
 exact ⟨_,_,A0,B0,rfl,⟨rfl,hv⟩,q0,hA0,hB0,hd0⟩
def kHq (x:kS) (v:Int):kS:=(x.1,v,x.2.2)
theorem kQc {x:kS} (v:Int) (hv:-9223372036854775808≤v∧v≤9223372036854775807) {w:World} {cs:List Value} {S:Nat→Prop} (h:kF.is true w cs x S):kF.is true w (cs.set 1 (.int .i64 v)) (kHq x v) S:=by
 obtain ⟨c0,d0,A0,B0,rfl,p0,q0,hA0,hB0,hd0⟩:=h
 obtain ⟨c1,d1,A1,B1,rfl,p1,q1,hA1,hB1,hd1⟩:=q0
 obtain ⟨rfl,_⟩:=p1
 have l0:=Rep.len _ p0
 change _=1 at l0
 have e:((c0++([.int .i64 x.2.1]++d1)):List Value).set 1 (.int .i64 v)=(c0++([.int .i64 v]++d1)):=by
  obtain ⟨y0_0,rfl⟩:∃ y0_0,c0=[y0_0]:=dZ
  rfl
 rw [e]
 exact ⟨_,_,A0,B0,rfl,p0,⟨_,_,A1,B1,rfl,⟨rfl,hv⟩,q1,hA1,hB1,hd1⟩,hA0,hB0,hd0⟩
def kHp (x:kS) (v:Int):kS:=(x.1,x.2.1,v)
theorem kQb {x:kS} (v:Int) (hv:-9223372036854775808≤v∧v≤9223372036854775807) {w:World} {cs:List Value} {S:Nat→Prop} (h:kF.is true w cs x S):kF.is true w (cs.set 2 (.int .i64 v)) (kHp x v) S:=by
 obtain ⟨c0,d0,A0,B0,rfl,p0,q0,hA0,hB0,hd0⟩:=h
 obtain ⟨c1,d1,A1,B1,rfl,p1,q1,hA1,hB1,hd1⟩:=q0
 obtain ⟨rfl,_⟩:=q1
 have l0:=Rep.len _ p0
 have l1:=Rep.len _ p1
 change _=1 at l0;change _=1 at l1
 have e:((c0++(c1++[.int .i64 x.2.2])):List Value).set 2 (.int .i64 v)=(c0++(c1++[.int .i64 v])):=by
  obtain ⟨y0_0,rfl⟩:∃ y0_0,c0=[y0_0]:=dZ
  obtain ⟨y1_0,rfl⟩:∃ y1_0,c1=[y1_0]:=fA
  rfl
 rw [e]
 exact ⟨_,_,A0,B0,rfl,p0,⟨_,_,A1,B1,rfl,p1,⟨rfl,hv⟩,hA1,hB1,hd1⟩,hA0,hB0,hd0⟩
abbrev kJ:=ky × (List kS) × Int
instance decPendingInterest:DecidableEq kJ:=inferInstanceAs (DecidableEq (ky × (List kS) × Int))
def kD:Rep kJ:=.pair kZ (.pair (.slice 81 kF) .int)
theorem kEt:kD.n=3:=rfl
theorem kz {w:World} {cs:List Value} {x:kJ} (h:kD.raw w cs x):∃ v0 v1,cs=[v0,v1,.int .i64 x.2.2]∧kZ.raw w [v0] x.1∧(Rep.slice 9 Rep.str).raw w [v0] x.1∧(Rep.slice 81 kF).raw w [v1] x.2.1∧(-9223372036854775808≤x.2.2∧x.2.2≤9223372036854775807):=by
 obtain ⟨_,_,rfl,a_0,b_0⟩:=Rep.yC h
 have q_0:=kR a_0
 obtain ⟨_,rfl,s_0_0⟩:=q_0
 obtain ⟨_,_,rfl,a_1,b_1⟩:=Rep.yC b_0
 obtain ⟨_,rfl,r_1⟩:=Rep.kAw a_1
 obtain ⟨rfl,r_2⟩:=Rep.jX b_1
 exact ⟨_,_,rfl,a_0,s_0_0,r_1,r_2⟩
theorem kFk:Rep.Sub kD (Rep.slice 9 Rep.str) (fun x=>x.1) (fun x y=>(y,x.2.1,x.2.2)) 0:=Rep.Sub.left (Rep.Sub.refl (Rep.slice 9 Rep.str)) rG
theorem kGu:Rep.Sub kD (Rep.slice 81 kF) (fun x=>x.2.1) (fun x y=>(x.1,y,x.2.2)) 1:=Rep.Sub.right (Rep.Sub.left (Rep.Sub.refl (Rep.slice 81 kF)) rG) rfl
def ji (x:kJ) (v:Int):kJ:=(x.1,x.2.1,v)
theorem kBc {x:kJ} (v:Int) (hv:-9223372036854775808≤v∧v≤9223372036854775807) {w:World} {cs:List Value} {S:Nat→Prop} (h:kD.is true w cs x S):kD.is true w (cs.set 2 (.int .i64 v)) (ji x v) S:=by
 obtain ⟨c0,d0,A0,B0,rfl,p0,q0,hA0,hB0,hd0⟩:=h
 obtain ⟨c1,d1,A1,B1,rfl,p1,q1,hA1,hB1,hd1⟩:=q0
 obtain ⟨rfl,_⟩:=q1
 have l0:=Rep.len _ p0
 have l1:=Rep.len _ p1
 change _=1 at l0;change _=1 at l1
 have e:((c0++(c1++[.int .i64 x.2.2])):List Value).set 2 (.int .i64 v)=(c0++(c1++[.int .i64 v])):=by
  obtain ⟨y0_0,rfl⟩:∃ y0_0,c0=[y0_0]:=dZ
  obtain ⟨y1_0,rfl⟩:∃ y1_0,c1=[y1_0]:=fA
  rfl
 rw [e]
 exact ⟨_,_,A0,B0,rfl,p0,⟨_,_,A1,B1,rfl,p1,⟨rfl,hv⟩,hA1,hB1,hd1⟩,hA0,hB0,hd0⟩
abbrev jL:=ky × Int
instance decSeenNonce:DecidableEq jL:=inferInstanceAs (DecidableEq (ky × Int))
def kI:Rep jL:=.pair kZ .int
theorem kWs:kI.n=2:=rfl
theorem yJ {w:World} {cs:List Value} {x:jL} (h:kI.raw w cs x):∃ v0,cs=[v0,.int .i64 x.2]∧kZ.raw w [v0] x.1∧(Rep.slice 9 Rep.str).raw w [v0] x.1∧(-9223372036854775808≤x.2∧x.2≤9223372036854775807):=by
 obtain ⟨_,_,rfl,a_0,b_0⟩:=Rep.yC h
 have q_0:=kR a_0
 obtain ⟨_,rfl,s_0_0⟩:=q_0
 obtain ⟨rfl,r_1⟩:=Rep.jX b_0
 exact ⟨_,rfl,a_0,s_0_0,r_1⟩
theorem kLh:Rep.Sub kI (Rep.slice 9 Rep.str) (fun x=>x.1) (fun x y=>(y,x.2)) 0:=Rep.Sub.left (Rep.Sub.refl (Rep.slice 9 Rep.str)) rG
def kCp (x:jL) (v:Int):jL:=(x.1,v)
theorem kQa {x:jL} (v:Int) (hv:-9223372036854775808≤v∧v≤9223372036854775807) {w:World} {cs:List Value} {S:Nat→Prop} (h:kI.is true w cs x S):kI.is true w (cs.set 1 (.int .i64 v)) (kCp x v) S:=by
 obtain ⟨c0,d0,A0,B0,rfl,p0,q0,hA0,hB0,hd0⟩:=h
 obtain ⟨rfl,_⟩:=q0
 have l0:=Rep.len _ p0
 change _=1 at l0
 have e:((c0++[.int .i64 x.2]):List Value).set 1 (.int .i64 v)=(c0++[.int .i64 v]):=by
  obtain ⟨y0_0,rfl⟩:∃ y0_0,c0=[y0_0]:=dZ
  rfl
 rw [e]
 exact ⟨_,_,A0,B0,rfl,p0,⟨rfl,hv⟩,hA0,hB0,hd0⟩
abbrev jF:=ky × Int × Int × Int
instance decInterest:DecidableEq jF:=inferInstanceAs (DecidableEq (ky × Int × Int × Int))
def kw:Rep jF:=.pair kZ (.pair .int (.pair .int .int))
theorem jA {w:World} {cs:List Value} {x:jF} (h:kw.raw w cs x):∃ v0,cs=[v0,.int .i64 x.2.1,.int .i64 x.2.2.1,.int .i64 x.2.2.2]∧kZ.raw w [v0] x.1∧(Rep.slice 9 Rep.str).raw w [v0] x.1∧(-9223372036854775808≤x.2.1∧x.2.1≤9223372036854775807)∧(-9223372036854775808≤x.2.2.1∧x.2.2.1≤9223372036854775807)∧(-9223372036854775808≤x.2.2.2∧x.2.2.2≤9223372036854775807):=by
 obtain ⟨_,_,rfl,a_0,b_0⟩:=Rep.yC h
 have q_0:=kR a_0
 obtain ⟨_,rfl,s_0_0⟩:=q_0
 obtain ⟨_,_,rfl,a_1,b_1⟩:=Rep.yC b_0
 obtain ⟨rfl,r_1⟩:=Rep.jX a_1
 obtain ⟨_,_,rfl,a_2,b_2⟩:=Rep.yC b_1
 obtain ⟨rfl,r_2⟩:=Rep.jX a_2
 obtain ⟨rfl,r_3⟩:=Rep.jX b_2
 exact ⟨_,rfl,a_0,s_0_0,r_1,r_2,r_3⟩
theorem kQf:Rep.Sub kw kZ (fun x=>x.1) (fun x y=>(y,x.2.1,x.2.2.1,x.2.2.2)) 0:=Rep.Sub.left (Rep.Sub.refl kZ) rG
def kJw (x:jF) (v:Int):jF:=(x.1,x.2.1,v,x.2.2.2)
theorem kTc {x:jF} (v:Int) (hv:-9223372036854775808≤v∧v≤9223372036854775807) {w:World} {cs:List Value} {S:Nat→Prop} (h:kw.is true w cs x S):kw.is true w (cs.set 2 (.int .i64 v)) (kJw x v) S:=by
 obtain ⟨c0,d0,A0,B0,rfl,p0,q0,hA0,hB0,hd0⟩:=h
 obtain ⟨c1,d1,A1,B1,rfl,p1,q1,hA1,hB1,hd1⟩:=q0
 obtain ⟨c2,d2,A2,B2,rfl,p2,q2,hA2,hB2,hd2⟩:=q1
 obtain ⟨rfl,_⟩:=p2
 have l0:=Rep.len _ p0
 have l1:=Rep.len _ p1
 change _=1 at l0;change _=1 at l1
 have e:((c0++(c1++([.int .i64 x.2.2.1]++d2))):List Value).set 2 (.int .i64 v)=(c0++(c1++([.int .i64 v]++d2))):=by
  obtain ⟨y0_0,rfl⟩:∃ y0_0,c0=[y0_0]:=dZ
  obtain ⟨y1_0,rfl⟩:∃ y1_0,c1=[y1_0]:=fA
  rfl
 rw [e]
 exact ⟨_,_,A0,B0,rfl,p0,⟨_,_,A1,B1,rfl,p1,⟨_,_,A2,B2,rfl,⟨rfl,hv⟩,q2,hA2,hB2,hd2⟩,hA1,hB1,hd1⟩,hA0,hB0,hd0⟩
abbrev yX:=ky × (List UInt8) × ky × Int × Int
instance decData:DecidableEq yX:=(@instDecidableEqProd _ _ (inferInstanceAs (DecidableEq ky)) (@instDecidableEqProd _ _ (inferInstanceAs (DecidableEq (List UInt8))) (@instDecidableEqProd _ _ (inferInstanceAs (DecidableEq ky)) (@instDecidableEqProd _ _ (inferInstanceAs (DecidableEq Int)) (inferInstanceAs (DecidableEq Int))))))
def kg:Rep yX:=.pair kZ (.pair (.slice 5 .byte) (.pair kZ (.pair .int .int)))
theorem kWt:kg.n=5:=rfl
theorem jS {w:World} {cs:List Value} {x:yX} (h:kg.raw w cs x):∃ v0 v1 v2,cs=[v0,v1,v2,.int .i64 x.2.2.2.1,.int .i64 x.2.2.2.2]∧kZ.raw w [v0] x.1∧(Rep.slice 9 Rep.str).raw w [v0] x.1∧(Rep.slice 5 Rep.byte).raw w [v1] x.2.1∧kZ.raw w [v2] x.2.2.1∧(Rep.slice 9 Rep.str).raw w [v2] x.2.2.1∧(-9223372036854775808≤x.2.2.2.1∧x.2.2.2.1≤9223372036854775807)∧(-9223372036854775808≤x.2.2.2.2∧x.2.2.2.2≤9223372036854775807):=by
 obtain ⟨_,_,rfl,a_0,b_0⟩:=Rep.yC h
 have q_0:=kR a_0
 obtain ⟨_,rfl,s_0_0⟩:=q_0
 obtain ⟨_,_,rfl,a_1,b_1⟩:=Rep.yC b_0
 obtain ⟨_,rfl,r_1⟩:=Rep.kAw a_1
 obtain ⟨_,_,rfl,a_2,b_2⟩:=Rep.yC b_1
 have q_2:=kR a_2
 obtain ⟨_,rfl,s_2_0⟩:=q_2
 obtain ⟨_,_,rfl,a_3,b_3⟩:=Rep.yC b_2
 obtain ⟨rfl,r_3⟩:=Rep.jX a_3
 obtain ⟨rfl,r_4⟩:=Rep.jX b_3
 exact ⟨_,_,_,rfl,a_0,s_0_0,r_1,a_2,s_2_0,r_3,r_4⟩
theorem kUc:Rep.Sub kg (Rep.slice 9 Rep.str) (fun x=>x.1) (fun x y=>(y,x.2.1,x.2.2.1,x.2.2.2.1,x.2.2.2.2)) 0:=Rep.Sub.left (Rep.Sub.refl (Rep.slice 9 Rep.str)) rG
theorem RData_sub_1:Rep.Sub kg (Rep.slice 5 Rep.byte) (fun x=>x.2.1) (fun x y=>(x.1,y,x.2.2.1,x.2.2.2.1,x.2.2.2.2)) 1:=Rep.Sub.right (Rep.Sub.left (Rep.Sub.refl (Rep.slice 5 Rep.byte)) rG) rfl
theorem kUb:Rep.Sub kg (Rep.slice 9 Rep.str) (fun x=>x.2.2.1) (fun x y=>(x.1,x.2.1,y,x.2.2.2.1,x.2.2.2.2)) 2:=Rep.Sub.right (Rep.Sub.right (Rep.Sub.left (Rep.Sub.refl (Rep.slice 9 Rep.str)) rG) rfl) rfl
def kCh (x:yX) (v:Int):yX:=(x.1,x.2.1,x.2.2.1,v,x.2.2.2.2)
theorem RData_set3 {x:yX} (v:Int) (hv:-9223372036854775808≤v∧v≤9223372036854775807) {w:World} {cs:List Value} {S:Nat→Prop} (h:kg.is true w cs x S):kg.is true w (cs.set 3 (.int .i64 v)) (kCh x v) S:=by
 obtain ⟨c0,d0,A0,B0,rfl,p0,q0,hA0,hB0,hd0⟩:=h
 obtain ⟨c1,d1,A1,B1,rfl,p1,q1,hA1,hB1,hd1⟩:=q0
 obtain ⟨c2,d2,A2,B2,rfl,p2,q2,hA2,hB2,hd2⟩:=q1
 obtain ⟨c3,d3,A3,B3,rfl,p3,q3,hA3,hB3,hd3⟩:=q2
 obtain ⟨rfl,_⟩:=p3
 have l0:=Rep.len _ p0
 have l1:=Rep.len _ p1
 have l2:=Rep.len _ p2
 change _=1 at l0;change _=1 at l1;change _=1 at l2
 have e:((c0++(c1++(c2++([.int .i64 x.2.2.2.1]++d3)))):List Value).set 3 (.int .i64 v)=(c0++(c1++(c2++([.int .i64 v]++d3)))):=by
  obtain ⟨y0_0,rfl⟩:∃ y0_0,c0=[y0_0]:=dZ
  obtain ⟨y1_0,rfl⟩:∃ y1_0,c1=[y1_0]:=fA
  obtain ⟨y2_0,rfl⟩:∃ y2_0,c2=[y2_0]:=fE
  rfl
 rw [e]
 exact ⟨_,_,A0,B0,rfl,p0,⟨_,_,A1,B1,rfl,p1,⟨_,_,A2,B2,rfl,p2,⟨_,_,A3,B3,rfl,⟨rfl,hv⟩,q3,hA3,hB3,hd3⟩,hA2,hB2,hd2⟩,hA1,hB1,hd1⟩,hA0,hB0,hd0⟩
def kCg (x:yX) (v:Int):yX:=(x.1,x.2.1,x.2.2.1,x.2.2.2.1,v)
theorem RData_set4 {x:yX} (v:Int) (hv:-9223372036854775808≤v∧v≤9223372036854775807) {w:World} {cs:List Value} {S:Nat→Prop} (h:kg.is true w cs x S):kg.is true w (cs.set 4 (.int .i64 v)) (kCg x v) S:=by
 obtain ⟨c0,d0,A0,B0,rfl,p0,q0,hA0,hB0,hd0⟩:=h
 obtain ⟨c1,d1,A1,B1,rfl,p1,q1,hA1,hB1,hd1⟩:=q0
 obtain ⟨c2,d2,A2,B2,rfl,p2,q2,hA2,hB2,hd2⟩:=q1
 obtain ⟨c3,d3,A3,B3,rfl,p3,q3,hA3,hB3,hd3⟩:=q2
 obtain ⟨rfl,_⟩:=q3
 have l0:=Rep.len _ p0
 have l1:=Rep.len _ p1
 have l2:=Rep.len _ p2
 have l3:=Rep.len _ p3
 change _=1 at l0;change _=1 at l1;change _=1 at l2;change _=1 at l3
 have e:((c0++(c1++(c2++(c3++[.int .i64 x.2.2.2.2])))):List Value).set 4 (.int .i64 v)=(c0++(c1++(c2++(c3++[.int .i64 v])))):=by
  obtain ⟨y0_0,rfl⟩:∃ y0_0,c0=[y0_0]:=dZ
  obtain ⟨y1_0,rfl⟩:∃ y1_0,c1=[y1_0]:=fA
  obtain ⟨y2_0,rfl⟩:∃ y2_0,c2=[y2_0]:=fE
  obtain ⟨y3_0,rfl⟩:∃ y3_0,c3=[y3_0]:=fB
  rfl
 rw [e]
 exact ⟨_,_,A0,B0,rfl,p0,⟨_,_,A1,B1,rfl,p1,⟨_,_,A2,B2,rfl,p2,⟨_,_,A3,B3,rfl,p3,⟨rfl,hv⟩,hA3,hB3,hd3⟩,hA2,hB2,hd2⟩,hA1,hB1,hd1⟩,hA0,hB0,hd0⟩
abbrev jJ:=yX × Int
instance decCacheEntry:DecidableEq jJ:=inferInstanceAs (DecidableEq (yX × Int))
def kK:Rep jJ:=.pair kg .int
theorem kFl:kK.n=6:=rfl
theorem jW {w:World} {cs:List Value} {x:jJ} (h:kK.raw w cs x):∃ v0 v1 v2,cs=[v0,v1,v2,.int .i64 x.1.2.2.2.1,.int .i64 x.1.2.2.2.2,.int .i64 x.2]∧kg.raw w [v0,v1,v2,.int .i64 x.1.2.2.2.1,.int .i64 x.1.2.2.2.2] x.1∧kZ.raw w [v0] x.1.1∧(Rep.slice 9 Rep.str).raw w [v0] x.1.1∧(Rep.slice 5 Rep.byte).raw w [v1] x.1.2.1∧kZ.raw w [v2] x.1.2.2.1∧(Rep.slice 9 Rep.str).raw w [v2] x.1.2.2.1∧(-9223372036854775808≤x.1.2.2.2.1∧x.1.2.2.2.1≤9223372036854775807)∧(-9223372036854775808≤x.1.2.2.2.2∧x.1.2.2.2.2≤9223372036854775807)∧(-9223372036854775808≤x.2∧x.2≤9223372036854775807):=by
 obtain ⟨_,_,rfl,a_0,b_0⟩:=Rep.yC h
 have q_0:=jS a_0
 obtain ⟨_,_,_,rfl,s_0_0,s_0_1,s_0_2,s_0_3,s_0_4,s_0_5,s_0_6⟩:=q_0
 obtain ⟨rfl,r_1⟩:=Rep.jX b_0
 exact ⟨_,_,_,rfl,a_0,s_0_0,s_0_1,s_0_2,s_0_3,s_0_4,s_0_5,s_0_6,r_1⟩
theorem kHg:Rep.Sub kK (Rep.slice 9 Rep.str) (fun x=>x.1.1) (fun x y=>((y,x.1.2.1,x.1.2.2.1,x.1.2.2.2.1,x.1.2.2.2.2),x.2)) 0:=Rep.Sub.left (Rep.Sub.left (Rep.Sub.refl (Rep.slice 9 Rep.str)) rG) rG
theorem kJq:Rep.Sub kK (Rep.slice 5 Rep.byte) (fun x=>x.1.2.1) (fun x y=>((x.1.1,y,x.1.2.2.1,x.1.2.2.2.1,x.1.2.2.2.2),x.2)) 1:=Rep.Sub.left (Rep.Sub.right (Rep.Sub.left (Rep.Sub.refl (Rep.slice 5 Rep.byte)) rG) rfl) rG
theorem kHf:Rep.Sub kK (Rep.slice 9 Rep.str) (fun x=>x.1.2.2.1) (fun x y=>((x.1.1,x.1.2.1,y,x.1.2.2.2.1,x.1.2.2.2.2),x.2)) 2:=Rep.Sub.left (Rep.Sub.right (Rep.Sub.right (Rep.Sub.left (Rep.Sub.refl (Rep.slice 9 Rep.str)) rG) rfl) rfl) rG
def zQ (x:jJ) (v:Int):jJ:=((x.1.1,x.1.2.1,x.1.2.2.1,v,x.1.2.2.2.2),x.2)
theorem kOi {x:jJ} (v:Int) (hv:-9223372036854775808≤v∧v≤9223372036854775807) {w:World} {cs:List Value} {S:Nat→Prop} (h:kK.is true w cs x S):kK.is true w (cs.set 3 (.int .i64 v)) (zQ x v) S:=by
 obtain ⟨c0,d0,A0,B0,rfl,p0,q0,hA0,hB0,hd0⟩:=h
 obtain ⟨c1,d1,A1,B1,rfl,p1,q1,hA1,hB1,hd1⟩:=p0
 obtain ⟨c2,d2,A2,B2,rfl,p2,q2,hA2,hB2,hd2⟩:=q1
 obtain ⟨c3,d3,A3,B3,rfl,p3,q3,hA3,hB3,hd3⟩:=q2
 obtain ⟨c4,d4,A4,B4,rfl,p4,q4,hA4,hB4,hd4⟩:=q3
 obtain ⟨rfl,_⟩:=p4
 have l1:=Rep.len _ p1
 have l2:=Rep.len _ p2
 have l3:=Rep.len _ p3
 change _=1 at l1;change _=1 at l2;change _=1 at l3
 have e:(((c1++(c2++(c3++([.int .i64 x.1.2.2.2.1]++d4))))++d0):List Value).set 3 (.int .i64 v)=((c1++(c2++(c3++([.int .i64 v]++d4))))++d0):=by
  obtain ⟨y1_0,rfl⟩:∃ y1_0,c1=[y1_0]:=fA
  obtain ⟨y2_0,rfl⟩:∃ y2_0,c2=[y2_0]:=fE
  obtain ⟨y3_0,rfl⟩:∃ y3_0,c3=[y3_0]:=fB
  rfl
 rw [e]
 exact ⟨_,_,A0,B0,rfl,⟨_,_,A1,B1,rfl,p1,⟨_,_,A2,B2,rfl,p2,⟨_,_,A3,B3,rfl,p3,⟨_,_,A4,B4,rfl,⟨rfl,hv⟩,q4,hA4,hB4,hd4⟩,hA3,hB3,hd3⟩,hA2,hB2,hd2⟩,hA1,hB1,hd1⟩,q0,hA0,hB0,hd0⟩
def zP (x:jJ) (v:Int):jJ:=((x.1.1,x.1.2.1,x.1.2.2.1,x.1.2.2.2.1,v),x.2)
theorem kOh {x:jJ} (v:Int) (hv:-9223372036854775808≤v∧v≤9223372036854775807) {w:World} {cs:List Value} {S:Nat→Prop} (h:kK.is true w cs x S):kK.is true w (cs.set 4 (.int .i64 v)) (zP x v) S:=by
 obtain ⟨c0,d0,A0,B0,rfl,p0,q0,hA0,hB0,hd0⟩:=h
 obtain ⟨c1,d1,A1,B1,rfl,p1,q1,hA1,hB1,hd1⟩:=p0
 obtain ⟨c2,d2,A2,B2,rfl,p2,q2,hA2,hB2,hd2⟩:=q1
 obtain ⟨c3,d3,A3,B3,rfl,p3,q3,hA3,hB3,hd3⟩:=q2
 obtain ⟨c4,d4,A4,B4,rfl,p4,q4,hA4,hB4,hd4⟩:=q3
 obtain ⟨rfl,_⟩:=q4
 have l1:=Rep.len _ p1
 have l2:=Rep.len _ p2
 have l3:=Rep.len _ p3
 have l4:=Rep.len _ p4
 change _=1 at l1;change _=1 at l2;change _=1 at l3;change _=1 at l4
 have e:(((c1++(c2++(c3++(c4++[.int .i64 x.1.2.2.2.2]))))++d0):List Value).set 4 (.int .i64 v)=((c1++(c2++(c3++(c4++[.int .i64 v]))))++d0):=by
  obtain ⟨y1_0,rfl⟩:∃ y1_0,c1=[y1_0]:=fA
  obtain ⟨y2_0,rfl⟩:∃ y2_0,c2=[y2_0]:=fE
  obtain ⟨y3_0,rfl⟩:∃ y3_0,c3=[y3_0]:=fB
  obtain ⟨y4_0,rfl⟩:∃ y4_0,c4=[y4_0]:=fD
  rfl
 rw [e]
 exact ⟨_,_,A0,B0,rfl,⟨_,_,A1,B1,rfl,p1,⟨_,_,A2,B2,rfl,p2,⟨_,_,A3,B3,rfl,p3,⟨_,_,A4,B4,rfl,p4,⟨rfl,hv⟩,hA4,hB4,hd4⟩,hA3,hB3,hd3⟩,hA2,hB2,hd2⟩,hA1,hB1,hd1⟩,q0,hA0,hB0,hd0⟩
def jo (x:jJ) (v:Int):jJ:=(x.1,v)
theorem kDf {x:jJ} (v:Int) (hv:-9223372036854775808≤v∧v≤9223372036854775807) {w:World} {cs:List Value} {S:Nat→Prop} (h:kK.is true w cs x S):kK.is true w (cs.set 5 (.int .i64 v)) (jo x v) S:=by
 obtain ⟨c0,d0,A0,B0,rfl,p0,q0,hA0,hB0,hd0⟩:=h
 obtain ⟨rfl,_⟩:=q0
 have l0:=Rep.len _ p0
 change _=5 at l0
 have e:((c0++[.int .i64 x.2]):List Value).set 5 (.int .i64 v)=(c0++[.int .i64 v]):=by
  obtain ⟨y0_0,y0_1,y0_2,y0_3,y0_4,rfl⟩:∃ y0_0 y0_1 y0_2 y0_3 y0_4,c0=[y0_0,y0_1,y0_2,y0_3,y0_4]:=by match c0,l0 with | [y0_0,y0_1,y0_2,y0_3,y0_4],_=>exact ⟨_,_,_,_,_,rfl⟩
  rfl
 rw [e]
 exact ⟨_,_,A0,B0,rfl,p0,⟨rfl,hv⟩,hA0,hB0,hd0⟩
abbrev jH:=Int × (List jJ)
instance decContentStore:DecidableEq jH:=inferInstanceAs (DecidableEq (Int × (List jJ)))
def kH:Rep jH:=.pair .int (.slice 169 kK)
theorem jG {w:World} {cs:List Value} {x:jH} (h:kH.raw w cs x):∃ v1,cs=[.int .i64 x.1,v1]∧(-9223372036854775808≤x.1∧x.1≤9223372036854775807)∧(Rep.slice 169 kK).raw w [v1] x.2:=by
 obtain ⟨_,_,rfl,a_0,b_0⟩:=Rep.yC h
 obtain ⟨rfl,r_0⟩:=Rep.jX a_0
 obtain ⟨_,rfl,r_1⟩:=Rep.kAw b_0
 exact ⟨_,rfl,r_0,r_1⟩
theorem kJp:Rep.Sub kH (Rep.slice 169 kK) (fun x=>x.2) (fun x y=>(x.1,y)) 1:=Rep.Sub.right (Rep.Sub.refl (Rep.slice 169 kK)) rfl
abbrev yZ:=(List yX) × jH × (List kJ) × (List jL) × (List jD) × (List kv) × Int
instance decNode:DecidableEq yZ:=(@instDecidableEqProd _ _ (inferInstanceAs (DecidableEq (List yX))) (@instDecidableEqProd _ _ (inferInstanceAs (DecidableEq jH)) (@instDecidableEqProd _ _ (inferInstanceAs (DecidableEq (List kJ))) (@instDecidableEqProd _ _ (inferInstanceAs (DecidableEq (List jL))) (@instDecidableEqProd _ _ (inferInstanceAs (DecidableEq (List jD))) (@instDecidableEqProd _ _ (inferInstanceAs (DecidableEq (List kv))) (inferInstanceAs (DecidableEq Int))))))))
def jM:Rep yZ:=.pair (.slice 113 kg) (.pair kH (.pair (.slice 77 kD) (.pair (.slice 157 kI) (.pair (.slice 159 kM) (.pair (.slice 166 kG) .int)))))
theorem jm {w:World} {cs:List Value} {x:yZ} (h:jM.raw w cs x):∃ v0 v2 v3 v4 v5 v6,cs=[v0,.int .i64 x.2.1.1,v2,v3,v4,v5,v6,.int .i64 x.2.2.2.2.2.2]∧(Rep.slice 113 kg).raw w [v0] x.1∧kH.raw w [.int .i64 x.2.1.1,v2] x.2.1∧(-9223372036854775808≤x.2.1.1∧x.2.1.1≤9223372036854775807)∧(Rep.slice 169 kK).raw w [v2] x.2.1.2∧(Rep.slice 77 kD).raw w [v3] x.2.2.1∧(Rep.slice 157 kI).raw w [v4] x.2.2.2.1∧(Rep.slice 159 kM).raw w [v5] x.2.2.2.2.1∧(Rep.slice 166 kG).raw w [v6] x.2.2.2.2.2.1∧(-9223372036854775808≤x.2.2.2.2.2.2∧x.2.2.2.2.2.2≤9223372036854775807):=by
 obtain ⟨_,_,rfl,a_0,b_0⟩:=Rep.yC h
 obtain ⟨_,rfl,r_0⟩:=Rep.kAw a_0
 obtain ⟨_,_,rfl,a_1,b_1⟩:=Rep.yC b_0
 have q_1:=jG a_1
 obtain ⟨_,rfl,s_1_0,s_1_1⟩:=q_1
 obtain ⟨_,_,rfl,a_2,b_2⟩:=Rep.yC b_1
 obtain ⟨_,rfl,r_2⟩:=Rep.kAw a_2
 obtain ⟨_,_,rfl,a_3,b_3⟩:=Rep.yC b_2
 obtain ⟨_,rfl,r_3⟩:=Rep.kAw a_3
 obtain ⟨_,_,rfl,a_4,b_4⟩:=Rep.yC b_3
 obtain ⟨_,rfl,r_4⟩:=Rep.kAw a_4
 obtain ⟨_,_,rfl,a_5,b_5⟩:=Rep.yC b_4
 obtain ⟨_,rfl,r_5⟩:=Rep.kAw a_5
 obtain ⟨rfl,r_6⟩:=Rep.jX b_5
 exact ⟨_,_,_,_,_,_,rfl,r_0,a_1,s_1_0,s_1_1,r_2,r_3,r_4,r_5,r_6⟩
theorem RNode_sub_0:Rep.Sub jM (Rep.slice 113 kg) (fun x=>x.1) (fun x y=>(y,x.2.1,x.2.2.1,x.2.2.2.1,x.2.2.2.2.1,x.2.2.2.2.2.1,x.2.2.2.2.2.2)) 0:=Rep.Sub.left (Rep.Sub.refl (Rep.slice 113 kg)) rG
theorem RNode_sub_1:Rep.Sub jM kH (fun x=>x.2.1) (fun x y=>(x.1,y,x.2.2.1,x.2.2.2.1,x.2.2.2.2.1,x.2.2.2.2.2.1,x.2.2.2.2.2.2)) 1:=Rep.Sub.right (Rep.Sub.left (Rep.Sub.refl kH) rG) rfl
theorem RNode_sub_2:Rep.Sub jM (Rep.slice 77 kD) (fun x=>x.2.2.1) (fun x y=>(x.1,x.2.1,y,x.2.2.2.1,x.2.2.2.2.1,x.2.2.2.2.2.1,x.2.2.2.2.2.2)) 3:=Rep.Sub.right (Rep.Sub.right (Rep.Sub.left (Rep.Sub.refl (Rep.slice 77 kD)) rG) rfl) rfl
theorem RNode_sub_3:Rep.Sub jM (Rep.slice 157 kI) (fun x=>x.2.2.2.1) (fun x y=>(x.1,x.2.1,x.2.2.1,y,x.2.2.2.2.1,x.2.2.2.2.2.1,x.2.2.2.2.2.2)) 4:=Rep.Sub.right (Rep.Sub.right (Rep.Sub.right (Rep.Sub.left (Rep.Sub.refl (Rep.slice 157 kI)) rG) rfl) rfl) rfl
theorem RNode_sub_4:Rep.Sub jM (Rep.slice 159 kM) (fun x=>x.2.2.2.2.1) (fun x y=>(x.1,x.2.1,x.2.2.1,x.2.2.2.1,y,x.2.2.2.2.2.1,x.2.2.2.2.2.2)) 5:=Rep.Sub.right (Rep.Sub.right (Rep.Sub.right (Rep.Sub.right (Rep.Sub.left (Rep.Sub.refl (Rep.slice 159 kM)) rG) rfl) rfl) rfl) rfl
theorem RNode_sub_5:Rep.Sub jM (Rep.slice 166 kG) (fun x=>x.2.2.2.2.2.1) (fun x y=>(x.1,x.2.1,x.2.2.1,x.2.2.2.1,x.2.2.2.2.1,y,x.2.2.2.2.2.2)) 6:=Rep.Sub.right (Rep.Sub.right (Rep.Sub.right (Rep.Sub.right (Rep.Sub.right (Rep.Sub.left (Rep.Sub.refl (Rep.slice 166 kG)) rG) rfl) rfl) rfl) rfl) rfl
def kUm (x:yZ) (v:Int):yZ:=(x.1,x.2.1,x.2.2.1,x.2.2.2.1,x.2.2.2.2.1,x.2.2.2.2.2.1,v)
theorem RNode_set7 {x:yZ} (v:Int) (hv:-9223372036854775808≤v∧v≤9223372036854775807) {w:World} {cs:List Value} {S:Nat→Prop} (h:jM.is true w cs x S):jM.is true w (cs.set 7 (.int .i64 v)) (kUm x v) S:=by
 obtain ⟨c0,d0,A0,B0,rfl,p0,q0,hA0,hB0,hd0⟩:=h
 obtain ⟨c1,d1,A1,B1,rfl,p1,q1,hA1,hB1,hd1⟩:=q0
 obtain ⟨c2,d2,A2,B2,rfl,p2,q2,hA2,hB2,hd2⟩:=q1
 obtain ⟨c3,d3,A3,B3,rfl,p3,q3,hA3,hB3,hd3⟩:=q2
 obtain ⟨c4,d4,A4,B4,rfl,p4,q4,hA4,hB4,hd4⟩:=q3
 obtain ⟨c5,d5,A5,B5,rfl,p5,q5,hA5,hB5,hd5⟩:=q4
 obtain ⟨rfl,_⟩:=q5
 have l0:=Rep.len _ p0
 have l1:=Rep.len _ p1
 have l2:=Rep.len _ p2
 have l3:=Rep.len _ p3
 have l4:=Rep.len _ p4
 have l5:=Rep.len _ p5
 change _=1 at l0;change _=2 at l1;change _=1 at l2;change _=1 at l3;change _=1 at l4;change _=1 at l5
 have e:((c0++(c1++(c2++(c3++(c4++(c5++[.int .i64 x.2.2.2.2.2.2])))))):List Value).set 7 (.int .i64 v)=(c0++(c1++(c2++(c3++(c4++(c5++[.int .i64 v])))))):=by
  obtain ⟨y0_0,rfl⟩:∃ y0_0,c0=[y0_0]:=dZ
  obtain ⟨y1_0,y1_1,rfl⟩:∃ y1_0 y1_1,c1=[y1_0,y1_1]:=by match c1,l1 with | [y1_0,y1_1],_=>exact ⟨_,_,rfl⟩
  obtain ⟨y2_0,rfl⟩:∃ y2_0,c2=[y2_0]:=fE
  obtain ⟨y3_0,rfl⟩:∃ y3_0,c3=[y3_0]:=fB
  obtain ⟨y4_0,rfl⟩:∃ y4_0,c4=[y4_0]:=fD
  obtain ⟨y5_0,rfl⟩:∃ y5_0,c5=[y5_0]:=fF
  rfl
 rw [e]
 exact ⟨_,_,A0,B0,rfl,p0,⟨_,_,A1,B1,rfl,p1,⟨_,_,A2,B2,rfl,p2,⟨_,_,A3,B3,rfl,p3,⟨_,_,A4,B4,rfl,p4,⟨_,_,A5,B5,rfl,p5,⟨rfl,hv⟩,hA5,hB5,hd5⟩,hA4,hB4,hd4⟩,hA3,hB3,hd3⟩,hA2,hB2,hd2⟩,hA1,hB1,hd1⟩,hA0,hB0,hd0⟩
abbrev jQ:=Int × Bool × jF × yX
instance decOutgoing:DecidableEq jQ:=inferInstanceAs (DecidableEq (Int × Bool × jF × yX))
def kU:Rep jQ:=.pair .int (.pair .bool (.pair kw kg))
theorem kFb:kU.n=11:=rfl
theorem zo {w:World} {cs:List Value} {x:jQ} (h:kU.raw w cs x):∃ v2 v6 v7 v8,cs=[.int .i64 x.1,.bool x.2.1,v2,.int .i64 x.2.2.1.2.1,.int .i64 x.2.2.1.2.2.1,.int .i64 x.2.2.1.2.2.2,v6,v7,v8,.int .i64 x.2.2.2.2.2.2.1,.int .i64 x.2.2.2.2.2.2.2]∧(-9223372036854775808≤x.1∧x.1≤9223372036854775807)∧kw.raw w [v2,.int .i64 x.2.2.1.2.1,.int .i64 x.2.2.1.2.2.1,.int .i64 x.2.2.1.2.2.2] x.2.2.1∧kZ.raw w [v2] x.2.2.1.1∧(Rep.slice 9 Rep.str).raw w [v2] x.2.2.1.1∧(-9223372036854775808≤x.2.2.1.2.1∧x.2.2.1.2.1≤9223372036854775807)∧(-9223372036854775808≤x.2.2.1.2.2.1∧x.2.2.1.2.2.1≤9223372036854775807)∧(-9223372036854775808≤x.2.2.1.2.2.2∧x.2.2.1.2.2.2≤9223372036854775807)∧kg.raw w [v6,v7,v8,.int .i64 x.2.2.2.2.2.2.1,.int .i64 x.2.2.2.2.2.2.2] x.2.2.2∧kZ.raw w [v6] x.2.2.2.1∧(Rep.slice 9 Rep.str).raw w [v6] x.2.2.2.1∧(Rep.slice 5 Rep.byte).raw w [v7] x.2.2.2.2.1∧kZ.raw w [v8] x.2.2.2.2.2.1∧(Rep.slice 9 Rep.str).raw w [v8] x.2.2.2.2.2.1∧(-9223372036854775808≤x.2.2.2.2.2.2.1∧x.2.2.2.2.2.2.1≤9223372036854775807)∧(-9223372036854775808≤x.2.2.2.2.2.2.2∧x.2.2.2.2.2.2.2≤9223372036854775807):=by
 obtain ⟨_,_,rfl,a_0,b_0⟩:=Rep.yC h
 obtain ⟨rfl,r_0⟩:=Rep.jX a_0
 obtain ⟨_,_,rfl,a_1,b_1⟩:=Rep.yC b_0
 obtain rfl:=Rep.bool_raw a_1
 obtain ⟨_,_,rfl,a_2,b_2⟩:=Rep.yC b_1
 have q_2:=jA a_2
 obtain ⟨_,rfl,s_2_0,s_2_1,s_2_2,s_2_3,s_2_4⟩:=q_2
 have q_3:=jS b_2
 obtain ⟨_,_,_,rfl,s_3_0,s_3_1,s_3_2,s_3_3,s_3_4,s_3_5,s_3_6⟩:=q_3
 exact ⟨_,_,_,_,rfl,r_0,a_2,s_2_0,s_2_1,s_2_2,s_2_3,s_2_4,b_2,s_3_0,s_3_1,s_3_2,s_3_3,s_3_4,s_3_5,s_3_6⟩
theorem kJo:Rep.Sub kU (Rep.slice 9 Rep.str) (fun x=>x.2.2.1.1) (fun x y=>(x.1,x.2.1,(y,x.2.2.1.2.1,x.2.2.1.2.2.1,x.2.2.1.2.2.2),x.2.2.2)) 2:=Rep.Sub.right (Rep.Sub.right (Rep.Sub.left (Rep.Sub.left (Rep.Sub.refl (Rep.slice 9 Rep.str)) rG) rG) rfl) rfl
theorem kJn:Rep.Sub kU (Rep.slice 9 Rep.str) (fun x=>x.2.2.2.1) (fun x y=>(x.1,x.2.1,x.2.2.1,(y,x.2.2.2.2.1,x.2.2.2.2.2.1,x.2.2.2.2.2.2.1,x.2.2.2.2.2.2.2))) 6:=Rep.Sub.right (Rep.Sub.right (Rep.Sub.right (Rep.Sub.left (Rep.Sub.refl (Rep.slice 9 Rep.str)) rG) rfl) rfl) rfl
theorem kMu:Rep.Sub kU (Rep.slice 5 Rep.byte) (fun x=>x.2.2.2.2.1) (fun x y=>(x.1,x.2.1,x.2.2.1,(x.2.2.2.1,y,x.2.2.2.2.2.1,x.2.2.2.2.2.2.1,x.2.2.2.2.2.2.2))) 7:=Rep.Sub.right (Rep.Sub.right (Rep.Sub.right (Rep.Sub.right (Rep.Sub.left (Rep.Sub.refl (Rep.slice 5 Rep.byte)) rG) rfl) rfl) rfl) rfl
theorem kJm:Rep.Sub kU (Rep.slice 9 Rep.str) (fun x=>x.2.2.2.2.2.1) (fun x y=>(x.1,x.2.1,x.2.2.1,(x.2.2.2.1,x.2.2.2.2.1,y,x.2.2.2.2.2.2.1,x.2.2.2.2.2.2.2))) 8:=Rep.Sub.right (Rep.Sub.right (Rep.Sub.right (Rep.Sub.right (Rep.Sub.right (Rep.Sub.left (Rep.Sub.refl (Rep.slice 9 Rep.str)) rG) rfl) rfl) rfl) rfl) rfl
def zK (x:jQ) (v:Int):jQ:=(v,x.2.1,x.2.2.1,x.2.2.2)
theorem kTa {x:jQ} (v:Int) (hv:-9223372036854775808≤v∧v≤9223372036854775807) {w:World} {cs:List Value} {S:Nat→Prop} (h:kU.is true w cs x S):kU.is true w (cs.set 0 (.int .i64 v)) (zK x v) S:=by
 obtain ⟨c0,d0,A0,B0,rfl,p0,q0,hA0,hB0,hd0⟩:=h
 obtain ⟨rfl,_⟩:=p0
 have e:(([.int .i64 x.1]++d0):List Value).set 0 (.int .i64 v)=([.int .i64 v]++d0):=by
  rfl
 rw [e]
 exact ⟨_,_,A0,B0,rfl,⟨rfl,hv⟩,q0,hA0,hB0,hd0⟩
def zJ (x:jQ) (v:Bool):jQ:=(x.1,v,x.2.2.1,x.2.2.2)
theorem kSz {x:jQ} (v:Bool) {w:World} {cs:List Value} {S:Nat→Prop} (h:kU.is true w cs x S):kU.is true w (cs.set 1 (.bool v)) (zJ x v) S:=by
 obtain ⟨c0,d0,A0,B0,rfl,p0,q0,hA0,hB0,hd0⟩:=h
 obtain ⟨c1,d1,A1,B1,rfl,p1,q1,hA1,hB1,hd1⟩:=q0
 obtain rfl:=(show _=_ from p1)
 have l0:=Rep.len _ p0
 change _=1 at l0
 have e:((c0++([.bool x.2.1]++d1)):List Value).set 1 (.bool v)=(c0++([.bool v]++d1)):=by
  obtain ⟨y0_0,rfl⟩:∃ y0_0,c0=[y0_0]:=dZ
  rfl
 rw [e]
 exact ⟨_,_,A0,B0,rfl,p0,⟨_,_,A1,B1,rfl,rfl,q1,hA1,hB1,hd1⟩,hA0,hB0,hd0⟩
def zH (x:jQ) (v:Int):jQ:=(x.1,x.2.1,(x.2.2.1.1,v,x.2.2.1.2.2.1,x.2.2.1.2.2.2),x.2.2.2)
theorem kSy {x:jQ} (v:Int) (hv:-9223372036854775808≤v∧v≤9223372036854775807) {w:World} {cs:List Value} {S:Nat→Prop} (h:kU.is true w cs x S):kU.is true w (cs.set 3 (.int .i64 v)) (zH x v) S:=by
 obtain ⟨c0,d0,A0,B0,rfl,p0,q0,hA0,hB0,hd0⟩:=h
 obtain ⟨c1,d1,A1,B1,rfl,p1,q1,hA1,hB1,hd1⟩:=q0
 obtain ⟨c2,d2,A2,B2,rfl,p2,q2,hA2,hB2,hd2⟩:=q1
 obtain ⟨c3,d3,A3,B3,rfl,p3,q3,hA3,hB3,hd3⟩:=p2
 obtain ⟨c4,d4,A4,B4,rfl,p4,q4,hA4,hB4,hd4⟩:=q3
 obtain ⟨rfl,_⟩:=p4
 have l0:=Rep.len _ p0
 have l1:=Rep.len _ p1
 have l3:=Rep.len _ p3
 change _=1 at l0;change _=1 at l1;change _=1 at l3
 have e:((c0++(c1++((c3++([.int .i64 x.2.2.1.2.1]++d4))++d2))):List Value).set 3 (.int .i64 v)=(c0++(c1++((c3++([.int .i64 v]++d4))++d2))):=by
  obtain ⟨y0_0,rfl⟩:∃ y0_0,c0=[y0_0]:=dZ
  obtain ⟨y1_0,rfl⟩:∃ y1_0,c1=[y1_0]:=fA
  obtain ⟨y3_0,rfl⟩:∃ y3_0,c3=[y3_0]:=fB
  rfl
 rw [e]
 exact ⟨_,_,A0,B0,rfl,p0,⟨_,_,A1,B1,rfl,p1,⟨_,_,A2,B2,rfl,⟨_,_,A3,B3,rfl,p3,⟨_,_,A4,B4,rfl,⟨rfl,hv⟩,q4,hA4,hB4,hd4⟩,hA3,hB3,hd3⟩,q2,hA2,hB2,hd2⟩,hA1,hB1,hd1⟩,hA0,hB0,hd0⟩
def zG (x:jQ) (v:Int):jQ:=(x.1,x.2.1,(x.2.2.1.1,x.2.2.1.2.1,v,x.2.2.1.2.2.2),x.2.2.2)
theorem kSx {x:jQ} (v:Int) (hv:-9223372036854775808≤v∧v≤9223372036854775807) {w:World} {cs:List Value} {S:Nat→Prop} (h:kU.is true w cs x S):kU.is true w (cs.set 4 (.int .i64 v)) (zG x v) S:=by
 obtain ⟨c0,d0,A0,B0,rfl,p0,q0,hA0,hB0,hd0⟩:=h
 obtain ⟨c1,d1,A1,B1,rfl,p1,q1,hA1,hB1,hd1⟩:=q0
 obtain ⟨c2,d2,A2,B2,rfl,p2,q2,hA2,hB2,hd2⟩:=q1
 obtain ⟨c3,d3,A3,B3,rfl,p3,q3,hA3,hB3,hd3⟩:=p2
 obtain ⟨c4,d4,A4,B4,rfl,p4,q4,hA4,hB4,hd4⟩:=q3
 obtain ⟨c5,d5,A5,B5,rfl,p5,q5,hA5,hB5,hd5⟩:=q4
 obtain ⟨rfl,_⟩:=p5
 have l0:=Rep.len _ p0
 have l1:=Rep.len _ p1
 have l3:=Rep.len _ p3
 have l4:=Rep.len _ p4
 change _=1 at l0;change _=1 at l1;change _=1 at l3;change _=1 at l4
 have e:((c0++(c1++((c3++(c4++([.int .i64 x.2.2.1.2.2.1]++d5)))++d2))):List Value).set 4 (.int .i64 v)=(c0++(c1++((c3++(c4++([.int .i64 v]++d5)))++d2))):=by
  obtain ⟨y0_0,rfl⟩:∃ y0_0,c0=[y0_0]:=dZ
  obtain ⟨y1_0,rfl⟩:∃ y1_0,c1=[y1_0]:=fA
  obtain ⟨y3_0,rfl⟩:∃ y3_0,c3=[y3_0]:=fB
  obtain ⟨y4_0,rfl⟩:∃ y4_0,c4=[y4_0]:=fD
  rfl
 rw [e]
 exact ⟨_,_,A0,B0,rfl,p0,⟨_,_,A1,B1,rfl,p1,⟨_,_,A2,B2,rfl,⟨_,_,A3,B3,rfl,p3,⟨_,_,A4,B4,rfl,p4,⟨_,_,A5,B5,rfl,⟨rfl,hv⟩,q5,hA5,hB5,hd5⟩,hA4,hB4,hd4⟩,hA3,hB3,hd3⟩,q2,hA2,hB2,hd2⟩,hA1,hB1,hd1⟩,hA0,hB0,hd0⟩
def zF (x:jQ) (v:Int):jQ:=(x.1,x.2.1,(x.2.2.1.1,x.2.2.1.2.1,x.2.2.1.2.2.1,v),x.2.2.2)
theorem kSw {x:jQ} (v:Int) (hv:-9223372036854775808≤v∧v≤9223372036854775807) {w:World} {cs:List Value} {S:Nat→Prop} (h:kU.is true w cs x S):kU.is true w (cs.set 5 (.int .i64 v)) (zF x v) S:=by
 obtain ⟨c0,d0,A0,B0,rfl,p0,q0,hA0,hB0,hd0⟩:=h
 obtain ⟨c1,d1,A1,B1,rfl,p1,q1,hA1,hB1,hd1⟩:=q0
 obtain ⟨c2,d2,A2,B2,rfl,p2,q2,hA2,hB2,hd2⟩:=q1
 obtain ⟨c3,d3,A3,B3,rfl,p3,q3,hA3,hB3,hd3⟩:=p2
 obtain ⟨c4,d4,A4,B4,rfl,p4,q4,hA4,hB4,hd4⟩:=q3
 obtain ⟨c5,d5,A5,B5,rfl,p5,q5,hA5,hB5,hd5⟩:=q4
 obtain ⟨rfl,_⟩:=q5
 have l0:=Rep.len _ p0
 have l1:=Rep.len _ p1
 have l3:=Rep.len _ p3
 have l4:=Rep.len _ p4
 have l5:=Rep.len _ p5
 change _=1 at l0;change _=1 at l1;change _=1 at l3;change _=1 at l4;change _=1 at l5
 have e:((c0++(c1++((c3++(c4++(c5++[.int .i64 x.2.2.1.2.2.2])))++d2))):List Value).set 5 (.int .i64 v)=(c0++(c1++((c3++(c4++(c5++[.int .i64 v])))++d2))):=by
  obtain ⟨y0_0,rfl⟩:∃ y0_0,c0=[y0_0]:=dZ
  obtain ⟨y1_0,rfl⟩:∃ y1_0,c1=[y1_0]:=fA
  obtain ⟨y3_0,rfl⟩:∃ y3_0,c3=[y3_0]:=fB
  obtain ⟨y4_0,rfl⟩:∃ y4_0,c4=[y4_0]:=fD
  obtain ⟨y5_0,rfl⟩:∃ y5_0,c5=[y5_0]:=fF
  rfl
 rw [e]
 exact ⟨_,_,A0,B0,rfl,p0,⟨_,_,A1,B1,rfl,p1,⟨_,_,A2,B2,rfl,⟨_,_,A3,B3,rfl,p3,⟨_,_,A4,B4,rfl,p4,⟨_,_,A5,B5,rfl,p5,⟨rfl,hv⟩,hA5,hB5,hd5⟩,hA4,hB4,hd4⟩,hA3,hB3,hd3⟩,q2,hA2,hB2,hd2⟩,hA1,hB1,hd1⟩,hA0,hB0,hd0⟩
def zD (x:jQ) (v:Int):jQ:=(x.1,x.2.1,x.2.2.1,(x.2.2.2.1,x.2.2.2.2.1,x.2.2.2.2.2.1,v,x.2.2.2.2.2.2.2))
theorem kSv {x:jQ} (v:Int) (hv:-9223372036854775808≤v∧v≤9223372036854775807) {w:World} {cs:List Value} {S:Nat→Prop} (h:kU.is true w cs x S):kU.is true w (cs.set 9 (.int .i64 v)) (zD x v) S:=by
 obtain ⟨c0,d0,A0,B0,rfl,p0,q0,hA0,hB0,hd0⟩:=h
 obtain ⟨c1,d1,A1,B1,rfl,p1,q1,hA1,hB1,hd1⟩:=q0
 obtain ⟨c2,d2,A2,B2,rfl,p2,q2,hA2,hB2,hd2⟩:=q1
 obtain ⟨c3,d3,A3,B3,rfl,p3,q3,hA3,hB3,hd3⟩:=q2
 obtain ⟨c4,d4,A4,B4,rfl,p4,q4,hA4,hB4,hd4⟩:=q3
 obtain ⟨c5,d5,A5,B5,rfl,p5,q5,hA5,hB5,hd5⟩:=q4
 obtain ⟨c6,d6,A6,B6,rfl,p6,q6,hA6,hB6,hd6⟩:=q5
 obtain ⟨rfl,_⟩:=p6
 have l0:=Rep.len _ p0
 have l1:=Rep.len _ p1
 have l2:=Rep.len _ p2
 have l3:=Rep.len _ p3
 have l4:=Rep.len _ p4
 have l5:=Rep.len _ p5
 change _=1 at l0;change _=1 at l1;change _=4 at l2;change _=1 at l3;change _=1 at l4;change _=1 at l5
 have e:((c0++(c1++(c2++(c3++(c4++(c5++([.int .i64 x.2.2.2.2.2.2.1]++d6))))))):List Value).set 9 (.int .i64 v)=(c0++(c1++(c2++(c3++(c4++(c5++([.int .i64 v]++d6))))))):=by
  obtain ⟨y0_0,rfl⟩:∃ y0_0,c0=[y0_0]:=dZ
  obtain ⟨y1_0,rfl⟩:∃ y1_0,c1=[y1_0]:=fA
  obtain ⟨y2_0,y2_1,y2_2,y2_3,rfl⟩:∃ y2_0 y2_1 y2_2 y2_3,c2=[y2_0,y2_1,y2_2,y2_3]:=by match c2,l2 with | [y2_0,y2_1,y2_2,y2_3],_=>exact ⟨_,_,_,_,rfl⟩
  obtain ⟨y3_0,rfl⟩:∃ y3_0,c3=[y3_0]:=fB
  obtain ⟨y4_0,rfl⟩:∃ y4_0,c4=[y4_0]:=fD
  obtain ⟨y5_0,rfl⟩:∃ y5_0,c5=[y5_0]:=fF
  rfl
 rw [e]
 exact ⟨_,_,A0,B0,rfl,p0,⟨_,_,A1,B1,rfl,p1,⟨_,_,A2,B2,rfl,p2,⟨_,_,A3,B3,rfl,p3,⟨_,_,A4,B4,rfl,p4,⟨_,_,A5,B5,rfl,p5,⟨_,_,A6,B6,rfl,⟨rfl,hv⟩,q6,hA6,hB6,hd6⟩,hA5,hB5,hd5⟩,hA4,hB4,hd4⟩,hA3,hB3,hd3⟩,hA2,hB2,hd2⟩,hA1,hB1,hd1⟩,hA0,hB0,hd0⟩
def ym (x:jQ) (v:Int):jQ:=(x.1,x.2.1,x.2.2.1,(x.2.2.2.1,x.2.2.2.2.1,x.2.2.2.2.2.1,x.2.2.2.2.2.2.1,v))
theorem kQe {x:jQ} (v:Int) (hv:-9223372036854775808≤v∧v≤9223372036854775807) {w:World} {cs:List Value} {S:Nat→Prop} (h:kU.is true w cs x S):kU.is true w (cs.set 10 (.int .i64 v)) (ym x v) S:=by
 obtain ⟨c0,d0,A0,B0,rfl,p0,q0,hA0,hB0,hd0⟩:=h
 obtain ⟨c1,d1,A1,B1,rfl,p1,q1,hA1,hB1,hd1⟩:=q0
 obtain ⟨c2,d2,A2,B2,rfl,p2,q2,hA2,hB2,hd2⟩:=q1
 obtain ⟨c3,d3,A3,B3,rfl,p3,q3,hA3,hB3,hd3⟩:=q2
 obtain ⟨c4,d4,A4,B4,rfl,p4,q4,hA4,hB4,hd4⟩:=q3
 obtain ⟨c5,d5,A5,B5,rfl,p5,q5,hA5,hB5,hd5⟩:=q4
 obtain ⟨c6,d6,A6,B6,rfl,p6,q6,hA6,hB6,hd6⟩:=q5
 obtain ⟨rfl,_⟩:=q6
 have l0:=Rep.len _ p0
 have l1:=Rep.len _ p1
 have l2:=Rep.len _ p2
 have l3:=Rep.len _ p3
 have l4:=Rep.len _ p4
 have l5:=Rep.len _ p5
 have l6:=Rep.len _ p6
 change _=1 at l0;change _=1 at l1;change _=4 at l2;change _=1 at l3;change _=1 at l4;change _=1 at l5;change _=1 at l6
 have e:((c0++(c1++(c2++(c3++(c4++(c5++(c6++[.int .i64 x.2.2.2.2.2.2.2]))))))):List Value).set 10 (.int .i64 v)=(c0++(c1++(c2++(c3++(c4++(c5++(c6++[.int .i64 v]))))))):=by
  obtain ⟨y0_0,rfl⟩:∃ y0_0,c0=[y0_0]:=dZ
  obtain ⟨y1_0,rfl⟩:∃ y1_0,c1=[y1_0]:=fA
  obtain ⟨y2_0,y2_1,y2_2,y2_3,rfl⟩:∃ y2_0 y2_1 y2_2 y2_3,c2=[y2_0,y2_1,y2_2,y2_3]:=by match c2,l2 with | [y2_0,y2_1,y2_2,y2_3],_=>exact ⟨_,_,_,_,rfl⟩
  obtain ⟨y3_0,rfl⟩:∃ y3_0,c3=[y3_0]:=fB
  obtain ⟨y4_0,rfl⟩:∃ y4_0,c4=[y4_0]:=fD
  obtain ⟨y5_0,rfl⟩:∃ y5_0,c5=[y5_0]:=fF
  obtain ⟨y6_0,rfl⟩:∃ y6_0,c6=[y6_0]:=by match c6,l6 with | [y6_0],_=>exact ⟨_,rfl⟩
  rfl
 rw [e]
 exact ⟨_,_,A0,B0,rfl,p0,⟨_,_,A1,B1,rfl,p1,⟨_,_,A2,B2,rfl,p2,⟨_,_,A3,B3,rfl,p3,⟨_,_,A4,B4,rfl,p4,⟨_,_,A5,B5,rfl,p5,⟨_,_,A6,B6,rfl,p6,⟨rfl,hv⟩,hA6,hB6,hd6⟩,hA5,hB5,hd5⟩,hA4,hB4,hd4⟩,hA3,hB3,hd3⟩,hA2,hB2,hd2⟩,hA1,hB1,hd1⟩,hA0,hB0,hd0⟩
abbrev kGv:=yZ × (List jQ)
instance decAction:DecidableEq kGv:=inferInstanceAs (DecidableEq (yZ × (List jQ)))
def yP:Rep kGv:=.pair jM (.slice 117 kU)
theorem yG {w:World} {cs:List Value} {x:kGv} (h:yP.raw w cs x):∃ v0 v2 v3 v4 v5 v6 v8,cs=[v0,.int .i64 x.1.2.1.1,v2,v3,v4,v5,v6,.int .i64 x.1.2.2.2.2.2.2,v8]∧jM.raw w [v0,.int .i64 x.1.2.1.1,v2,v3,v4,v5,v6,.int .i64 x.1.2.2.2.2.2.2] x.1∧(Rep.slice 113 kg).raw w [v0] x.1.1∧kH.raw w [.int .i64 x.1.2.1.1,v2] x.1.2.1∧(-9223372036854775808≤x.1.2.1.1∧x.1.2.1.1≤9223372036854775807)∧(Rep.slice 169 kK).raw w [v2] x.1.2.1.2∧(Rep.slice 77 kD).raw w [v3] x.1.2.2.1∧(Rep.slice 157 kI).raw w [v4] x.1.2.2.2.1∧(Rep.slice 159 kM).raw w [v5] x.1.2.2.2.2.1∧(Rep.slice 166 kG).raw w [v6] x.1.2.2.2.2.2.1∧(-9223372036854775808≤x.1.2.2.2.2.2.2∧x.1.2.2.2.2.2.2≤9223372036854775807)∧(Rep.slice 117 kU).raw w [v8] x.2:=by
 obtain ⟨_,_,rfl,a_0,b_0⟩:=Rep.yC h
 have q_0:=jm a_0
 obtain ⟨_,_,_,_,_,_,rfl,s_0_0,s_0_1,s_0_2,s_0_3,s_0_4,s_0_5,s_0_6,s_0_7,s_0_8⟩:=q_0
 obtain ⟨_,rfl,r_1⟩:=Rep.kAw b_0
 exact ⟨_,_,_,_,_,_,_,rfl,a_0,s_0_0,s_0_1,s_0_2,s_0_3,s_0_4,s_0_5,s_0_6,s_0_7,s_0_8,r_1⟩
theorem kUe:Rep.Sub yP jM (fun x=>x.1) (fun x y=>(y,x.2)) 0:=Rep.Sub.left (Rep.Sub.refl jM) rG
theorem kUd:Rep.Sub yP (Rep.slice 117 kU) (fun x=>x.2) (fun x y=>(x.1,y)) 8:=Rep.Sub.right (Rep.Sub.refl (Rep.slice 117 kU)) rfl
end Go.Proofs.YtomdenfcfbkfbaaGreat

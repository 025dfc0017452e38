/-
  The program's types as plain data, and how their cells are taken apart. Printed by gentypes.py.
-/
import Derived.Test.YtomdenfcfbkfbaaGreatOwn2
namespace Go.Proofs.YtomdenfcfbkfbaaGreat
open Go.RowKit
set_option linter.unusedVariables false
set_option linter.unusedSimpArgs false
set_option linter.unnecessarySimpa false
abbrev LName:=(List ByteArray)
instance decName:DecidableEq LName:=inferInstanceAs (DecidableEq ((List ByteArray)))
def RName:Rep LName:=(.slice 9 .str)
theorem RName_raw {w:World} {cs:List Value} {x:LName} (h:RName.raw w cs x):∃ v0,cs=[v0]∧(Rep.slice 9 Rep.str).raw w [v0] x:=by
 obtain ⟨_,rfl,r_0⟩:=Rep.slice_raw h
 exact ⟨_,rfl,r_0⟩
abbrev kQ:=LName × Int × Int
instance decMeasurement:DecidableEq kQ:=inferInstanceAs (DecidableEq (LName × Int × Int))
def kI:Rep kQ:=.pair RName (.pair .int .int)
theorem RMeasurement_n:kI.n=3:=rfl
theorem RMeasurement_raw {w:World} {cs:List Value} {x:kQ} (h:kI.raw w cs x):∃ v0,cs=[v0,.int .i64 x.2.1,.int .i64 x.2.2]∧RName.raw w [v0] x.1∧(Rep.slice 9 Rep.str).raw w [v0] x.1∧(-9223372036854775808≤x.2.1∧x.2.1≤9223372036854775807)∧(-9223372036854775808≤x.2.2∧x.2.2≤9223372036854775807):=by
 obtain ⟨_,_,rfl,a_0,b_0⟩:=Rep.pair_raw h
 have q_0:=RName_raw a_0
 obtain ⟨_,rfl,s_0_0⟩:=q_0
 obtain ⟨_,_,rfl,a_1,b_1⟩:=Rep.pair_raw b_0
 obtain ⟨rfl,r_1⟩:=Rep.int_raw a_1
 obtain ⟨rfl,r_2⟩:=Rep.int_raw b_1
 exact ⟨_,rfl,a_0,s_0_0,r_1,r_2⟩
theorem RMeasurement_sub_0_0:Rep.Sub kI (Rep.slice 9 Rep.str) (fun x=>x.1) (fun x y=>(y,x.2.1,x.2.2)) 0:=Rep.Sub.left (Rep.Sub.refl (Rep.slice 9 Rep.str)) (by decide)
def setMeasurement_1 (x:kQ) (v:Int):kQ:=(x.1,v,x.2.2)
theorem RMeasurement_set1 {x:kQ} (v:Int) (hv:-9223372036854775808≤v∧v≤9223372036854775807) {w:World} {cs:List Value} {S:Nat→Prop} (h:kI.is true w cs x S):kI.is true w (cs.set 1 (.int .i64 v)) (setMeasurement_1 x v) S:=by
 obtain ⟨c0,d0,A0,B0,rfl,p0,q0,hA0,hB0,hd0⟩:=h
 obtain ⟨c1,d1,A1,B1,rfl,p1,q1,hA1,hB1,hd1⟩:=q0
 obtain ⟨rfl,_⟩:=p1
 have l0:=Rep.len _ p0
 change _=1 at l0
 have e:((c0++([.int .i64 x.2.1]++d1)):List Value).set 1 (.int .i64 v)=(c0++([.int .i64 v]++d1)):=by
  obtain ⟨y0_0,rfl⟩:∃ y0_0,c0=[y0_0]:=by match c0,l0 with | [y0_0],_=>exact ⟨_,rfl⟩
  rfl
 rw [e]
 exact ⟨_,_,A0,B0,rfl,p0,⟨_,_,A1,B1,rfl,⟨rfl,hv⟩,q1,hA1,hB1,hd1⟩,hA0,hB0,hd0⟩
def setMeasurement_2 (x:kQ) (v:Int):kQ:=(x.1,x.2.1,v)
theorem RMeasurement_set2 {x:kQ} (v:Int) (hv:-9223372036854775808≤v∧v≤9223372036854775807) {w:World} {cs:List Value} {S:Nat→Prop} (h:kI.is true w cs x S):kI.is true w (cs.set 2 (.int .i64 v)) (setMeasurement_2 x v) S:=by
 obtain ⟨c0,d0,A0,B0,rfl,p0,q0,hA0,hB0,hd0⟩:=h
 obtain ⟨c1,d1,A1,B1,rfl,p1,q1,hA1,hB1,hd1⟩:=q0
 obtain ⟨rfl,_⟩:=q1
 have l0:=Rep.len _ p0
 have l1:=Rep.len _ p1
 change _=1 at l0;change _=1 at l1
 have e:((c0++(c1++[.int .i64 x.2.2])):List Value).set 2 (.int .i64 v)=(c0++(c1++[.int .i64 v])):=by
  obtain ⟨y0_0,rfl⟩:∃ y0_0,c0=[y0_0]:=by match c0,l0 with | [y0_0],_=>exact ⟨_,rfl⟩
  obtain ⟨y1_0,rfl⟩:∃ y1_0,c1=[y1_0]:=by match c1,l1 with | [y1_0],_=>exact ⟨_,rfl⟩
  rfl
 rw [e]
 exact ⟨_,_,A0,B0,rfl,p0,⟨_,_,A1,B1,rfl,p1,⟨rfl,hv⟩,hA1,hB1,hd1⟩,hA0,hB0,hd0⟩
abbrev LRoute:=LName × Int × Int
instance decRoute:DecidableEq LRoute:=inferInstanceAs (DecidableEq (LName × Int × Int))
def RRoute:Rep LRoute:=.pair RName (.pair .int .int)
theorem RRoute_n:RRoute.n=3:=rfl
theorem RRoute_raw {w:World} {cs:List Value} {x:LRoute} (h:RRoute.raw w cs x):∃ v0,cs=[v0,.int .i64 x.2.1,.int .i64 x.2.2]∧RName.raw w [v0] x.1∧(Rep.slice 9 Rep.str).raw w [v0] x.1∧(-9223372036854775808≤x.2.1∧x.2.1≤9223372036854775807)∧(-9223372036854775808≤x.2.2∧x.2.2≤9223372036854775807):=by
 obtain ⟨_,_,rfl,a_0,b_0⟩:=Rep.pair_raw h
 have q_0:=RName_raw a_0
 obtain ⟨_,rfl,s_0_0⟩:=q_0
 obtain ⟨_,_,rfl,a_1,b_1⟩:=Rep.pair_raw b_0
 obtain ⟨rfl,r_1⟩:=Rep.int_raw a_1
 obtain ⟨rfl,r_2⟩:=Rep.int_raw b_1
 exact ⟨_,rfl,a_0,s_0_0,r_1,r_2⟩
theorem RRoute_sub_0_0:Rep.Sub RRoute (Rep.slice 9 Rep.str) (fun x=>x.1) (fun x y=>(y,x.2.1,x.2.2)) 0:=Rep.Sub.left (Rep.Sub.refl (Rep.slice 9 Rep.str)) (by decide)
def setRoute_1 (x:LRoute) (v:Int):LRoute:=(x.1,v,x.2.2)
theorem RRoute_set1 {x:LRoute} (v:Int) (hv:-9223372036854775808≤v∧v≤9223372036854775807) {w:World} {cs:List Value} {S:Nat→Prop} (h:RRoute.is true w cs x S):RRoute.is true w (cs.set 1 (.int .i64 v)) (setRoute_1 x v) S:=by
 obtain ⟨c0,d0,A0,B0,rfl,p0,q0,hA0,hB0,hd0⟩:=h
 obtain ⟨c1,d1,A1,B1,rfl,p1,q1,hA1,hB1,hd1⟩:=q0
 obtain ⟨rfl,_⟩:=p1
 have l0:=Rep.len _ p0
 change _=1 at l0
 have e:((c0++([.int .i64 x.2.1]++d1)):List Value).set 1 (.int .i64 v)=(c0++([.int .i64 v]++d1)):=by
  obtain ⟨y0_0,rfl⟩:∃ y0_0,c0=[y0_0]:=by match c0,l0 with | [y0_0],_=>exact ⟨_,rfl⟩
  rfl
 rw [e]
 exact ⟨_,_,A0,B0,rfl,p0,⟨_,_,A1,B1,rfl,⟨rfl,hv⟩,q1,hA1,hB1,hd1⟩,hA0,hB0,hd0⟩
def setRoute_2 (x:LRoute) (v:Int):LRoute:=(x.1,x.2.1,v)
theorem RRoute_set2 {x:LRoute} (v:Int) (hv:-9223372036854775808≤v∧v≤9223372036854775807) {w:World} {cs:List Value} {S:Nat→Prop} (h:RRoute.is true w cs x S):RRoute.is true w (cs.set 2 (.int .i64 v)) (setRoute_2 x v) S:=by
 obtain ⟨c0,d0,A0,B0,rfl,p0,q0,hA0,hB0,hd0⟩:=h
 obtain ⟨c1,d1,A1,B1,rfl,p1,q1,hA1,hB1,hd1⟩:=q0
 obtain ⟨rfl,_⟩:=q1
 have l0:=Rep.len _ p0
 have l1:=Rep.len _ p1
 change _=1 at l0;change _=1 at l1
 have e:((c0++(c1++[.int .i64 x.2.2])):List Value).set 2 (.int .i64 v)=(c0++(c1++[.int .i64 v])):=by
  obtain ⟨y0_0,rfl⟩:∃ y0_0,c0=[y0_0]:=by match c0,l0 with | [y0_0],_=>exact ⟨_,rfl⟩
  obtain ⟨y1_0,rfl⟩:∃ y1_0,c1=[y1_0]:=by match c1,l1 with | [y1_0],_=>exact ⟨_,rfl⟩
  rfl
 rw [e]
 exact ⟨_,_,A0,B0,rfl,p0,⟨_,_,A1,B1,rfl,p1,⟨rfl,hv⟩,hA1,hB1,hd1⟩,hA0,hB0,hd0⟩
abbrev LRequester:=Int × Int × Int
instance decRequester:DecidableEq LRequester:=inferInstanceAs (DecidableEq (Int × Int × Int))
def kM:Rep LRequester:=.pair .int (.pair .int .int)
theorem RRequester_raw {w:World} {cs:List Value} {x:LRequester} (h:kM.raw w cs x):cs=[.int .i64 x.1,.int .i64 x.2.1,.int .i64 x.2.2]∧(-9223372036854775808≤x.1∧x.1≤9223372036854775807)∧(-9223372036854775808≤x.2.1∧x.2.1≤9223372036854775807)∧(-9223372036854775808≤x.2.2∧x.2.2≤9223372036854775807):=by
 obtain ⟨_,_,rfl,a_0,b_0⟩:=Rep.pair_raw h
 obtain ⟨rfl,r_0⟩:=Rep.int_raw a_0
 obtain ⟨_,_,rfl,a_1,b_1⟩:=Rep.pair_raw b_0
 obtain ⟨rfl,r_1⟩:=Rep.int_raw a_1
 obtain ⟨rfl,r_2⟩:=Rep.int_raw b_1
 exact ⟨rfl,r_0,r_1,r_2⟩
def setRequester_0 (x:LRequester) (v:Int):LRequester:=(v,x.2.1,x.2.2)
theorem RRequester_set0 {x:LRequester} (v:Int) (hv:-9223372036854775808≤v∧v≤9223372036854775807) {w:World} {cs:List Value} {S:Nat→Prop} (h:kM.is true w cs x S):kM.is true w (cs.set 0 (.int .i64 v)) (setRequester_0 x v) S:=by
 obtain ⟨c0,d0,A0,B0,rfl,p0,q0,hA0,hB0,hd0⟩:=h
 obtain ⟨rfl,_⟩:=p0
 have e:(([.int .i64 x.1]++d0):List Value).set 0 (.int .i64 v)=([.int .i64 v]++d0):=by
  rfl
 rw [e]
 exact ⟨_,_,A0,B0,rfl,⟨rfl,hv⟩,q0,hA0,hB0,hd0⟩
def setRequester_1 (x:LRequester) (v:Int):LRequester:=(x.1,v,x.2.2)
theorem RRequester_set1 {x:LRequester} (v:Int) (hv:-9223372036854775808≤v∧v≤9223372036854775807) {w:World} {cs:List Value} {S:Nat→Prop} (h:kM.is true w cs x S):kM.is true w (cs.set 1 (.int .i64 v)) (setRequester_1 x v) S:=by
 obtain ⟨c0,d0,A0,B0,rfl,p0,q0,hA0,hB0,hd0⟩:=h
 obtain ⟨c1,d1,A1,B1,rfl,p1,q1,hA1,hB1,hd1⟩:=q0
 obtain ⟨rfl,_⟩:=p1
 have l0:=Rep.len _ p0
 change _=1 at l0
 have e:((c0++([.int .i64 x.2.1]++d1)):List Value).set 1 (.int .i64 v)=(c0++([.int .i64 v]++d1)):=by
  obtain ⟨y0_0,rfl⟩:∃ y0_0,c0=[y0_0]:=by match c0,l0 with | [y0_0],_=>exact ⟨_,rfl⟩
  rfl
 rw [e]
 exact ⟨_,_,A0,B0,rfl,p0,⟨_,_,A1,B1,rfl,⟨rfl,hv⟩,q1,hA1,hB1,hd1⟩,hA0,hB0,hd0⟩
def setRequester_2 (x:LRequester) (v:Int):LRequester:=(x.1,x.2.1,v)
theorem RRequester_set2 {x:LRequester} (v:Int) (hv:-9223372036854775808≤v∧v≤9223372036854775807) {w:World} {cs:List Value} {S:Nat→Prop} (h:kM.is true w cs x S):kM.is true w (cs.set 2 (.int .i64 v)) (setRequester_2 x v) S:=by
 obtain ⟨c0,d0,A0,B0,rfl,p0,q0,hA0,hB0,hd0⟩:=h
 obtain ⟨c1,d1,A1,B1,rfl,p1,q1,hA1,hB1,hd1⟩:=q0
 obtain ⟨rfl,_⟩:=q1
 have l0:=Rep.len _ p0
 have l1:=Rep.len _ p1
 change _=1 at l0;change _=1 at l1
 have e:((c0++(c1++[.int .i64 x.2.2])):List Value).set 2 (.int .i64 v)=(c0++(c1++[.int .i64 v])):=by
  obtain ⟨y0_0,rfl⟩:∃ y0_0,c0=[y0_0]:=by match c0,l0 with | [y0_0],_=>exact ⟨_,rfl⟩
  obtain ⟨y1_0,rfl⟩:∃ y1_0,c1=[y1_0]:=by match c1,l1 with | [y1_0],_=>exact ⟨_,rfl⟩
  rfl
 rw [e]
 exact ⟨_,_,A0,B0,rfl,p0,⟨_,_,A1,B1,rfl,p1,⟨rfl,hv⟩,hA1,hB1,hd1⟩,hA0,hB0,hd0⟩
abbrev kP:=LName × (List LRequester) × Int
instance decPendingInterest:DecidableEq kP:=inferInstanceAs (DecidableEq (LName × (List LRequester) × Int))
def kH:Rep kP:=.pair RName (.pair (.slice 81 kM) .int)
theorem RPendingInterest_n:kH.n=3:=rfl
theorem RPendingInterest_raw {w:World} {cs:List Value} {x:kP} (h:kH.raw w cs x):∃ v0 v1,cs=[v0,v1,.int .i64 x.2.2]∧RName.raw w [v0] x.1∧(Rep.slice 9 Rep.str).raw w [v0] x.1∧(Rep.slice 81 kM).raw w [v1] x.2.1∧(-9223372036854775808≤x.2.2∧x.2.2≤9223372036854775807):=by
 obtain ⟨_,_,rfl,a_0,b_0⟩:=Rep.pair_raw h
 have q_0:=RName_raw a_0
 obtain ⟨_,rfl,s_0_0⟩:=q_0
 obtain ⟨_,_,rfl,a_1,b_1⟩:=Rep.pair_raw b_0
 obtain ⟨_,rfl,r_1⟩:=Rep.slice_raw a_1
 obtain ⟨rfl,r_2⟩:=Rep.int_raw b_1
 exact ⟨_,_,rfl,a_0,s_0_0,r_1,r_2⟩
theorem RPendingInterest_sub_0_0:Rep.Sub kH (Rep.slice 9 Rep.str) (fun x=>x.1) (fun x y=>(y,x.2.1,x.2.2)) 0:=Rep.Sub.left (Rep.Sub.refl (Rep.slice 9 Rep.str)) (by decide)
theorem RPendingInterest_sub_1:Rep.Sub kH (Rep.slice 81 kM) (fun x=>x.2.1) (fun x y=>(x.1,y,x.2.2)) 1:=Rep.Sub.right (Rep.Sub.left (Rep.Sub.refl (Rep.slice 81 kM)) (by decide)) rfl
def setPendingInterest_2 (x:kP) (v:Int):kP:=(x.1,x.2.1,v)
theorem RPendingInterest_set2 {x:kP} (v:Int) (hv:-9223372036854775808≤v∧v≤9223372036854775807) {w:World} {cs:List Value} {S:Nat→Prop} (h:kH.is true w cs x S):kH.is true w (cs.set 2 (.int .i64 v)) (setPendingInterest_2 x v) S:=by
 obtain ⟨c0,d0,A0,B0,rfl,p0,q0,hA0,hB0,hd0⟩:=h
 obtain ⟨c1,d1,A1,B1,rfl,p1,q1,hA1,hB1,hd1⟩:=q0
 obtain ⟨rfl,_⟩:=q1
 have l0:=Rep.len _ p0
 have l1:=Rep.len _ p1
 change _=1 at l0;change _=1 at l1
 have e:((c0++(c1++[.int .i64 x.2.2])):List Value).set 2 (.int .i64 v)=(c0++(c1++[.int .i64 v])):=by
  obtain ⟨y0_0,rfl⟩:∃ y0_0,c0=[y0_0]:=by match c0,l0 with | [y0_0],_=>exact ⟨_,rfl⟩
  obtain ⟨y1_0,rfl⟩:∃ y1_0,c1=[y1_0]:=by match c1,l1 with | [y1_0],_=>exact ⟨_,rfl⟩
  rfl
 rw [e]
 exact ⟨_,_,A0,B0,rfl,p0,⟨_,_,A1,B1,rfl,p1,⟨rfl,hv⟩,hA1,hB1,hd1⟩,hA0,hB0,hd0⟩
abbrev LSeenNonce:=LName × Int
instance decSeenNonce:DecidableEq LSeenNonce:=inferInstanceAs (DecidableEq (LName × Int))
def kK:Rep LSeenNonce:=.pair RName .int
theorem RSeenNonce_n:kK.n=2:=rfl
theorem RSeenNonce_raw {w:World} {cs:List Value} {x:LSeenNonce} (h:kK.raw w cs x):∃ v0,cs=[v0,.int .i64 x.2]∧RName.raw w [v0] x.1∧(Rep.slice 9 Rep.str).raw w [v0] x.1∧(-9223372036854775808≤x.2∧x.2≤9223372036854775807):=by
 obtain ⟨_,_,rfl,a_0,b_0⟩:=Rep.pair_raw h
 have q_0:=RName_raw a_0
 obtain ⟨_,rfl,s_0_0⟩:=q_0
 obtain ⟨rfl,r_1⟩:=Rep.int_raw b_0
 exact ⟨_,rfl,a_0,s_0_0,r_1⟩
theorem RSeenNonce_sub_0_0:Rep.Sub kK (Rep.slice 9 Rep.str) (fun x=>x.1) (fun x y=>(y,x.2)) 0:=Rep.Sub.left (Rep.Sub.refl (Rep.slice 9 Rep.str)) (by decide)
def setSeenNonce_1 (x:LSeenNonce) (v:Int):LSeenNonce:=(x.1,v)
theorem RSeenNonce_set1 {x:LSeenNonce} (v:Int) (hv:-9223372036854775808≤v∧v≤9223372036854775807) {w:World} {cs:List Value} {S:Nat→Prop} (h:kK.is true w cs x S):kK.is true w (cs.set 1 (.int .i64 v)) (setSeenNonce_1 x v) S:=by
 obtain ⟨c0,d0,A0,B0,rfl,p0,q0,hA0,hB0,hd0⟩:=h
 obtain ⟨rfl,_⟩:=q0
 have l0:=Rep.len _ p0
 change _=1 at l0
 have e:((c0++[.int .i64 x.2]):List Value).set 1 (.int .i64 v)=(c0++[.int .i64 v]):=by
  obtain ⟨y0_0,rfl⟩:∃ y0_0,c0=[y0_0]:=by match c0,l0 with | [y0_0],_=>exact ⟨_,rfl⟩
  rfl
 rw [e]
 exact ⟨_,_,A0,B0,rfl,p0,⟨rfl,hv⟩,hA0,hB0,hd0⟩
abbrev LData:=LName × (List UInt8) × LName × Int × Int
instance decData:DecidableEq LData:=(@instDecidableEqProd _ _ (inferInstanceAs (DecidableEq LName)) (@instDecidableEqProd _ _ (inferInstanceAs (DecidableEq (List UInt8))) (@instDecidableEqProd _ _ (inferInstanceAs (DecidableEq LName)) (@instDecidableEqProd _ _ (inferInstanceAs (DecidableEq Int)) (inferInstanceAs (DecidableEq Int))))))
def RData:Rep LData:=.pair RName (.pair (.slice 5 .byte) (.pair RName (.pair .int .int)))
theorem RData_n:RData.n=5:=rfl
theorem RData_raw {w:World} {cs:List Value} {x:LData} (h:RData.raw w cs x):∃ v0 v1 v2,cs=[v0,v1,v2,.int .i64 x.2.2.2.1,.int .i64 x.2.2.2.2]∧RName.raw w [v0] x.1∧(Rep.slice 9 Rep.str).raw w [v0] x.1∧(Rep.slice 5 Rep.byte).raw w [v1] x.2.1∧RName.raw w [v2] x.2.2.1∧(Rep.slice 9 Rep.str).raw w [v2] x.2.2.1∧(-9223372036854775808≤x.2.2.2.1∧x.2.2.2.1≤9223372036854775807)∧(-9223372036854775808≤x.2.2.2.2∧x.2.2.2.2≤9223372036854775807):=by
 obtain ⟨_,_,rfl,a_0,b_0⟩:=Rep.pair_raw h
 have q_0:=RName_raw a_0
 obtain ⟨_,rfl,s_0_0⟩:=q_0
 obtain ⟨_,_,rfl,a_1,b_1⟩:=Rep.pair_raw b_0
 obtain ⟨_,rfl,r_1⟩:=Rep.slice_raw a_1
 obtain ⟨_,_,rfl,a_2,b_2⟩:=Rep.pair_raw b_1
 have q_2:=RName_raw a_2
 obtain ⟨_,rfl,s_2_0⟩:=q_2
 obtain ⟨_,_,rfl,a_3,b_3⟩:=Rep.pair_raw b_2
 obtain ⟨rfl,r_3⟩:=Rep.int_raw a_3
 obtain ⟨rfl,r_4⟩:=Rep.int_raw b_3
 exact ⟨_,_,_,rfl,a_0,s_0_0,r_1,a_2,s_2_0,r_3,r_4⟩
theorem RData_sub_0_0:Rep.Sub RData (Rep.slice 9 Rep.str) (fun x=>x.1) (fun x y=>(y,x.2.1,x.2.2.1,x.2.2.2.1,x.2.2.2.2)) 0:=Rep.Sub.left (Rep.Sub.refl (Rep.slice 9 Rep.str)) (by decide)
theorem RData_sub_1:Rep.Sub RData (Rep.slice 5 Rep.byte) (fun x=>x.2.1) (fun x y=>(x.1,y,x.2.2.1,x.2.2.2.1,x.2.2.2.2)) 1:=Rep.Sub.right (Rep.Sub.left (Rep.Sub.refl (Rep.slice 5 Rep.byte)) (by decide)) rfl
theorem RData_sub_2_0:Rep.Sub RData (Rep.slice 9 Rep.str) (fun x=>x.2.2.1) (fun x y=>(x.1,x.2.1,y,x.2.2.2.1,x.2.2.2.2)) 2:=Rep.Sub.right (Rep.Sub.right (Rep.Sub.left (Rep.Sub.refl (Rep.slice 9 Rep.str)) (by decide)) rfl) rfl
def setData_3 (x:LData) (v:Int):LData:=(x.1,x.2.1,x.2.2.1,v,x.2.2.2.2)
theorem RData_set3 {x:LData} (v:Int) (hv:-9223372036854775808≤v∧v≤9223372036854775807) {w:World} {cs:List Value} {S:Nat→Prop} (h:RData.is true w cs x S):RData.is true w (cs.set 3 (.int .i64 v)) (setData_3 x v) S:=by
 obtain ⟨c0,d0,A0,B0,rfl,p0,q0,hA0,hB0,hd0⟩:=h
 obtain ⟨c1,d1,A1,B1,rfl,p1,q1,hA1,hB1,hd1⟩:=q0
 obtain ⟨c2,d2,A2,B2,rfl,p2,q2,hA2,hB2,hd2⟩:=q1
 obtain ⟨c3,d3,A3,B3,rfl,p3,q3,hA3,hB3,hd3⟩:=q2
 obtain ⟨rfl,_⟩:=p3
 have l0:=Rep.len _ p0
 have l1:=Rep.len _ p1
 have l2:=Rep.len _ p2
 change _=1 at l0;change _=1 at l1;change _=1 at l2
 have e:((c0++(c1++(c2++([.int .i64 x.2.2.2.1]++d3)))):List Value).set 3 (.int .i64 v)=(c0++(c1++(c2++([.int .i64 v]++d3)))):=by
  obtain ⟨y0_0,rfl⟩:∃ y0_0,c0=[y0_0]:=by match c0,l0 with | [y0_0],_=>exact ⟨_,rfl⟩
  obtain ⟨y1_0,rfl⟩:∃ y1_0,c1=[y1_0]:=by match c1,l1 with | [y1_0],_=>exact ⟨_,rfl⟩
  obtain ⟨y2_0,rfl⟩:∃ y2_0,c2=[y2_0]:=by match c2,l2 with | [y2_0],_=>exact ⟨_,rfl⟩
  rfl
 rw [e]
 exact ⟨_,_,A0,B0,rfl,p0,⟨_,_,A1,B1,rfl,p1,⟨_,_,A2,B2,rfl,p2,⟨_,_,A3,B3,rfl,⟨rfl,hv⟩,q3,hA3,hB3,hd3⟩,hA2,hB2,hd2⟩,hA1,hB1,hd1⟩,hA0,hB0,hd0⟩
def setData_4 (x:LData) (v:Int):LData:=(x.1,x.2.1,x.2.2.1,x.2.2.2.1,v)
theorem RData_set4 {x:LData} (v:Int) (hv:-9223372036854775808≤v∧v≤9223372036854775807) {w:World} {cs:List Value} {S:Nat→Prop} (h:RData.is true w cs x S):RData.is true w (cs.set 4 (.int .i64 v)) (setData_4 x v) S:=by
 obtain ⟨c0,d0,A0,B0,rfl,p0,q0,hA0,hB0,hd0⟩:=h
 obtain ⟨c1,d1,A1,B1,rfl,p1,q1,hA1,hB1,hd1⟩:=q0
 obtain ⟨c2,d2,A2,B2,rfl,p2,q2,hA2,hB2,hd2⟩:=q1
 obtain ⟨c3,d3,A3,B3,rfl,p3,q3,hA3,hB3,hd3⟩:=q2
 obtain ⟨rfl,_⟩:=q3
 have l0:=Rep.len _ p0
 have l1:=Rep.len _ p1
 have l2:=Rep.len _ p2
 have l3:=Rep.len _ p3
 change _=1 at l0;change _=1 at l1;change _=1 at l2;change _=1 at l3
 have e:((c0++(c1++(c2++(c3++[.int .i64 x.2.2.2.2])))):List Value).set 4 (.int .i64 v)=(c0++(c1++(c2++(c3++[.int .i64 v])))):=by
  obtain ⟨y0_0,rfl⟩:∃ y0_0,c0=[y0_0]:=by match c0,l0 with | [y0_0],_=>exact ⟨_,rfl⟩
  obtain ⟨y1_0,rfl⟩:∃ y1_0,c1=[y1_0]:=by match c1,l1 with | [y1_0],_=>exact ⟨_,rfl⟩
  obtain ⟨y2_0,rfl⟩:∃ y2_0,c2=[y2_0]:=by match c2,l2 with | [y2_0],_=>exact ⟨_,rfl⟩
  obtain ⟨y3_0,rfl⟩:∃ y3_0,c3=[y3_0]:=by match c3,l3 with | [y3_0],_=>exact ⟨_,rfl⟩
  rfl
 rw [e]
 exact ⟨_,_,A0,B0,rfl,p0,⟨_,_,A1,B1,rfl,p1,⟨_,_,A2,B2,rfl,p2,⟨_,_,A3,B3,rfl,p3,⟨rfl,hv⟩,hA3,hB3,hd3⟩,hA2,hB2,hd2⟩,hA1,hB1,hd1⟩,hA0,hB0,hd0⟩
abbrev LCacheEntry:=LData × Int
instance decCacheEntry:DecidableEq LCacheEntry:=inferInstanceAs (DecidableEq (LData × Int))
def kL:Rep LCacheEntry:=.pair RData .int
theorem RCacheEntry_n:kL.n=6:=rfl
theorem RCacheEntry_raw {w:World} {cs:List Value} {x:LCacheEntry} (h:kL.raw w cs x):∃ v0 v1 v2,cs=[v0,v1,v2,.int .i64 x.1.2.2.2.1,.int .i64 x.1.2.2.2.2,.int .i64 x.2]∧RData.raw w [v0,v1,v2,.int .i64 x.1.2.2.2.1,.int .i64 x.1.2.2.2.2] x.1∧RName.raw w [v0] x.1.1∧(Rep.slice 9 Rep.str).raw w [v0] x.1.1∧(Rep.slice 5 Rep.byte).raw w [v1] x.1.2.1∧RName.raw w [v2] x.1.2.2.1∧(Rep.slice 9 Rep.str).raw w [v2] x.1.2.2.1∧(-9223372036854775808≤x.1.2.2.2.1∧x.1.2.2.2.1≤9223372036854775807)∧(-9223372036854775808≤x.1.2.2.2.2∧x.1.2.2.2.2≤9223372036854775807)∧(-9223372036854775808≤x.2∧x.2≤9223372036854775807):=by
 obtain ⟨_,_,rfl,a_0,b_0⟩:=Rep.pair_raw h
 have q_0:=RData_raw a_0
 obtain ⟨_,_,_,rfl,s_0_0,s_0_1,s_0_2,s_0_3,s_0_4,s_0_5,s_0_6⟩:=q_0
 obtain ⟨rfl,r_1⟩:=Rep.int_raw b_0
 exact ⟨_,_,_,rfl,a_0,s_0_0,s_0_1,s_0_2,s_0_3,s_0_4,s_0_5,s_0_6,r_1⟩
theorem RCacheEntry_sub_0_0_0:Rep.Sub kL (Rep.slice 9 Rep.str) (fun x=>x.1.1) (fun x y=>((y,x.1.2.1,x.1.2.2.1,x.1.2.2.2.1,x.1.2.2.2.2),x.2)) 0:=Rep.Sub.left (Rep.Sub.left (Rep.Sub.refl (Rep.slice 9 Rep.str)) (by decide)) (by decide)
theorem RCacheEntry_sub_0_1:Rep.Sub kL (Rep.slice 5 Rep.byte) (fun x=>x.1.2.1) (fun x y=>((x.1.1,y,x.1.2.2.1,x.1.2.2.2.1,x.1.2.2.2.2),x.2)) 1:=Rep.Sub.left (Rep.Sub.right (Rep.Sub.left (Rep.Sub.refl (Rep.slice 5 Rep.byte)) (by decide)) rfl) (by decide)
theorem RCacheEntry_sub_0_2_0:Rep.Sub kL (Rep.slice 9 Rep.str) (fun x=>x.1.2.2.1) (fun x y=>((x.1.1,x.1.2.1,y,x.1.2.2.2.1,x.1.2.2.2.2),x.2)) 2:=Rep.Sub.left (Rep.Sub.right (Rep.Sub.right (Rep.Sub.left (Rep.Sub.refl (Rep.slice 9 Rep.str)) (by decide)) rfl) rfl) (by decide)
def setCacheEntry_3 (x:LCacheEntry) (v:Int):LCacheEntry:=((x.1.1,x.1.2.1,x.1.2.2.1,v,x.1.2.2.2.2),x.2)
theorem RCacheEntry_set3 {x:LCacheEntry} (v:Int) (hv:-9223372036854775808≤v∧v≤9223372036854775807) {w:World} {cs:List Value} {S:Nat→Prop} (h:kL.is true w cs x S):kL.is true w (cs.set 3 (.int .i64 v)) (setCacheEntry_3 x v) S:=by
 obtain ⟨c0,d0,A0,B0,rfl,p0,q0,hA0,hB0,hd0⟩:=h
 obtain ⟨c1,d1,A1,B1,rfl,p1,q1,hA1,hB1,hd1⟩:=p0
 obtain ⟨c2,d2,A2,B2,rfl,p2,q2,hA2,hB2,hd2⟩:=q1
 obtain ⟨c3,d3,A3,B3,rfl,p3,q3,hA3,hB3,hd3⟩:=q2
 obtain ⟨c4,d4,A4,B4,rfl,p4,q4,hA4,hB4,hd4⟩:=q3
 obtain ⟨rfl,_⟩:=p4
 have l1:=Rep.len _ p1
 have l2:=Rep.len _ p2
 have l3:=Rep.len _ p3
 change _=1 at l1;change _=1 at l2;change _=1 at l3
 have e:(((c1++(c2++(c3++([.int .i64 x.1.2.2.2.1]++d4))))++d0):List Value).set 3 (.int .i64 v)=((c1++(c2++(c3++([.int .i64 v]++d4))))++d0):=by
  obtain ⟨y1_0,rfl⟩:∃ y1_0,c1=[y1_0]:=by match c1,l1 with | [y1_0],_=>exact ⟨_,rfl⟩
  obtain ⟨y2_0,rfl⟩:∃ y2_0,c2=[y2_0]:=by match c2,l2 with | [y2_0],_=>exact ⟨_,rfl⟩
  obtain ⟨y3_0,rfl⟩:∃ y3_0,c3=[y3_0]:=by match c3,l3 with | [y3_0],_=>exact ⟨_,rfl⟩
  rfl
 rw [e]
 exact ⟨_,_,A0,B0,rfl,⟨_,_,A1,B1,rfl,p1,⟨_,_,A2,B2,rfl,p2,⟨_,_,A3,B3,rfl,p3,⟨_,_,A4,B4,rfl,⟨rfl,hv⟩,q4,hA4,hB4,hd4⟩,hA3,hB3,hd3⟩,hA2,hB2,hd2⟩,hA1,hB1,hd1⟩,q0,hA0,hB0,hd0⟩
def setCacheEntry_4 (x:LCacheEntry) (v:Int):LCacheEntry:=((x.1.1,x.1.2.1,x.1.2.2.1,x.1.2.2.2.1,v),x.2)
theorem RCacheEntry_set4 {x:LCacheEntry} (v:Int) (hv:-9223372036854775808≤v∧v≤9223372036854775807) {w:World} {cs:List Value} {S:Nat→Prop} (h:kL.is true w cs x S):kL.is true w (cs.set 4 (.int .i64 v)) (setCacheEntry_4 x v) S:=by
 obtain ⟨c0,d0,A0,B0,rfl,p0,q0,hA0,hB0,hd0⟩:=h
 obtain ⟨c1,d1,A1,B1,rfl,p1,q1,hA1,hB1,hd1⟩:=p0
 obtain ⟨c2,d2,A2,B2,rfl,p2,q2,hA2,hB2,hd2⟩:=q1
 obtain ⟨c3,d3,A3,B3,rfl,p3,q3,hA3,hB3,hd3⟩:=q2
 obtain ⟨c4,d4,A4,B4,rfl,p4,q4,hA4,hB4,hd4⟩:=q3
 obtain ⟨rfl,_⟩:=q4
 have l1:=Rep.len _ p1
 have l2:=Rep.len _ p2
 have l3:=Rep.len _ p3
 have l4:=Rep.len _ p4
 change _=1 at l1;change _=1 at l2;change _=1 at l3;change _=1 at l4
 have e:(((c1++(c2++(c3++(c4++[.int .i64 x.1.2.2.2.2]))))++d0):List Value).set 4 (.int .i64 v)=((c1++(c2++(c3++(c4++[.int .i64 v]))))++d0):=by
  obtain ⟨y1_0,rfl⟩:∃ y1_0,c1=[y1_0]:=by match c1,l1 with | [y1_0],_=>exact ⟨_,rfl⟩
  obtain ⟨y2_0,rfl⟩:∃ y2_0,c2=[y2_0]:=by match c2,l2 with | [y2_0],_=>exact ⟨_,rfl⟩
  obtain ⟨y3_0,rfl⟩:∃ y3_0,c3=[y3_0]:=by match c3,l3 with | [y3_0],_=>exact ⟨_,rfl⟩
  obtain ⟨y4_0,rfl⟩:∃ y4_0,c4=[y4_0]:=by match c4,l4 with | [y4_0],_=>exact ⟨_,rfl⟩
  rfl
 rw [e]
 exact ⟨_,_,A0,B0,rfl,⟨_,_,A1,B1,rfl,p1,⟨_,_,A2,B2,rfl,p2,⟨_,_,A3,B3,rfl,p3,⟨_,_,A4,B4,rfl,p4,⟨rfl,hv⟩,hA4,hB4,hd4⟩,hA3,hB3,hd3⟩,hA2,hB2,hd2⟩,hA1,hB1,hd1⟩,q0,hA0,hB0,hd0⟩
def setCacheEntry_5 (x:LCacheEntry) (v:Int):LCacheEntry:=(x.1,v)
theorem RCacheEntry_set5 {x:LCacheEntry} (v:Int) (hv:-9223372036854775808≤v∧v≤9223372036854775807) {w:World} {cs:List Value} {S:Nat→Prop} (h:kL.is true w cs x S):kL.is true w (cs.set 5 (.int .i64 v)) (setCacheEntry_5 x v) S:=by
 obtain ⟨c0,d0,A0,B0,rfl,p0,q0,hA0,hB0,hd0⟩:=h
 obtain ⟨rfl,_⟩:=q0
 have l0:=Rep.len _ p0
 change _=5 at l0
 have e:((c0++[.int .i64 x.2]):List Value).set 5 (.int .i64 v)=(c0++[.int .i64 v]):=by
  obtain ⟨y0_0,y0_1,y0_2,y0_3,y0_4,rfl⟩:∃ y0_0 y0_1 y0_2 y0_3 y0_4,c0=[y0_0,y0_1,y0_2,y0_3,y0_4]:=by match c0,l0 with | [y0_0,y0_1,y0_2,y0_3,y0_4],_=>exact ⟨_,_,_,_,_,rfl⟩
  rfl
 rw [e]
 exact ⟨_,_,A0,B0,rfl,p0,⟨rfl,hv⟩,hA0,hB0,hd0⟩
abbrev LContentStore:=Int × (List LCacheEntry)
instance decContentStore:DecidableEq LContentStore:=inferInstanceAs (DecidableEq (Int × (List LCacheEntry)))
def kJ:Rep LContentStore:=.pair .int (.slice 169 kL)
theorem RContentStore_raw {w:World} {cs:List Value} {x:LContentStore} (h:kJ.raw w cs x):∃ v1,cs=[.int .i64 x.1,v1]∧(-9223372036854775808≤x.1∧x.1≤9223372036854775807)∧(Rep.slice 169 kL).raw w [v1] x.2:=by
 obtain ⟨_,_,rfl,a_0,b_0⟩:=Rep.pair_raw h
 obtain ⟨rfl,r_0⟩:=Rep.int_raw a_0
 obtain ⟨_,rfl,r_1⟩:=Rep.slice_raw b_0
 exact ⟨_,rfl,r_0,r_1⟩
theorem RContentStore_sub_1:Rep.Sub kJ (Rep.slice 169 kL) (fun x=>x.2) (fun x y=>(x.1,y)) 1:=Rep.Sub.right (Rep.Sub.refl (Rep.slice 169 kL)) rfl
abbrev LNode:=(List LData) × LContentStore × (List kP) × (List LSeenNonce) × (List LRoute) × (List kQ) × Int
instance decNode:DecidableEq LNode:=(@instDecidableEqProd _ _ (inferInstanceAs (DecidableEq (List LData))) (@instDecidableEqProd _ _ (inferInstanceAs (DecidableEq LContentStore)) (@instDecidableEqProd _ _ (inferInstanceAs (DecidableEq (List kP))) (@instDecidableEqProd _ _ (inferInstanceAs (DecidableEq (List LSeenNonce))) (@instDecidableEqProd _ _ (inferInstanceAs (DecidableEq (List LRoute))) (@instDecidableEqProd _ _ (inferInstanceAs (DecidableEq (List kQ))) (inferInstanceAs (DecidableEq Int))))))))
def RNode:Rep LNode:=.pair (.slice 113 RData) (.pair kJ (.pair (.slice 77 kH) (.pair (.slice 157 kK) (.pair (.slice 159 RRoute) (.pair (.slice 166 kI) .int)))))
theorem RNode_raw {w:World} {cs:List Value} {x:LNode} (h:RNode.raw w cs x):∃ v0 v2 v3 v4 v5 v6,cs=[v0,.int .i64 x.2.1.1,v2,v3,v4,v5,v6,.int .i64 x.2.2.2.2.2.2]∧(Rep.slice 113 RData).raw w [v0] x.1∧kJ.raw w [.int .i64 x.2.1.1,v2] x.2.1∧(-9223372036854775808≤x.2.1.1∧x.2.1.1≤9223372036854775807)∧(Rep.slice 169 kL).raw w [v2] x.2.1.2∧(Rep.slice 77 kH).raw w [v3] x.2.2.1∧(Rep.slice 157 kK).raw w [v4] x.2.2.2.1∧(Rep.slice 159 RRoute).raw w [v5] x.2.2.2.2.1∧(Rep.slice 166 kI).raw w [v6] x.2.2.2.2.2.1∧(-9223372036854775808≤x.2.2.2.2.2.2∧x.2.2.2.2.2.2≤9223372036854775807):=by
 obtain ⟨_,_,rfl,a_0,b_0⟩:=Rep.pair_raw h
 obtain ⟨_,rfl,r_0⟩:=Rep.slice_raw a_0
 obtain ⟨_,_,rfl,a_1,b_1⟩:=Rep.pair_raw b_0
 have q_1:=RContentStore_raw a_1
 obtain ⟨_,rfl,s_1_0,s_1_1⟩:=q_1
 obtain ⟨_,_,rfl,a_2,b_2⟩:=Rep.pair_raw b_1
 obtain ⟨_,rfl,r_2⟩:=Rep.slice_raw a_2
 obtain ⟨_,_,rfl,a_3,b_3⟩:=Rep.pair_raw b_2
 obtain ⟨_,rfl,r_3⟩:=Rep.slice_raw a_3
 obtain ⟨_,_,rfl,a_4,b_4⟩:=Rep.pair_raw b_3
 obtain ⟨_,rfl,r_4⟩:=Rep.slice_raw a_4
 obtain ⟨_,_,rfl,a_5,b_5⟩:=Rep.pair_raw b_4
 obtain ⟨_,rfl,r_5⟩:=Rep.slice_raw a_5
 obtain ⟨rfl,r_6⟩:=Rep.int_raw b_5
 exact ⟨_,_,_,_,_,_,rfl,r_0,a_1,s_1_0,s_1_1,r_2,r_3,r_4,r_5,r_6⟩
theorem RNode_sub_0:Rep.Sub RNode (Rep.slice 113 RData) (fun x=>x.1) (fun x y=>(y,x.2.1,x.2.2.1,x.2.2.2.1,x.2.2.2.2.1,x.2.2.2.2.2.1,x.2.2.2.2.2.2)) 0:=Rep.Sub.left (Rep.Sub.refl (Rep.slice 113 RData)) (by decide)
theorem RNode_sub_1:Rep.Sub RNode kJ (fun x=>x.2.1) (fun x y=>(x.1,y,x.2.2.1,x.2.2.2.1,x.2.2.2.2.1,x.2.2.2.2.2.1,x.2.2.2.2.2.2)) 1:=Rep.Sub.right (Rep.Sub.left (Rep.Sub.refl kJ) (by decide)) rfl
theorem RNode_sub_2:Rep.Sub RNode (Rep.slice 77 kH) (fun x=>x.2.2.1) (fun x y=>(x.1,x.2.1,y,x.2.2.2.1,x.2.2.2.2.1,x.2.2.2.2.2.1,x.2.2.2.2.2.2)) 3:=Rep.Sub.right (Rep.Sub.right (Rep.Sub.left (Rep.Sub.refl (Rep.slice 77 kH)) (by decide)) rfl) rfl
theorem RNode_sub_3:Rep.Sub RNode (Rep.slice 157 kK) (fun x=>x.2.2.2.1) (fun x y=>(x.1,x.2.1,x.2.2.1,y,x.2.2.2.2.1,x.2.2.2.2.2.1,x.2.2.2.2.2.2)) 4:=Rep.Sub.right (Rep.Sub.right (Rep.Sub.right (Rep.Sub.left (Rep.Sub.refl (Rep.slice 157 kK)) (by decide)) rfl) rfl) rfl
theorem RNode_sub_4:Rep.Sub RNode (Rep.slice 159 RRoute) (fun x=>x.2.2.2.2.1) (fun x y=>(x.1,x.2.1,x.2.2.1,x.2.2.2.1,y,x.2.2.2.2.2.1,x.2.2.2.2.2.2)) 5:=Rep.Sub.right (Rep.Sub.right (Rep.Sub.right (Rep.Sub.right (Rep.Sub.left (Rep.Sub.refl (Rep.slice 159 RRoute)) (by decide)) rfl) rfl) rfl) rfl
theorem RNode_sub_5:Rep.Sub RNode (Rep.slice 166 kI) (fun x=>x.2.2.2.2.2.1) (fun x y=>(x.1,x.2.1,x.2.2.1,x.2.2.2.1,x.2.2.2.2.1,y,x.2.2.2.2.2.2)) 6:=Rep.Sub.right (Rep.Sub.right (Rep.Sub.right (Rep.Sub.right (Rep.Sub.right (Rep.Sub.left (Rep.Sub.refl (Rep.slice 166 kI)) (by decide)) rfl) rfl) rfl) rfl) rfl
end Go.Proofs.YtomdenfcfbkfbaaGreat

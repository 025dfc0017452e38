/-
  The program's types as plain data, and how their cells are taken apart. Printed by gentypes.py.
-/
import Derived.Test.YtonmjkmaadgceaaGreatOwn2
set_option linter.unusedVariables false
set_option linter.unusedSimpArgs false
set_option linter.unnecessarySimpa false
namespace Go.Proofs.YtonmjkmaadgceaaGreat
open Go.RowKit
abbrev kQ:=(List ByteArray)
instance decName:DecidableEq kQ:=inferInstanceAs (DecidableEq ((List ByteArray)))
def kM:kE kQ:=(.slice 9 .str)
theorem kU {w:World} {cs:List Value} {x:kQ} (h:kM.raw w cs x):∃ v0,cs=[v0]∧(kE.slice 9 kE.str).raw w [v0] x:=by
 obtain ⟨_,rfl,al⟩:=kE.zy h
 exact ⟨_,rfl,al⟩
abbrev kT:=kQ × Int × Int
instance decMeasurement:DecidableEq kT:=inferInstanceAs (DecidableEq (kQ × Int × Int))
def kL:kE kT:=.pair kM (.pair .int .int)
theorem yU {w:World} {cs:List Value} {x:kT} (h:kL.raw w cs x):∃ v0,cs=[v0,.int .i64 x.2.1,.int .i64 x.2.2]∧kM.raw w [v0] x.1∧(kE.slice 9 kE.str).raw w [v0] x.1∧(-9223372036854775808≤x.2.1∧x.2.1≤9223372036854775807)∧(-9223372036854775808≤x.2.2∧x.2.2≤9223372036854775807):=by
 exact o8
def yJ (x:kT) (v:Int):kT:=(x.1,x.2.1,v)
theorem kEl {x:kT} (v:Int) (hv:-9223372036854775808≤v∧v≤9223372036854775807) {w:World} {cs:List Value} {S:Nat→Prop} (h:kL.is true w cs x S):kL.is true w (cs.set 2 (.int .i64 v)) (yJ x v) S:=by
 exact o9
abbrev jL:=kQ × Int × Int
instance decRoute:DecidableEq jL:=inferInstanceAs (DecidableEq (kQ × Int × Int))
def jT:kE jL:=.pair kM (.pair .int .int)
theorem kAy {w:World} {cs:List Value} {x:jL} (h:jT.raw w cs x):∃ v0,cs=[v0,.int .i64 x.2.1,.int .i64 x.2.2]∧kM.raw w [v0] x.1∧(kE.slice 9 kE.str).raw w [v0] x.1∧(-9223372036854775808≤x.2.1∧x.2.1≤9223372036854775807)∧(-9223372036854775808≤x.2.2∧x.2.2≤9223372036854775807):=by
 exact o8
def kIs (x:jL) (v:Int):jL:=(x.1,x.2.1,v)
theorem RRoute_set2 {x:jL} (v:Int) (hv:-9223372036854775808≤v∧v≤9223372036854775807) {w:World} {cs:List Value} {S:Nat→Prop} (h:jT.is true w cs x S):jT.is true w (cs.set 2 (.int .i64 v)) (kIs x v) S:=by
 exact o9
abbrev kP:=Int × Int × Int
instance decRequester:DecidableEq kP:=inferInstanceAs (DecidableEq (Int × Int × Int))
def jH:kE kP:=.pair .int (.pair .int .int)
theorem zP {w:World} {cs:List Value} {x:kP} (h:jH.raw w cs x):cs=[.int .i64 x.1,.int .i64 x.2.1,.int .i64 x.2.2]∧(-9223372036854775808≤x.1∧x.1≤9223372036854775807)∧(-9223372036854775808≤x.2.1∧x.2.1≤9223372036854775807)∧(-9223372036854775808≤x.2.2∧x.2.2≤9223372036854775807):=by
 obtain ⟨_,_,rfl,ac,a4⟩:=kE.jm h
 obtain ⟨rfl,al⟩:=kE.yz ac
 obtain ⟨_,_,rfl,ay,dg⟩:=kE.jm a4
 obtain ⟨rfl,ai⟩:=kE.yz ay
 obtain ⟨rfl,a1⟩:=kE.yz dg
 exact ⟨rfl,al,ai,a1⟩
abbrev kI:=kQ × (List kP) × Int
instance decPendingInterest:DecidableEq kI:=inferInstanceAs (DecidableEq (kQ × (List kP) × Int))
def kJ:kE kI:=.pair kM (.pair (.slice 73 jH) .int)
theorem kGd:kJ.n=3:=rfl
theorem jo {w:World} {cs:List Value} {x:kI} (h:kJ.raw w cs x):∃ v0 v1,cs=[v0,v1,.int .i64 x.2.2]∧kM.raw w [v0] x.1∧(kE.slice 9 kE.str).raw w [v0] x.1∧(kE.slice 73 jH).raw w [v1] x.2.1∧(-9223372036854775808≤x.2.2∧x.2.2≤9223372036854775807):=by
 obtain ⟨_,_,rfl,ac,a4⟩:=kE.jm h
 have ar:=kU ac
 obtain ⟨_,rfl,D⟩:=ar
 obtain ⟨_,_,rfl,ay,dg⟩:=kE.jm a4
 obtain ⟨_,rfl,ai⟩:=kE.zy ay
 obtain ⟨rfl,a1⟩:=kE.yz dg
 exact ⟨_,_,rfl,ac,D,ai,a1⟩
theorem kJb:kE.Sub kJ (kE.slice 73 jH) (fun x=>x.2.1) (fun x y=>(x.1,y,x.2.2)) 1:=kE.Sub.right (kE.Sub.left (kE.Sub.refl (kE.slice 73 jH)) bB8) rfl
def kAu (x:kI) (v:Int):kI:=(x.1,x.2.1,v)
theorem kJs {x:kI} (v:Int) (hv:-9223372036854775808≤v∧v≤9223372036854775807) {w:World} {cs:List Value} {S:Nat→Prop} (h:kJ.is true w cs x S):kJ.is true w (cs.set 2 (.int .i64 v)) (kAu x v) S:=by
 exact o9
abbrev jI:=kQ × Int
instance decSeenNonce:DecidableEq jI:=inferInstanceAs (DecidableEq (kQ × Int))
def jF:kE jI:=.pair kM .int
theorem kKn {w:World} {cs:List Value} {x:jI} (h:jF.raw w cs x):∃ v0,cs=[v0,.int .i64 x.2]∧kM.raw w [v0] x.1∧(kE.slice 9 kE.str).raw w [v0] x.1∧(-9223372036854775808≤x.2∧x.2≤9223372036854775807):=by
 exact oC
abbrev yt:=kQ × Int × Int × Int
instance decInterest:DecidableEq yt:=inferInstanceAs (DecidableEq (kQ × Int × Int × Int))
def zg:kE yt:=.pair kM (.pair .int (.pair .int .int))
theorem kCz {w:World} {cs:List Value} {x:yt} (h:zg.raw w cs x):∃ v0,cs=[v0,.int .i64 x.2.1,.int .i64 x.2.2.1,.int .i64 x.2.2.2]∧kM.raw w [v0] x.1∧(kE.slice 9 kE.str).raw w [v0] x.1∧(-9223372036854775808≤x.2.1∧x.2.1≤9223372036854775807)∧(-9223372036854775808≤x.2.2.1∧x.2.2.1≤9223372036854775807)∧(-9223372036854775808≤x.2.2.2∧x.2.2.2≤9223372036854775807):=by
 obtain ⟨_,_,rfl,ac,a4⟩:=kE.jm h
 have ar:=kU ac
 obtain ⟨_,rfl,D⟩:=ar
 obtain ⟨_,_,rfl,ay,dg⟩:=kE.jm a4
 obtain ⟨rfl,ai⟩:=kE.yz ay
 obtain ⟨_,_,rfl,a3,ew⟩:=kE.jm dg
 obtain ⟨rfl,a1⟩:=kE.yz a3
 obtain ⟨rfl,a9⟩:=kE.yz ew
 exact ⟨_,rfl,ac,D,ai,a1,a9⟩
abbrev jG:=kQ × (List UInt8) × kQ × Int × Int
instance decData:DecidableEq jG:=(@instDecidableEqProd _ _ (inferInstanceAs (DecidableEq kQ)) (@instDecidableEqProd _ _ (inferInstanceAs (DecidableEq (List UInt8))) (@instDecidableEqProd _ _ (inferInstanceAs (DecidableEq kQ)) (@instDecidableEqProd _ _ (inferInstanceAs (DecidableEq Int)) (inferInstanceAs (DecidableEq Int))))))
def jA:kE jG:=.pair kM (.pair (.slice 5 .byte) (.pair kM (.pair .int .int)))
theorem jN {w:World} {cs:List Value} {x:jG} (h:jA.raw w cs x):∃ v0 v1 v2,cs=[v0,v1,v2,.int .i64 x.2.2.2.1,.int .i64 x.2.2.2.2]∧kM.raw w [v0] x.1∧(kE.slice 9 kE.str).raw w [v0] x.1∧(kE.slice 5 kE.byte).raw w [v1] x.2.1∧kM.raw w [v2] x.2.2.1∧(kE.slice 9 kE.str).raw w [v2] x.2.2.1∧(-9223372036854775808≤x.2.2.2.1∧x.2.2.2.1≤9223372036854775807)∧(-9223372036854775808≤x.2.2.2.2∧x.2.2.2.2≤9223372036854775807):=by
 obtain ⟨_,_,rfl,ac,a4⟩:=kE.jm h
 have ar:=kU ac
 obtain ⟨_,rfl,D⟩:=ar
 obtain ⟨_,_,rfl,ay,dg⟩:=kE.jm a4
 obtain ⟨_,rfl,ai⟩:=kE.zy ay
 obtain ⟨_,_,rfl,a3,ew⟩:=kE.jm dg
 have ap:=kU a3
 obtain ⟨_,rfl,E⟩:=ap
 obtain ⟨_,_,rfl,a5,fj⟩:=kE.jm ew
 obtain ⟨rfl,a9⟩:=kE.yz a5
 obtain ⟨rfl,an⟩:=kE.yz fj
 exact ⟨_,_,_,rfl,ac,D,ai,a3,E,a9,an⟩
def setData_3 (x:jG) (v:Int):jG:=(x.1,x.2.1,x.2.2.1,v,x.2.2.2.2)
theorem RData_set3 {x:jG} (v:Int) (hv:-9223372036854775808≤v∧v≤9223372036854775807) {w:World} {cs:List Value} {S:Nat→Prop} (h:jA.is true w cs x S):jA.is true w (cs.set 3 (.int .i64 v)) (setData_3 x v) S:=by
 obtain ⟨c0,d0,A0,B0,rfl,p0,q0,L,J,I⟩:=h
 obtain ⟨c1,W,A1,B1,rfl,p1,q1,hA1,F,hd1⟩:=q0
 obtain ⟨c2,d2,A2,B2,rfl,p2,q2,hA2,G,al⟩:=q1
 obtain ⟨c3,d3,A3,B3,rfl,p3,q3,Y,O,V⟩:=q2
 obtain ⟨rfl,_⟩:=p3
 have l0:=kE.len _ p0
 have l1:=kE.len _ p1
 have l2:=kE.len _ p2
 change _=1 at l0;change _=1 at l1;change _=1 at l2
 have e:((c0++(c1++(c2++([.int .i64 x.2.2.2.1]++d3)))):List Value).set 3 (.int .i64 v)=(c0++(c1++(c2++([.int .i64 v]++d3)))):=by
  obtain ⟨D,rfl⟩:∃ D,c0=[D]:=pG
  obtain ⟨E,rfl⟩:∃ E,c1=[E]:=pJ
  obtain ⟨H,rfl⟩:∃ H,c2=[H]:=pK
  rfl
 rw [e]
 exact ⟨_,_,A0,B0,rfl,p0,⟨_,_,A1,B1,rfl,p1,⟨_,_,A2,B2,rfl,p2,⟨_,_,A3,B3,rfl,⟨rfl,hv⟩,q3,Y,O,V⟩,hA2,G,al⟩,hA1,F,hd1⟩,L,J,I⟩
def setData_4 (x:jG) (v:Int):jG:=(x.1,x.2.1,x.2.2.1,x.2.2.2.1,v)
theorem RData_set4 {x:jG} (v:Int) (hv:-9223372036854775808≤v∧v≤9223372036854775807) {w:World} {cs:List Value} {S:Nat→Prop} (h:jA.is true w cs x S):jA.is true w (cs.set 4 (.int .i64 v)) (setData_4 x v) S:=by
 obtain ⟨c0,d0,A0,B0,rfl,p0,q0,L,J,I⟩:=h
 obtain ⟨c1,W,A1,B1,rfl,p1,q1,hA1,F,hd1⟩:=q0
 obtain ⟨c2,d2,A2,B2,rfl,p2,q2,hA2,G,al⟩:=q1
 obtain ⟨c3,d3,A3,B3,rfl,p3,q3,Y,O,V⟩:=q2
 obtain ⟨rfl,_⟩:=q3
 have l0:=kE.len _ p0
 have l1:=kE.len _ p1
 have l2:=kE.len _ p2
 have l3:=kE.len _ p3
 change _=1 at l0;change _=1 at l1;change _=1 at l2;change _=1 at l3
 have e:((c0++(c1++(c2++(c3++[.int .i64 x.2.2.2.2])))):List Value).set 4 (.int .i64 v)=(c0++(c1++(c2++(c3++[.int .i64 v])))):=by
  obtain ⟨D,rfl⟩:∃ D,c0=[D]:=pG
  obtain ⟨E,rfl⟩:∃ E,c1=[E]:=pJ
  obtain ⟨H,rfl⟩:∃ H,c2=[H]:=pK
  obtain ⟨U,rfl⟩:∃ U,c3=[U]:=pM
  rfl
 rw [e]
 exact ⟨_,_,A0,B0,rfl,p0,⟨_,_,A1,B1,rfl,p1,⟨_,_,A2,B2,rfl,p2,⟨_,_,A3,B3,rfl,p3,⟨rfl,hv⟩,Y,O,V⟩,hA2,G,al⟩,hA1,F,hd1⟩,L,J,I⟩
abbrev kr:=jG × Int
instance decCacheEntry:DecidableEq kr:=inferInstanceAs (DecidableEq (jG × Int))
def kw:kE kr:=.pair jA .int
theorem jv {w:World} {cs:List Value} {x:kr} (h:kw.raw w cs x):∃ v0 v1 v2,cs=[v0,v1,v2,.int .i64 x.1.2.2.2.1,.int .i64 x.1.2.2.2.2,.int .i64 x.2]∧jA.raw w [v0,v1,v2,.int .i64 x.1.2.2.2.1,.int .i64 x.1.2.2.2.2] x.1∧kM.raw w [v0] x.1.1∧(kE.slice 9 kE.str).raw w [v0] x.1.1∧(kE.slice 5 kE.byte).raw w [v1] x.1.2.1∧kM.raw w [v2] x.1.2.2.1∧(kE.slice 9 kE.str).raw w [v2] x.1.2.2.1∧(-9223372036854775808≤x.1.2.2.2.1∧x.1.2.2.2.1≤9223372036854775807)∧(-9223372036854775808≤x.1.2.2.2.2∧x.1.2.2.2.2≤9223372036854775807)∧(-9223372036854775808≤x.2∧x.2≤9223372036854775807):=by
 obtain ⟨_,_,rfl,ac,a4⟩:=kE.jm h
 have ar:=jN ac
 obtain ⟨_,_,_,rfl,D,J,H,G,I,F,E⟩:=ar
 obtain ⟨rfl,ai⟩:=kE.yz a4
 exact ⟨_,_,_,rfl,ac,D,J,H,G,I,F,E,ai⟩
def kBm (x:kr) (v:Int):kr:=(x.1,v)
theorem kPr {x:kr} (v:Int) (hv:-9223372036854775808≤v∧v≤9223372036854775807) {w:World} {cs:List Value} {S:Nat→Prop} (h:kw.is true w cs x S):kw.is true w (cs.set 5 (.int .i64 v)) (kBm x v) S:=by
 obtain ⟨c0,d0,A0,B0,rfl,p0,q0,L,J,I⟩:=h
 obtain ⟨rfl,_⟩:=q0
 have l0:=kE.len _ p0
 change _=5 at l0
 have e:((c0++[.int .i64 x.2]):List Value).set 5 (.int .i64 v)=(c0++[.int .i64 v]):=by
  obtain ⟨D,G,E,F,H,rfl⟩:∃ D G E F H,c0=[D,G,E,F,H]:=by match c0,l0 with | [D,G,E,F,H],_=>exact ⟨_,_,_,_,_,rfl⟩
  rfl
 rw [e]
 exact ⟨_,_,A0,B0,rfl,p0,⟨rfl,hv⟩,L,J,I⟩
abbrev kg:=Int × (List kr)
instance decContentStore:DecidableEq kg:=inferInstanceAs (DecidableEq (Int × (List kr)))
def kN:kE kg:=.pair .int (.slice 98 kw)
theorem jQ {w:World} {cs:List Value} {x:kg} (h:kN.raw w cs x):∃ v1,cs=[.int .i64 x.1,v1]∧(-9223372036854775808≤x.1∧x.1≤9223372036854775807)∧(kE.slice 98 kw).raw w [v1] x.2:=by
 obtain ⟨_,_,rfl,ac,a4⟩:=kE.jm h
 obtain ⟨rfl,al⟩:=kE.yz ac
 obtain ⟨_,rfl,ai⟩:=kE.zy a4
 exact ⟨_,rfl,al,ai⟩
def kNf (x:kg) (v:Int):kg:=(v,x.2)
theorem kMv {x:kg} (v:Int) (hv:-9223372036854775808≤v∧v≤9223372036854775807) {w:World} {cs:List Value} {S:Nat→Prop} (h:kN.is true w cs x S):kN.is true w (cs.set 0 (.int .i64 v)) (kNf x v) S:=by
 obtain ⟨c0,d0,A0,B0,rfl,p0,q0,L,J,I⟩:=h
 obtain ⟨rfl,_⟩:=p0
 have e:(([.int .i64 x.1]++d0):List Value).set 0 (.int .i64 v)=([.int .i64 v]++d0):=by
  rfl
 rw [e]
 exact ⟨_,_,A0,B0,rfl,⟨rfl,hv⟩,q0,L,J,I⟩
abbrev yI:=(List jG) × kg × (List kI) × (List jI) × (List jL) × (List kT) × Int
instance decNode:DecidableEq yI:=(@instDecidableEqProd _ _ (inferInstanceAs (DecidableEq (List jG))) (@instDecidableEqProd _ _ (inferInstanceAs (DecidableEq kg)) (@instDecidableEqProd _ _ (inferInstanceAs (DecidableEq (List kI))) (@instDecidableEqProd _ _ (inferInstanceAs (DecidableEq (List jI))) (@instDecidableEqProd _ _ (inferInstanceAs (DecidableEq (List jL))) (@instDecidableEqProd _ _ (inferInstanceAs (DecidableEq (List kT))) (inferInstanceAs (DecidableEq Int))))))))
def yA:kE yI:=.pair (.slice 43 jA) (.pair kN (.pair (.slice 71 kJ) (.pair (.slice 123 jF) (.pair (.slice 102 jT) (.pair (.slice 105 kL) .int)))))
theorem zf {w:World} {cs:List Value} {x:yI} (h:yA.raw w cs x):∃ v0 v2 v3 v4 v5 v6,cs=[v0,.int .i64 x.2.1.1,v2,v3,v4,v5,v6,.int .i64 x.2.2.2.2.2.2]∧(kE.slice 43 jA).raw w [v0] x.1∧kN.raw w [.int .i64 x.2.1.1,v2] x.2.1∧(-9223372036854775808≤x.2.1.1∧x.2.1.1≤9223372036854775807)∧(kE.slice 98 kw).raw w [v2] x.2.1.2∧(kE.slice 71 kJ).raw w [v3] x.2.2.1∧(kE.slice 123 jF).raw w [v4] x.2.2.2.1∧(kE.slice 102 jT).raw w [v5] x.2.2.2.2.1∧(kE.slice 105 kL).raw w [v6] x.2.2.2.2.2.1∧(-9223372036854775808≤x.2.2.2.2.2.2∧x.2.2.2.2.2.2≤9223372036854775807):=by
 obtain ⟨_,_,rfl,ac,a4⟩:=kE.jm h
 obtain ⟨_,rfl,al⟩:=kE.zy ac
 obtain ⟨_,_,rfl,ay,dg⟩:=kE.jm a4
 have ax:=jQ ay
 obtain ⟨_,rfl,E,D⟩:=ax
 obtain ⟨_,_,rfl,a3,ew⟩:=kE.jm dg
 obtain ⟨_,rfl,a1⟩:=kE.zy a3
 obtain ⟨_,_,rfl,a5,fj⟩:=kE.jm ew
 obtain ⟨_,rfl,a9⟩:=kE.zy a5
 obtain ⟨_,_,rfl,ba,ar⟩:=kE.jm fj
 obtain ⟨_,rfl,an⟩:=kE.zy ba
 obtain ⟨_,_,rfl,bg,ap⟩:=kE.jm ar
 obtain ⟨_,rfl,G⟩:=kE.zy bg
 obtain ⟨rfl,F⟩:=kE.yz ap
 exact ⟨_,_,_,_,_,_,rfl,al,ay,E,D,a1,a9,an,G,F⟩
def kUx (x:yI) (v:Int):yI:=(x.1,x.2.1,x.2.2.1,x.2.2.2.1,x.2.2.2.2.1,x.2.2.2.2.2.1,v)
theorem RNode_set7 {x:yI} (v:Int) (hv:-9223372036854775808≤v∧v≤9223372036854775807) {w:World} {cs:List Value} {S:Nat→Prop} (h:yA.is true w cs x S):yA.is true w (cs.set 7 (.int .i64 v)) (kUx x v) S:=by
 obtain ⟨c0,d0,A0,B0,rfl,p0,q0,L,J,I⟩:=h
 obtain ⟨c1,W,A1,B1,rfl,p1,q1,hA1,F,hd1⟩:=q0
 obtain ⟨c2,d2,A2,B2,rfl,p2,q2,hA2,G,al⟩:=q1
 obtain ⟨c3,d3,A3,B3,rfl,p3,q3,Y,O,V⟩:=q2
 obtain ⟨c4,d4,A4,B4,rfl,N,q4,af,X,ae⟩:=q3
 obtain ⟨c5,d5,A5,B5,rfl,R,q5,ah,ac,ag⟩:=q4
 obtain ⟨rfl,_⟩:=q5
 have l0:=kE.len _ p0
 have l1:=kE.len _ p1
 have l2:=kE.len _ p2
 have l3:=kE.len _ p3
 have l4:=kE.len _ N
 have l5:=kE.len _ R
 change _=1 at l0;change _=2 at l1;change _=1 at l2;change _=1 at l3;change _=1 at l4;change _=1 at l5
 have e:((c0++(c1++(c2++(c3++(c4++(c5++[.int .i64 x.2.2.2.2.2.2])))))):List Value).set 7 (.int .i64 v)=(c0++(c1++(c2++(c3++(c4++(c5++[.int .i64 v])))))):=by
  obtain ⟨D,rfl⟩:∃ D,c0=[D]:=pG
  obtain ⟨E,ab,rfl⟩:∃ E ab,c1=[E,ab]:=by match c1,l1 with | [E,ab],_=>exact ⟨_,_,rfl⟩
  obtain ⟨H,rfl⟩:∃ H,c2=[H]:=pK
  obtain ⟨U,rfl⟩:∃ U,c3=[U]:=pM
  obtain ⟨aa,rfl⟩:∃ aa,c4=[aa]:=by match c4,l4 with | [aa],_=>exact ⟨_,rfl⟩
  obtain ⟨Z,rfl⟩:∃ Z,c5=[Z]:=by match c5,l5 with | [Z],_=>exact ⟨_,rfl⟩
  rfl
 rw [e]
 exact ⟨_,_,A0,B0,rfl,p0,⟨_,_,A1,B1,rfl,p1,⟨_,_,A2,B2,rfl,p2,⟨_,_,A3,B3,rfl,p3,⟨_,_,A4,B4,rfl,N,⟨_,_,A5,B5,rfl,R,⟨rfl,hv⟩,ah,ac,ag⟩,af,X,ae⟩,Y,O,V⟩,hA2,G,al⟩,hA1,F,hd1⟩,L,J,I⟩
abbrev yO:=Int × Bool × yt × jG
instance decOutgoing:DecidableEq yO:=inferInstanceAs (DecidableEq (Int × Bool × yt × jG))
def ze:kE yO:=.pair .int (.pair .bool (.pair zg jA))
theorem kMb {w:World} {cs:List Value} {x:yO} (h:ze.raw w cs x):∃ v2 v6 G v8,cs=[.int .i64 x.1,.bool x.2.1,v2,.int .i64 x.2.2.1.2.1,.int .i64 x.2.2.1.2.2.1,.int .i64 x.2.2.1.2.2.2,v6,G,v8,.int .i64 x.2.2.2.2.2.2.1,.int .i64 x.2.2.2.2.2.2.2]∧(-9223372036854775808≤x.1∧x.1≤9223372036854775807)∧zg.raw w [v2,.int .i64 x.2.2.1.2.1,.int .i64 x.2.2.1.2.2.1,.int .i64 x.2.2.1.2.2.2] x.2.2.1∧kM.raw w [v2] x.2.2.1.1∧(kE.slice 9 kE.str).raw w [v2] x.2.2.1.1∧(-9223372036854775808≤x.2.2.1.2.1∧x.2.2.1.2.1≤9223372036854775807)∧(-9223372036854775808≤x.2.2.1.2.2.1∧x.2.2.1.2.2.1≤9223372036854775807)∧(-9223372036854775808≤x.2.2.1.2.2.2∧x.2.2.1.2.2.2≤9223372036854775807)∧jA.raw w [v6,G,v8,.int .i64 x.2.2.2.2.2.2.1,.int .i64 x.2.2.2.2.2.2.2] x.2.2.2∧kM.raw w [v6] x.2.2.2.1∧(kE.slice 9 kE.str).raw w [v6] x.2.2.2.1∧(kE.slice 5 kE.byte).raw w [G] x.2.2.2.2.1∧kM.raw w [v8] x.2.2.2.2.2.1∧(kE.slice 9 kE.str).raw w [v8] x.2.2.2.2.2.1∧(-9223372036854775808≤x.2.2.2.2.2.2.1∧x.2.2.2.2.2.2.1≤9223372036854775807)∧(-9223372036854775808≤x.2.2.2.2.2.2.2∧x.2.2.2.2.2.2.2≤9223372036854775807):=by
 obtain ⟨_,_,rfl,ac,a4⟩:=kE.jm h
 obtain ⟨rfl,al⟩:=kE.yz ac
 obtain ⟨_,_,rfl,ay,dg⟩:=kE.jm a4
 obtain rfl:=kE.bool_raw ay
 obtain ⟨_,_,rfl,a3,ew⟩:=kE.jm dg
 have ap:=kCz a3
 obtain ⟨_,rfl,E,L,J,D,U⟩:=ap
 have bc:=jN ew
 obtain ⟨_,_,_,rfl,O,N,R,V,I,H,F⟩:=bc
 exact ⟨_,_,_,_,rfl,al,a3,E,L,J,D,U,ew,O,N,R,V,I,H,F⟩
abbrev kXh:=yI × (List yO)
instance decAction:DecidableEq kXh:=inferInstanceAs (DecidableEq (yI × (List yO)))
def kXg:kE kXh:=.pair yA (.slice 81 ze)
abbrev kIi:=kQ × Int
instance decKey:DecidableEq kIi:=inferInstanceAs (DecidableEq (kQ × Int))
def kGe:kE kIi:=.pair kM .int
theorem kOj {w:World} {cs:List Value} {x:kIi} (h:kGe.raw w cs x):∃ v0,cs=[v0,.int .i64 x.2]∧kM.raw w [v0] x.1∧(kE.slice 9 kE.str).raw w [v0] x.1∧(-9223372036854775808≤x.2∧x.2≤9223372036854775807):=by
 exact oC
abbrev zQ:=(List ByteArray)
instance decPattern:DecidableEq zQ:=inferInstanceAs (DecidableEq ((List ByteArray)))
def yw:kE zQ:=(.slice 9 .str)
theorem kCr {w:World} {cs:List Value} {x:zQ} (h:yw.raw w cs x):∃ v0,cs=[v0]∧(kE.slice 9 kE.str).raw w [v0] x:=by
 obtain ⟨_,rfl,al⟩:=kE.zy h
 exact ⟨_,rfl,al⟩
abbrev kCt:=zQ × zQ
instance decRule:DecidableEq kCt:=inferInstanceAs (DecidableEq (zQ × zQ))
def kEo:kE kCt:=.pair yw yw
theorem kIh {w:World} {cs:List Value} {x:kCt} (h:kEo.raw w cs x):∃ v0 v1,cs=[v0,v1]∧yw.raw w [v0] x.1∧(kE.slice 9 kE.str).raw w [v0] x.1∧yw.raw w [v1] x.2∧(kE.slice 9 kE.str).raw w [v1] x.2:=by
 obtain ⟨_,_,rfl,ac,a4⟩:=kE.jm h
 have ar:=kCr ac
 obtain ⟨_,rfl,D⟩:=ar
 have ax:=kCr a4
 obtain ⟨_,rfl,E⟩:=ax
 exact ⟨_,_,rfl,ac,D,a4,E⟩
abbrev jS:=(List kIi) × (List kCt) × (List kQ) × (List jG)
instance decTrustPolicy:DecidableEq jS:=inferInstanceAs (DecidableEq ((List kIi) × (List kCt) × (List kQ) × (List jG)))
def je:kE jS:=.pair (.slice 181 kGe) (.pair (.slice 184 kEo) (.pair (.slice 41 kM) (.slice 43 jA)))
theorem zb {w:World} {cs:List Value} {x:jS} (h:je.raw w cs x):∃ v0 v1 v2 v3,cs=[v0,v1,v2,v3]∧(kE.slice 181 kGe).raw w [v0] x.1∧(kE.slice 184 kEo).raw w [v1] x.2.1∧(kE.slice 41 kM).raw w [v2] x.2.2.1∧(kE.slice 43 jA).raw w [v3] x.2.2.2:=by
 obtain ⟨_,_,rfl,ac,a4⟩:=kE.jm h
 obtain ⟨_,rfl,al⟩:=kE.zy ac
 obtain ⟨_,_,rfl,ay,dg⟩:=kE.jm a4
 obtain ⟨_,rfl,ai⟩:=kE.zy ay
 obtain ⟨_,_,rfl,a3,ew⟩:=kE.jm dg
 obtain ⟨_,rfl,a1⟩:=kE.zy a3
 obtain ⟨_,rfl,a9⟩:=kE.zy ew
 exact ⟨_,_,_,_,rfl,al,ai,a1,a9⟩
abbrev zR:=ByteArray × ByteArray
instance decBinding:DecidableEq zR:=inferInstanceAs (DecidableEq (ByteArray × ByteArray))
def kAk:kE zR:=.pair .str .str
theorem kOk {w:World} {cs:List Value} {x:zR} (h:kAk.raw w cs x):cs=[.string x.1,.string x.2]∧x.1.size≤maxLen∧x.2.size≤maxLen:=by
 obtain ⟨_,_,rfl,ac,a4⟩:=kE.jm h
 obtain ⟨rfl,al⟩:=kE.yY ac
 obtain ⟨rfl,ai⟩:=kE.yY a4
 exact ⟨rfl,al,ai⟩
end Go.Proofs.YtonmjkmaadgceaaGreat

/-
  The library's functions on slices, at the program's types. Printed by genlib.py.
-/
import Derived.Test.YtjhfdpopkkmigabGreatOwn2
import Derived.Test.YtjhfdpopkkmigabGreatRows
set_option linter.unusedVariables false
set_option linter.defProp false
set_option linter.unusedSimpArgs false
set_option linter.unnecessarySimpa false
set_option maxHeartbeats 4000000
open _root_ renaming DecidableEq->Aa,List->Ac,instDecidableEqProd->Ad,ByteArray->Ah,Array->Am
open Go renaming Value->Ab,World->Ae,Calls->Ag,FuncId->Ai,MemPlace->Al,TypeId->Aq
open List renaming getElem?_eq_none->Aj,take_append_drop->Ak
open Go.DataW renaming trod->Ap
namespace Go.Proofs.YtjhfdpopkkmigabGreat
open Go.RowKit _root_.Go.Proofs.Tryz
abbrev kg:=(Ac Ah)
instance decName:Aa kg:=inferInstanceAs (Aa ((Ac Ah)))
def kN:kD kg:=(.slice 9 .str)
def kX {w:Ae} {cs:Ac Ab} {x:kg} (h:kN.raw w cs x):∃ v0,cs=[v0]/\(kD.slice 9 kD.str).raw w [v0] x:=by
 obtain ⟨_,rfl,az⟩:=kD.zt h;exact ⟨_,rfl,az⟩
abbrev kZ:=kg × Int × Int
instance decMeasurement:Aa kZ:=inferInstanceAs (Aa (kg × Int × Int))
def kR:kD kZ:=.pair kN (.pair .int .int)
def yV {w:Ae} {cs:Ac Ab} {x:kZ} (h:kR.raw w cs x):∃ v0,cs=[v0,.int .i64 x.2.1,.int .i64 x.2.2]/\kN.raw w [v0] x.1/\(kD.slice 9 kD.str).raw w [v0] x.1/\Qi x.2.1/\Qi x.2.2:=by
 exact uM
def zu (x:kZ) (v:Int):kZ:=(x.1,x.2.1,v)
def kIi {x:kZ} (v:Int) (hv:Qi v) {w:Ae} {cs:Ac Ab} {S:Nat->Prop} (h:kR.is true w cs x S):kR.is true w (cs.set 2 (.int .i64 v)) (zu x v) S:=by
 exact uN
abbrev jA:=kg × Int × Int
instance decRoute:Aa jA:=inferInstanceAs (Aa (kg × Int × Int))
def kY:kD jA:=.pair kN (.pair .int .int)
def jS {w:Ae} {cs:Ac Ab} {x:jA} (h:kY.raw w cs x):∃ v0,cs=[v0,.int .i64 x.2.1,.int .i64 x.2.2]/\kN.raw w [v0] x.1/\(kD.slice 9 kD.str).raw w [v0] x.1/\Qi x.2.1/\Qi x.2.2:=by
 exact uM
def kKg (x:jA) (v:Int):jA:=(x.1,x.2.1,v)
def RRoute_set2 {x:jA} (v:Int) (hv:Qi v) {w:Ae} {cs:Ac Ab} {S:Nat->Prop} (h:kY.is true w cs x S):kY.is true w (cs.set 2 (.int .i64 v)) (kKg x v) S:=by
 exact uN
abbrev kU:=Int × Int × Int
instance decRequester:Aa kU:=inferInstanceAs (Aa (Int × Int × Int))
def kM:kD kU:=.pair .int (.pair .int .int)
def yU {w:Ae} {cs:Ac Ab} {x:kU} (h:kM.raw w cs x):cs=[.int .i64 x.1,.int .i64 x.2.1,.int .i64 x.2.2]/\Qi x.1/\Qi x.2.1/\Qi x.2.2:=by
 obtain ⟨_,_,rfl,Z,a4⟩:=kD.yC h;obtain ⟨rfl,az⟩:=kD.je Z;obtain ⟨_,_,rfl,ba,ef⟩:=kD.yC a4;obtain ⟨rfl,ai⟩:=kD.je ba;obtain ⟨rfl,ay⟩:=kD.je ef;exact ⟨rfl,az,ai,ay⟩
abbrev kF:=kg × (Ac kU) × Int
instance decPendingInterest:Aa kF:=inferInstanceAs (Aa (kg × (Ac kU) × Int))
def kH:kD kF:=.pair kN (.pair (.slice 91 kM) .int)
def kHu:kH.n=3:=rfl
def jR {w:Ae} {cs:Ac Ab} {x:kF} (h:kH.raw w cs x):∃ v0 v1,cs=[v0,v1,.int .i64 x.2.2]/\kN.raw w [v0] x.1/\(kD.slice 9 kD.str).raw w [v0] x.1/\(kD.slice 91 kM).raw w [v1] x.2.1/\Qi x.2.2:=by
 obtain ⟨_,_,rfl,Z,a4⟩:=kD.yC h;have ag:=kX Z;obtain ⟨_,rfl,o⟩:=ag;obtain ⟨_,_,rfl,ba,ef⟩:=kD.yC a4;obtain ⟨_,rfl,ai⟩:=kD.zt ba;obtain ⟨rfl,ay⟩:=kD.je ef;exact ⟨_,_,rfl,Z,o,ai,ay⟩
def kAe (x:kF) (v:Int):kF:=(x.1,x.2.1,v)
def kFk {x:kF} (v:Int) (hv:Qi v) {w:Ae} {cs:Ac Ab} {S:Nat->Prop} (h:kH.is true w cs x S):kH.is true w (cs.set 2 (.int .i64 v)) (kAe x v) S:=by
 exact uN
abbrev jL:=kg × Int
instance decSeenNonce:Aa jL:=inferInstanceAs (Aa (kg × Int))
def jD:kD jL:=.pair kN .int
def kBq {w:Ae} {cs:Ac Ab} {x:jL} (h:jD.raw w cs x):∃ v0,cs=[v0,.int .i64 x.2]/\kN.raw w [v0] x.1/\(kD.slice 9 kD.str).raw w [v0] x.1/\Qi x.2:=by
 exact uO
abbrev jF:=kg × Int × Int × Int
instance decInterest:Aa jF:=inferInstanceAs (Aa (kg × Int × Int × Int))
def jO:kD jF:=.pair kN (.pair .int (.pair .int .int))
def jY {w:Ae} {cs:Ac Ab} {x:jF} (h:jO.raw w cs x):∃ v0,cs=[v0,.int .i64 x.2.1,.int .i64 x.2.2.1,.int .i64 x.2.2.2]/\kN.raw w [v0] x.1/\(kD.slice 9 kD.str).raw w [v0] x.1/\Qi x.2.1/\Qi x.2.2.1/\Qi x.2.2.2:=by
 obtain ⟨_,_,rfl,Z,a4⟩:=kD.yC h;have ag:=kX Z;obtain ⟨_,rfl,o⟩:=ag;obtain ⟨_,_,rfl,ba,ef⟩:=kD.yC a4;obtain ⟨rfl,ai⟩:=kD.je ba;obtain ⟨_,_,rfl,bq,fk⟩:=kD.yC ef;obtain ⟨rfl,ay⟩:=kD.je bq;obtain ⟨rfl,bl⟩:=kD.je fk;exact ⟨_,rfl,Z,o,ai,ay,bl⟩
def kOs (x:jF) (v:Int):jF:=(x.1,x.2.1,v,x.2.2.2)
def kXx {x:jF} (v:Int) (hv:Qi v) {w:Ae} {cs:Ac Ab} {S:Nat->Prop} (h:jO.is true w cs x S):jO.is true w (cs.set 2 (.int .i64 v)) (kOs x v) S:=by
 obtain ⟨c0,d0,A0,U,rfl,p0,q0,aw,N,J⟩:=h;obtain ⟨c1,d1,A1,B1,rfl,p1,q1,hA1,H,hd1⟩:=q0;obtain ⟨c2,d2,A2,X,rfl,p2,q2,hA2,E,Z⟩:=q1;obtain ⟨rfl,_⟩:=p2;have l0:=kD.len _ p0;have G:=kD.len _ p1;change _=1 at l0;change _=1 at G;have e:((c0++(c1++([.int .i64 x.2.2.1]++d2))):Ac Ab).set 2 (.int .i64 v)=(c0++(c1++([.int .i64 v]++d2))):=by
  obtain ⟨o,rfl⟩:∃ o,c0=[o]:=qK;obtain ⟨D,rfl⟩:∃ D,c1=[D]:=qP;rfl
 rw [e];exact ⟨_,_,A0,U,rfl,p0,⟨_,_,A1,B1,rfl,p1,⟨_,_,A2,X,rfl,⟨rfl,hv⟩,q2,hA2,E,Z⟩,hA1,H,hd1⟩,aw,N,J⟩
abbrev jT:=kg × (Ac UInt8) × kg × Int × Int
instance decData:Aa jT:=(@Ad _ _ (inferInstanceAs (Aa kg)) (@Ad _ _ (inferInstanceAs (Aa (Ac UInt8))) (@Ad _ _ (inferInstanceAs (Aa kg)) (@Ad _ _ (inferInstanceAs (Aa Int)) (inferInstanceAs (Aa Int))))))
def jI:kD jT:=.pair kN (.pair (.slice 5 .byte) (.pair kN (.pair .int .int)))
def jX {w:Ae} {cs:Ac Ab} {x:jT} (h:jI.raw w cs x):∃ v0 v1 v2,cs=[v0,v1,v2,.int .i64 x.2.2.2.1,.int .i64 x.2.2.2.2]/\kN.raw w [v0] x.1/\(kD.slice 9 kD.str).raw w [v0] x.1/\(kD.slice 5 kD.byte).raw w [v1] x.2.1/\kN.raw w [v2] x.2.2.1/\(kD.slice 9 kD.str).raw w [v2] x.2.2.1/\Qi x.2.2.2.1/\Qi x.2.2.2.2:=by
 obtain ⟨_,_,rfl,Z,a4⟩:=kD.yC h;have ag:=kX Z;obtain ⟨_,rfl,o⟩:=ag;obtain ⟨_,_,rfl,ba,ef⟩:=kD.yC a4;obtain ⟨_,rfl,ai⟩:=kD.zt ba;obtain ⟨_,_,rfl,bq,fk⟩:=kD.yC ef;have am:=kX bq;obtain ⟨_,rfl,D⟩:=am;obtain ⟨_,_,rfl,bm,gp⟩:=kD.yC fk;obtain ⟨rfl,bl⟩:=kD.je bm;obtain ⟨rfl,bw⟩:=kD.je gp;exact ⟨_,_,_,rfl,Z,o,ai,bq,D,bl,bw⟩
def setData_3 (x:jT) (v:Int):jT:=(x.1,x.2.1,x.2.2.1,v,x.2.2.2.2)
def RData_set3 {x:jT} (v:Int) (hv:Qi v) {w:Ae} {cs:Ac Ab} {S:Nat->Prop} (h:jI.is true w cs x S):jI.is true w (cs.set 3 (.int .i64 v)) (setData_3 x v) S:=by
 obtain ⟨c0,d0,A0,U,rfl,p0,q0,aw,N,J⟩:=h;obtain ⟨c1,d1,A1,B1,rfl,p1,q1,hA1,H,hd1⟩:=q0;obtain ⟨c2,d2,A2,X,rfl,p2,q2,hA2,E,Z⟩:=q1;obtain ⟨c3,d3,A3,B3,rfl,F,q3,Y,I,ab⟩:=q2;obtain ⟨rfl,_⟩:=F;have l0:=kD.len _ p0;have G:=kD.len _ p1;have O:=kD.len _ p2;change _=1 at l0;change _=1 at G;change _=1 at O;have e:((c0++(c1++(c2++([.int .i64 x.2.2.2.1]++d3)))):Ac Ab).set 3 (.int .i64 v)=(c0++(c1++(c2++([.int .i64 v]++d3)))):=by
  obtain ⟨o,rfl⟩:∃ o,c0=[o]:=qK;obtain ⟨D,rfl⟩:∃ D,c1=[D]:=qP;obtain ⟨L,rfl⟩:∃ L,c2=[L]:=qU;rfl
 rw [e];exact ⟨_,_,A0,U,rfl,p0,⟨_,_,A1,B1,rfl,p1,⟨_,_,A2,X,rfl,p2,⟨_,_,A3,B3,rfl,⟨rfl,hv⟩,q3,Y,I,ab⟩,hA2,E,Z⟩,hA1,H,hd1⟩,aw,N,J⟩
def setData_4 (x:jT) (v:Int):jT:=(x.1,x.2.1,x.2.2.1,x.2.2.2.1,v)
def RData_set4 {x:jT} (v:Int) (hv:Qi v) {w:Ae} {cs:Ac Ab} {S:Nat->Prop} (h:jI.is true w cs x S):jI.is true w (cs.set 4 (.int .i64 v)) (setData_4 x v) S:=by
 obtain ⟨c0,d0,A0,U,rfl,p0,q0,aw,N,J⟩:=h;obtain ⟨c1,d1,A1,B1,rfl,p1,q1,hA1,H,hd1⟩:=q0;obtain ⟨c2,d2,A2,X,rfl,p2,q2,hA2,E,Z⟩:=q1;obtain ⟨c3,d3,A3,B3,rfl,F,q3,Y,I,ab⟩:=q2;obtain ⟨rfl,_⟩:=q3;have l0:=kD.len _ p0;have G:=kD.len _ p1;have O:=kD.len _ p2;have l3:=kD.len _ F;change _=1 at l0;change _=1 at G;change _=1 at O;change _=1 at l3;have e:((c0++(c1++(c2++(c3++[.int .i64 x.2.2.2.2])))):Ac Ab).set 4 (.int .i64 v)=(c0++(c1++(c2++(c3++[.int .i64 v])))):=by
  obtain ⟨o,rfl⟩:∃ o,c0=[o]:=qK;obtain ⟨D,rfl⟩:∃ D,c1=[D]:=qP;obtain ⟨L,rfl⟩:∃ L,c2=[L]:=qU;obtain ⟨W,rfl⟩:∃ W,c3=[W]:=qM;rfl
 rw [e];exact ⟨_,_,A0,U,rfl,p0,⟨_,_,A1,B1,rfl,p1,⟨_,_,A2,X,rfl,p2,⟨_,_,A3,B3,rfl,F,⟨rfl,hv⟩,Y,I,ab⟩,hA2,E,Z⟩,hA1,H,hd1⟩,aw,N,J⟩
abbrev jC:=jT × Int
instance decCacheEntry:Aa jC:=inferInstanceAs (Aa (jT × Int))
def jH:kD jC:=.pair jI .int
def yO {w:Ae} {cs:Ac Ab} {x:jC} (h:jH.raw w cs x):∃ v0 v1 v2,cs=[v0,v1,v2,.int .i64 x.1.2.2.2.1,.int .i64 x.1.2.2.2.2,.int .i64 x.2]/\jI.raw w [v0,v1,v2,Qn x.1.2.2.2.1,Qn x.1.2.2.2.2] x.1/\kN.raw w [v0] x.1.1/\(kD.slice 9 kD.str).raw w [v0] x.1.1/\(kD.slice 5 kD.byte).raw w [v1] x.1.2.1/\kN.raw w [v2] x.1.2.2.1/\(kD.slice 9 kD.str).raw w [v2] x.1.2.2.1/\Qi x.1.2.2.2.1/\Qi x.1.2.2.2.2/\Qi x.2:=by
 obtain ⟨_,_,rfl,Z,a4⟩:=kD.yC h;have ag:=jX Z;obtain ⟨_,_,_,rfl,o,I,G,F,H,E,D⟩:=ag;obtain ⟨rfl,ai⟩:=kD.je a4;exact ⟨_,_,_,rfl,Z,o,I,G,F,H,E,D,ai⟩
def kAk (x:jC) (v:Int):jC:=(x.1,v)
def kJv {x:jC} (v:Int) (hv:Qi v) {w:Ae} {cs:Ac Ab} {S:Nat->Prop} (h:jH.is true w cs x S):jH.is true w (cs.set 5 (.int .i64 v)) (kAk x v) S:=by
 obtain ⟨c0,d0,A0,U,rfl,p0,q0,aw,N,J⟩:=h;obtain ⟨rfl,_⟩:=q0;have l0:=kD.len _ p0;change _=5 at l0;have e:((c0++[.int .i64 x.2]):Ac Ab).set 5 (.int .i64 v)=(c0++[.int .i64 v]):=by
  obtain ⟨o,F,D,E,G,rfl⟩:∃ o F D E G,c0=[o,F,D,E,G]:=by match c0,l0 with | [o,F,D,E,G],_=>exact ⟨_,_,_,_,_,rfl⟩
  rfl
 rw [e];exact ⟨_,_,A0,U,rfl,p0,⟨rfl,hv⟩,aw,N,J⟩
abbrev kz:=Int × (Ac jC)
instance decContentStore:Aa kz:=inferInstanceAs (Aa (Int × (Ac jC)))
def kT:kD kz:=.pair .int (.slice 127 jH)
def jN {w:Ae} {cs:Ac Ab} {x:kz} (h:kT.raw w cs x):∃ v1,cs=[.int .i64 x.1,v1]/\Qi x.1/\(kD.slice 127 jH).raw w [v1] x.2:=by
 obtain ⟨_,_,rfl,Z,a4⟩:=kD.yC h;obtain ⟨rfl,az⟩:=kD.je Z;obtain ⟨_,rfl,ai⟩:=kD.zt a4;exact ⟨_,rfl,az,ai⟩
def kQf (x:kz) (v:Int):kz:=(v,x.2)
def kPq {x:kz} (v:Int) (hv:Qi v) {w:Ae} {cs:Ac Ab} {S:Nat->Prop} (h:kT.is true w cs x S):kT.is true w (cs.set 0 (.int .i64 v)) (kQf x v) S:=by
 obtain ⟨c0,d0,A0,U,rfl,p0,q0,aw,N,J⟩:=h;obtain ⟨rfl,_⟩:=p0;have e:(([.int .i64 x.1]++d0):Ac Ab).set 0 (.int .i64 v)=([.int .i64 v]++d0):=by
  rfl
 rw [e];exact ⟨_,_,A0,U,rfl,⟨rfl,hv⟩,q0,aw,N,J⟩
abbrev jd:=(Ac jT) × kz × (Ac kF) × (Ac jL) × (Ac jA) × (Ac kZ) × Int
instance decNode:Aa jd:=(@Ad _ _ (inferInstanceAs (Aa (Ac jT))) (@Ad _ _ (inferInstanceAs (Aa kz)) (@Ad _ _ (inferInstanceAs (Aa (Ac kF))) (@Ad _ _ (inferInstanceAs (Aa (Ac jL))) (@Ad _ _ (inferInstanceAs (Aa (Ac jA))) (@Ad _ _ (inferInstanceAs (Aa (Ac kZ))) (inferInstanceAs (Aa Int))))))))
def yB:kD jd:=.pair (.slice 70 jI) (.pair kT (.pair (.slice 93 kH) (.pair (.slice 121 jD) (.pair (.slice 144 kY) (.pair (.slice 166 kR) .int)))))
def yY {w:Ae} {cs:Ac Ab} {x:jd} (h:yB.raw w cs x):∃ v0 v2 v3 v4 v5 v6,cs=[v0,.int .i64 x.2.1.1,v2,v3,v4,v5,v6,.int .i64 x.2.2.2.2.2.2]/\(kD.slice 70 jI).raw w [v0] x.1/\kT.raw w [Qn x.2.1.1,v2] x.2.1/\Qi x.2.1.1/\(kD.slice 127 jH).raw w [v2] x.2.1.2/\(kD.slice 93 kH).raw w [v3] x.2.2.1/\(kD.slice 121 jD).raw w [v4] x.2.2.2.1/\(kD.slice 144 kY).raw w [v5] x.2.2.2.2.1/\(kD.slice 166 kR).raw w [v6] x.2.2.2.2.2.1/\Qi x.2.2.2.2.2.2:=by
 obtain ⟨_,_,rfl,Z,a4⟩:=kD.yC h;obtain ⟨_,rfl,az⟩:=kD.zt Z;obtain ⟨_,_,rfl,ba,ef⟩:=kD.yC a4;have ak:=jN ba;obtain ⟨_,rfl,D,o⟩:=ak;obtain ⟨_,_,rfl,bq,fk⟩:=kD.yC ef;obtain ⟨_,rfl,ay⟩:=kD.zt bq;obtain ⟨_,_,rfl,bm,gp⟩:=kD.yC fk;obtain ⟨_,rfl,bl⟩:=kD.zt bm;obtain ⟨_,_,rfl,bj,g5⟩:=kD.yC gp;obtain ⟨_,rfl,bw⟩:=kD.zt bj;obtain ⟨_,_,rfl,bu,aq⟩:=kD.yC g5;obtain ⟨_,rfl,F⟩:=kD.zt bu;obtain ⟨rfl,W⟩:=kD.je aq;exact ⟨_,_,_,_,_,_,rfl,az,ba,D,o,ay,bl,bw,F,W⟩
def kZg (x:jd) (v:Int):jd:=(x.1,x.2.1,x.2.2.1,x.2.2.2.1,x.2.2.2.2.1,x.2.2.2.2.2.1,v)
def RNode_set7 {x:jd} (v:Int) (hv:Qi v) {w:Ae} {cs:Ac Ab} {S:Nat->Prop} (h:yB.is true w cs x S):yB.is true w (cs.set 7 (.int .i64 v)) (kZg x v) S:=by
 obtain ⟨c0,d0,A0,U,rfl,p0,q0,aw,N,J⟩:=h;obtain ⟨c1,d1,A1,B1,rfl,p1,q1,hA1,H,hd1⟩:=q0;obtain ⟨c2,d2,A2,X,rfl,p2,q2,hA2,E,Z⟩:=q1;obtain ⟨c3,d3,A3,B3,rfl,F,q3,Y,I,ab⟩:=q2;obtain ⟨c4,d4,A4,B4,rfl,R,q4,ah,aa,ag⟩:=q3;obtain ⟨c5,d5,A5,B5,rfl,V,q5,aj,af,ai⟩:=q4;obtain ⟨rfl,_⟩:=q5;have l0:=kD.len _ p0;have G:=kD.len _ p1;have O:=kD.len _ p2;have l3:=kD.len _ F;have l4:=kD.len _ R;have l5:=kD.len _ V;change _=1 at l0;change _=2 at G;change _=1 at O;change _=1 at l3;change _=1 at l4;change _=1 at l5;have e:((c0++(c1++(c2++(c3++(c4++(c5++[.int .i64 x.2.2.2.2.2.2])))))):Ac Ab).set 7 (.int .i64 v)=(c0++(c1++(c2++(c3++(c4++(c5++[.int .i64 v])))))):=by
  obtain ⟨o,rfl⟩:∃ o,c0=[o]:=qK;obtain ⟨D,ae,rfl⟩:∃ D ae,c1=[D,ae]:=by match c1,G with | [D,ae],_=>exact ⟨_,_,rfl⟩
  obtain ⟨L,rfl⟩:∃ L,c2=[L]:=qU;obtain ⟨W,rfl⟩:∃ W,c3=[W]:=qM;obtain ⟨ad,rfl⟩:∃ ad,c4=[ad]:=by match c4,l4 with | [ad],_=>exact ⟨_,rfl⟩
  obtain ⟨ac,rfl⟩:∃ ac,c5=[ac]:=by match c5,l5 with | [ac],_=>exact ⟨_,rfl⟩
  rfl
 rw [e];exact ⟨_,_,A0,U,rfl,p0,⟨_,_,A1,B1,rfl,p1,⟨_,_,A2,X,rfl,p2,⟨_,_,A3,B3,rfl,F,⟨_,_,A4,B4,rfl,R,⟨_,_,A5,B5,rfl,V,⟨rfl,hv⟩,aj,af,ai⟩,ah,aa,ag⟩,Y,I,ab⟩,hA2,E,Z⟩,hA1,H,hd1⟩,aw,N,J⟩
abbrev yR:=Int × Bool × jF × jT
instance decOutgoing:Aa yR:=inferInstanceAs (Aa (Int × Bool × jF × jT))
def zg:kD yR:=.pair .int (.pair .bool (.pair jO jI))
def kJa {w:Ae} {cs:Ac Ab} {x:yR} (h:zg.raw w cs x):∃ v2 v6 I v8,cs=[.int .i64 x.1,.bool x.2.1,v2,.int .i64 x.2.2.1.2.1,.int .i64 x.2.2.1.2.2.1,.int .i64 x.2.2.1.2.2.2,v6,I,v8,.int .i64 x.2.2.2.2.2.2.1,.int .i64 x.2.2.2.2.2.2.2]/\Qi x.1/\jO.raw w [v2,Qn x.2.2.1.2.1,Qn x.2.2.1.2.2.1,Qn x.2.2.1.2.2.2] x.2.2.1/\kN.raw w [v2] x.2.2.1.1/\(kD.slice 9 kD.str).raw w [v2] x.2.2.1.1/\Qi x.2.2.1.2.1/\Qi x.2.2.1.2.2.1/\Qi x.2.2.1.2.2.2/\jI.raw w [v6,I,v8,Qn x.2.2.2.2.2.2.1,Qn x.2.2.2.2.2.2.2] x.2.2.2/\kN.raw w [v6] x.2.2.2.1/\(kD.slice 9 kD.str).raw w [v6] x.2.2.2.1/\(kD.slice 5 kD.byte).raw w [I] x.2.2.2.2.1/\kN.raw w [v8] x.2.2.2.2.2.1/\(kD.slice 9 kD.str).raw w [v8] x.2.2.2.2.2.1/\Qi x.2.2.2.2.2.2.1/\Qi x.2.2.2.2.2.2.2:=by
 obtain ⟨_,_,rfl,Z,a4⟩:=kD.yC h;obtain ⟨rfl,az⟩:=kD.je Z;obtain ⟨_,_,rfl,ba,ef⟩:=kD.yC a4;obtain rfl:=kD.bool_raw ba;obtain ⟨_,_,rfl,bq,fk⟩:=kD.yC ef;have am:=jY bq;obtain ⟨_,rfl,D,J,H,o,R⟩:=am;have ar:=jX fk;obtain ⟨_,_,_,rfl,N,L,O,U,G,F,E⟩:=ar;exact ⟨_,_,_,_,rfl,az,bq,D,J,H,o,R,fk,N,L,O,U,G,F,E⟩
abbrev kFy:=jd × (Ac yR)
instance decAction:Aa kFy:=inferInstanceAs (Aa (jd × (Ac yR)))
def kFx:kD kFy:=.pair yB (.slice 76 zg)
def kIj {w:Ae} {cs:Ac Ab} {x:kFy} (h:kFx.raw w cs x):∃ v0 v2 v3 v4 v5 v6 v8,cs=[v0,.int .i64 x.1.2.1.1,v2,v3,v4,v5,v6,.int .i64 x.1.2.2.2.2.2.2,v8]/\yB.raw w [v0,Qn x.1.2.1.1,v2,v3,v4,v5,v6,Qn x.1.2.2.2.2.2.2] x.1/\(kD.slice 70 jI).raw w [v0] x.1.1/\kT.raw w [Qn x.1.2.1.1,v2] x.1.2.1/\Qi x.1.2.1.1/\(kD.slice 127 jH).raw w [v2] x.1.2.1.2/\(kD.slice 93 kH).raw w [v3] x.1.2.2.1/\(kD.slice 121 jD).raw w [v4] x.1.2.2.2.1/\(kD.slice 144 kY).raw w [v5] x.1.2.2.2.2.1/\(kD.slice 166 kR).raw w [v6] x.1.2.2.2.2.2.1/\Qi x.1.2.2.2.2.2.2/\(kD.slice 76 zg).raw w [v8] x.2:=by
 obtain ⟨_,_,rfl,Z,a4⟩:=kD.yC h;have ag:=yY Z;obtain ⟨_,_,_,_,_,_,rfl,o,I,G,F,H,E,D,L,J⟩:=ag;obtain ⟨_,rfl,ai⟩:=kD.zt a4;exact ⟨_,_,_,_,_,_,_,rfl,Z,o,I,G,F,H,E,D,L,J,ai⟩
abbrev kPr:=kg × Int
instance decKey:Aa kPr:=inferInstanceAs (Aa (kg × Int))
def kKy:kD kPr:=.pair kN .int
def kXw {w:Ae} {cs:Ac Ab} {x:kPr} (h:kKy.raw w cs x):∃ v0,cs=[v0,.int .i64 x.2]/\kN.raw w [v0] x.1/\(kD.slice 9 kD.str).raw w [v0] x.1/\Qi x.2:=by
 exact uO
abbrev kBr:=(Ac Ah)
instance decPattern:Aa kBr:=inferInstanceAs (Aa ((Ac Ah)))
def zf:kD kBr:=(.slice 9 .str)
def kGv {w:Ae} {cs:Ac Ab} {x:kBr} (h:zf.raw w cs x):∃ v0,cs=[v0]/\(kD.slice 9 kD.str).raw w [v0] x:=by
 obtain ⟨_,rfl,az⟩:=kD.zt h;exact ⟨_,rfl,az⟩
abbrev kLj:=kBr × kBr
instance decRule:Aa kLj:=inferInstanceAs (Aa (kBr × kBr))
def kMx:kD kLj:=.pair zf zf
def jAo {w:Ae} {cs:Ac Ab} {x:kLj} (h:kMx.raw w cs x):∃ v0 v1,cs=[v0,v1]/\zf.raw w [v0] x.1/\(kD.slice 9 kD.str).raw w [v0] x.1/\zf.raw w [v1] x.2/\(kD.slice 9 kD.str).raw w [v1] x.2:=by
 obtain ⟨_,_,rfl,Z,a4⟩:=kD.yC h;have ag:=kGv Z;obtain ⟨_,rfl,o⟩:=ag;have ak:=kGv a4;obtain ⟨_,rfl,D⟩:=ak;exact ⟨_,_,rfl,Z,o,a4,D⟩
abbrev kCd:=(Ac kPr) × (Ac kLj) × (Ac kg) × (Ac jT)
instance decTrustPolicy:Aa kCd:=inferInstanceAs (Aa ((Ac kPr) × (Ac kLj) × (Ac kg) × (Ac jT)))
def kBh:kD kCd:=.pair (.slice 190 kKy) (.pair (.slice 193 kMx) (.pair (.slice 36 kN) (.slice 70 jI)))
def kSw {w:Ae} {cs:Ac Ab} {x:kCd} (h:kBh.raw w cs x):∃ v0 v1 v2 v3,cs=[v0,v1,v2,v3]/\(kD.slice 190 kKy).raw w [v0] x.1/\(kD.slice 193 kMx).raw w [v1] x.2.1/\(kD.slice 36 kN).raw w [v2] x.2.2.1/\(kD.slice 70 jI).raw w [v3] x.2.2.2:=by
 obtain ⟨_,_,rfl,Z,a4⟩:=kD.yC h;obtain ⟨_,rfl,az⟩:=kD.zt Z;obtain ⟨_,_,rfl,ba,ef⟩:=kD.yC a4;obtain ⟨_,rfl,ai⟩:=kD.zt ba;obtain ⟨_,_,rfl,bq,fk⟩:=kD.yC ef;obtain ⟨_,rfl,ay⟩:=kD.zt bq;obtain ⟨_,rfl,bl⟩:=kD.zt fk;exact ⟨_,_,_,_,rfl,az,ai,ay,bl⟩
end Go.Proofs.YtjhfdpopkkmigabGreat
namespace Go.Proofs.YtjhfdpopkkmigabGreat
open Go.ChangeShapes Go.WideShapes Go.ChangeAt Go.RowKit Go.Deep _root_.Go.Proofs.Tryz
section
variable {H:Type} {enc:Aq × Ab->H} {P:Program} {w:Ae}
def bridge_byte {T:Aq} (hT:P.underlying T=some (.int .u8)) {fuel:Nat} {cs:Ac Ab} {y:DataW H × Ac Al} (h:Ap enc P w 0 (λ_=>true) true fuel T cs=some y):∃ x,kD.byte.raw w cs x:=by
 obtain ⟨n,rfl,_,hw⟩:=DataW.trod_int hT h;have hn:0<=n/\n<=255:=by simpa [Lit.wf,IntKind.min,IntKind.max,IntKind.signed,IntKind.bits] using hw
 refine ⟨UInt8.ofNat n.toNat,?_⟩;show _=_;have:(UInt8.ofNat n.toNat).toNat=n.toNat:=by rw [UInt8.toNat_ofNat'];omega
 rw [this,Int.toNat_of_nonneg hn.1]
def jCa {α:Type} {r:kD α} {e T E:Aq} (hT:P.underlying T=some (.slice E)) (hn:P.cellsOf E=r.n) (J:0 < r.n)
    (ih:∀ {fuel:Nat} {cs:Ac Ab} {y:DataW H × Ac Al},Ap enc P w 0 (λ_=>true) true fuel E cs=some y->∃ x,r.raw w cs x)
    {fuel:Nat} {cs:Ac Ab} {y:DataW H × Ac Al} (h:Ap enc P w 0 (λ_=>true) true fuel T cs=some y):∃ xs,(kD.slice e r).raw w cs xs:=by
 rcases open_slice hT h with ⟨rfl,_⟩|⟨a,len,cap,m,n,D,Pl,rfl,_,hl,hm,hmm,_,hx⟩
 · exact ⟨[],none,0,0,rfl,rfl,Nat.le_refl _,Nat.zero_le _,.inl ⟨rfl,by simp⟩⟩
 simp only [if_true] at hmm
 subst hmm
 rw [hn] at hx
 rcases Nat.eq_zero_or_pos len with rfl | hlen
 · exact ⟨[],some a,0,m,rfl,rfl,hl,hm,.inl ⟨rfl,by simp⟩⟩
 have Y:∀ i,i < m->∀ j,j < r.n->∃ v,w.cell? ((a.add (i * r.n)).add j)=some v:=by
  intro i hi j hj;obtain ⟨cs',h1,h2⟩:=hx i hi;obtain ⟨_,I,hc⟩:=World.cells?_some h1;rw [hc j hj,List.getElem?_eq_getElem bH3];exact ⟨_,rfl⟩
 obtain ⟨v0,F⟩:=Y 0 bH3 0 J
 have cl:(a.add (0 * r.n)).add 0=a:=by simp [Addr.add]
 rw [cl] at F
 have ap:∃ cur e' fr,w.heap[a.block]?=some (.cells cur e' fr)/\a.spot=none:=by
  unfold World.cell? at F;split at F
  · rename_i c e' fr hb
    refine ⟨c,e',fr,hb,?_⟩;cases hs:a.spot with
    | none=>rfl
    | some s=>simp [hs] at F
  cases F
 obtain ⟨cur,e',fr,hb,hs⟩:=ap
 obtain ⟨b,off,N⟩:=a
 simp only at hs hb
 subst hs
 have G:∀ i j,(((⟨b,off,none⟩:Addr).add (i * r.n)).add j)=⟨b,off + i * r.n + j,none⟩:=by
  intro i j;unfold Addr.add;split <;> split <;> simp_all
 have o:∀ i,i < m->∀ j,j < r.n->∃ v,cur[off + i * r.n + j]?=some v:=by
  intro i hi j hj;obtain ⟨v,hv⟩:=Y i hi j hj;rw [G,cell_of_row w b _ cur e' fr hb] at hv;exact ⟨v,hv⟩
 have hsize:off + m * r.n<=cur.size:=by
  obtain ⟨v,hv⟩:=o (m - 1) bH3 (r.n - 1) bH3;have:=(Array.getElem?_eq_some_iff.1 hv).1;have e1:m * r.n=(m - 1) * r.n + r.n:=by
   conv=>lhs;rw [show m=(m - 1) + 1 by omega]
   rw [Nat.add_mul,Nat.one_mul]
  omega
 have hcut:∀ i,i < m->∃ x,r.raw w ((cur.toList.drop (off + i * r.n)).take r.n) x:=by
  intro i hi;obtain ⟨cs',h1,h2⟩:=hx i hi;obtain ⟨_,I,hc⟩:=World.cells?_some h1;have:cs'=(cur.toList.drop (off + i * r.n)).take r.n:=by
   apply List.ext_getElem?;intro j;by_cases hj:j < r.n
   · rw [<- hc j hj,G,cell_of_row w b _ cur e' fr hb];simp [hj,List.getElem?_drop]
   rw [Aj bH3,Aj bG7]
  rw [<- this];exact ih h2
 have hrow:∀ k,k<=len->∃ xs:Ac α,xs.length=k/\kD.row r false w ((cur.toList.drop off).take (k * r.n)) xs (λ_=>True):=by
  intro k;induction k with
  | zero=>intro _;exact ⟨[],rfl,by simp [kD.row]⟩
  | succ k L =>
    intro hk;obtain ⟨xs,bg,hr⟩:=L bH3;obtain ⟨x,ag⟩:=hcut k bH3;refine ⟨xs++[x],by simp [bg],?_⟩;have:(cur.toList.drop off).take ((k + 1) * r.n)=(cur.toList.drop off).take (k * r.n)++(cur.toList.drop (off + k * r.n)).take r.n:=by
      rw [Nat.add_mul,Nat.one_mul,List.take_add,List.drop_drop]
    rw [this];exact kD.zx hr (kD.kCx ag) (λ_ h=>h) (λ_ h=>h) bH4
 obtain ⟨xs,bg,hr⟩:=hrow len nL
 refine ⟨xs,some ⟨b,off,none⟩,len,m,rfl,bg.symm,hl,hm,.inr ⟨b,off,rfl,cur,e',fr,cur.toList.take off,_,(cur.toList.drop off).drop (len * r.n),hb,?_,?_,hsize,by simp,trivial,kD.yL hr (λ_ _=>⟨trivial,by simp⟩)⟩⟩
 · rw [Ak,Ak]
 simp;omega
def kOe (hl:laidOutB P=true) {W W':Ae} (hb:Qb W W'):∀ {o:Ac Aq} {vs:Ac Ab} {ds:Ac (DataW H)} {ps:Ac Al},(∀ t∈o,P.readableRec t=true/\t < P.types.size) ->
    DataW.TrodAll enc P W 0 (λ_=>true) true o vs ds ps->(∀ x∈ps,x.block < W.heap.size)->DataW.TrodAll enc P W' 0 (λb=>decide (b < W.heap.size)) true o vs ds ps
  | [],[],[],ps,_,h,_=>h
  | t :: o,v :: vs,d :: ds,ps,ht,⟨p,q,h1,h2,h3⟩,hlt=>by
    subst h3;exact ⟨p,q,Below.trod hl (ht t bH4).1 (ht t bH4).2 h1 hb vB,kOe hl hb (λu hu=>ht u (by simp [hu])) h2 vB,rfl⟩
end
def law_own:ownKnob prog.godebug=none:=by kernel_rfl
def law_laidOut:laidOutB prog=true:=by kernel_rfl
def LawPost (w:Ae) (e:Ending) (w':Ae):Prop:=e=.returned (.bool true)/\Qb w w'
def law_post {H:Type} {enc:Aq × Ab->H} {fn:Func} {s:ChangeSpec} {W W':Ae} {args:Am Ab} {ds F:Ac (DataW H)} {o:Ac Al} {tb:Aq}
    (hW:DataW.Whole enc prog fn.params.toList s.vars false W args.toList ds F o) (D:s.vars=[]) (E:fn.resultTypes=#[tb]) (ef:prog.underlying tb=some .bool)
    (Y:(s.fn H (ds++F)).results=[.lit (.bool true)]/\(s.fn H (ds++F)).args=ds/\(s.fn H (ds++F)).vars=[])
    (L:∀ t∈fn.params.toList,prog.readableRec t=true/\t < prog.types.size) (hb:Qb W W') :
    s.post enc prog fn false true false false W args (.bool true) W':=by
 have hlt:∀ p∈o,p.block < W.heap.size:=λp hp=>by simpa using hW.lt p hp
 have G:=hW
 obtain ⟨p,q,hA,hV,rfl,_,_⟩:=hW
 rw [D] at hV
 have I:F=[]/\q=[]:=by
  cases F with
  | nil=>exact ⟨rfl,hV⟩
  | cons g F=>exact hV.elim
 obtain ⟨rfl,rfl⟩:=I
 refine ⟨ds,[],_,[],p,[],G,?_,?_,?_,hb.frame _,λh=>by cases h⟩
 · rw [Y.1,E];exact trodAll_cons_mk (shut_bool ef true) trodAll_mk0
 · rw [Y.2.1];exact kOe law_laidOut hb L hA vB
 rw [Y.2.2,D]
 rfl
def jCb {H:Type} {enc:Aq × Ab->H} {w:Ae} {fuel:Nat} {cs:Ac Ab} {y:DataW H × Ac Al} (h:Ap enc prog w 0 (λ_=>true) true fuel 22 cs=some y):∃ x,(kD.slice 5 kD.byte).raw w cs x :=
  jCa underlying22 bG6 bH2 (λh=>bridge_byte underlying5 h) h
end Go.Proofs.YtjhfdpopkkmigabGreat
namespace Go.Proofs.YtjhfdpopkkmigabGreat
open Go.RowKit _root_.Go.Proofs.Tryz
def lawsbig_c {w:Ae} {v:Ab} {N:Ac UInt8} (an:(kD.slice 5 kD.byte).raw w [v] N) :
    Ag prog 4 #[v] w (bQ w (.bool (decide ((N.length:Int) > 1048576)))):=by
 obtain ⟨ca,cc,rfl,_⟩:=kD.sl an
 go_enter func4,ntmps4
 go_wp2
 go_ret
 exact ⟨by simp,bR⟩
def idxOf {α:Type} (p:α->Bool) (l:Ac α):Int:=match l.findIdx? p with | some i=>i | none=>-1
def idxOf_hit {α:Type} {p:α->Bool} {x:Ac α} {k:Nat} (hlt:k < x.length) (hp:p x[k]=true) (hno:∀ j,(h:j < k)->(h2:j < x.length)->p x[j]=false):idxOf p x=k:=by
 unfold idxOf;have:x.findIdx? p=some k:=by
  rw [List.findIdx?_eq_some_iff_getElem];exact ⟨hlt,hp,λj hj=>by simpa using hno j hj bH3⟩
 rw [this]
def idxOf_miss {α:Type} {p:α->Bool} {x:Ac α} {k:Nat} (hlt:¬ k < x.length) (hno:∀ j,(h:j < k)->(h2:j < x.length)->p x[j]=false):idxOf p x=-1:=by
 unfold idxOf;have:x.findIdx? p=none:=by
  rw [List.findIdx?_eq_none_iff];intro y hy;obtain ⟨j,hj,rfl⟩:=List.getElem_of_mem hy;simpa using hno j bH3 hj
 rw [this]
def kAs {α:Type} {p:α->Bool} {x:Ac α} {k:Nat} (hlt:k < x.length) (hp:p x[k]=false) (hno:∀ j,(h:j < k)->(h2:j < x.length)->p x[j]=false):∀ j,(h:j < k + 1)->(h2:j < x.length)->p x[j]=false:=by
 intro j h h2;by_cases q:j=k
 · subst q;exact hp
 exact hno j bH3 h2
def jK (P:Program) (g:Ai):Prop:=∀ vs W,(callFunc g vs).run P W=.ok (.enter g vs) W
def zP {P:Program} {g:Ai} {fn:Func} (hf:P.funcs[g]?=some fn) (hn:(fn.name == "runtime.NumGoroutine")=false) (hb:fn.body.isNone=false):jK P g:=by
 intro vs W;have hp:(program:Sem Program).run P W=.ok P W:=rfl;have o:¬ (fn.name = "runtime.NumGoroutine"):=by simpa using hn
 unfold callFunc;simp only [Sem.run_bind,hp,Result.andThen_ok,hf,hn,hb,Bool.false_eq_true,if_false,Sem.run_pure]
def kUw {w:Ae} {va:Ab} {x:Ac Int} {g:Ai} {cp:Am Ab} (p:Int->Bool) (hg:jK prog g) (ha:(kD.slice 3 kD.int).raw w [va] x)
    (F:∀ wr,Qb w wr->∀ (i:Nat) (h:i < x.length) c,kD.int.raw wr [c] x[i]->Ag prog g (#[c]++cp) wr (λe w'=>e=.returned (.bool (p x[i]))/\Qb wr w')) :
    Ag prog 118 #[va,.func (.func g) #[] cp] w (bQ w (.int .i64 (idxOf p x))):=by
 obtain ⟨aa,ao,rfl,la⟩:=kD.sl ha
 have au:=yD F;clear F
 unfold jK at hg
 go_enter func118,ntmps118
 go_wp2
 go_loopw [8] (λi wr=>∃ k:Nat,k<=x.length/\i=.int .i64 k/\(∀ j,(h:j < k)->(h2:j < x.length)->p x[j]=false)/\Qb w wr) (λi _=>x.length - (intOf i).toNat)
 case atStart=>exact ⟨0,Nat.zero_le _,rfl,λ_ h=>by omega,bR⟩
 obtain ⟨k,hk,rfl,hno,o⟩:=hrel
 have HN:=yD hno;clear hno
 by_cases hlt:k < x.length
 · obtain ⟨ba,G,rfl,c0,hr,A0⟩:=kD.kCu (ha.below o) hlt rfl;have C:=au.out wr o k hlt _ hr;obtain ⟨he,_⟩:=kD.je hr;exact lG
 exact lH
def kPs {w:Ae} {va:Ab} {x:Ac Ah} {g:Ai} {cp:Am Ab} (p:Ah->Bool) (hg:jK prog g) (ha:(kD.slice 9 kD.str).raw w [va] x)
    (F:∀ wr,Qb w wr->∀ (i:Nat) (h:i < x.length) c,kD.str.raw wr [c] x[i]->Ag prog g (#[c]++cp) wr (λe w'=>e=.returned (.bool (p x[i]))/\Qb wr w')) :
    Ag prog 190 #[va,.func (.func g) #[] cp] w (bQ w (.int .i64 (idxOf p x))):=by
 obtain ⟨aa,ao,rfl,la⟩:=kD.sl ha
 have au:=yD F;clear F
 unfold jK at hg
 go_enter func190,ntmps190
 go_wp2
 go_loopw [8] (λi wr=>∃ k:Nat,k<=x.length/\i=.int .i64 k/\(∀ j,(h:j < k)->(h2:j < x.length)->p x[j]=false)/\Qb w wr) (λi _=>x.length - (intOf i).toNat)
 case atStart=>exact ⟨0,Nat.zero_le _,rfl,λ_ h=>by omega,bR⟩
 obtain ⟨k,hk,rfl,hno,o⟩:=hrel
 have HN:=yD hno;clear hno
 by_cases hlt:k < x.length
 · obtain ⟨ba,G,rfl,c0,hr,A0⟩:=kD.kCu (ha.below o) hlt rfl;have C:=au.out wr o k hlt _ hr;obtain ⟨he,_⟩:=kD.zz hr;exact lG
 exact lH
def kLs {w:Ae} {va:Ab} {x:Ac Ah} {g:Ai} {cp:Am Ab} (p:Ah->Bool) (hg:jK prog g) (ha:(kD.slice 9 kD.str).raw w [va] x)
    (F:∀ wr,Qb w wr->∀ (i:Nat) (h:i < x.length) c,kD.str.raw wr [c] x[i]->Ag prog g (#[c]++cp) wr (λe w'=>e=.returned (.bool (p x[i]))/\Qb wr w')) :
    Ag prog 149 #[va,.func (.func g) #[] cp] w (bQ w (.bool (decide (0<=idxOf p x)))):=by
 have au:=yD F;clear F
 go_enter func149,ntmps149
 go_wp2_with fail
 refine (kPs p hg ha au.out).mono ?_
 exact lI
def kJw {w:Ae} {va:Ab} {x:Ac kZ} {g:Ai} {cp:Am Ab} (p:kZ->Bool) (hg:jK prog g) (ha:(kD.slice 166 kR).raw w [va] x)
    (F:∀ wr,Qb w wr->∀ (i:Nat) (h:i < x.length) cs,kR.raw wr cs x[i]->Ag prog g (#[.agg cs.toArray]++cp) wr (λe w'=>e=.returned (.bool (p x[i]))/\Qb wr w')) :
    Ag prog 200 #[va,.func (.func g) #[] cp] w (bQ w (.int .i64 (idxOf p x))):=by
 obtain ⟨aa,ao,rfl,la⟩:=kD.sl ha
 have au:=yD F;clear F
 unfold jK at hg
 go_enter func200,ntmps200
 exact lJ
def kRm {w:Ae} {va:Ab} {x:Ac jA} {g:Ai} {cp:Am Ab} (p:jA->Bool) (hg:jK prog g) (ha:(kD.slice 144 kY).raw w [va] x)
    (F:∀ wr,Qb w wr->∀ (i:Nat) (h:i < x.length) cs,kY.raw wr cs x[i]->Ag prog g (#[.agg cs.toArray]++cp) wr (λe w'=>e=.returned (.bool (p x[i]))/\Qb wr w')) :
    Ag prog 169 #[va,.func (.func g) #[] cp] w (bQ w (.int .i64 (idxOf p x))):=by
 obtain ⟨aa,ao,rfl,la⟩:=kD.sl ha
 have au:=yD F;clear F
 unfold jK at hg
 go_enter func169,ntmps169
 exact lJ
def kCn {w:Ae} {va:Ab} {x:Ac kU} {g:Ai} {cp:Am Ab} (p:kU->Bool) (hg:jK prog g) (ha:(kD.slice 91 kM).raw w [va] x)
    (F:∀ wr,Qb w wr->∀ (i:Nat) (h:i < x.length) cs,kM.raw wr cs x[i]->Ag prog g (#[.agg cs.toArray]++cp) wr (λe w'=>e=.returned (.bool (p x[i]))/\Qb wr w')) :
    Ag prog 87 #[va,.func (.func g) #[] cp] w (bQ w (.int .i64 (idxOf p x))):=by
 obtain ⟨aa,ao,rfl,la⟩:=kD.sl ha
 have au:=yD F;clear F
 unfold jK at hg
 go_enter func87,ntmps87
 exact lJ
def kDu {w:Ae} {va:Ab} {x:Ac kU} {g:Ai} {cp:Am Ab} (p:kU->Bool) (hg:jK prog g) (ha:(kD.slice 91 kM).raw w [va] x)
    (F:∀ wr,Qb w wr->∀ (i:Nat) (h:i < x.length) cs,kM.raw wr cs x[i]->Ag prog g (#[.agg cs.toArray]++cp) wr (λe w'=>e=.returned (.bool (p x[i]))/\Qb wr w')) :
    Ag prog 52 #[va,.func (.func g) #[] cp] w (bQ w (.bool (decide (0<=idxOf p x)))):=by
 have au:=yD F;clear F
 go_enter func52,ntmps52
 go_wp2_with fail
 refine (kCn p hg ha au.out).mono ?_
 exact lI
def kGw {w:Ae} {va:Ab} {x:Ac kF} {g:Ai} {cp:Am Ab} (p:kF->Bool) (hg:jK prog g) (ha:(kD.slice 93 kH).raw w [va] x)
    (F:∀ wr,Qb w wr->∀ (i:Nat) (h:i < x.length) cs,kH.raw wr cs x[i]->Ag prog g (#[.agg cs.toArray]++cp) wr (λe w'=>e=.returned (.bool (p x[i]))/\Qb wr w')) :
    Ag prog 115 #[va,.func (.func g) #[] cp] w (bQ w (.int .i64 (idxOf p x))):=by
 obtain ⟨aa,ao,rfl,la⟩:=kD.sl ha
 have au:=yD F;clear F
 unfold jK at hg
 go_enter func115,ntmps115
 exact lJ
def kLr {w:Ae} {va:Ab} {x:Ac jL} {g:Ai} {cp:Am Ab} (p:jL->Bool) (hg:jK prog g) (ha:(kD.slice 121 jD).raw w [va] x)
    (F:∀ wr,Qb w wr->∀ (i:Nat) (h:i < x.length) cs,jD.raw wr cs x[i]->Ag prog g (#[.agg cs.toArray]++cp) wr (λe w'=>e=.returned (.bool (p x[i]))/\Qb wr w')) :
    Ag prog 153 #[va,.func (.func g) #[] cp] w (bQ w (.int .i64 (idxOf p x))):=by
 obtain ⟨aa,ao,rfl,la⟩:=kD.sl ha
 have au:=yD F;clear F
 unfold jK at hg
 go_enter func153,ntmps153
 go_wp2
 go_loopw [8] (λi wr=>∃ k:Nat,k<=x.length/\i=.int .i64 k/\(∀ j,(h:j < k)->(h2:j < x.length)->p x[j]=false)/\Qb w wr) (λi _=>x.length - (intOf i).toNat)
 case atStart=>exact ⟨0,Nat.zero_le _,rfl,λ_ h=>by omega,bR⟩
 obtain ⟨k,hk,rfl,hno,o⟩:=hrel
 have HN:=yD hno;clear hno
 by_cases hlt:k < x.length
 · obtain ⟨ba,G,rfl,c0,c1,hr,A0,A1⟩:=kD.get2 (ha.below o) hlt rfl;exact lK
 exact lH
def kJb {w:Ae} {va:Ab} {x:Ac jL} {g:Ai} {cp:Am Ab} (p:jL->Bool) (hg:jK prog g) (ha:(kD.slice 121 jD).raw w [va] x)
    (F:∀ wr,Qb w wr->∀ (i:Nat) (h:i < x.length) cs,jD.raw wr cs x[i]->Ag prog g (#[.agg cs.toArray]++cp) wr (λe w'=>e=.returned (.bool (p x[i]))/\Qb wr w')) :
    Ag prog 79 #[va,.func (.func g) #[] cp] w (bQ w (.bool (decide (0<=idxOf p x)))):=by
 have au:=yD F;clear F
 go_enter func79,ntmps79
 go_wp2_with fail
 refine (kLr p hg ha au.out).mono ?_
 exact lI
def kSx {w:Ae} {va:Ab} {x:Ac jT} {g:Ai} {cp:Am Ab} (p:jT->Bool) (hg:jK prog g) (ha:(kD.slice 70 jI).raw w [va] x)
    (F:∀ wr,Qb w wr->∀ (i:Nat) (h:i < x.length) cs,jI.raw wr cs x[i]->Ag prog g (#[.agg cs.toArray]++cp) wr (λe w'=>e=.returned (.bool (p x[i]))/\Qb wr w')) :
    Ag prog 154 #[va,.func (.func g) #[] cp] w (bQ w (.int .i64 (idxOf p x))):=by
 obtain ⟨aa,ao,rfl,la⟩:=kD.sl ha
 have au:=yD F;clear F
 unfold jK at hg
 go_enter func154,ntmps154
 go_wp2
 go_loopw [8] (λi wr=>∃ k:Nat,k<=x.length/\i=.int .i64 k/\(∀ j,(h:j < k)->(h2:j < x.length)->p x[j]=false)/\Qb w wr) (λi _=>x.length - (intOf i).toNat)
 case atStart=>exact ⟨0,Nat.zero_le _,rfl,λ_ h=>by omega,bR⟩
 obtain ⟨k,hk,rfl,hno,o⟩:=hrel
 have HN:=yD hno;clear hno
 by_cases hlt:k < x.length
 · obtain ⟨ba,G,rfl,c0,c1,c2,c3,c4,hr,A0,A1,A2,A3,A4⟩:=kD.get5 (ha.below o) hlt rfl;exact lK
 exact lH
end Go.Proofs.YtjhfdpopkkmigabGreat
